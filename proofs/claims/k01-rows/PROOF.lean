import PyProof.Rows.All
import Wide.All
import OpenK.AllK
import Wide.FinOn
import HandS.ForExc
import HandS.ForMost
import HandS.Nested
import HandS.TryMany
import HandS.Conv
import KE.DataEq
import HandS.TupAny
import HandS.Wide
import HandS.Text
import HandS.Dict
import HandS.ExcOwn
import HandS.Sort
import HandS.TupLen
import HandS.WordsDict
import HandS.RaiseMore
import HandS.RevTup
import HandS.Replace
import HandS.StrMore
import HandS.StrSplit
import HandS.Iter
import HandS.Rev
import HandS.Zip
import KE.GoesMore
import PyProof.EnumMake
import PyProof.Draws
import KE.KDictDisplayH
import HandS.Lambda
import HandS.HeadHook4
import KE.SortData
import KE.KDictSum
import HandS.More
import HandS.GenList
import HandS.AnyAll
import HandS.EndTab
import PySem.Challenge.RW_chimehall_k01_rows
import HandS.Head0
import HandS.Head1
import HandS.Head2
import HandS.HeadEnd
import HandS.HeadWalk
set_option Elab.async false
set_option linter.all false
set_option maxRecDepth 100000
/-! values, heap, results of the small evaluator; how they stand in the abstract heap of the hand layer -/
namespace Bz
open PySem PySem.Spec PyProof.Rows L2

inductive D where
  | non | bl (b : Bool) | int (i : Int) | str (s : Str) | tup (l : List D) | fl (l : List D) | ref (i : Nat)

inductive O where
  | lst (l : List D)
  | dk (l : List (Key × D)) | dkf (l : List (Key × D))
  | dt (l : List (List Key × D)) | dtf (l : List (List Key × D))
  | ins (c : Nat) (fs : List (Nat × D))

/-- a value, or an object just made that nothing else knows -/
inductive T where
  | v (d : D) | tl (l : List D) | tk (l : List (Key × D)) | tt (l : List (List Key × D)) | rg (lo hi : Int)

inductive R (a : Type) where
  | ok (x : a) (h : List O) | ex (c : Nat) (fs : List D) (h : List O) | bad

def R.bind {a b : Type} (r : R a) (k : a → List O → R b) : R b :=
  match r with
  | .ok x h => k x h
  | .ex c fs h => .ex c fs h
  | .bad => .bad
@[simp] theorem R.bind_ok {a b : Type} (x : a) (h : List O) (k : a → List O → R b) : (R.ok x h).bind k = k x h := rfl
@[simp] theorem R.bind_ex {a b : Type} (c : Nat) (fs : List D) (h : List O) (k : a → List O → R b) : (R.ex c fs h : R a).bind k = .ex c fs h := rfl
@[simp] theorem R.bind_bad {a b : Type} (k : a → List O → R b) : (R.bad : R a).bind k = .bad := rfl

/-! ### worlds -/
structure Wd where
  n : Nat
  m : Nat → Addr
  H : Hp

/-- tables of code apart -/
def bare (H : Hp) : Hp := fun b => match H b with
  | some (.tbl _) => none
  | o => o
theorem bare_none {H : Hp} {b : Addr} (h : H b = none) : bare H b = none := by unfold bare; rw [h]
theorem bare_some {H : Hp} {b : Addr} {o : HO} (h : H b = some o) (nt : ∀ ps, o ≠ .tbl ps) : bare H b = some o := by
  unfold bare
  rw [h]
  cases o with
  | tbl ps => exact (nt ps rfl).elim
  | _ => rfl
theorem bare_eq {H H' : Hp} {b : Addr} (h : H b = H' b) : bare H b = bare H' b := by unfold bare; rw [h]
abbrev Wd.B (S : Wd) : Hp := bare S.H
structure Ext (S S' : Wd) : Prop where
  le : S.n ≤ S'.n
  ag : ∀ i, i < S.n → S'.m i = S.m i
  fr : ∀ b o, (∀ i, i < S.n → S.m i ≠ b) → S.H b = some o → (∀ ps, o ≠ .tbl ps) → S'.H b = some o
  fs : ∀ i, S.n ≤ i → i < S'.n → S.B (S'.m i) = none
  dm : ∀ b, S'.B b = none → S.B b = none

theorem Ext.refl (S : Wd) : Ext S S := ⟨Nat.le_refl _, fun _ _ => rfl, fun _ _ _ h _ => h, fun i h1 h2 => absurd (Nat.lt_of_lt_of_le h2 h1) (Nat.lt_irrefl _), fun _ h => h⟩
theorem Ext.trans {S S1 S2 : Wd} (a : Ext S S1) (b : Ext S1 S2) : Ext S S2 where
  le := Nat.le_trans a.le b.le
  ag := fun i h => (b.ag i (Nat.lt_of_lt_of_le h a.le)).trans (a.ag i h)
  fr := fun c o hn hc ho => by
    refine b.fr c o (fun i hi e => ?_) (a.fr c o hn hc ho) ho
    by_cases h : i < S.n
    · exact hn i h ((a.ag i h).symm.trans e)
    · have := a.fs i (Nat.le_of_not_lt h) hi
      rw [e] at this
      have this := (bare_some hc ho).symm.trans this
      cases this
  fs := fun i h1 h2 => by
    by_cases h : i < S1.n
    · rw [b.ag i h]; exact a.fs i h1 h
    · exact a.dm _ (b.fs i (Nat.le_of_not_lt h) h2)
  dm := fun c h => a.dm c (b.dm c h)

/-- a tuple -/
def TQ (_ : PySem.W.Frag) (H : Hp) (p : Addr) (vs : List V) : Prop := H p = some (.tup vs)
theorem TQ.sq {K : PySem.W.Frag} {H : Hp} {p : Addr} {vs : List V} (q : TQ K H p vs) : SqT K H p vs := .inl (.inl q)

/-- a list that nobody changes: the script -/
def IQ (K : PySem.W.Frag) (H : Hp) (p : Addr) (vs : List V) : Prop := (∃ o, H p = some (.frz o (.lst vs))) ∨
  ∃ (o : Obj) (its : Array Value) (n : Nat), K.lookup p = some o ∧ o.cls = .type "list" ∧ o.dict = none ∧ o.data = .seq its n ∧ its.size ≤ sizeLine ∧ Vals vs its.toList
theorem IQ.sq {K : PySem.W.Frag} {H : Hp} {p : Addr} {vs : List V} (q : IQ K H p vs) : SqL K H p vs := q.elim (fun z => .inl (.inr z)) .inr

section
variable (K : PySem.W.Frag)
mutual
inductive RV (S : Wd) : D → V → Prop where
  | non : RV S .non .non
  | bl (b : Bool) : RV S (.bl b) (.bl b)
  | int (i : Int) : RV S (.int i) (.int i)
  | str (s : Str) : RV S (.str s) (.str s)
  | tup {l : List D} {p : Addr} {vs : List V} : TQ K S.H p vs → RVs S l vs → RV S (.tup l) (.ref p)
  | fl {l : List D} {p : Addr} {vs : List V} : IQ K S.H p vs → RVs S l vs → RV S (.fl l) (.ref p)
  | ref {i : Nat} : i < S.n → RV S (.ref i) (.ref (S.m i))
inductive RVs (S : Wd) : List D → List V → Prop where
  | nil : RVs S [] []
  | cons {d : D} {x : V} {l : List D} {xs : List V} : RV S d x → RVs S l xs → RVs S (d :: l) (x :: xs)
end
end

/-- the classes of the program: where each stands, its fields' names -/
structure Gl where
  K : PySem.W.Frag
  ca : Nat → Addr
  fn : Nat → Str
  xf : Nat → Str
  T : List (Addr × Str)

def RFs (G : Gl) (S : Wd) : List (Nat × D) → List (Str × V) → Prop := Paired fun p q => G.fn p.1 = q.1 ∧ RV G.K S p.2 q.2
def RKs {κ : Type} (G : Gl) (S : Wd) : List (κ × D) → List (κ × V) → Prop := Paired fun p q => p.1 = q.1 ∧ RV G.K S p.2 q.2

/-- what stands at the address a -/
def RO (G : Gl) (S : Wd) (a : Addr) : O → Prop
  | .lst l => ∃ vs, S.H a = some (.lst vs) ∧ RVs G.K S l vs
  | .dk l => ∃ vs, S.H a = some (.dK vs) ∧ RKs G S l vs
  | .dkf l => ∃ o vs, S.H a = some (.frz o (.dK vs)) ∧ RKs G S l vs
  | .dt l => ∃ vs, S.H a = some (.dT vs) ∧ RKs G S l vs
  | .dtf l => ∃ o vs, S.H a = some (.frz o (.dT vs)) ∧ RKs G S l vs
  | .ins c fs => ∃ dx vs, S.H a = some (.ins (G.ca c) dx vs) ∧ RFs G S fs vs

structure RH (G : Gl) (h : List O) (S : Wd) : Prop where
  len : h.length = S.n
  inj : ∀ i j, i < S.n → j < S.n → S.m i = S.m j → i = j
  obj : ∀ i o, h[i]? = some o → RO G S (S.m i) o
  tab : LamX.Tabs G.T S.H

theorem RH.fixed {G : Gl} {h : List O} {S : Wd} (r : RH G h S) {i : Nat} (hi : i < S.n) : (∀ vs, S.H (S.m i) ≠ some (.tup vs)) ∧ ∀ o vs, S.H (S.m i) ≠ some (.frz o (.lst vs)) := by
  have hl : i < h.length := by rw [r.len]; exact hi
  have q := r.obj i h[i] (List.getElem?_eq_getElem hl)
  cases e : h[i] with
  | lst l => rw [e] at q; obtain ⟨vs', q, _⟩ := q; rw [q]; exact ⟨fun _ z => (by cases z), fun _ _ z => (by cases z)⟩
  | dk l => rw [e] at q; obtain ⟨vs', q, _⟩ := q; rw [q]; exact ⟨fun _ z => (by cases z), fun _ _ z => (by cases z)⟩
  | dkf l => rw [e] at q; obtain ⟨o, vs', q, _⟩ := q; rw [q]; exact ⟨fun _ z => (by cases z), fun _ _ z => (by cases z)⟩
  | dt l => rw [e] at q; obtain ⟨vs', q, _⟩ := q; rw [q]; exact ⟨fun _ z => (by cases z), fun _ _ z => (by cases z)⟩
  | dtf l => rw [e] at q; obtain ⟨o, vs', q, _⟩ := q; rw [q]; exact ⟨fun _ z => (by cases z), fun _ _ z => (by cases z)⟩
  | ins c fs => rw [e] at q; obtain ⟨dx, vs', q, _⟩ := q; rw [q]; exact ⟨fun _ z => (by cases z), fun _ _ z => (by cases z)⟩
/-- a tuple is kept, a list that nobody changes too -/
theorem TQ.ext {G : Gl} {h : List O} {S S' : Wd} (r : RH G h S) (e : Ext S S') {p : Addr} {vs : List V} (q : TQ G.K S.H p vs) : TQ G.K S'.H p vs :=
  e.fr p _ (fun i hi z => (r.fixed hi).1 vs (by rw [z]; exact q)) q fun ps z => by cases z
theorem IQ.ext {G : Gl} {h : List O} {S S' : Wd} (r : RH G h S) (e : Ext S S') {p : Addr} {vs : List V} (q : IQ G.K S.H p vs) : IQ G.K S'.H p vs := by
  rcases q with ⟨o, q⟩ | q
  · exact .inl ⟨o, e.fr p _ (fun i hi z => (r.fixed hi).2 o vs (by rw [z]; exact q)) q fun ps z => by cases z⟩
  · exact .inr q

section
variable {G : Gl} {h : List O} {S S' : Wd}
mutual
theorem RV.ext (r : RH G h S) (e : Ext S S') : ∀ {d : D} {x : V}, RV G.K S d x → RV G.K S' d x
  | _, _, .non => .non
  | _, _, .bl b => .bl b
  | _, _, .int b => .int b
  | _, _, .str b => .str b
  | _, _, .tup q l => .tup (TQ.ext r e q) (RVs.ext r e l)
  | _, _, .fl q l => .fl (IQ.ext r e q) (RVs.ext r e l)
  | _, _, .ref (i := i) hi => by
    rw [← e.ag i hi]
    exact .ref (Nat.lt_of_lt_of_le hi e.le)
theorem RVs.ext (r : RH G h S) (e : Ext S S') : ∀ {l : List D} {xs : List V}, RVs G.K S l xs → RVs G.K S' l xs
  | _, _, .nil => .nil
  | _, _, .cons a b => .cons (RV.ext r e a) (RVs.ext r e b)
end
theorem RFs.ext (r : RH G h S) (e : Ext S S') : ∀ {l : List (Nat × D)} {xs : List (Str × V)}, RFs G S l xs → RFs G S' l xs
  | _, _, .nil => .nil
  | _, _, .cons a b => .cons ⟨a.1, RV.ext r e a.2⟩ (RFs.ext r e b)
theorem RKs.ext {k : Type} (r : RH G h S) (e : Ext S S') : ∀ {l : List (k × D)} {xs : List (k × V)}, RKs G S l xs → RKs G S' l xs
  | _, _, .nil => .nil
  | _, _, .cons a b => .cons ⟨a.1, RV.ext r e a.2⟩ (RKs.ext r e b)
end
theorem RVs.length {K : PySem.W.Frag} {S : Wd} : ∀ {l : List D} {xs : List V}, RVs K S l xs → l.length = xs.length
  | _, _, .nil => rfl
  | _, _, .cons _ b => by rw [List.length_cons, List.length_cons, RVs.length b]
theorem RVs.get {K : PySem.W.Frag} {S : Wd} : ∀ {l : List D} {xs : List V}, RVs K S l xs → ∀ {i : Nat} {d : D}, l[i]? = some d → ∃ x, xs[i]? = some x ∧ RV K S d x
  | _, _, .nil, _, _, h => by simp at h
  | _, _, .cons a b, 0, _, h => by simp at h; subst h; exact ⟨_, rfl, a⟩
  | _, _, .cons a b, i + 1, _, h => by
    obtain ⟨x, h1, h2⟩ := RVs.get b (by simpa using h)
    exact ⟨x, by simpa using h1, h2⟩
theorem RVs.app {K : PySem.W.Frag} {S : Wd} : ∀ {l l' : List D} {xs xs' : List V}, RVs K S l xs → RVs K S l' xs' → RVs K S (l ++ l') (xs ++ xs')
  | _, _, _, _, .nil, b => b
  | _, _, _, _, .cons a r, b => .cons a (RVs.app r b)
theorem RVs.set {K : PySem.W.Frag} {S : Wd} {d : D} {x : V} (q : RV K S d x) : ∀ {l : List D} {xs : List V}, RVs K S l xs → ∀ i : Nat, RVs K S (l.set i d) (xs.set i x)
  | _, _, .nil, _ => .nil
  | _, _, .cons a b, 0 => .cons q b
  | _, _, .cons a b, i + 1 => .cons a (RVs.set q b i)
theorem RVs.take {K : PySem.W.Frag} {S : Wd} : ∀ {l : List D} {xs : List V}, RVs K S l xs → ∀ i : Nat, RVs K S (l.take i) (xs.take i)
  | _, _, _, 0 => by simpa using RVs.nil
  | _, _, .nil, i + 1 => .nil
  | _, _, .cons a b, i + 1 => .cons a (RVs.take b i)
theorem RVs.drop {K : PySem.W.Frag} {S : Wd} : ∀ {l : List D} {xs : List V}, RVs K S l xs → ∀ i : Nat, RVs K S (l.drop i) (xs.drop i)
  | _, _, q, 0 => q
  | _, _, .nil, i + 1 => .nil
  | _, _, .cons a b, i + 1 => RVs.drop b i
theorem RVs.rev {K : PySem.W.Frag} {S : Wd} : ∀ {l : List D} {xs : List V}, RVs K S l xs → RVs K S l.reverse xs.reverse
  | _, _, .nil => .nil
  | _, _, .cons a b => by
    rw [List.reverse_cons, List.reverse_cons]
    exact RVs.app (RVs.rev b) (.cons a .nil)
theorem RVs.eraseIdx {K : PySem.W.Frag} {S : Wd} : ∀ {l : List D} {xs : List V}, RVs K S l xs → ∀ i : Nat, RVs K S (l.eraseIdx i) (xs.eraseIdx i)
  | _, _, .nil, _ => .nil
  | _, _, .cons a b, 0 => b
  | _, _, .cons a b, i + 1 => .cons a (RVs.eraseIdx b i)

/-! ### results -/
/-- H0: the heap at the start of what gives this; an object just made stood nowhere then, and is no one's -/
inductive RT (G : Gl) (H0 : Hp) (S : Wd) : T → V → Prop where
  | v {d : D} {x : V} : RV G.K S d x → RT G H0 S (.v d) x
  | tl {l : List D} {vs : List V} {a : Addr} : S.H a = some (.lst vs) → RVs G.K S l vs → H0 a = none → (∀ i, i < S.n → S.m i ≠ a) → RT G H0 S (.tl l) (.ref a)
  | tk {l : List (Key × D)} {vs : List (Key × V)} {a : Addr} : S.H a = some (.dK vs) → RKs G S l vs → H0 a = none → (∀ i, i < S.n → S.m i ≠ a) → RT G H0 S (.tk l) (.ref a)
  | tt {l : List (List Key × D)} {vs : List (List Key × V)} {a : Addr} : S.H a = some (.dT vs) → RKs G S l vs → H0 a = none → (∀ i, i < S.n → S.m i ≠ a) → RT G H0 S (.tt l) (.ref a)
  | rg {lo hi : Int} {a : Addr} : S.H a = some (.rng lo hi) → H0 a = none → (∀ i, i < S.n → S.m i ≠ a) → RT G H0 S (.rg lo hi) (.ref a)

theorem RT.ext {G : Gl} {h : List O} {S S' : Wd} {H0 : Hp} {t : T} {x : V} (r : RH G h S) (e : Ext S S') (q : RT G H0 S t x) : RT G H0 S' t x := by
  have nn : ∀ {a : Addr} {o : HO}, S.H a = some o → (∀ ps, o ≠ .tbl ps) → (∀ i, i < S.n → S.m i ≠ a) → ∀ i, i < S'.n → S'.m i ≠ a := fun {a o} ha nt hn i hi z => by
    by_cases hlt : i < S.n
    · rw [e.ag i hlt] at z; exact hn i hlt z
    · have := e.fs i (Nat.le_of_not_lt hlt) hi
      rw [z] at this
      have this := (bare_some ha nt).symm.trans this
      cases this
  cases q with
  | v q => exact .v (q.ext r e)
  | tl a b c d => exact .tl (e.fr _ _ d a fun _ z => by cases z) (b.ext r e) c (nn a (fun _ z => by cases z) d)
  | tk a b c d => exact .tk (e.fr _ _ d a fun _ z => by cases z) (b.ext r e) c (nn a (fun _ z => by cases z) d)
  | tt a b c d => exact .tt (e.fr _ _ d a fun _ z => by cases z) (b.ext r e) c (nn a (fun _ z => by cases z) d)
  | rg a c d => exact .rg (e.fr _ _ d a fun _ z => by cases z) c (nn a (fun _ z => by cases z) d)
theorem RT.from {G : Gl} {S : Wd} {H0 H1 : Hp} {t : T} {x : V} (hd : ∀ b, H1 b = none → H0 b = none) (q : RT G H1 S t x) : RT G H0 S t x := by
  cases q with
  | v q => exact .v q
  | tl a b c d => exact .tl a b (hd _ c) d
  | tk a b c d => exact .tk a b (hd _ c) d
  | tt a b c d => exact .tt a b (hd _ c) d
  | rg a c d => exact .rg a (hd _ c) d

/-- the slots -/
def RS (G : Gl) (S : Wd) (r : List (Option D)) (s : L2.St) : Prop := r.length = s.length ∧ ∀ (i : Nat) (d : D), r[i]? = some (some d) → ∃ x, s[i]? = some (some x) ∧ RV G.K S d x
theorem RS.ext {G : Gl} {h : List O} {S S' : Wd} {r : List (Option D)} {s : L2.St} (q : RH G h S) (e : Ext S S') (z : RS G S r s) : RS G S' r s :=
  ⟨z.1, fun i d hd => let ⟨x, h1, h2⟩ := z.2 i d hd; ⟨x, h1, h2.ext q e⟩⟩
theorem RS.set {G : Gl} {S : Wd} {r : List (Option D)} {s : L2.St} (z : RS G S r s) (i : Nat) {d : D} {x : V} (q : RV G.K S d x) : RS G S (r.set i (some d)) (s.set i (some x)) := by
  refine ⟨by rw [List.length_set, List.length_set]; exact z.1, fun j e hj => ?_⟩
  by_cases hij : i = j
  · subst hij
    have hlt : i < r.length := by
      have := (List.getElem?_eq_some_iff.mp hj).1
      simpa using this
    rw [List.getElem?_set_self hlt] at hj
    cases hj
    exact ⟨x, by rw [List.getElem?_set_self (by rw [← z.1]; exact hlt)], q⟩
  · rw [List.getElem?_set_ne hij] at hj
    obtain ⟨y, h1, h2⟩ := z.2 j e hj
    exact ⟨y, by rw [List.getElem?_set_ne hij]; exact h1, h2⟩

/-- values that stay related as worlds grow -/
structure Rl (G : Gl) (A B : Type) where
  rel : Hp → Wd → A → B → Prop
  ext : ∀ {h : List O} {S S' : Wd} {H0 : Hp} {a : A} {b : B}, RH G h S → Ext S S' → rel H0 S a b → rel H0 S' a b
  frm : ∀ {S : Wd} {H0 H1 : Hp} {a : A} {b : B}, (∀ c, H1 c = none → H0 c = none) → rel H1 S a b → rel H0 S a b
def rT (G : Gl) : Rl G T V := ⟨RT G, fun r e q => q.ext r e, fun h q => q.from h⟩
def rD (G : Gl) : Rl G D V := ⟨fun _ S d x => RV G.K S d x, fun r e q => q.ext r e, fun _ q => q⟩
def rDs (G : Gl) : Rl G (List D) (List V) := ⟨fun _ S d x => RVs G.K S d x, fun r e q => q.ext r e, fun _ q => q⟩
def rB (G : Gl) : Rl G Bool Bool := ⟨fun _ _ a b => a = b, fun _ _ q => q, fun _ q => q⟩
def rTs (G : Gl) : Rl G (List T) (List V) := ⟨fun H S => Paired (RT G H S), fun r e q => Paired.mapP q fun _ _ z => z.ext r e, fun h q => Paired.mapP q fun _ _ z => z.from h⟩

/-- the payload of an exception: its one field, if its class has one -/
def RX (G : Gl) (S : Wd) (c : Nat) (fs : List D) (cls : Value) (d : Option Addr) : Prop :=
  cls = .ref (G.ca c) ∧ match fs with
    | [] => d = none
    | [p] => ∃ a x, d = some a ∧ S.H a = some (.xd [(G.xf c, x)]) ∧ RV G.K S p x
    | _ => False
end Bz
set_option Elab.async false
set_option linter.all false
set_option maxRecDepth 100000
namespace Bz
open PySem PySem.Spec PyProof.Rows L2
section
variable {G : Gl} {A B A2 B2 : Type}
/-- what is wanted of a result, from the world S on -/
def PO (G : Gl) (l : Rl G A B) (E : XK) (S : Wd) (Q : B → Hp → Prop) : R A → Prop
  | .ok t h => ∀ (S' : Wd) (x : B), Ext S S' → RH G h S' → l.rel S.B S' t x → Q x S'.H
  | .ex c fs h => ∀ (S' : Wd) (cls : Value) (d : Option Addr), Ext S S' → RH G h S' → RX G S' c fs cls d → E cls d S'.H
  | .bad => False
theorem PO.later {l : Rl G A B} {E : XK} {S S1 : Wd} {Q : B → Hp → Prop} (e : Ext S S1) : ∀ {r : R A}, PO G l E S Q r → PO G l E S1 Q r
  | .ok t h, q => fun S' x e' r z => q S' x (e.trans e') r (l.frm e.dm z)
  | .ex c fs h, q => fun S' cls d e' r z => q S' cls d (e.trans e') r z
  | .bad, q => q
/-- one part's result goes on to the next -/
theorem PO.stepAt {l : Rl G A B} {l2 : Rl G A2 B2} {E : XK} {S S0 : Wd} {Q : B2 → Hp → Prop} {Q' : B → Hp → Prop} {k : A → List O → R A2} {r : R A} (e0 : Ext S S0) (p : PO G l2 E S Q (r.bind k))
    (f : ∀ (S1 : Wd) (h1 : List O) (a : A) (x : B), Ext S0 S1 → RH G h1 S1 → l.rel S0.B S1 a x → PO G l2 E S Q (k a h1) → Q' x S1.H) : PO G l E S0 Q' r := by
  cases r with
  | ok t h => exact fun S' x e r z => f S' h t x e r z p
  | ex c fs h => exact PO.later (l := l) (r := R.ex c fs h) (Q := Q') e0 p
  | bad => exact p
theorem PO.step {l : Rl G A B} {l2 : Rl G A2 B2} {E : XK} {S : Wd} {Q : B2 → Hp → Prop} {Q' : B → Hp → Prop} {k : A → List O → R A2} {r : R A} (p : PO G l2 E S Q (r.bind k))
    (f : ∀ (S1 : Wd) (h1 : List O) (a : A) (x : B), Ext S S1 → RH G h1 S1 → l.rel S.B S1 a x → PO G l2 E S1 Q (k a h1) → Q' x S1.H) : PO G l E S Q' r :=
  PO.stepAt (Ext.refl S) p fun S1 h1 a x e r z q => f S1 h1 a x e r z (PO.later e q)
theorem PO.mono {l : Rl G A B} {E : XK} {S : Wd} {Q Q' : B → Hp → Prop} (f : ∀ x H, Q x H → Q' x H) : ∀ {r : R A}, PO G l E S Q r → PO G l E S Q' r
  | .ok t h, q => fun S' x e r z => f _ _ (q S' x e r z)
  | .ex c fs h, q => q
  | .bad, q => q
/-- the reading: the evaluator f over slots and heap -/
def rd (G : Gl) (l : Rl G A B) (W : WX) (f : List (Option D) → List O → R A) : L2.St → Hp → (B → Hp → Prop) → Prop := fun s H Q =>
  ∃ S r h, S.H = H ∧ RH G h S ∧ RS G S r s ∧ PO G l (fun c d H' => W c d s H') S Q (f r h)
end

theorem PE.imp {X : Cx} {e : Expr} {t t' : TE} (h : PE X e t) (q : ∀ s H Q, t' s H Q → t s H Q) : PE X e t' := ⟨fun pins s σ H Q I z => h.run pins s σ H Q I (q _ _ _ z)⟩
theorem PT.imp {X : Cx} {e : Expr} {t t' : TT} (h : PT X e t) (q : ∀ s H Q, t' s H Q → t s H Q) : PT X e t' := ⟨fun pins s σ H Q I z => h.run pins s σ H Q I (q _ _ _ z)⟩
theorem PA.imp {X : Cx} {e : List Expr} {t t' : TA} (h : PA X e t) (q : ∀ s H Q, t' s H Q → t s H Q) : PA X e t' := ⟨fun pos pins s σ H Q I z => h.run pos pins s σ H Q I (q _ _ _ z)⟩

section
variable {G : Gl} {X : Cx} {W : WX}
/-- an expression, a test, arguments are what the evaluator says -/
abbrev SE (G : Gl) (X : Cx) (W : WX) (f : List (Option D) → List O → R T) (e : Expr) : Prop := PE X e (rd G (rT G) W f)
abbrev SA (G : Gl) (X : Cx) (W : WX) (f : List (Option D) → List O → R (List T)) (e : List Expr) : Prop := PA X e (rd G (rTs G) W f)
abbrev SC (G : Gl) (X : Cx) (W : WX) (f : List (Option D) → List O → R Bool) (e : Expr) : Prop := PT X e (rd G (rB G) W f)

abbrev Ev := List (Option D) → List O → R T
/-! ### names, constants -/
def evVar (i : Nat) : Ev := fun r h => match r[i]? with
  | some (some d) => .ok (.v d) h
  | _ => .bad
theorem se_var {i : Nat} {x : Str} {pos : Pos} (hN : X.N[i]? = some x) (hv : Vis X.env.scope x) (hd : (x == ("__debug__" : Str)) = false) (hcd : (x == ("__classdict__" : Str)) = false) : SE G X W (evVar i) (.Name x pos) := by
  refine PE.imp (pe_var hN hv hd hcd) fun s H Q ⟨S, r, h, e, q, z, p⟩ => ?_
  subst e
  unfold evVar at p
  split at p
  · rename_i d hd
    obtain ⟨x, h1, h2⟩ := z.2 i d hd
    exact ⟨x, h1, p S x (Ext.refl S) q (.v h2)⟩
  · exact p.elim
def evC (d : D) : Ev := fun _ h => .ok (.v d) h
theorem se_const {e : Expr} {d : D} {v : V} (hp : PE X e (tC v)) (hr : ∀ S, RV G.K S d v) : SE G X W (evC d) e :=
  PE.imp hp fun s H Q ⟨S, r, h, e, q, z, p⟩ => by subst e; exact p S v (Ext.refl S) q (.v (hr S))
theorem se_int {i : Int} {j pos} : SE G X W (evC (.int i)) (.Constant (.int i) j pos) := se_const pe_int fun _ => .int i
theorem se_bl {i : Bool} {j pos} : SE G X W (evC (.bl i)) (.Constant (.bool i) j pos) := se_const pe_bl fun _ => .bl i
theorem se_str {i : Str} {j pos} : SE G X W (evC (.str i)) (.Constant (.str i) j pos) := se_const pe_str fun _ => .str i
theorem se_non {j pos} : SE G X W (evC .non) (.Constant .none j pos) := se_const pe_non fun _ => .non

/-! ### new objects -/
theorem RO.ext {h : List O} {S S' : Wd} {a : Addr} {o : O} (r : RH G h S) (e : Ext S S') (k : S'.H a = S.H a) (q : RO G S a o) : RO G S' a o := by
  cases o with
  | lst l => obtain ⟨vs, h1, h2⟩ := q; exact ⟨vs, k.trans h1, h2.ext r e⟩
  | dk l => obtain ⟨vs, h1, h2⟩ := q; exact ⟨vs, k.trans h1, h2.ext r e⟩
  | dkf l => obtain ⟨o, vs, h1, h2⟩ := q; exact ⟨o, vs, k.trans h1, h2.ext r e⟩
  | dt l => obtain ⟨vs, h1, h2⟩ := q; exact ⟨vs, k.trans h1, h2.ext r e⟩
  | dtf l => obtain ⟨o, vs, h1, h2⟩ := q; exact ⟨o, vs, k.trans h1, h2.ext r e⟩
  | ins c fs => obtain ⟨dx, vs, h1, h2⟩ := q; exact ⟨dx, vs, k.trans h1, h2.ext r e⟩
theorem RH.there {h : List O} {S : Wd} (r : RH G h S) {i : Nat} (hi : i < S.n) : ∃ o, S.H (S.m i) = some o ∧ ∀ ps, o ≠ .tbl ps := by
  have hl : i < h.length := by rw [r.len]; exact hi
  have q := r.obj i h[i] (List.getElem?_eq_getElem hl)
  cases e : h[i] with
  | lst l => rw [e] at q; obtain ⟨vs', q, _⟩ := q; exact ⟨_, q, fun ps z => by cases z⟩
  | dk l => rw [e] at q; obtain ⟨vs', q, _⟩ := q; exact ⟨_, q, fun ps z => by cases z⟩
  | dkf l => rw [e] at q; obtain ⟨o, vs', q, _⟩ := q; exact ⟨_, q, fun ps z => by cases z⟩
  | dt l => rw [e] at q; obtain ⟨vs', q, _⟩ := q; exact ⟨_, q, fun ps z => by cases z⟩
  | dtf l => rw [e] at q; obtain ⟨o, vs', q, _⟩ := q; exact ⟨_, q, fun ps z => by cases z⟩
  | ins c fs => rw [e] at q; obtain ⟨dx, vs', q, _⟩ := q; exact ⟨_, q, fun ps z => by cases z⟩
theorem RH.grow {h : List O} {S S' : Wd} (r : RH G h S) (e : Ext S S') (hn : S'.n = S.n) (hk : ∀ i, i < S.n → S'.H (S.m i) = S.H (S.m i)) (ht : LamX.Tabs G.T S'.H) : RH G h S' where
  len := r.len.trans hn.symm
  inj := fun i j hi hj q => by
    rw [hn] at hi hj
    rw [e.ag i hi, e.ag j hj] at q
    exact r.inj i j hi hj q
  obj := fun i o ho => by
    have hi : i < S.n := by rw [← r.len]; exact (List.getElem?_eq_some_iff.mp ho).1
    rw [e.ag i hi]
    exact (r.obj i o ho).ext r e (hk i hi)
  tab := ht
/-- a further object, no one's -/
abbrev Wd.add (S : Wd) (p : Addr) (o : HO) : Wd := ⟨S.n, S.m, upd S.H p o⟩
theorem Ext.add {S : Wd} {p : Addr} {o : HO} (hp : S.H p = none) : Ext S (S.add p o) :=
  ⟨Nat.le_refl _, fun _ _ => rfl, fun b u _ hb _ => (upd_ne (ne_of_none hb hp)).trans hb, fun i h1 h2 => absurd (Nat.lt_of_lt_of_le h2 h1) (Nat.lt_irrefl _), fun b hb => by
    by_cases h : b = p
    · rw [h]; exact bare_none hp
    · exact (bare_eq (upd_ne h)).symm.trans hb⟩
theorem RH.apart {h : List O} {S : Wd} (r : RH G h S) {p : Addr} (hp : S.H p = none) : ∀ i, i < S.n → S.m i ≠ p := fun i hi z => by
  obtain ⟨o, q, _⟩ := r.there hi
  rw [z, hp] at q; cases q
theorem RH.add {h : List O} {S : Wd} {p : Addr} {o : HO} (r : RH G h S) (hp : S.H p = none) : RH G h (S.add p o) :=
  r.grow (Ext.add hp) rfl (fun i hi => upd_ne (r.apart hp i hi)) (r.tab.ext fun b u hb => by
    show upd S.H p o b = some u
    rw [upd_ne (ne_of_none hb hp)]; exact hb)
theorem RVs.add {h : List O} {S : Wd} {p : Addr} {o : HO} {l : List D} {vs : List V} (r : RH G h S) (hp : S.H p = none) (q : RVs G.K S l vs) : RVs G.K (S.add p o) l vs := q.ext r (Ext.add hp)

/-- what follows a result, from the world S on -/
def Got (G : Gl) (h : List O) (S : Wd) (t : T) (Q : VK) : Prop := ∀ (S' : Wd) (z : V), Ext S S' → RH G h S' → RT G S.B S' t z → Q z S'.H
theorem Got.here {h : List O} {S : Wd} {d : D} {x : V} {Q : VK} (g : Got G h S (.v d) Q) (r : RH G h S) (q : RV G.K S d x) : Q x S.H := g S x (Ext.refl S) r (.v q)
theorem Got.tup {h : List O} {S : Wd} {l : List D} {vs : List V} {Q : VK} (g : Got G h S (.v (.tup l)) Q) (r : RH G h S) (q : RVs G.K S l vs) : ∀ p, S.H p = none → Q (.ref p) (upd S.H p (.tup vs)) :=
  fun p hp => g (S.add p (.tup vs)) (.ref p) (Ext.add hp) (r.add hp) (.v (.tup upd_same (q.add r hp)))
theorem Got.lst {h : List O} {S : Wd} {l : List D} {vs : List V} {Q : VK} (g : Got G h S (.tl l) Q) (r : RH G h S) (q : RVs G.K S l vs) : ∀ p, S.H p = none → Q (.ref p) (upd S.H p (.lst vs)) :=
  fun p hp => g (S.add p (.lst vs)) (.ref p) (Ext.add hp) (r.add hp) (.tl upd_same (q.add r hp) (bare_none hp) (r.apart hp))

/-! ### two-place operations by values -/
/-- f does what g says -/
def Op2 (G : Gl) (X : Cx) (f : Value → Value → Sem Value) (g : T → T → List O → Option T) : Prop :=
  OpR X f fun x y H Q => ∃ S h H0 a b t, S.H = H ∧ RH G h S ∧ RT G H0 S a x ∧ RT G H0 S b y ∧ (∀ c, bare H c = none → H0 c = none) ∧ g a b h = some t ∧ Got G h S t Q
def opt (h : List O) : Option T → R T
  | some t => .ok t h
  | none => .bad
def ev2 (g : T → T → List O → Option T) (fa fb : Ev) : Ev := fun r h => (fa r h).bind fun a h1 => (fb r h1).bind fun b h2 => opt h2 (g a b h2)
theorem PO.opt {E : XK} {S : Wd} {h : List O} {o : Option T} {Q : VK} (p : PO G (rT G) E S Q (opt h o)) : ∃ t, o = some t ∧ Got G h S t Q := by
  cases o with
  | none => exact p.elim
  | some t => exact ⟨t, rfl, p⟩
theorem se_two {g : T → T → List O → Option T} {r2 : R2} {fa fb : Ev} {s : L2.St} {H : Hp} {Q : VK}
    (ho : ∀ x y H Q, (∃ S h H0 a b t, S.H = H ∧ RH G h S ∧ RT G H0 S a x ∧ RT G H0 S b y ∧ (∀ c, bare H c = none → H0 c = none) ∧ g a b h = some t ∧ Got G h S t Q) → r2 x y H Q)
    (p : rd G (rT G) W (ev2 g fa fb) s H Q) : tOp r2 (rd G (rT G) W fa) (rd G (rT G) W fb) s H Q := by
  obtain ⟨S, r, h, e, q, z, p⟩ := p
  subst e
  refine ⟨S, r, h, rfl, q, z, PO.step p fun S1 h1 ta x e1 r1 z1 p1 => ⟨S1, r, h1, rfl, r1, z.ext q e1, PO.step p1 fun S2 h2 tb y e2 r2 z2 p2 => ?_⟩⟩
  obtain ⟨t, ht, g⟩ := PO.opt p2
  exact ho _ _ _ _ ⟨S2, h2, S.B, ta, tb, t, rfl, r2, z1.ext r1 e2, RT.from e1.dm z2, (e1.trans e2).dm, ht, g⟩
theorem se_bin {op : Operator} {g : T → T → List O → Option T} {a b : Expr} {fa fb : Ev} {pos : Pos} (ho : Op2 G X (binaryOp op) g) (ha : SE G X W fa a) (hb : SE G X W fb b) : SE G X W (ev2 g fa fb) (.BinOp a op b pos) :=
  PE.imp (pe_op ho ha hb) fun s H Q p => se_two (fun _ _ _ _ z => z) p
theorem se_cmp {op : CmpOp} {g : T → T → List O → Option T} {a b : Expr} {fa fb : Ev} {pos : Pos} (ho : Op2 G X (compareOp op) g) (ha : SE G X W fa a) (hb : SE G X W fb b) (hm : behindInMarks op b = false) : SE G X W (ev2 g fa fb) (.Compare a [op] [b] pos) :=
  PE.imp (pe_cmpR ho ha hb hm) fun s H Q p => se_two (fun _ _ _ _ z => z) p
end
end Bz
set_option Elab.async false
set_option linter.all false
set_option maxRecDepth 100000
namespace Bz
open PySem PySem.Spec PyProof.Rows L2

abbrev SZ : Nat := 16777216
theorem sz_eq : sizeLine = SZ := sizeLine_eq

/-! ### what a result is, as data -/
def seqL (h : List O) : T → Option (List D)
  | .tl l => some l
  | .v (.fl l) => some l
  | .v (.ref i) => match h[i]? with
    | some (.lst l) => some l
    | _ => none
  | _ => none
/-- a list that may be changed -/
def seqM (h : List O) : T → Option (List D)
  | .tl l => some l
  | .v (.ref i) => match h[i]? with
    | some (.lst l) => some l
    | _ => none
  | _ => none
def seqT : T → Option (List D)
  | .v (.tup l) => some l
  | _ => none
section
variable {G : Gl} {h : List O} {S : Wd} {H0 : Hp} {t : T} {x : V} {l : List D}
theorem seqM_ok (r : RH G h S) (q : RT G H0 S t x) (e : seqM h t = some l) : ∃ a vs, x = .ref a ∧ S.H a = some (.lst vs) ∧ RVs G.K S l vs := by
  cases q with
  | tl a b c d => cases e; exact ⟨_, _, rfl, a, b⟩
  | tk a b c d => cases e
  | tt a b c d => cases e
  | rg a c d => cases e
  | v q =>
    cases q with
    | @ref i hi =>
      simp only [seqM] at e
      split at e
      · rename_i l' hl
        cases e
        obtain ⟨vs, h1, h2⟩ := r.obj _ _ hl
        exact ⟨_, vs, rfl, h1, h2⟩
      · cases e
    | _ => cases e
theorem seqL_ok (r : RH G h S) (q : RT G H0 S t x) (e : seqL h t = some l) : ∃ a vs, x = .ref a ∧ SqL G.K S.H a vs ∧ RVs G.K S l vs := by
  cases q with
  | tl a b c d => cases e; exact ⟨_, _, rfl, SqL.of a, b⟩
  | tk a b c d => cases e
  | tt a b c d => cases e
  | rg a c d => cases e
  | v q =>
    cases q with
    | @ref i hi =>
      simp only [seqL] at e
      split at e
      · rename_i l' hl
        cases e
        obtain ⟨vs, h1, h2⟩ := r.obj _ _ hl
        exact ⟨_, vs, rfl, SqL.of h1, h2⟩
      · cases e
    | fl q1 q2 => cases e; exact ⟨_, _, rfl, q1.sq, q2⟩
    | _ => cases e
theorem seqT_ok (q : RT G H0 S t x) (e : seqT t = some l) : ∃ a vs, x = .ref a ∧ SqT G.K S.H a vs ∧ RVs G.K S l vs ∧ RV G.K S (.tup l) x := by
  cases q with
  | v q =>
    cases q with
    | tup q1 q2 => cases e; exact ⟨_, _, rfl, q1.sq, q2, .tup q1 q2⟩
    | _ => cases e
  | _ => cases e
def intT : T → Option Int
  | .v (.int i) => some i
  | _ => none
theorem intT_ok {i : Int} (q : RT G H0 S t x) (e : intT t = some i) : x = .int i := by
  cases q with
  | v q =>
    cases q with
    | int j => cases e; rfl
    | _ => cases e
  | _ => cases e
def strT : T → Option Str
  | .v (.str i) => some i
  | _ => none
theorem strT_ok {i : Str} (q : RT G H0 S t x) (e : strT t = some i) : x = .str i := by
  cases q with
  | v q =>
    cases q with
    | str j => cases e; rfl
    | _ => cases e
  | _ => cases e
end

/-! ### + - * // % ** -/
abbrev tI (i : Int) : T := .v (.int i)
abbrev tB (b : Bool) : T := .v (.bl b)
abbrev tS (s : Str) : T := .v (.str s)
abbrev tU (l : List D) : T := .v (.tup l)

def g_add (a b : T) (h : List O) : Option T :=
  match a, b with
  | .v (.int i), .v (.int j) => some (tI (i + j))
  | .v (.str i), .v (.str j) => if i.length + j.length ≤ SZ then some (tS (i ++ j)) else none
  | .v (.tup i), .v (.tup j) => if i.length + j.length ≤ SZ then some (tU (i ++ j)) else none
  | a, b => match seqM h a, seqM h b with
    | some i, some j => if i.length + j.length ≤ SZ then some (.tl (i ++ j)) else none
    | _, _ => none
def g_sub (a b : T) (_ : List O) : Option T :=
  match a, b with
  | .v (.int i), .v (.int j) => some (tI (i - j))
  | _, _ => none
def g_mul (a b : T) (h : List O) : Option T :=
  match a, b with
  | .v (.int i), .v (.int j) => if i.natAbs < 18446744073709551616 ∨ j.natAbs < 18446744073709551616 then some (tI (i * j)) else none
  | a, .v (.int k) => match seqM h a with
    | some l => if k.natAbs < 9223372036854775808 ∧ l.length * k.toNat ≤ SZ then some (.tl (List.replicate k.toNat l).flatten) else none
    | none => none
  | _, _ => none
def g_fdiv (a b : T) (_ : List O) : Option T :=
  match a, b with
  | .v (.int i), .v (.int j) => if 0 < j ∧ j < 1073741824 then some (tI (i / j)) else none
  | _, _ => none
def g_mod (a b : T) (_ : List O) : Option T :=
  match a, b with
  | .v (.int i), .v (.int j) => if 0 < j then some (tI (i % j)) else none
  | _, _ => none
def g_pow (a b : T) (_ : List O) : Option T :=
  match a, b with
  | .v (.int i), .v (.int j) => if 0 ≤ j ∧ j ≤ 1000 ∧ i.natAbs < 18446744073709551616 then some (tI (i ^ j.toNat)) else none
  | _, _ => none

section
variable {G : Gl} {X : Cx}
theorem op2_of {f : Value → Value → Sem Value} {g : T → T → List O → Option T} {r : R2} (ho : OpR X f r)
    (k : ∀ (S : Wd) (h : List O) (H0 : Hp) (a b t : T) (x y : V) (Q : VK), RH G h S → RT G H0 S a x → RT G H0 S b y → g a b h = some t → Got G h S t Q → r x y S.H Q) : Op2 G X f g := by
  intro pins s σ H x y v u Q I rx ry z
  obtain ⟨S, h, H0, a, b, t, e, r1, q1, q2, _, ht, got⟩ := z
  subst e
  exact ho pins s σ S.H x y v u Q I rx ry (k S h H0 a b t x y Q r1 q1 q2 ht got)
theorem RT.int_inv {H0 : Hp} {S : Wd} {i : Int} {x : V} (q : RT G H0 S (.v (.int i)) x) : x = .int i := intT_ok q rfl
theorem RT.str_inv {H0 : Hp} {S : Wd} {i : Str} {x : V} (q : RT G H0 S (.v (.str i)) x) : x = .str i := strT_ok q rfl
theorem op2_sub : Op2 G X (binaryOp .Sub) g_sub := op2_of op_sub fun S h H0 a b t x y Q r q1 q2 e got => by
  unfold g_sub at e
  split at e
  · cases e
    exact ⟨_, _, q1.int_inv, q2.int_inv, got.here r (.int _)⟩
  · cases e
theorem op2_fdiv : Op2 G X (binaryOp .FloorDiv) g_fdiv := op2_of op_fdiv fun S h H0 a b t x y Q r q1 q2 e got => by
  unfold g_fdiv at e
  split at e
  · split at e
    · rename_i hc
      cases e
      exact ⟨_, _, q1.int_inv, q2.int_inv, hc, got.here r (.int _)⟩
    · cases e
  · cases e
theorem op2_mod : Op2 G X (binaryOp .Mod) g_mod := op2_of op_mod fun S h H0 a b t x y Q r q1 q2 e got => by
  unfold g_mod at e
  split at e
  · split at e
    · rename_i hc
      cases e
      exact ⟨_, _, q1.int_inv, q2.int_inv, hc, got.here r (.int _)⟩
    · cases e
  · cases e
theorem op2_pow : Op2 G X (binaryOp .Pow) g_pow := op2_of op_pow fun S h H0 a b t x y Q r q1 q2 e got => by
  unfold g_pow at e
  split at e
  · split at e
    · rename_i hc
      cases e
      obtain ⟨h1, h2, h3⟩ := hc
      refine ⟨_, _, q1.int_inv, q2.int_inv, ⟨h1, by omega, ?_⟩, got.here r (.int _)⟩
      have : (2 : Nat) ^ 64 = 18446744073709551616 := by decide
      omega
    · cases e
  · cases e
theorem RVs.nil_iff {K : PySem.W.Frag} {S : Wd} {l : List D} {vs : List V} (q : RVs K S l vs) : vs = [] ↔ l = [] := by
  cases q <;> simp
theorem RVs.flat {K : PySem.W.Frag} {S : Wd} {l : List D} {vs : List V} (q : RVs K S l vs) : ∀ k : Nat, RVs K S (List.replicate k l).flatten (List.replicate k vs).flatten
  | 0 => .nil
  | k + 1 => by
    rw [List.replicate_succ, List.replicate_succ, List.flatten_cons, List.flatten_cons]
    exact RVs.app q (RVs.flat q k)
theorem op2_add (hK : X.K = G.K) : Op2 G X (binaryOp .Add) g_add := op2_of (op_add.or (op_add_str.or (op_catA.or op_cat))) fun S h H0 a b t x y Q r q1 q2 e got => by
  unfold g_add at e
  split at e
  · cases e
    exact .inl ⟨_, _, q1.int_inv, q2.int_inv, got.here r (.int _)⟩
  · split at e
    · rename_i hc
      cases e
      exact .inr (.inl ⟨_, _, q1.str_inv, q2.str_inv, by rw [sz_eq]; exact hc, got.here r (.str _)⟩)
    · cases e
  · split at e
    · rename_i hc
      cases e
      obtain ⟨p1, v1, rfl, s1, l1, w1⟩ := seqT_ok q1 rfl
      obtain ⟨p2, v2, rfl, s2, l2, w2⟩ := seqT_ok q2 rfl
      refine .inr (.inr (.inl ⟨p1, p2, v1, v2, rfl, rfl, by rw [hK]; exact s1, by rw [hK]; exact s2, by rw [sz_eq, ← l1.length, ← l2.length]; exact hc, fun z => ?_, fun z z' => ?_, fun z z' => ?_⟩))
      · have z1 := l1.nil_iff.mp z
        subst z1
        exact got.here r (by simpa using w2)
      · have z1 := l2.nil_iff.mp z'
        subst z1
        exact got.here r (by simpa using w1)
      · exact got.tup r (l1.app l2)
    · cases e
  · split at e
    · rename_i l1 l2 h1 h2
      split at e
      · rename_i hc
        cases e
        obtain ⟨p1, v1, rfl, s1, w1⟩ := seqM_ok r q1 h1
        obtain ⟨p2, v2, rfl, s2, w2⟩ := seqM_ok r q2 h2
        exact .inr (.inr (.inr ⟨p1, p2, v1, v2, rfl, rfl, s1, s2, by rw [sz_eq, ← w1.length, ← w2.length]; exact hc, got.lst r (w1.app w2)⟩))
      · cases e
    · cases e
theorem op2_mul : Op2 G X (binaryOp .Mult) g_mul := op2_of (op_mul.or op_rep) fun S h H0 a b t x y Q r q1 q2 e got => by
  unfold g_mul at e
  have e64 : (2 : Int) ^ 64 = 18446744073709551616 := by decide
  split at e
  · split at e
    · rename_i hc
      cases e
      refine .inl ⟨_, _, q1.int_inv, q2.int_inv, ?_, got.here r (.int _)⟩
      rcases hc with hc | hc
      · left; rw [e64]; omega
      · right; rw [e64]; omega
    · cases e
  · split at e
    · rename_i l hl
      split at e
      · rename_i hc
        cases e
        obtain ⟨p1, v1, rfl, s1, w1⟩ := seqM_ok r q1 hl
        have e63 : (2 : Int) ^ 63 = 9223372036854775808 := by decide
        exact .inr ⟨p1, _, v1, rfl, q2.int_inv, s1, by rw [e63]; omega, by rw [e63]; omega, by rw [sz_eq, ← w1.length]; exact hc.2, got.lst r (w1.flat _)⟩
      · cases e
    · cases e
  · cases e
end
end Bz
set_option Elab.async false
set_option linter.all false
set_option maxRecDepth 100000
namespace Bz
open PySem PySem.Spec PyProof.Rows L2

/-! ### results as plain data -/
def omap (f : D → Option PyData) : List D → Option (List PyData)
  | [] => some []
  | d :: l => match f d, omap f l with
    | some a, some b => some (a :: b)
    | _, _ => none
def datF (h : List O) : Nat → D → Option PyData
  | _, .non => some .none
  | _, .bl b => some (.bool b)
  | _, .int i => some (.int i)
  | _, .str s => some (.str s)
  | n + 1, .tup l => (omap (datF h n) l).map .tuple
  | n + 1, .fl l => (omap (datF h n) l).map .list
  | n + 1, .ref i => match h[i]? with
    | some (.lst l) => (omap (datF h n) l).map .list
    | _ => none
  | 0, _ => none
def datT (h : List O) : T → Option PyData
  | .v d => datF h 8 d
  | .tl l => (omap (datF h 7) l).map .list
  | _ => none

theorem omap_plain {f : D → Option PyData} (hf : ∀ d p, f d = some p → p.plain = true) : ∀ {l : List D} {ps : List PyData}, omap f l = some ps → PyData.plainAll ps = true
  | [], ps, e => by cases e; rfl
  | d :: l, ps, e => by
    simp only [omap] at e
    split at e
    · rename_i a b ha hb
      cases e
      rw [PyData.plainAll, hf _ _ ha, omap_plain hf hb]; rfl
    · cases e
theorem omap_depth {f : D → Option PyData} {n : Nat} (hf : ∀ d p, f d = some p → p.depth ≤ n) : ∀ {l : List D} {ps : List PyData}, omap f l = some ps → PyData.depthAll ps ≤ n
  | [], ps, e => by cases e; exact Nat.zero_le _
  | d :: l, ps, e => by
    simp only [omap] at e
    split at e
    · rename_i a b ha hb
      cases e
      rw [PyData.depthAll]
      exact Nat.max_le.mpr ⟨hf _ _ ha, omap_depth hf hb⟩
    · cases e
theorem datF_ok {h : List O} : ∀ (n : Nat) (d : D) (p : PyData), datF h n d = some p → p.plain = true ∧ p.depth ≤ n
  | n, .non, p, e => by cases n <;> (cases e; exact ⟨rfl, Nat.zero_le _⟩)
  | n, .bl b, p, e => by cases n <;> (cases e; exact ⟨rfl, Nat.zero_le _⟩)
  | n, .int b, p, e => by cases n <;> (cases e; exact ⟨rfl, Nat.zero_le _⟩)
  | n, .str b, p, e => by cases n <;> (cases e; exact ⟨rfl, Nat.zero_le _⟩)
  | 0, .tup l, p, e => by cases e
  | 0, .fl l, p, e => by cases e
  | 0, .ref l, p, e => by cases e
  | n + 1, .tup l, p, e => by
    simp only [datF, Option.map_eq_some_iff] at e
    obtain ⟨ps, e, rfl⟩ := e
    exact ⟨by rw [PyData.plain]; exact omap_plain (fun d p q => (datF_ok n d p q).1) e, by rw [PyData.depth]; exact Nat.succ_le_succ (omap_depth (fun d p q => (datF_ok n d p q).2) e)⟩
  | n + 1, .fl l, p, e => by
    simp only [datF, Option.map_eq_some_iff] at e
    obtain ⟨ps, e, rfl⟩ := e
    exact ⟨by rw [PyData.plain]; exact omap_plain (fun d p q => (datF_ok n d p q).1) e, by rw [PyData.depth]; exact Nat.succ_le_succ (omap_depth (fun d p q => (datF_ok n d p q).2) e)⟩
  | n + 1, .ref i, p, e => by
    simp only [datF] at e
    split at e
    · rw [Option.map_eq_some_iff] at e
      obtain ⟨ps, e, rfl⟩ := e
      exact ⟨by rw [PyData.plain]; exact omap_plain (fun d p q => (datF_ok n d p q).1) e, by rw [PyData.depth]; exact Nat.succ_le_succ (omap_depth (fun d p q => (datF_ok n d p q).2) e)⟩
    · cases e
theorem datT_ok {h : List O} {t : T} {p : PyData} (e : datT h t = some p) : p.plain = true ∧ p.depth ≤ 8 := by
  cases t with
  | v d => exact datF_ok 8 d p e
  | tl l =>
    simp only [datT, Option.map_eq_some_iff] at e
    obtain ⟨ps, e, rfl⟩ := e
    exact ⟨by rw [PyData.plain]; exact omap_plain (fun d p q => (datF_ok 7 d p q).1) e, by rw [PyData.depth]; exact Nat.succ_le_succ (omap_depth (fun d p q => (datF_ok 7 d p q).2) e)⟩
  | _ => cases e
section
variable {G : Gl} {h : List O} {S : Wd}
theorem omap_dp {f : D → Option PyData} (hf : ∀ d x p, RV G.K S d x → f d = some p → Dp G.K S.H x p) : ∀ {l : List D} {xs : List V} {ps : List PyData}, RVs G.K S l xs → omap f l = some ps → DpAll G.K S.H xs ps
  | [], _, ps, .nil, e => by cases e; exact .nil
  | d :: l, _, ps, .cons a b, e => by
    simp only [omap] at e
    split at e
    · rename_i p q hp hq
      cases e
      exact .cons (hf _ _ _ a hp) (omap_dp hf b hq)
    · cases e
theorem datF_dp (r : RH G h S) : ∀ (n : Nat) (d : D) (x : V) (p : PyData), RV G.K S d x → datF h n d = some p → Dp G.K S.H x p
  | n, .non, x, p, q, e => by cases q; cases n <;> (cases e; exact .non)
  | n, .bl b, x, p, q, e => by cases q; cases n <;> (cases e; exact .bl b)
  | n, .int b, x, p, q, e => by cases q; cases n <;> (cases e; exact .int b)
  | n, .str b, x, p, q, e => by cases q; cases n <;> (cases e; exact .str b)
  | 0, .tup l, x, p, q, e => by cases e
  | 0, .fl l, x, p, q, e => by cases e
  | 0, .ref l, x, p, q, e => by cases e
  | n + 1, .tup l, x, p, q, e => by
    simp only [datF, Option.map_eq_some_iff] at e
    obtain ⟨ps, e, rfl⟩ := e
    cases q with
    | tup q1 q2 => exact .tup q1.sq (omap_dp (fun d x p => datF_dp r n d x p) q2 e)
  | n + 1, .fl l, x, p, q, e => by
    simp only [datF, Option.map_eq_some_iff] at e
    obtain ⟨ps, e, rfl⟩ := e
    cases q with
    | fl q1 q2 => exact .lst q1.sq (omap_dp (fun d x p => datF_dp r n d x p) q2 e)
  | n + 1, .ref i, x, p, q, e => by
    simp only [datF] at e
    split at e
    · rename_i l hl
      rw [Option.map_eq_some_iff] at e
      obtain ⟨ps, e, rfl⟩ := e
      cases q with
      | ref hi =>
        obtain ⟨vs, h1, h2⟩ := r.obj _ _ hl
        exact .lst (SqL.of h1) (omap_dp (fun d x p => datF_dp r n d x p) h2 e)
    · cases e
theorem datT_dp {H0 : Hp} {t : T} {x : V} {p : PyData} (r : RH G h S) (q : RT G H0 S t x) (e : datT h t = some p) : Dp G.K S.H x p := by
  cases q with
  | v q => exact datF_dp r 8 _ _ _ q e
  | tl a b c d =>
    simp only [datT, Option.map_eq_some_iff] at e
    obtain ⟨ps, e, rfl⟩ := e
    exact .lst (SqL.of a) (omap_dp (fun d x p => datF_dp r 7 d x p) b e)
  | tk a b c d => cases e
  | tt a b c d => cases e
  | rg a c d => cases e
end

/-! ### == != is, order, in -/
def g_eq (a b : T) (h : List O) : Option T :=
  match datT h a, datT h b with
  | some p, some q => some (tB (PyData.eqv p q))
  | _, _ => none
def g_ne (a b : T) (h : List O) : Option T :=
  match datT h a, datT h b with
  | some p, some q => some (tB (!PyData.eqv p q))
  | _, _ => none
def isNon : T → Bool
  | .v .non => true
  | _ => false
def g_is (a b : T) (_ : List O) : Option T := if isNon b then some (tB (isNon a)) else none
def g_isn (a b : T) (_ : List O) : Option T := if isNon b then some (tB (!isNon a)) else none
def g_int (f : Int → Int → Bool) (a b : T) (_ : List O) : Option T :=
  match a, b with
  | .v (.int i), .v (.int j) => some (tB (f i j))
  | _, _ => none
abbrev g_lt := g_int fun i j => decide (i < j)
abbrev g_le := g_int fun i j => decide (i ≤ j)
abbrev g_gt := g_int fun i j => decide (j < i)
abbrev g_ge := g_int fun i j => decide (j ≤ i)
/-- keys -/
def keyD : D → Option Key
  | .int i => some (.inl i)
  | .str s => some (.inr s)
  | _ => none
def keysD : List D → Option (List Key)
  | [] => some []
  | d :: l => match keyD d, keysD l with
    | some k, some r => some (k :: r)
    | _, _ => none
def keyT : T → Option Key
  | .v d => keyD d
  | _ => none
def keyU : T → Option (List Key)
  | .v (.tup l) => keysD l
  | _ => none
def lkup {κ : Type} [DecidableEq κ] : List (κ × D) → κ → Option D
  | [], _ => none
  | p :: l, k => if p.1 = k then some p.2 else lkup l k
def dicK (h : List O) : T → Option (List (Key × D))
  | .tk l => some l
  | .v (.ref i) => match h[i]? with
    | some (.dk l) => some l
    | some (.dkf l) => some l
    | _ => none
  | _ => none
def dicU (h : List O) : T → Option (List (List Key × D))
  | .tt l => some l
  | .v (.ref i) => match h[i]? with
    | some (.dt l) => some l
    | some (.dtf l) => some l
    | _ => none
  | _ => none
/-- what a dict holds at a key -/
def dicG (h : List O) (d k : T) : Option (Option D) :=
  match dicK h d with
  | some l => (keyT k).map (lkup l)
  | none => match dicU h d with
    | some l => (keyU k).map (lkup l)
    | none => none
def inSeq (h : List O) (l : List D) (a : T) : Option Bool :=
  match omap (datF h 7) l, datT h a with
  | some ps, some p => some (ps.any fun y => PyData.eqv y p)
  | _, _ => none
/-- a in b -/
def memT (a b : T) (h : List O) : Option Bool :=
  match seqL h b with
  | some l => inSeq h l a
  | none => match b with
    | .v (.tup l) => inSeq h l a
    | .v (.str z) => match a with
      | .v (.str y) => match y.cps.toList with
        | [c] => some (decide (c ∈ z.cps.toList))
        | _ => none
      | _ => none
    | b => (dicG h b a).map (·.isSome)
def g_in (a b : T) (h : List O) : Option T := (memT a b h).map fun k => tB k
def g_nin (a b : T) (h : List O) : Option T := (memT a b h).map fun k => tB (!k)

section
variable {G : Gl} {X : Cx}
theorem op2_eq (hK : X.K = G.K) (hu : X.A.units + 64 < cLine) : Op2 G X (compareOp .Eq) g_eq := by
  intro pins s σ H x y v u Q I rx ry z
  obtain ⟨S, h, H0, a, b, t, e, r, q1, q2, _, ht, got⟩ := z
  subst e
  unfold g_eq at ht
  split at ht
  · rename_i p q hp hq
    cases ht
    obtain ⟨as, r1⟩ := Dp.reads I p x v (by rw [hK]; exact datT_dp r q1 hp) rx
    obtain ⟨bs, r2⟩ := Dp.reads I q y u (by rw [hK]; exact datT_dp r q2 hq) ry
    have d1 := (datT_ok hp).2
    exact SeqAt.eq_plain r1 r2 (datT_ok hp).1 (datT_ok hq).1 (by omega) ⟨.bl _, S.H, I, rfl, got.here r (.bl _)⟩
  · cases ht
theorem op2_ne (hK : X.K = G.K) (hu : X.A.units + 64 < cLine) : Op2 G X (compareOp .NotEq) g_ne := by
  intro pins s σ H x y v u Q I rx ry z
  obtain ⟨S, h, H0, a, b, t, e, r, q1, q2, _, ht, got⟩ := z
  subst e
  unfold g_ne at ht
  split at ht
  · rename_i p q hp hq
    cases ht
    obtain ⟨as, r1⟩ := Dp.reads I p x v (by rw [hK]; exact datT_dp r q1 hp) rx
    obtain ⟨bs, r2⟩ := Dp.reads I q y u (by rw [hK]; exact datT_dp r q2 hq) ry
    have d1 := (datT_ok hp).2
    exact SeqAt.ne_plain r1 r2 (datT_ok hp).1 (datT_ok hq).1 (by omega) ⟨.bl _, S.H, I, rfl, got.here r (.bl _)⟩
  · cases ht
theorem isNon_ok {H0 : Hp} {S : Wd} {t : T} {x : V} (q : RT G H0 S t x) : decide (x = .non) = isNon t := by
  cases q with
  | v q => cases q <;> simp [isNon]
  | tl => simp [isNon]
  | tk => simp [isNon]
  | tt => simp [isNon]
  | rg => simp [isNon]
theorem op2_is : Op2 G X (compareOp .Is) g_is := op2_of op_isN fun S h H0 a b t x y Q r q1 q2 e got => by
  unfold g_is at e
  split at e
  · rename_i hb
    cases e
    have e2 := isNon_ok q2
    rw [hb] at e2
    refine ⟨of_decide_eq_true e2, ?_⟩
    rw [isNon_ok q1]
    exact got.here r (.bl _)
  · cases e
theorem op2_isn : Op2 G X (compareOp .IsNot) g_isn := op2_of op_notN fun S h H0 a b t x y Q r q1 q2 e got => by
  unfold g_isn at e
  split at e
  · rename_i hb
    cases e
    have e2 := isNon_ok q2
    rw [hb] at e2
    refine ⟨of_decide_eq_true e2, ?_⟩
    rw [isNon_ok q1]
    exact got.here r (.bl _)
  · cases e
theorem op2_cmpI {op : CmpOp} {f : Int → Int → Bool} (ho : OpR X (compareOp op) (rI0 fun i j => .bl (f i j))) : Op2 G X (compareOp op) (g_int f) := op2_of ho fun S h H0 a b t x y Q r q1 q2 e got => by
  unfold g_int at e
  split at e
  · cases e
    exact ⟨_, _, q1.int_inv, q2.int_inv, got.here r (.bl _)⟩
  · cases e
theorem keyD_ok {S : Wd} {d : D} {x : V} {k : Key} (q : RV G.K S d x) (e : keyD d = some k) : x = kV k := by
  cases q with
  | int i => cases e; rfl
  | str i => cases e; rfl
  | _ => cases e
theorem keysD_ok {S : Wd} : ∀ {l : List D} {xs : List V} {ks : List Key}, RVs G.K S l xs → keysD l = some ks → xs = ks.map kV
  | [], _, ks, .nil, e => by cases e; rfl
  | d :: l, _, ks, .cons a b, e => by
    simp only [keysD] at e
    split at e
    · rename_i k r hk hr
      cases e
      rw [keyD_ok a hk, keysD_ok b hr]; rfl
    · cases e
theorem RKs.val {κ : Type} [DecidableEq κ] {S : Wd} (k : κ) : ∀ {l : List (κ × D)} {vs : List (κ × V)}, RKs G S l vs →
    (lkup l k = none ∧ valV vs k = none) ∨ ∃ d v, lkup l k = some d ∧ valV vs k = some v ∧ RV G.K S d v
  | _, _, .nil => .inl ⟨rfl, rfl⟩
  | _, _, .cons (a := p) (b := q) a b => by
    by_cases e : p.1 = k
    · exact .inr ⟨p.2, q.2, by simp [lkup, e], valV_pos (a.1.symm.trans e), a.2⟩
    · rw [lkup, if_neg e, valV_neg (fun z => e (a.1.trans z))]
      exact RKs.val k b
theorem dicK_ok {S : Wd} {h : List O} {H0 : Hp} {t : T} {x : V} {l : List (Key × D)} (r : RH G h S) (q : RT G H0 S t x) (e : dicK h t = some l) : ∃ a vs, x = .ref a ∧ Rd S.H a (.dK vs) ∧ RKs G S l vs := by
  cases q with
  | tk a b c d => cases e; exact ⟨_, _, rfl, .inl a, b⟩
  | v q =>
    cases q with
    | @ref i hi =>
      simp only [dicK] at e
      split at e
      · rename_i l' hl
        cases e
        obtain ⟨vs, h1, h2⟩ := r.obj _ _ hl
        exact ⟨_, vs, rfl, .inl h1, h2⟩
      · rename_i l' hl
        cases e
        obtain ⟨o, vs, h1, h2⟩ := r.obj _ _ hl
        exact ⟨_, vs, rfl, .inr ⟨o, h1⟩, h2⟩
      · cases e
    | _ => cases e
  | _ => cases e
theorem dicU_ok {S : Wd} {h : List O} {H0 : Hp} {t : T} {x : V} {l : List (List Key × D)} (r : RH G h S) (q : RT G H0 S t x) (e : dicU h t = some l) : ∃ a vs, x = .ref a ∧ Rd S.H a (.dT vs) ∧ RKs G S l vs := by
  cases q with
  | tt a b c d => cases e; exact ⟨_, _, rfl, .inl a, b⟩
  | v q =>
    cases q with
    | @ref i hi =>
      simp only [dicU] at e
      split at e
      · rename_i l' hl
        cases e
        obtain ⟨vs, h1, h2⟩ := r.obj _ _ hl
        exact ⟨_, vs, rfl, .inl h1, h2⟩
      · rename_i l' hl
        cases e
        obtain ⟨o, vs, h1, h2⟩ := r.obj _ _ hl
        exact ⟨_, vs, rfl, .inr ⟨o, h1⟩, h2⟩
      · cases e
    | _ => cases e
  | _ => cases e
/-- what the dict holds, as the layer says it -/
theorem dicG_ok {S : Wd} {h : List O} {H0 H1 : Hp} {d k : T} {x y : V} {o : Option D} (r : RH G h S) (q : RT G H0 S d x) (q2 : RT G H1 S k y) (e : dicG h d k = some o) :
    ∃ a v, x = .ref a ∧ DGet S.H a y v ∧ ((o = none ∧ v = none) ∨ ∃ d' v', o = some d' ∧ v = some v' ∧ RV G.K S d' v') := by
  unfold dicG at e
  split at e
  · rename_i l hl
    rw [Option.map_eq_some_iff] at e
    obtain ⟨key, hk, e⟩ := e
    obtain ⟨a, vs, rfl, h1, h2⟩ := dicK_ok r q hl
    have ey : y = kV key := by
      cases k with
      | v k => cases q2 with | v q2 => exact keyD_ok q2 hk
      | _ => cases hk
    refine ⟨a, valV vs key, rfl, .inl ⟨vs, key, h1, ey, rfl⟩, ?_⟩
    rw [← e]
    exact h2.val key
  · split at e
    · rename_i l hl
      rw [Option.map_eq_some_iff] at e
      obtain ⟨key, hk, e⟩ := e
      obtain ⟨a, vs, rfl, h1, h2⟩ := dicU_ok r q hl
      cases k with
      | v k =>
        cases q2 with
        | v q2 =>
          cases q2 with
          | tup t1 t2 =>
            have ey := keysD_ok t2 hk
            subst ey
            refine ⟨a, valV vs key, rfl, .inr ⟨vs, key, _, h1, rfl, t1, rfl⟩, ?_⟩
            rw [← e]
            exact h2.val key
          | _ => cases hk
      | _ => cases hk
    · cases e
theorem isSome_of {S : Wd} {o : Option D} {v : Option V} (z : (o = none ∧ v = none) ∨ ∃ d' v', o = some d' ∧ v = some v' ∧ RV G.K S d' v') : v.isSome = o.isSome := by
  rcases z with ⟨rfl, rfl⟩ | ⟨d', v', rfl, rfl, _⟩ <;> rfl
end
end Bz
set_option Elab.async false
set_option linter.all false
set_option maxRecDepth 100000
namespace Bz
open PySem PySem.Spec PyProof.Rows L2
section
variable {G : Gl} {X : Cx}
theorem inSeq_ok {h : List O} {l : List D} {a : T} {k : Bool} (e : inSeq h l a = some k) : ∃ ps p, omap (datF h 7) l = some ps ∧ datT h a = some p ∧ k = ps.any fun y => PyData.eqv y p := by
  unfold inSeq at e
  split at e
  · rename_i ps p h1 h2
    cases e
    exact ⟨ps, p, h1, h2, rfl⟩
  · cases e
theorem mem_core (hK : X.K = G.K) (hu : X.A.units + 64 < cLine) {pins : List (Addr × Obj)} {σ : L2.St} {s : Shared} {S : Wd} {h : List O} {H0 : Hp} {a b : T} {x y : V} {u v : Value} {k : Bool}
    (I : Inv X pins σ S.H s) (r : RH G h S) (q1 : RT G H0 S a x) (q2 : RT G H0 S b y) (rx : RelV x v) (ry : RelV y u) (e : memT a b h = some k) :
    (∀ Q : Value → Shared → Prop, (∀ s', Inv X pins σ S.H s' → Q (.bool k) s') → wpAny (model X.prog X.w) X.A (compareOp .In v u) Q X.xe s) ∧
    (∀ Q : Value → Shared → Prop, (∀ s', Inv X pins σ S.H s' → Q (.bool (!k)) s') → wpAny (model X.prog X.w) X.A (compareOp .NotIn v u) Q X.xe s) := by
  unfold memT at e
  split at e
  · rename_i l hl
    obtain ⟨ps, p, h1, h2, rfl⟩ := inSeq_ok e
    obtain ⟨ad, vs, rfl, s1, w1⟩ := seqL_ok r q2 hl
    obtain ⟨as, r1⟩ := Dp.reads I p x v (by rw [hK]; exact datT_dp r q1 h2) rx
    obtain ⟨bs, r2⟩ := Dp.reads I (.list ps) (.ref ad) u (by rw [hK]; exact .lst s1 (omap_dp (fun d x p => datF_dp r 7 d x p) w1 h1)) ry
    have d1 := (datT_ok h2).2
    have pl : PyData.plainAll ps = true := omap_plain (fun d p q => (datF_ok 7 d p q).1) h1
    exact ⟨fun Q f => SeqAt.in_list_data r2 r1 pl (datT_ok h2).1 (by omega) (f s I), fun Q f => SeqAt.notIn_list_data r2 r1 pl (datT_ok h2).1 (by omega) (f s I)⟩
  · split at e
    · rename_i l
      obtain ⟨ps, p, h1, h2, rfl⟩ := inSeq_ok e
      obtain ⟨ad, vs, rfl, s1, w1, _⟩ := seqT_ok q2 rfl
      obtain ⟨as, r1⟩ := Dp.reads I p x v (by rw [hK]; exact datT_dp r q1 h2) rx
      obtain ⟨bs, r2⟩ := Dp.reads I (.tuple ps) (.ref ad) u (by rw [hK]; exact .tup s1 (omap_dp (fun d x p => datF_dp r 7 d x p) w1 h1)) ry
      have d1 := (datT_ok h2).2
      have pl : PyData.plainAll ps = true := omap_plain (fun d p q => (datF_ok 7 d p q).1) h1
      exact ⟨fun Q f => SeqAt.in_tuple_data r2 r1 pl (datT_ok h2).1 (by omega) (f s I), fun Q f => SeqAt.notIn_tuple_data r2 r1 pl (datT_ok h2).1 (by omega) (f s I)⟩
    · rename_i zz hz
      split at e
      · rename_i yy
        split at e
        · rename_i c hc
          cases e
          have e1 := q1.str_inv
          have e2 := q2.str_inv
          subst e1
          subst e2
          have ey : yy = ⟨#[c]⟩ := by
            obtain ⟨cs⟩ := yy
            have hc' : cs.toList = [c] := hc
            have : cs = #[c] := by
              rw [← Array.toArray_toList (xs := cs), hc']
            rw [this]
          subst ey
          refine ⟨fun Q f => ?_, fun Q f => ?_⟩
          · refine thn (op_in_sign pins s σ S.H _ _ v u (fun w H => w = .bl (decide (c ∈ zz.cps.toList)) ∧ H = S.H) I rx ry ⟨c, zz, rfl, rfl, rfl, rfl⟩) fun w s' ⟨w', H', I', rw', ew, eH⟩ => ?_
            subst ew eH
            cases rw'
            exact f s' I'
          · refine thn (op_notIn_sign pins s σ S.H _ _ v u (fun w H => w = .bl (!decide (c ∈ zz.cps.toList)) ∧ H = S.H) I rx ry ⟨c, zz, rfl, rfl, rfl, rfl⟩) fun w s' ⟨w', H', I', rw', ew, eH⟩ => ?_
            subst ew eH
            cases rw'
            exact f s' I'
        · cases e
      · cases e
    · rw [Option.map_eq_some_iff] at e
      obtain ⟨o, e, rfl⟩ := e
      obtain ⟨ad, vv, rfl, dg, z⟩ := dicG_ok r q2 q1 e
      cases (show u = Value.ref ad from ry)
      have ei := isSome_of z
      exact ⟨fun Q f => d_in (by omega) I dg rx fun s' I' => by rw [ei]; exact f s' I', fun Q f => d_notIn (by omega) I dg rx fun s' I' => by rw [ei]; exact f s' I'⟩
theorem op2_in (hK : X.K = G.K) (hu : X.A.units + 64 < cLine) : Op2 G X (compareOp .In) g_in := by
  intro pins s σ H x y v u Q I rx ry z
  obtain ⟨S, h, H0, a, b, t, e, r, q1, q2, _, ht, got⟩ := z
  subst e
  simp only [g_in, Option.map_eq_some_iff] at ht
  obtain ⟨k, e, rfl⟩ := ht
  exact (mem_core hK hu I r q1 q2 rx ry e).1 _ fun s' I' => ⟨.bl k, S.H, I', rfl, got.here r (.bl _)⟩
theorem op2_nin (hK : X.K = G.K) (hu : X.A.units + 64 < cLine) : Op2 G X (compareOp .NotIn) g_nin := by
  intro pins s σ H x y v u Q I rx ry z
  obtain ⟨S, h, H0, a, b, t, e, r, q1, q2, _, ht, got⟩ := z
  subst e
  simp only [g_nin, Option.map_eq_some_iff] at ht
  obtain ⟨k, e, rfl⟩ := ht
  exact (mem_core hK hu I r q1 q2 rx ry e).2 _ fun s' I' => ⟨.bl (!k), S.H, I', rfl, got.here r (.bl _)⟩
end

/-! ### tests -/
def truT (h : List O) : T → Option Bool
  | .v .non => some false
  | .v (.bl b) => some b
  | .v (.int i) => some (i != 0)
  | .v (.str s) => if s.length ≤ SZ then some ((s.length : Int) != 0) else none
  | .v (.tup l) => some (!l.isEmpty)
  | .v (.fl l) => some (!l.isEmpty)
  | .v (.ref i) => match h[i]? with
    | some (.lst l) => some (!l.isEmpty)
    | some (.dk l) => some (!l.isEmpty)
    | _ => none
  | .tl l => some (!l.isEmpty)
  | .tk l => some (!l.isEmpty)
  | _ => none
abbrev Ec := List (Option D) → List O → R Bool
def optB (h : List O) : Option Bool → R Bool
  | some t => .ok t h
  | none => .bad
def ecT (f : Ev) : Ec := fun r h => (f r h).bind fun t h1 => optB h1 (truT h1 t)
/-- a comparison as a test -/
def boT : T → Option Bool
  | .v (.bl b) => some b
  | _ => none
def ecB (f : Ev) : Ec := fun r h => (f r h).bind fun t h1 => optB h1 (boT t)
def ecAnd (f g : Ec) : Ec := fun r h => (f r h).bind fun b h1 => if b then g r h1 else .ok false h1
def ecOr (f g : Ec) : Ec := fun r h => (f r h).bind fun b h1 => if b then .ok true h1 else g r h1
def ecNot (f : Ec) : Ec := fun r h => (f r h).bind fun b h1 => .ok (!b) h1
def evIf (c : Ec) (f g : Ev) : Ev := fun r h => (c r h).bind fun b h1 => if b then f r h1 else g r h1
/-- a test's answer as a value -/
def evB (c : Ec) : Ev := fun r h => (c r h).bind fun b h1 => .ok (tB b) h1

section
variable {G : Gl} {X : Cx} {W : WX}
theorem isEmpty_rvs {K : PySem.W.Frag} {S : Wd} {l : List D} {vs : List V} (q : RVs K S l vs) : l.isEmpty = vs.isEmpty := by cases q <;> rfl
theorem isEmpty_rks {κ : Type} {S : Wd} {l : List (κ × D)} {vs : List (κ × V)} (q : RKs G S l vs) : l.isEmpty = vs.isEmpty := by cases q <;> rfl
theorem truT_ok (hK : X.K = G.K) {S : Wd} {h : List O} {H0 : Hp} {t : T} {x : V} {k : Bool} (r : RH G h S) (q : RT G H0 S t x) (e : truT h t = some k) : TruV X.K x S.H k := by
  cases q with
  | tl a b c d => cases e; exact .inl ⟨_, SqL.of a, by rw [isEmpty_rvs b]⟩
  | tk a b c d => cases e; exact .inr (.inr ⟨_, a, by rw [isEmpty_rks b]⟩)
  | tt a b c d => cases e
  | rg a c d => cases e
  | v q =>
    cases q with
    | non => cases e; rfl
    | bl b => cases e; rfl
    | int i => cases e; rfl
    | str z =>
      simp only [truT] at e
      split at e
      · rename_i hz; cases e; exact ⟨by rw [sz_eq]; exact hz, rfl⟩
      · cases e
    | tup q1 q2 => cases e; exact .inr (.inl ⟨_, by rw [hK]; exact q1.sq, by rw [isEmpty_rvs q2]⟩)
    | fl q1 q2 => cases e; exact .inl ⟨_, by rw [hK]; exact q1.sq, by rw [isEmpty_rvs q2]⟩
    | @ref i hi =>
      simp only [truT] at e
      split at e
      · rename_i l hl
        cases e
        obtain ⟨vs, h1, h2⟩ := r.obj _ _ hl
        exact .inl ⟨vs, SqL.of h1, by rw [isEmpty_rvs h2]⟩
      · rename_i l hl
        cases e
        obtain ⟨vs, h1, h2⟩ := r.obj _ _ hl
        exact .inr (.inr ⟨vs, h1, by rw [isEmpty_rks h2]⟩)
      · cases e
theorem sc_truth (hK : X.K = G.K) {e : Expr} {f : Ev} (hf : SE G X W f e) (he : ∀ whole, isTrue e X.env whole = (do let v ← whole; standAt e.pos; holding [v] (truthy v))) : SC G X W (ecT f) e := by
  refine PT.imp (pt_truth hf he) fun s H Q ⟨S, r, h, e, q, z, p⟩ => ?_
  subst e
  refine ⟨S, r, h, rfl, q, z, PO.step p fun S1 h1 t x e1 r1 z1 p1 => ?_⟩
  cases ht : truT h1 t with
  | none => rw [ht] at p1; exact p1.elim
  | some k =>
    rw [ht] at p1
    exact ⟨k, truT_ok hK r1 z1 ht, p1 S1 k (Ext.refl S1) r1 rfl⟩
theorem bl_of {S1 : Wd} {H : Hp} {h1 : List O} {t : T} {x : V} {Q : Bool → Hp → Prop} {E : XK} (r1 : RH G h1 S1) (z1 : RT G H S1 t x)
    (p : PO G (rB G) E S1 Q (optB h1 (boT t))) : ∃ k, x = .bl k ∧ Q k S1.H := by
  cases z1 with
  | v q =>
    cases q with
    | bl b => exact ⟨b, rfl, p S1 b (Ext.refl S1) r1 rfl⟩
    | _ => exact p.elim
  | _ => exact p.elim
theorem se_tTest {f : Ev} {s : L2.St} {H : Hp} {Q : Bool → Hp → Prop} (p : rd G (rB G) W (ecB f) s H Q) : tTest (rd G (rT G) W f) s H Q := by
  obtain ⟨S, r, h, e, q, z, p⟩ := p
  subst e
  exact ⟨S, r, h, rfl, q, z, PO.step p fun S1 h1 t x e1 r1 z1 p1 => bl_of r1 z1 p1⟩
theorem sc_cmp {op : CmpOp} {g : T → T → List O → Option T} {a b : Expr} {fa fb : Ev} {pos : Pos} (ho : Op2 G X (compareOp op) g) (ha : SE G X W fa a) (hb : SE G X W fb b) (hm : behindInMarks op b = false) : SC G X W (ecB (ev2 g fa fb)) (.Compare a [op] [b] pos) := by
  refine PT.imp (pt_cmpR ho ha hb hm) fun s H Q p => ?_
  have p' := se_tTest p
  exact se_two (fun _ _ _ _ z => z) p'
theorem sc_and1 {a : Expr} {f : Ec} {pos : Pos} (ha : SC G X W f a) : PW X (.BoolOp .And [a] pos) (rd G (rB G) W f) := pw_and1 ha
theorem sc_or1 {a : Expr} {f : Ec} {pos : Pos} (ha : SC G X W f a) : PW X (.BoolOp .Or [a] pos) (rd G (rB G) W f) := pw_or1 ha
theorem PW.imp {e : Expr} {t t' : TT} (h : PW X e t) (q : ∀ s H Q, t' s H Q → t s H Q) : PW X e t' := ⟨fun wh pins s σ H Q I z => h.run wh pins s σ H Q I (q _ _ _ z)⟩
theorem sc_and {a b : Expr} {rest : List Expr} {f g : Ec} {pos : Pos} (ha : SC G X W f a) (hb : PW X (.BoolOp .And (b :: rest) pos) (rd G (rB G) W g)) : PW X (.BoolOp .And (a :: b :: rest) pos) (rd G (rB G) W (ecAnd f g)) := by
  refine PW.imp (pw_and ha hb) fun s H Q ⟨S, r, h, e, q, z, p⟩ => ?_
  subst e
  refine ⟨S, r, h, rfl, q, z, PO.step p fun S1 h1 t x e1 r1 z1 p1 => ?_⟩
  cases (show t = x from z1)
  cases t with
  | true => exact ⟨S1, r, h1, rfl, r1, z.ext q e1, p1⟩
  | false => exact p1 S1 false (Ext.refl S1) r1 rfl
theorem sc_or {a b : Expr} {rest : List Expr} {f g : Ec} {pos : Pos} (ha : SC G X W f a) (hb : PW X (.BoolOp .Or (b :: rest) pos) (rd G (rB G) W g)) : PW X (.BoolOp .Or (a :: b :: rest) pos) (rd G (rB G) W (ecOr f g)) := by
  refine PW.imp (pw_or ha hb) fun s H Q ⟨S, r, h, e, q, z, p⟩ => ?_
  subst e
  refine ⟨S, r, h, rfl, q, z, PO.step p fun S1 h1 t x e1 r1 z1 p1 => ?_⟩
  cases (show t = x from z1)
  cases t with
  | false => exact ⟨S1, r, h1, rfl, r1, z.ext q e1, p1⟩
  | true => exact p1 S1 true (Ext.refl S1) r1 rfl
theorem sc_not {a : Expr} {f : Ec} {pos : Pos} (ha : SC G X W f a) : SC G X W (ecNot f) (.UnaryOp .Not a pos) := by
  refine PT.imp (pt_not ha) fun s H Q ⟨S, r, h, e, q, z, p⟩ => ?_
  subst e
  refine ⟨S, r, h, rfl, q, z, PO.step p fun S1 h1 t x e1 r1 z1 p1 => ?_⟩
  cases (show t = x from z1)
  exact p1 S1 _ (Ext.refl S1) r1 rfl
theorem se_if {c a b : Expr} {fc : Ec} {fa fb : Ev} {pos : Pos} (hc : SC G X W fc c) (ha : SE G X W fa a) (hb : SE G X W fb b) : SE G X W (evIf fc fa fb) (.IfExp c a b pos) := by
  refine PE.imp (pe_ifExp hc ha hb) fun s H Q ⟨S, r, h, e, q, z, p⟩ => ?_
  subst e
  refine ⟨S, r, h, rfl, q, z, PO.step p fun S1 h1 t x e1 r1 z1 p1 => ?_⟩
  cases (show t = x from z1)
  cases t with
  | true => exact ⟨S1, r, h1, rfl, r1, z.ext q e1, p1⟩
  | false => exact ⟨S1, r, h1, rfl, r1, z.ext q e1, p1⟩
/-- and, or, not as values: of truth values -/
def evAndV (f g : Ev) : Ev := fun r h => (f r h).bind fun t h1 => match t with
  | .v (.bl true) => g r h1
  | .v (.bl false) => .ok (tB false) h1
  | _ => .bad
def evOrV (f g : Ev) : Ev := fun r h => (f r h).bind fun t h1 => match t with
  | .v (.bl true) => .ok (tB true) h1
  | .v (.bl false) => g r h1
  | _ => .bad
def evNotV (f : Ev) : Ev := fun r h => (f r h).bind fun t h1 => match t with
  | .v (.bl b) => .ok (tB (!b)) h1
  | _ => .bad
theorem se_one {a : Expr} {op : BoolOp} {f : Ev} {pos : Pos} (ha : SE G X W f a) : SE G X W f (.BoolOp op [a] pos) := pe_one ha
theorem se_and {a b : Expr} {rest : List Expr} {f g : Ev} {pos : Pos} (ha : SE G X W f a) (hb : SE G X W g (.BoolOp .And (b :: rest) pos)) : SE G X W (evAndV f g) (.BoolOp .And (a :: b :: rest) pos) := by
  refine PE.imp (pe_and ha hb) fun s H Q ⟨S, r, h, e, q, z, p⟩ => ?_
  subst e
  refine ⟨S, r, h, rfl, q, z, PO.step p fun S1 h1 t x e1 r1 z1 p1 => ?_⟩
  cases z1 with
  | v z1 =>
    cases z1 with
    | bl b =>
      cases b with
      | true => exact ⟨true, rfl, S1, r, h1, rfl, r1, z.ext q e1, p1⟩
      | false => exact ⟨false, rfl, p1 S1 _ (Ext.refl S1) r1 (.v (.bl false))⟩
    | _ => exact p1.elim
  | _ => exact p1.elim
theorem se_or {a b : Expr} {rest : List Expr} {f g : Ev} {pos : Pos} (ha : SE G X W f a) (hb : SE G X W g (.BoolOp .Or (b :: rest) pos)) : SE G X W (evOrV f g) (.BoolOp .Or (a :: b :: rest) pos) := by
  refine PE.imp (pe_or ha hb) fun s H Q ⟨S, r, h, e, q, z, p⟩ => ?_
  subst e
  refine ⟨S, r, h, rfl, q, z, PO.step p fun S1 h1 t x e1 r1 z1 p1 => ?_⟩
  cases z1 with
  | v z1 =>
    cases z1 with
    | bl b =>
      cases b with
      | false => exact ⟨false, rfl, S1, r, h1, rfl, r1, z.ext q e1, p1⟩
      | true => exact ⟨true, rfl, p1 S1 _ (Ext.refl S1) r1 (.v (.bl true))⟩
    | _ => exact p1.elim
  | _ => exact p1.elim
theorem se_not {a : Expr} {f : Ev} {pos : Pos} (ha : SE G X W f a) : SE G X W (evNotV f) (.UnaryOp .Not a pos) := by
  refine PE.imp (pe_not ha) fun s H Q ⟨S, r, h, e, q, z, p⟩ => ?_
  subst e
  refine ⟨S, r, h, rfl, q, z, PO.step p fun S1 h1 t x e1 r1 z1 p1 => ?_⟩
  cases z1 with
  | v z1 =>
    cases z1 with
    | bl b => exact ⟨b, rfl, p1 S1 _ (Ext.refl S1) r1 (.v (.bl _))⟩
    | _ => exact p1.elim
  | _ => exact p1.elim
def evNeg (f : Ev) : Ev := fun r h => (f r h).bind fun t h1 => match t with
  | .v (.int i) => .ok (tI (-i)) h1
  | _ => .bad
theorem se_neg {a : Expr} {f : Ev} {pos : Pos} (ha : SE G X W f a) : SE G X W (evNeg f) (.UnaryOp .USub a pos) := by
  refine PE.imp (pe_un un_neg ha) fun s H Q ⟨S, r, h, e, q, z, p⟩ => ?_
  subst e
  refine ⟨S, r, h, rfl, q, z, PO.step p fun S1 h1 t x e1 r1 z1 p1 => ?_⟩
  cases z1 with
  | v z1 =>
    cases z1 with
    | int i => exact ⟨i, rfl, p1 S1 _ (Ext.refl S1) r1 (.v (.int _))⟩
    | _ => exact p1.elim
  | _ => exact p1.elim
/-- a < b < c -/
def evChn (g g' : T → T → List O → Option T) (fa fb fc : Ev) : Ev := fun r h => (fa r h).bind fun a h1 => (fb r h1).bind fun b h2 => match g a b h2 with
  | some (.v (.bl true)) => (fc r h2).bind fun c h3 => opt h3 (g' b c h3)
  | some (.v (.bl false)) => .ok (tB false) h2
  | _ => .bad
theorem se_chnR {op op' : CmpOp} {g g' : T → T → List O → Option T} {fa fb fc : Ev} (ho : Op2 G X (compareOp op) g) (ho' : Op2 G X (compareOp op') g') {s : L2.St} {H : Hp} {Q : VK}
    (p : rd G (rT G) W (evChn g g' fa fb fc) s H Q) : tChain (fun x y H Q => ∃ S h H0 a b t, S.H = H ∧ RH G h S ∧ RT G H0 S a x ∧ RT G H0 S b y ∧ (∀ c, bare H c = none → H0 c = none) ∧ g a b h = some t ∧ Got G h S t Q)
      (fun x y H Q => ∃ S h H0 a b t, S.H = H ∧ RH G h S ∧ RT G H0 S a x ∧ RT G H0 S b y ∧ (∀ c, bare H c = none → H0 c = none) ∧ g' a b h = some t ∧ Got G h S t Q) (rd G (rT G) W fa) (rd G (rT G) W fb) (rd G (rT G) W fc) s H Q := by
  obtain ⟨S, r, h, e, q, z, p⟩ := p
  subst e
  refine ⟨S, r, h, rfl, q, z, PO.step p fun S1 h1 ta x e1 r1 z1 p1 => ⟨S1, r, h1, rfl, r1, z.ext q e1, PO.step p1 fun S2 h2 tb y e2 r2 z2 p2 => ?_⟩⟩
  cases hg : g ta tb h2 with
  | none => rw [hg] at p2; exact p2.elim
  | some t =>
    rw [hg] at p2
    refine ⟨S2, h2, S.B, ta, tb, t, rfl, r2, z1.ext r1 e2, RT.from e1.dm z2, (e1.trans e2).dm, hg, ?_⟩
    intro S3 w e3 r3 z3
    cases z3 with
    | v z3 =>
      cases z3 with
      | bl b =>
        refine ⟨b, rfl, ?_⟩
        cases b with
        | false => exact p2 S3 _ e3 r3 (.v (.bl false))
        | true =>
          refine ⟨S3, r, h2, rfl, r3, ((z.ext q e1).ext r1 e2).ext r2 e3, PO.step (PO.later e3 p2) fun S4 h4 tc w e4 r4 z4 p4 => ?_⟩
          obtain ⟨t', ht, got⟩ := PO.opt p4
          exact ⟨S4, h4, S1.B, tb, tc, t', rfl, r4, (z2.ext r2 e3).ext r3 e4, RT.from (e2.trans e3).dm z4, (e2.trans (e3.trans e4)).dm, ht, got⟩
      | _ => exact p2.elim
    | _ => exact p2.elim
theorem se_chn {op op' : CmpOp} {g g' : T → T → List O → Option T} {a b c : Expr} {fa fb fc : Ev} {pos : Pos} (ho : Op2 G X (compareOp op) g) (ho' : Op2 G X (compareOp op') g') (ha : SE G X W fa a) (hb : SE G X W fb b) (hc : SE G X W fc c)
    (hm : lastMarks [op, op'] [b, c] = false) : SE G X W (evChn g g' fa fb fc) (.Compare a [op, op'] [b, c] pos) :=
  PE.imp (pe_chain ho ho' ha hb hc hm) fun s H Q p => se_chnR ho ho' p
theorem sc_chn {op op' : CmpOp} {g g' : T → T → List O → Option T} {a b c : Expr} {fa fb fc : Ev} {pos : Pos} (ho : Op2 G X (compareOp op) g) (ho' : Op2 G X (compareOp op') g') (ha : SE G X W fa a) (hb : SE G X W fb b) (hc : SE G X W fc c)
    (hm : lastMarks [op, op'] [b, c] = false) : SC G X W (ecB (evChn g g' fa fb fc)) (.Compare a [op, op'] [b, c] pos) :=
  PT.imp (pt_chain ho ho' ha hb hc hm) fun s H Q p => se_chnR ho ho' (se_tTest p)
end
end Bz
set_option Elab.async false
set_option linter.all false
set_option maxRecDepth 100000
namespace L2
open PySem PySem.Spec PyProof.Rows
/-! calls, what is raised wished for at the caller's slots: the forms that the layer lacks -/
section
variable {X : Cx} {CX : CXT} {k : Nat} {f C : Addr} {fd : FuncData} {ps : List Str} {sp : Sp} {E : St → XK} {x m : Str} {p pos apos : Pos} {e o : Expr} {es : List Expr} {ta : TE} {t : TA}
theorem zpe_call0S (F : FnOk X.prog X.w X.K X.mg X.base CX k f fd ps sp) (hr : Room k X.A) (hg : Gl X x) (hm : X.mg x = some (.ref f)) (hk : PySem.W.keepIn X.K (.ref f) = true) (hb : Binds X.K fd ps []) (hx : ∀ σ, PassesAt CX X σ (E σ))
    (hdb : (x == ("__debug__" : Str)) = false) : PE X (.Call (.Name x p) [] [] pos) (tCallS sp E tNil) := by
  refine ⟨fun pins s σ H Q I h => ?_⟩
  refine wpAny_Call_Name_kw (ld_glob I hg hm ?_ hdb)
  exact PySem.W.callWith_K0 I.kIn hk (run_fnS (us := []) F hr hb (hx σ) I .nil h)
theorem zrun_makeS {pins : List (Addr × Obj)} {σ : St} {H : Hp} {s : Shared} {Q : VK} {us : List Value} {vs : List V} (M : Mk X.K C f) (F : FnOk X.prog X.w X.K X.mg X.base CX k f fd ps sp) (hr : Room (k + 1) X.A) (hb : Binds X.K fd ps [])
    (hx : PassesAt CX X σ (E σ)) (I : Inv X pins σ H s) (r : Vals vs us)
    (h : ∀ x dx, H x = none → H dx = none → dx ≠ x → sp (.ref x :: vs) (upd (upd H dx (.own x)) x (.ins C dx [])) (fun v H2 => v = .non ∧ Q (.ref x) H2) (E σ)) :
    wpAny (model X.prog X.w) X.A (call (.ref C) us) (EP X pins σ Q) X.xe s := by
  have hq := h (s.heap.objs.size + 1) s.heap.objs.size (I.hok.fresh (Nat.le_succ _)) (I.hok.fresh (Nat.le_refl _)) (Nat.ne_of_lt (Nat.lt_succ_self _))
  have I2 := Inv.made (C := C) I
  have r2 : Vals (V.ref (s.heap.objs.size + 1) :: vs) (Value.ref (s.heap.objs.size + 1) :: us) := .cons rfl r
  have hl : (Value.ref (s.heap.objs.size + 1) :: us ++ []).length = ps.length := by
    have e := r2.length
    rw [F.len _ _ _ _ hq] at e
    rw [List.append_nil]
    exact e.symm
  have hb' := hb _ (Value.ref (s.heap.objs.size + 1) :: us) I2.kIn hl
  rw [List.append_nil] at hb'
  refine wpAny_call (make_map (f := f) I.kIn M.makes M.init (beq_iff_eq.mp M.fn) (codeAny_mono (F.run _ X.stack _ _ ⟨Value.ref (s.heap.objs.size + 1) :: us, []⟩ (Value.ref (s.heap.objs.size + 1) :: us) _ _ (E σ) (hr.make C us [])
    (I2.env0.make C us []) hb' r2 hq) fun r s' hq' => ?_))
  cases r with
  | error e => exact hx pins _ _ e s' I2 hq'
  | ok fl =>
    cases fl with
    | ret u =>
      obtain ⟨v, H', I3, rv, ev, q3⟩ := I2.after hq'
      subst ev
      exact ⟨rv, ⟨V.ref (s.heap.objs.size + 1), H', I3, rfl, q3⟩⟩
    | next => exact False.elim hq'
    | brk => exact False.elim hq'
    | cont => exact False.elim hq'
def ztMakeS (C : Addr) (sp : Sp) (E : St → XK) (t : TA) : TE := fun σ H Q => t σ H fun vs H1 => ∀ x dx, H1 x = none → H1 dx = none → dx ≠ x →
  sp (.ref x :: vs) (upd (upd H1 dx (.own x)) x (.ins C dx [])) (fun v H2 => v = .non ∧ Q (.ref x) H2) (E σ)
theorem zpe_makeS (M : Mk X.K C f) (F : FnOk X.prog X.w X.K X.mg X.base CX k f fd ps sp) (hr : Room (k + 1) X.A) (hg : Gl X x) (hm : X.mg x = some (.ref C)) (hb : Binds X.K fd ps []) (hx : ∀ σ, PassesAt CX X σ (E σ))
    (ha : PA X (e :: es) t) (hdb : (x == ("__debug__" : Str)) = false) (he : starEach (e :: es) X.env = (false, eval e X.env) :: starEach es X.env) (hpl : (backTo pos (starEach es X.env)).any (·.1) = false) :
    PE X (.Call (.Name x p) (e :: es) [] pos) (ztMakeS C sp E t) := by
  refine ⟨fun pins s σ H Q I h => ?_⟩
  refine wpAny_Call_Name_kw (ld_glob I hg hm ?_ hdb)
  refine PySem.W.callWith_K (h₀ := X.base) I.ok.mod.kin M.kp (thn (ha.run pos pins s σ H _ I h) fun us s1 ⟨vs, H1, I1, r, q⟩ => ⟨I1.kIn, ?_⟩) he hpl
  exact zrun_makeS M F hr hb (hx σ) I1 r q
theorem zpe_make0S (M : Mk X.K C f) (F : FnOk X.prog X.w X.K X.mg X.base CX k f fd ps sp) (hr : Room (k + 1) X.A) (hg : Gl X x) (hm : X.mg x = some (.ref C)) (hb : Binds X.K fd ps []) (hx : ∀ σ, PassesAt CX X σ (E σ))
    (hdb : (x == ("__debug__" : Str)) = false) : PE X (.Call (.Name x p) [] [] pos) (ztMakeS C sp E tNil) := by
  refine ⟨fun pins s σ H Q I h => ?_⟩
  refine wpAny_Call_Name_kw (ld_glob I hg hm ?_ hdb)
  exact PySem.W.callWith_K0 I.kIn M.kp (zrun_makeS (us := []) M F hr hb (hx σ) I .nil h)
/-- o.m(e, ..), o an instance of one of several classes: S tells each class's def and its promise -/
structure zMethAt (X : Cx) (CX : CXT) (k : Nat) (m : Str) (C : Addr) (sp : Sp) : Prop where
  cl : Cls X.K C
  of : ∃ (f : Addr) (fd : FuncData) (ps : List Str), Meth X.K C m f ∧ FnOk X.prog X.w X.K X.mg X.base CX k f fd ps sp ∧ Binds X.K fd ps []
def ztMethS (S : Addr → Sp → Prop) (m : Str) (E : St → XK) (ta : TE) (t : TA) : TE := fun σ H Q => ta σ H fun x H1 => ∃ a C dx fs sp, x = .ref a ∧ H1 a = some (.ins C dx fs) ∧ S C sp ∧ fs.lookup m = none ∧
  t σ H1 fun vs H2 => sp (x :: vs) H2 Q (E σ)
theorem zpe_methS {S : Addr → Sp → Prop} {pl : Sem Bool} (he : PE X o ta) (hS : ∀ C sp, S C sp → zMethAt X CX k m C sp) (hr : Room k X.A) (hx : ∀ σ, PassesAt CX X σ (E σ)) (ha : PA X (e :: es) t)
    (hst : starEach (e :: es) X.env = (false, eval e X.env) :: starEach es X.env) (hpl : (backTo pos (starEach es X.env)).any (·.1) = false)
    (ht : eval (.Call (.Attribute o m apos) (e :: es) [] pos) X.env = (do
      let ov ← eval o X.env
      standAt apos.atName
      let (f, first) ← holding [ov] (getMethod ov m pl)
      callWith pos f first (backTo pos (starEach (e :: es) X.env)) (backToKw pos (keywordEach [] X.env)))) :
    PE X (.Call (.Attribute o m apos) (e :: es) [] pos) (ztMethS S m E ta t) := by
  refine ⟨fun pins s σ H Q I h => ?_⟩
  refine PySem.W.methodCall_KW (pl := pl) (thn (he.run pins s σ H _ I h) fun u s1 ⟨x, H1, I1, rx, a, C, dx, fs, sp, ex, ea, hs, l, q⟩ => ?_) ht
  subst ex
  obtain rfl : u = Value.ref a := rx
  obtain ⟨c, f, fd, ps, hm, F, hb⟩ := hS C sp hs
  refine getmeth_ok I1 ea c hm l ?_
  refine PySem.W.callWith_K (first := [.ref a]) (h₀ := X.base) I.ok.mod.kin hm.kp (thn (ha.run pos pins s1 σ H1 _ I1 q) fun us s2 ⟨vs, H2, I2, r, q2⟩ => ⟨I2.kIn, ?_⟩) hst hpl
  exact run_fnS (us := .ref a :: us) (vs := .ref a :: vs) F hr hb (hx σ) I2 (.cons rfl r) q2
theorem zpe_meth0S {S : Addr → Sp → Prop} {pl : Sem Bool} (he : PE X o ta) (hS : ∀ C sp, S C sp → zMethAt X CX k m C sp) (hr : Room k X.A) (hx : ∀ σ, PassesAt CX X σ (E σ))
    (ht : eval (.Call (.Attribute o m apos) [] [] pos) X.env = (do
      let ov ← eval o X.env
      standAt apos.atName
      let (f, first) ← holding [ov] (getMethod ov m pl)
      callWith pos f first (backTo pos (starEach [] X.env)) (backToKw pos (keywordEach [] X.env)))) :
    PE X (.Call (.Attribute o m apos) [] [] pos) (ztMethS S m E ta tNil) := by
  refine ⟨fun pins s σ H Q I h => ?_⟩
  refine PySem.W.methodCall_KW (pl := pl) (thn (he.run pins s σ H _ I h) fun u s1 ⟨x, H1, I1, rx, a, C, dx, fs, sp, ex, ea, hs, l, q⟩ => ?_) ht
  subst ex
  obtain rfl : u = Value.ref a := rx
  obtain ⟨c, f, fd, ps, hm, F, hb⟩ := hS C sp hs
  refine getmeth_ok I1 ea c hm l ?_
  exact PySem.W.callWith_K0 (first := [.ref a]) I1.kIn hm.kp (run_fnS (us := [.ref a]) (vs := [.ref a]) F hr hb (hx σ) I1 (.cons rfl .nil) q)
end
end L2
set_option Elab.async false
set_option linter.all false
set_option maxRecDepth 100000
namespace Bz
open PySem PySem.Spec PyProof.Rows L2

/-! ### an object just made becomes one of ours -/
def alc (t : T) (h : List O) : Option (D × List O) :=
  match t with
  | .v d => some (d, h)
  | .tl l => some (.ref h.length, h ++ [.lst l])
  | .tk l => some (.ref h.length, h ++ [.dk l])
  | .tt l => some (.ref h.length, h ++ [.dt l])
  | .rg _ _ => none
def alcs : List T → List O → Option (List D × List O)
  | [], h => some ([], h)
  | t :: ts, h => match alc t h with
    | some (d, h1) => match alcs ts h1 with
      | some (ds, h2) => some (d :: ds, h2)
      | none => none
    | none => none
def Wd.reg (S : Wd) (a : Addr) : Wd := ⟨S.n + 1, fun i => if i = S.n then a else S.m i, S.H⟩
section
variable {G : Gl} {S : Wd} {h : List O} {a : Addr}
theorem Wd.reg_old {i : Nat} (hi : i < S.n) : (S.reg a).m i = S.m i := if_neg (Nat.ne_of_lt hi)
theorem Wd.reg_new : (S.reg a).m S.n = a := if_pos rfl
mutual
theorem RV.reg : ∀ {d : D} {x : V}, RV G.K S d x → RV G.K (S.reg a) d x
  | _, _, .non => .non
  | _, _, .bl b => .bl b
  | _, _, .int b => .int b
  | _, _, .str b => .str b
  | _, _, .tup q l => .tup q (RVs.reg l)
  | _, _, .fl q l => .fl q (RVs.reg l)
  | _, _, .ref (i := i) hi => by
    rw [← Wd.reg_old (a := a) hi]
    exact .ref (Nat.lt_succ_of_lt hi)
theorem RVs.reg : ∀ {l : List D} {xs : List V}, RVs G.K S l xs → RVs G.K (S.reg a) l xs
  | _, _, .nil => .nil
  | _, _, .cons a b => .cons (RV.reg a) (RVs.reg b)
end
theorem RKs.reg {k : Type} {l : List (k × D)} {xs : List (k × V)} (q : RKs G S l xs) : RKs G (S.reg a) l xs := Paired.mapP q fun _ _ z => ⟨z.1, z.2.reg⟩
theorem RFs.reg {l : List (Nat × D)} {xs : List (Str × V)} (q : RFs G S l xs) : RFs G (S.reg a) l xs := Paired.mapP q fun _ _ z => ⟨z.1, z.2.reg⟩
theorem RO.reg {b : Addr} {o : O} (q : RO G S b o) : RO G (S.reg a) b o := by
  cases o with
  | lst l => obtain ⟨vs, h1, h2⟩ := q; exact ⟨vs, h1, h2.reg⟩
  | dk l => obtain ⟨vs, h1, h2⟩ := q; exact ⟨vs, h1, h2.reg⟩
  | dkf l => obtain ⟨o, vs, h1, h2⟩ := q; exact ⟨o, vs, h1, h2.reg⟩
  | dt l => obtain ⟨vs, h1, h2⟩ := q; exact ⟨vs, h1, h2.reg⟩
  | dtf l => obtain ⟨o, vs, h1, h2⟩ := q; exact ⟨o, vs, h1, h2.reg⟩
  | ins c fs => obtain ⟨dx, vs, h1, h2⟩ := q; exact ⟨dx, vs, h1, h2.reg⟩
theorem RH.reg {o : O} (r : RH G h S) (ha : RO G S a o) (hn : ∀ i, i < S.n → S.m i ≠ a) : RH G (h ++ [o]) (S.reg a) where
  len := by rw [List.length_append, r.len]; rfl
  inj := fun i j hi hj e => by
    have hi : i < S.n + 1 := hi
    have hj : j < S.n + 1 := hj
    by_cases h1 : i < S.n
    · by_cases h2 : j < S.n
      · rw [Wd.reg_old h1, Wd.reg_old h2] at e; exact r.inj i j h1 h2 e
      · have : j = S.n := by omega
        rw [this, Wd.reg_old h1, Wd.reg_new] at e
        exact absurd e (hn i h1)
    · have h1' : i = S.n := by omega
      by_cases h2 : j < S.n
      · rw [h1', Wd.reg_old h2, Wd.reg_new] at e
        exact absurd e.symm (hn j h2)
      · omega
  obj := fun i u hu => by
    by_cases h1 : i < h.length
    · rw [List.getElem?_append_left h1] at hu
      rw [r.len] at h1
      rw [Wd.reg_old h1]
      exact (r.obj i u hu).reg
    · have h2 : i = h.length := by
        have := (List.getElem?_eq_some_iff.mp hu).1
        rw [List.length_append, List.length_singleton] at this
        omega
      rw [h2, List.getElem?_append_right (Nat.le_refl _), Nat.sub_self] at hu
      simp at hu
      subst hu
      rw [h2, r.len, Wd.reg_new]
      exact ha.reg
  tab := r.tab
theorem Ext.reg {S0 : Wd} (e : Ext S0 S) (ha : S0.B a = none) : Ext S0 (S.reg a) where
  le := Nat.le_succ_of_le e.le
  ag := fun i hi => (Wd.reg_old (Nat.lt_of_lt_of_le hi e.le)).trans (e.ag i hi)
  fr := e.fr
  fs := fun i h1 h2 => by
    by_cases h : i < S.n
    · rw [Wd.reg_old h]; exact e.fs i h1 h
    · have h2' : i < S.n + 1 := h2
      have : i = S.n := by omega
      rw [this, Wd.reg_new]; exact ha
  dm := e.dm
def isTmp : T → Bool
  | .v _ => false
  | _ => true
/-- where another object just made stands -/
theorem RT.reg {H0 : Hp} {t : T} {x : V} (q : RT G H0 S t x) (hd : isTmp t = true → x ≠ .ref a) : RT G H0 (S.reg a) t x := by
  have nn : ∀ {b : Addr}, (∀ i, i < S.n → S.m i ≠ b) → V.ref b ≠ .ref a → ∀ i, i < (S.reg a).n → (S.reg a).m i ≠ b := fun {b} h1 h2 i hi e => by
    by_cases h : i < S.n
    · rw [Wd.reg_old h] at e; exact h1 i h e
    · have hi' : i < S.n + 1 := hi
      have : i = S.n := by omega
      rw [this, Wd.reg_new] at e
      exact h2 (by rw [e])
  cases q with
  | v q => exact .v q.reg
  | tl a1 b c d => exact .tl a1 b.reg c (nn d (hd rfl))
  | tk a1 b c d => exact .tk a1 b.reg c (nn d (hd rfl))
  | tt a1 b c d => exact .tt a1 b.reg c (nn d (hd rfl))
  | rg a1 c d => exact .rg a1 c (nn d (hd rfl))
theorem alc_ok {H0 : Hp} {t : T} {x : V} {d : D} {h' : List O} (r : RH G h S) (q : RT G H0 S t x) (ea : alc t h = some (d, h')) :
    ∃ S', RH G h' S' ∧ RV G.K S' d x ∧ (S' = S ∨ ∃ a, x = .ref a ∧ isTmp t = true ∧ H0 a = none ∧ S' = S.reg a) := by
  cases q with
  | v q => cases ea; exact ⟨S, r, q, .inl rfl⟩
  | @tl l vs a b c d1 d2 =>
    cases ea
    refine ⟨S.reg a, r.reg ⟨vs, b, c⟩ d2, ?_, .inr ⟨a, rfl, rfl, d1, rfl⟩⟩
    have z : RV G.K (S.reg a) (.ref S.n) (.ref ((S.reg a).m S.n)) := .ref (Nat.lt_succ_self _)
    rw [Wd.reg_new] at z
    rw [r.len]; exact z
  | @tk l vs a b c d1 d2 =>
    cases ea
    refine ⟨S.reg a, r.reg ⟨vs, b, c⟩ d2, ?_, .inr ⟨a, rfl, rfl, d1, rfl⟩⟩
    have z : RV G.K (S.reg a) (.ref S.n) (.ref ((S.reg a).m S.n)) := .ref (Nat.lt_succ_self _)
    rw [Wd.reg_new] at z
    rw [r.len]; exact z
  | @tt l vs a b c d1 d2 =>
    cases ea
    refine ⟨S.reg a, r.reg ⟨vs, b, c⟩ d2, ?_, .inr ⟨a, rfl, rfl, d1, rfl⟩⟩
    have z : RV G.K (S.reg a) (.ref S.n) (.ref ((S.reg a).m S.n)) := .ref (Nat.lt_succ_self _)
    rw [Wd.reg_new] at z
    rw [r.len]; exact z
  | rg b c d1 => cases ea
end

/-! ### argument lists -/
/-- objects just made are unlike -/
def Far (x : V) : List T → List V → Prop
  | t :: ts, y :: ys => (isTmp t = true → y ≠ x) ∧ Far x ts ys
  | _, _ => True
def Dis : List T → List V → Prop
  | t :: ts, x :: xs => (isTmp t = true → Far x ts xs) ∧ Dis ts xs
  | _, _ => True
def rA (G : Gl) : Rl G (List T) (List V) := ⟨fun H S ts xs => Paired (RT G H S) ts xs ∧ Dis ts xs, fun r e q => ⟨Paired.mapP q.1 fun _ _ z => z.ext r e, q.2⟩, fun h q => ⟨Paired.mapP q.1 fun _ _ z => z.from h, q.2⟩⟩
section
variable {G : Gl} {S S1 : Wd} {h : List O} {a : Addr}
theorem RT.far {H0 : Hp} {t : T} {x : V} (q : RT G H0 S1 t x) (ht : isTmp t = true) : ∃ a o, x = .ref a ∧ S1.B a = some o := by
  cases q with
  | v q => cases ht
  | tl a b c d => exact ⟨_, _, rfl, bare_some a fun _ z => by cases z⟩
  | tk a b c d => exact ⟨_, _, rfl, bare_some a fun _ z => by cases z⟩
  | tt a b c d => exact ⟨_, _, rfl, bare_some a fun _ z => by cases z⟩
  | rg a c d => exact ⟨_, _, rfl, bare_some a fun _ z => by cases z⟩
theorem RT.new {H1 : Hp} {t : T} {x : V} (q : RT G H1 S t x) (ht : isTmp t = true) : ∃ a, x = .ref a ∧ H1 a = none := by
  cases q with
  | v q => cases ht
  | tl a b c d => exact ⟨_, rfl, c⟩
  | tk a b c d => exact ⟨_, rfl, c⟩
  | tt a b c d => exact ⟨_, rfl, c⟩
  | rg a c d => exact ⟨_, rfl, c⟩
theorem far_of {x : V} {o : HO} (ha : x = .ref a) (ho : S1.B a = some o) : ∀ {ts : List T} {xs : List V}, Paired (RT G S1.B S) ts xs → Far x ts xs
  | _, _, .nil => trivial
  | _, _, .cons q r => ⟨fun ht z => by
      obtain ⟨b, e, hb⟩ := q.new ht
      rw [z, ha] at e
      cases e
      rw [ho] at hb
      exact absurd hb (fun w => by cases w), far_of ha ho r⟩
theorem pair_reg {H0 : Hp} {x : V} (ea : x = .ref a) : ∀ {ts : List T} {xs : List V}, Paired (RT G H0 S) ts xs → Far x ts xs → Paired (RT G H0 (S.reg a)) ts xs
  | _, _, .nil, _ => .nil
  | _, _, .cons q r, f => .cons (q.reg fun ht => by rw [← ea]; exact f.1 ht) (pair_reg ea r f.2)
/-- what registering leaves -/
structure Regd (G : Gl) (H0 : Hp) (S S' : Wd) : Prop where
  H : S'.H = S.H
  le : S.n ≤ S'.n
  ag : ∀ i, i < S.n → S'.m i = S.m i
  new : ∀ i, S.n ≤ i → i < S'.n → H0 (S'.m i) = none
  up : ∀ d x, RV G.K S d x → RV G.K S' d x
theorem Regd.ext {S0 S S' : Wd} (q : Regd G S0.B S S') (e : Ext S0 S) : Ext S0 S' where
  le := Nat.le_trans e.le q.le
  ag := fun i hi => (q.ag i (Nat.lt_of_lt_of_le hi e.le)).trans (e.ag i hi)
  fr := fun b o hn hb ho => by rw [q.H]; exact e.fr b o hn hb ho
  fs := fun i h1 h2 => by
    by_cases h : i < S.n
    · rw [q.ag i h]; exact e.fs i h1 h
    · exact q.new i (Nat.le_of_not_lt h) h2
  dm := fun b hb => e.dm b (by show bare S.H b = none; rw [← q.H]; exact hb)
theorem alcs_ok {H0 : Hp} : ∀ {ts : List T} {xs : List V} {S : Wd} {h h' : List O} {ds : List D}, RH G h S → Paired (RT G H0 S) ts xs → Dis ts xs → alcs ts h = some (ds, h') →
    ∃ S', RH G h' S' ∧ RVs G.K S' ds xs ∧ Regd G H0 S S'
  | [], _, S, h, h', ds, r, .nil, _, ea => by cases ea; exact ⟨S, r, .nil, rfl, Nat.le_refl _, fun _ _ => rfl, fun i h1 h2 => absurd (Nat.lt_of_lt_of_le h2 h1) (Nat.lt_irrefl _), fun _ _ z => z⟩
  | t :: ts, _, S, h, h', ds, r, .cons (b := x) (l₂ := xs) q qs, dd, ea => by
    simp only [alcs] at ea
    split at ea
    · rename_i d h1 e1
      split at ea
      · rename_i ds2 h2 e2
        cases ea
        obtain ⟨S1, r1, v1, how⟩ := alc_ok r q e1
        have g1 : Regd G H0 S S1 ∧ Paired (RT G H0 S1) ts xs := by
          rcases how with rfl | ⟨a, ea, ht, hn, rfl⟩
          · exact ⟨⟨rfl, Nat.le_refl _, fun _ _ => rfl, fun i h1 h2 => absurd (Nat.lt_of_lt_of_le h2 h1) (Nat.lt_irrefl _), fun _ _ z => z⟩, qs⟩
          · refine ⟨⟨rfl, Nat.le_succ _, fun i hi => Wd.reg_old hi, fun i h1 h2 => ?_, fun _ _ z => z.reg⟩, pair_reg ea qs (dd.1 ht)⟩
            have h2' : i < S.n + 1 := h2
            have : i = S.n := by omega
            rw [this, Wd.reg_new]; exact hn
        obtain ⟨S2, r2, vs2, g2⟩ := alcs_ok r1 g1.2 dd.2 e2
        refine ⟨S2, r2, .cons (g2.up _ _ v1) vs2, g2.H.trans g1.1.H, Nat.le_trans g1.1.le g2.le, fun i hi => (g2.ag i (Nat.lt_of_lt_of_le hi g1.1.le)).trans (g1.1.ag i hi), fun i h1 h2 => ?_, fun d x z => g2.up _ _ (g1.1.up _ _ z)⟩
        by_cases h : i < S1.n
        · rw [g2.ag i h]; exact g1.1.new i h1 h
        · exact g2.new i (Nat.le_of_not_lt h) h2
      · cases ea
    · cases ea
end
abbrev Ea := List (Option D) → List O → R (List T)
def eaNil : Ea := fun _ h => .ok [] h
def eaCons (f : Ev) (g : Ea) : Ea := fun r h => (f r h).bind fun t h1 => (g r h1).bind fun ts h2 => .ok (t :: ts) h2
abbrev SAs (G : Gl) (X : Cx) (W : WX) (f : Ea) (e : List Expr) : Prop := PA X e (rd G (rA G) W f)
section
variable {G : Gl} {X : Cx} {W : WX}
theorem sa_nil : SAs G X W eaNil [] := PA.imp pa_nil fun s H Q ⟨S, r, h, e, q, z, p⟩ => by subst e; exact p S [] (Ext.refl S) q ⟨.nil, trivial⟩
theorem sa_cons {e : Expr} {es : List Expr} {f : Ev} {g : Ea} (hf : SE G X W f e) (hg : SAs G X W g es) (hs : starEach (e :: es) X.env = (false, eval e X.env) :: starEach es X.env) : SAs G X W (eaCons f g) (e :: es) := by
  refine PA.imp (pa_cons hf hg hs) fun s H Q ⟨S, r, h, e, q, z, p⟩ => ?_
  subst e
  refine ⟨S, r, h, rfl, q, z, PO.stepAt (Ext.refl S) p fun S1 h1 t x e1 r1 z1 p1 => ⟨S1, r, h1, rfl, r1, z.ext q e1, PO.stepAt e1 p1 fun S2 h2 ts xs e2 r2 z2 p2 => ?_⟩⟩
  refine p2 S2 (x :: xs) (e1.trans e2) r2 ⟨.cons (z1.ext r1 e2) (Paired.mapP z2.1 fun _ _ w => RT.from e1.dm w), fun ht => ?_, z2.2⟩
  obtain ⟨a, o, ea, ho⟩ := z1.far ht
  exact far_of ea ho z2.1

/-! ### displays -/
def evTup (f : Ea) : Ev := fun r h => (f r h).bind fun ts h1 => match alcs ts h1 with
  | some (ds, h2) => if ds.length ≤ SZ then .ok (tU ds) h2 else .bad
  | none => .bad
def evLst (f : Ea) : Ev := fun r h => (f r h).bind fun ts h1 => match alcs ts h1 with
  | some (ds, h2) => if ds.length ≤ SZ then .ok (.tl ds) h2 else .bad
  | none => .bad
theorem se_tup {es : List Expr} {f : Ea} {k : Nat} {pos : Pos} (hf : SAs G X W f es) : SE G X W (evTup f) (.Tuple es k pos) := by
  refine PE.imp (pe_tup hf) fun s H Q ⟨S, r, h, e, q, z, p⟩ => ?_
  subst e
  refine ⟨S, r, h, rfl, q, z, PO.stepAt (Ext.refl S) p fun S1 h1 ts xs e1 r1 z1 p1 => ?_⟩
  split at p1
  · rename_i ds h2 ea
    split at p1
    · rename_i hz
      obtain ⟨S2, r2, w2, g2⟩ := alcs_ok r1 z1.1 z1.2 ea
      have e2 := g2.ext e1
      rw [← g2.H]
      refine ⟨by rw [sz_eq, ← w2.length]; exact hz, fun p hp => ?_⟩
      exact p1 (S2.add p (.tup xs)) (.ref p) (e2.trans (Ext.add hp)) (r2.add hp) (.v (.tup upd_same (w2.add r2 hp)))
    · exact p1.elim
  · exact p1.elim
theorem se_lst {es : List Expr} {f : Ea} {pos : Pos} (hf : SAs G X W f es) : SE G X W (evLst f) (.List es pos) := by
  refine PE.imp (pe_lst hf) fun s H Q ⟨S, r, h, e, q, z, p⟩ => ?_
  subst e
  refine ⟨S, r, h, rfl, q, z, PO.stepAt (Ext.refl S) p fun S1 h1 ts xs e1 r1 z1 p1 => ?_⟩
  split at p1
  · rename_i ds h2 ea
    split at p1
    · rename_i hz
      obtain ⟨S2, r2, w2, g2⟩ := alcs_ok r1 z1.1 z1.2 ea
      have e2 := g2.ext e1
      rw [← g2.H]
      refine ⟨by rw [sz_eq, ← w2.length]; exact hz, fun p hp => ?_⟩
      exact p1 (S2.add p (.lst xs)) (.ref p) (e2.trans (Ext.add hp)) (r2.add hp) (.tl upd_same (w2.add r2 hp) (e2.dm p (bare_none hp)) (r2.apart hp))
    · exact p1.elim
  · exact p1.elim
end
end Bz
set_option Elab.async false
set_option linter.all false
set_option maxRecDepth 100000
namespace Bz
open PySem PySem.Spec PyProof.Rows L2

/-! ### equality of objects -/
mutual
def beqD : D → D → Bool
  | .non, .non => true
  | .bl a, .bl b => a == b
  | .int a, .int b => decide (a = b)
  | .str a, .str b => decide (a = b)
  | .tup a, .tup b => beqL a b
  | .fl a, .fl b => beqL a b
  | .ref a, .ref b => Nat.beq a b
  | _, _ => false
def beqL : List D → List D → Bool
  | [], [] => true
  | a :: l, b :: r => beqD a b && beqL l r
  | _, _ => false
end
mutual
theorem beqD_eq : ∀ {a b : D}, beqD a b = true → a = b
  | .non, b, h => by cases b <;> simp [beqD] at h; rfl
  | .bl a, b, h => by cases b <;> simp [beqD] at h; rw [h]
  | .int a, b, h => by cases b <;> simp [beqD] at h; rw [h]
  | .str a, b, h => by cases b <;> simp [beqD] at h; rw [h]
  | .tup a, b, h => by cases b <;> simp [beqD] at h; rw [beqL_eq h]
  | .fl a, b, h => by cases b <;> simp [beqD] at h; rw [beqL_eq h]
  | .ref a, b, h => by cases b <;> simp [beqD] at h; rw [h]
theorem beqL_eq : ∀ {a b : List D}, beqL a b = true → a = b
  | [], b, h => by cases b <;> simp [beqL] at h; rfl
  | a :: l, b, h => by
    cases b with
    | nil => simp [beqL] at h
    | cons b r =>
      simp only [beqL, Bool.and_eq_true] at h
      rw [beqD_eq h.1, beqL_eq h.2]
end
mutual
theorem beqD_self : ∀ a : D, beqD a a = true
  | .non => rfl
  | .bl a => by simp [beqD]
  | .int a => by simp [beqD]
  | .str a => by simp [beqD]
  | .tup a => by rw [beqD]; exact beqL_self a
  | .fl a => by rw [beqD]; exact beqL_self a
  | .ref a => by simp [beqD]
theorem beqL_self : ∀ a : List D, beqL a a = true
  | [] => rfl
  | a :: l => by rw [beqL, beqD_self a, beqL_self l]; rfl
end
def beqP {κ : Type} [DecidableEq κ] : List (κ × D) → List (κ × D) → Bool
  | [], [] => true
  | a :: l, b :: r => decide (a.1 = b.1) && beqD a.2 b.2 && beqP l r
  | _, _ => false
theorem beqP_eq {κ : Type} [DecidableEq κ] : ∀ {a b : List (κ × D)}, beqP a b = true → a = b
  | [], b, h => by cases b <;> simp [beqP] at h; rfl
  | (k, a) :: l, b, h => by
    cases b with
    | nil => simp [beqP] at h
    | cons b r =>
      obtain ⟨k', b⟩ := b
      simp only [beqP, Bool.and_eq_true, decide_eq_true_eq] at h
      rw [h.1.1, beqD_eq h.1.2, beqP_eq h.2]
theorem beqP_self {κ : Type} [DecidableEq κ] : ∀ a : List (κ × D), beqP a a = true
  | [] => rfl
  | (k, a) :: l => by simp [beqP, beqD_self a, beqP_self l]
def beqO : O → O → Bool
  | .lst a, .lst b => beqL a b
  | .dk a, .dk b => beqP a b
  | .dkf a, .dkf b => beqP a b
  | .dt a, .dt b => beqP a b
  | .dtf a, .dtf b => beqP a b
  | .ins c a, .ins d b => Nat.beq c d && beqP a b
  | _, _ => false
theorem beqO_eq {a b : O} (h : beqO a b = true) : a = b := by
  cases a <;> cases b <;> simp [beqO] at h
  · rw [beqL_eq h]
  · rw [beqP_eq h]
  · rw [beqP_eq h]
  · rw [beqP_eq h]
  · rw [beqP_eq h]
  · rw [h.1, beqP_eq h.2]
theorem beqO_self (a : O) : beqO a a = true := by
  cases a <;> simp [beqO, beqL_self, beqP_self]
/-- the heap h stands at the begin of h' -/
def preO : List O → List O → Bool
  | [], _ => true
  | a :: l, b :: r => beqO a b && preO l r
  | _ :: _, [] => false
theorem preO_eq : ∀ {h h' : List O}, preO h h' = true → ∃ r, h' = h ++ r
  | [], h', _ => ⟨h', rfl⟩
  | a :: l, [], e => by simp [preO] at e
  | a :: l, b :: r, e => by
    simp only [preO, Bool.and_eq_true] at e
    obtain ⟨q, e2⟩ := preO_eq e.2
    exact ⟨q, by rw [beqO_eq e.1, e2]; rfl⟩
theorem preO_self (r : List O) : ∀ h : List O, preO h (h ++ r) = true
  | [] => rfl
  | a :: l => by rw [List.cons_append, preO, beqO_self, preO_self r l]; rfl

/-! ### references within -/
mutual
/-- all references below n -/
def lowD (n : Nat) : D → Bool
  | .tup l => lowL n l
  | .fl l => lowL n l
  | .ref i => Nat.blt i n
  | _ => true
def lowL (n : Nat) : List D → Bool
  | [] => true
  | d :: l => lowD n d && lowL n l
end
def lowP {κ : Type} (n : Nat) : List (κ × D) → Bool
  | [] => true
  | p :: l => lowD n p.2 && lowP n l
def lowT (n : Nat) : T → Bool
  | .v d => lowD n d
  | .tl l => lowL n l
  | .tk l => lowP n l
  | .tt l => lowP n l
  | .rg _ _ => true
/-- what is kept between worlds: the numbered addresses, tuples, lists that nobody changes -/
structure Kp (S S' : Wd) : Prop where
  ag : ∀ i, i < S.n → i < S'.n → S'.m i = S.m i
  tp : ∀ b vs, S.H b = some (.tup vs) → S'.H b = some (.tup vs)
  fz : ∀ b o vs, S.H b = some (.frz o (.lst vs)) → S'.H b = some (.frz o (.lst vs))
section
variable {G : Gl} {S S' : Wd}
mutual
/-- a value whose references lie below, in a world that keeps -/
theorem RV.kp (k : Kp S S') : ∀ {d : D} {x : V}, lowD S'.n d = true → RV G.K S d x → RV G.K S' d x
  | _, _, _, .non => .non
  | _, _, _, .bl b => .bl b
  | _, _, _, .int b => .int b
  | _, _, _, .str b => .str b
  | _, _, h, .tup q l => .tup (k.tp _ _ q) (RVs.kp k (by simpa [lowD] using h) l)
  | _, _, h, .fl q l => .fl (q.elim (fun ⟨o, w⟩ => .inl ⟨o, k.fz _ _ _ w⟩) .inr) (RVs.kp k (by simpa [lowD] using h) l)
  | .ref i, _, h, .ref hi => by
    have h' : i < S'.n := by simpa [lowD] using h
    rw [← k.ag i hi h']
    exact .ref h'
theorem RVs.kp (k : Kp S S') : ∀ {l : List D} {xs : List V}, lowL S'.n l = true → RVs G.K S l xs → RVs G.K S' l xs
  | _, _, _, .nil => .nil
  | d :: l, _, h, .cons a b => by
    have h' : lowD S'.n d = true ∧ lowL S'.n l = true := by simpa [lowL] using h
    exact .cons (RV.kp k h'.1 a) (RVs.kp k h'.2 b)
end
mutual
theorem RV.low : ∀ {d : D} {x : V}, RV G.K S d x → lowD S.n d = true
  | _, _, .non => rfl
  | _, _, .bl b => rfl
  | _, _, .int b => rfl
  | _, _, .str b => rfl
  | _, _, .tup q l => by rw [lowD]; exact RVs.low l
  | _, _, .fl q l => by rw [lowD]; exact RVs.low l
  | _, _, .ref hi => by simpa [lowD] using hi
theorem RVs.low : ∀ {l : List D} {xs : List V}, RVs G.K S l xs → lowL S.n l = true
  | _, _, .nil => rfl
  | _, _, .cons a b => by rw [lowL, RV.low a, RVs.low b]; rfl
end
theorem RKs.kp {κ : Type} (k : Kp S S') : ∀ {l : List (κ × D)} {xs : List (κ × V)}, lowP S'.n l = true → RKs G S l xs → RKs G S' l xs
  | _, _, _, .nil => .nil
  | p :: l, _, h, .cons a b => by
    have h' : lowD S'.n p.2 = true ∧ lowP S'.n l = true := by simpa [lowP] using h
    exact .cons ⟨a.1, RV.kp k h'.1 a.2⟩ (RKs.kp k h'.2 b)
theorem RKs.low {κ : Type} : ∀ {l : List (κ × D)} {xs : List (κ × V)}, RKs G S l xs → lowP S.n l = true
  | _, _, .nil => rfl
  | _, _, .cons a b => by rw [lowP, RV.low a.2, RKs.low b]; rfl
theorem RFs.kp (k : Kp S S') : ∀ {l : List (Nat × D)} {xs : List (Str × V)}, lowP S'.n l = true → RFs G S l xs → RFs G S' l xs
  | _, _, _, .nil => .nil
  | p :: l, _, h, .cons a b => by
    have h' : lowD S'.n p.2 = true ∧ lowP S'.n l = true := by simpa [lowP] using h
    exact .cons ⟨a.1, RV.kp k h'.1 a.2⟩ (RFs.kp k h'.2 b)
theorem RFs.low : ∀ {l : List (Nat × D)} {xs : List (Str × V)}, RFs G S l xs → lowP S.n l = true
  | _, _, .nil => rfl
  | _, _, .cons a b => by rw [lowP, RV.low a.2, RFs.low b]; rfl
def lowO (n : Nat) : O → Bool
  | .lst l => lowL n l
  | .dk l => lowP n l
  | .dkf l => lowP n l
  | .dt l => lowP n l
  | .dtf l => lowP n l
  | .ins _ fs => lowP n fs
theorem RO.kp {a : Addr} {o : O} (k : Kp S S') (hl : lowO S'.n o = true) (ha : S'.H a = S.H a) (q : RO G S a o) : RO G S' a o := by
  cases o with
  | lst l => obtain ⟨vs, h1, h2⟩ := q; exact ⟨vs, ha.trans h1, h2.kp k hl⟩
  | dk l => obtain ⟨vs, h1, h2⟩ := q; exact ⟨vs, ha.trans h1, h2.kp k hl⟩
  | dkf l => obtain ⟨o, vs, h1, h2⟩ := q; exact ⟨o, vs, ha.trans h1, h2.kp k hl⟩
  | dt l => obtain ⟨vs, h1, h2⟩ := q; exact ⟨vs, ha.trans h1, h2.kp k hl⟩
  | dtf l => obtain ⟨o, vs, h1, h2⟩ := q; exact ⟨o, vs, ha.trans h1, h2.kp k hl⟩
  | ins c fs => obtain ⟨dx, vs, h1, h2⟩ := q; exact ⟨dx, vs, ha.trans h1, h2.kp k hl⟩
theorem RO.low {a : Addr} {o : O} (q : RO G S a o) : lowO S.n o = true := by
  cases o with
  | lst l => obtain ⟨vs, h1, h2⟩ := q; exact h2.low
  | dk l => obtain ⟨vs, h1, h2⟩ := q; exact h2.low
  | dkf l => obtain ⟨o, vs, h1, h2⟩ := q; exact h2.low
  | dt l => obtain ⟨vs, h1, h2⟩ := q; exact h2.low
  | dtf l => obtain ⟨o, vs, h1, h2⟩ := q; exact h2.low
  | ins c fs => obtain ⟨dx, vs, h1, h2⟩ := q; exact h2.low
mutual
theorem lowD_le {n n' : Nat} (h : n ≤ n') : ∀ d : D, lowD n d = true → lowD n' d = true
  | .non, _ => rfl
  | .bl b, _ => rfl
  | .int b, _ => rfl
  | .str b, _ => rfl
  | .tup l, q => by rw [lowD] at q ⊢; exact lowL_le h l q
  | .fl l, q => by rw [lowD] at q ⊢; exact lowL_le h l q
  | .ref i, q => by
    have q' : i < n := by simpa [lowD] using q
    have : i < n' := Nat.lt_of_lt_of_le q' h
    simpa [lowD] using this
theorem lowL_le {n n' : Nat} (h : n ≤ n') : ∀ l : List D, lowL n l = true → lowL n' l = true
  | [], _ => rfl
  | d :: l, q => by
    rw [lowL, Bool.and_eq_true] at q
    rw [lowL, lowD_le h d q.1, lowL_le h l q.2]; rfl
end
end
end Bz
set_option Elab.async false
set_option linter.all false
set_option maxRecDepth 100000
namespace Bz
open PySem PySem.Spec PyProof.Rows L2

/-! ### calls: in a heap of their own where nothing of ours is handed over, else in ours; what is no one's behind them is let go -/
mutual
def shD (n : Nat) : D → D
  | .tup l => .tup (shL n l)
  | .fl l => .fl (shL n l)
  | .ref i => .ref (n + i)
  | d => d
def shL (n : Nat) : List D → List D
  | [] => []
  | d :: l => shD n d :: shL n l
end
def shP {κ : Type} (n : Nat) : List (κ × D) → List (κ × D)
  | [] => []
  | p :: l => (p.1, shD n p.2) :: shP n l
def shO (n : Nat) : O → O
  | .lst l => .lst (shL n l)
  | .dk l => .dk (shP n l)
  | .dkf l => .dkf (shP n l)
  | .dt l => .dt (shP n l)
  | .dtf l => .dtf (shP n l)
  | .ins c fs => .ins c (shP n fs)
def shT (n : Nat) : T → T
  | .v d => .v (shD n d)
  | .tl l => .tl (shL n l)
  | .tk l => .tk (shP n l)
  | .tt l => .tt (shP n l)
  | .rg a b => .rg a b
/-- a list or dict of the heap, as a value of its own -/
def unT (n : Nat) (h : List O) : T → Option T
  | .v (.ref i) => match h[i]? with
    | some (.lst l) => if Nat.ble n i && lowL n l then some (.tl l) else none
    | some (.dk l) => if Nat.ble n i && lowP n l then some (.tk l) else none
    | some (.dt l) => if Nat.ble n i && lowP n l then some (.tt l) else none
    | _ => none
  | _ => none
def priv (h : List O) : R T → R T
  | .ok t h' => if lowT 0 t then .ok t h else match unT 0 h' t with
    | some t' => .ok t' h
    | none => .ok (shT h.length t) (h ++ h'.map (shO h.length))
  | .ex c fs h' => if lowL 0 fs then .ex c fs h else .bad
  | .bad => .bad
def inpl (h : List O) : R T → R T
  | .ok t h' => if preO h h' then (if lowT h.length t then .ok t h else match unT h.length h' t with
      | some t' => .ok t' h
      | none => .ok t h') else .ok t h'
  | .ex c fs h' => if preO h h' && lowL h.length fs then .ex c fs h else .ex c fs h'
  | .bad => .bad
def callW (c : List D → List O → R T) (ts : List T) (h : List O) : R T :=
  if ts.all (lowT 0) then match alcs ts [] with
    | some (ds, h0) => priv h (c ds h0)
    | none => .bad
  else match alcs ts h with
    | some (ds, h1) => inpl h (c ds h1)
    | none => .bad

section
variable {G : Gl} {S S1 S2 S' : Wd} {h h' : List O} {H0 : Hp} {t : T} {x : V}
theorem Kp.of (S : Wd) (n : Nat) : Kp S ⟨n, S.m, S.H⟩ := ⟨fun _ _ _ => rfl, fun _ _ z => z, fun _ _ _ z => z⟩
/-- a world with fewer numbers -/
theorem RH.cut (r' : RH G h' S') {r : List O} (eh : h' = h ++ r) (hn : h.length ≤ S'.n) (hl : ∀ (i : Nat) (o : O), h[i]? = some o → lowO h.length o = true) : RH G h ⟨h.length, S'.m, S'.H⟩ where
  len := rfl
  inj := fun i j hi hj e => r'.inj i j (Nat.lt_of_lt_of_le hi hn) (Nat.lt_of_lt_of_le hj hn) e
  obj := fun i o ho => by
    have h1 : i < h.length := (List.getElem?_eq_some_iff.mp ho).1
    have q := r'.obj i o (by rw [eh, List.getElem?_append_left h1]; exact ho)
    exact RO.kp (Kp.of S' h.length) (hl i o ho) rfl q
  tab := r'.tab
theorem RT.cut {n : Nat} (hn : n ≤ S.n) (q : RT G H0 S t x) (hl : lowT n t = true) : RT G H0 ⟨n, S.m, S.H⟩ t x := by
  have k := Kp.of S n
  cases q with
  | v q => exact .v (q.kp k hl)
  | tl a b c d => exact .tl a (b.kp k hl) c fun i hi => d i (Nat.lt_of_lt_of_le hi hn)
  | tk a b c d => exact .tk a (b.kp k hl) c fun i hi => d i (Nat.lt_of_lt_of_le hi hn)
  | tt a b c d => exact .tt a (b.kp k hl) c fun i hi => d i (Nat.lt_of_lt_of_le hi hn)
  | rg a c d => exact .rg a c fun i hi => d i (Nat.lt_of_lt_of_le hi hn)
theorem RH.lows (r : RH G h S) : ∀ (i : Nat) (o : O), h[i]? = some o → lowO h.length o = true := fun i o ho => by
  rw [r.len]; exact (r.obj i o ho).low
/-- what unT finds -/
theorem unT_ok {n : Nat} (r : RH G h S) (q : RT G H0 S t x) (e : unT n h t = some T') : ∃ i, t = .v (.ref i) ∧ i < S.n ∧ n ≤ i ∧ x = .ref (S.m i) ∧
    ((∃ l vs, T' = .tl l ∧ S.H (S.m i) = some (.lst vs) ∧ RVs G.K S l vs ∧ lowL n l = true) ∨ (∃ l vs, T' = .tk l ∧ S.H (S.m i) = some (.dK vs) ∧ RKs G S l vs ∧ lowP n l = true) ∨
     (∃ l vs, T' = .tt l ∧ S.H (S.m i) = some (.dT vs) ∧ RKs G S l vs ∧ lowP n l = true)) := by
  cases q with
  | v q =>
    cases q with
    | @ref i hi =>
      simp only [unT] at e
      split at e
      · rename_i l hl
        split at e
        · rename_i low
          cases e
          obtain ⟨vs, h1, h2⟩ := r.obj _ _ hl
          rw [Bool.and_eq_true] at low
          exact ⟨i, rfl, hi, by simpa using low.1, rfl, .inl ⟨l, vs, rfl, h1, h2, low.2⟩⟩
        · cases e
      · rename_i l hl
        split at e
        · rename_i low
          cases e
          obtain ⟨vs, h1, h2⟩ := r.obj _ _ hl
          rw [Bool.and_eq_true] at low
          exact ⟨i, rfl, hi, by simpa using low.1, rfl, .inr (.inl ⟨l, vs, rfl, h1, h2, low.2⟩)⟩
        · cases e
      · rename_i l hl
        split at e
        · rename_i low
          cases e
          obtain ⟨vs, h1, h2⟩ := r.obj _ _ hl
          rw [Bool.and_eq_true] at low
          exact ⟨i, rfl, hi, by simpa using low.1, rfl, .inr (.inr ⟨l, vs, rfl, h1, h2, low.2⟩)⟩
        · cases e
      · cases e
    | _ => cases e
  | _ => cases e

/-- in our own heap -/
theorem inpl_ok {E : XK} {Q : VK} {res : R T} {h1 : List O} (e : Ext S S1) (r : RH G h S1) (g : Regd G S.B S1 S2) (p : PO G (rT G) E S Q (inpl h res)) : PO G (rT G) E S2 Q res := by
  have e2 := g.ext e
  have hn1 : h.length = S1.n := r.len
  have exS : ∀ {S' : Wd}, Ext S2 S' → Ext S ⟨h.length, S'.m, S'.H⟩ := fun {S'} e' => by
    have z := e2.trans e'
    exact ⟨by rw [hn1]; exact e.le, z.ag, z.fr, fun i h1 h2 => z.fs i h1 (Nat.lt_of_lt_of_le h2 (by rw [hn1]; exact Nat.le_trans g.le e'.le)), z.dm⟩
  have low : ∀ {S' : Wd}, Ext S2 S' → h.length ≤ S'.n := fun {S'} e' => by rw [hn1]; exact Nat.le_trans g.le e'.le
  cases res with
  | bad => exact p
  | ex c fs h' =>
    intro S' cls d e' r' z
    simp only [inpl] at p
    split at p
    · rename_i hc
      rw [Bool.and_eq_true] at hc
      obtain ⟨rr, er⟩ := preO_eq hc.1
      refine p ⟨h.length, S'.m, S'.H⟩ cls d (exS e') (r'.cut er (low e') r.lows) ⟨z.1, ?_⟩
      obtain ⟨_, z⟩ := z
      have hf := hc.2
      cases fs with
      | nil => exact z
      | cons f fs =>
        cases fs with
        | nil =>
          obtain ⟨a, y, ed, ha, w⟩ := z
          rw [lowL, Bool.and_eq_true] at hf
          exact ⟨a, y, ed, ha, RV.kp (Kp.of S' h.length) hf.1 w⟩
        | cons _ _ => exact z
    · exact p S' cls d (e2.trans e') r' z
  | ok t h' =>
    intro S' x e' r' z
    have plain : ∀ {t' : T}, PO G (rT G) E S Q (.ok t h') → Q x S'.H := fun {_} p => p S' x (e2.trans e') r' (z.from e2.dm)
    simp only [inpl] at p
    split at p
    · rename_i hp
      obtain ⟨rr, er⟩ := preO_eq hp
      have rc := r'.cut er (low e') r.lows
      split at p
      · rename_i hl
        exact p ⟨h.length, S'.m, S'.H⟩ x (exS e') rc ((RT.cut (low e') z hl).from e2.dm)
      · split at p
        · rename_i t' ht
          · obtain ⟨i, rfl, hi, hi2, rfl, how⟩ := unT_ok r' z ht
            refine p ⟨h.length, S'.m, S'.H⟩ _ (exS e') rc ?_
            have fresh : S.B (S'.m i) = none := by
              by_cases hlt : i < S2.n
              · rw [e'.ag i hlt]
                refine g.new i ?_ hlt
                rw [← hn1]; exact hi2
              · exact e2.dm _ (e'.fs i (Nat.le_of_not_lt hlt) hi)
            have apart : ∀ j, j < h.length → S'.m j ≠ S'.m i := fun j hj q => by
              have := r'.inj j i (Nat.lt_of_lt_of_le hj (low e')) hi q
              rw [this] at hj
              exact absurd (Nat.lt_of_lt_of_le hj hi2) (Nat.lt_irrefl _)
            have k := Kp.of S' h.length
            rcases how with ⟨l, vs, rfl, a, b, c⟩ | ⟨l, vs, rfl, a, b, c⟩ | ⟨l, vs, rfl, a, b, c⟩
            · exact .tl a (b.kp k c) fresh apart
            · exact .tk a (b.kp k c) fresh apart
            · exact .tt a (b.kp k c) fresh apart
        · exact plain (t' := t) p
    · exact plain (t' := t) p
end
end Bz
set_option Elab.async false
set_option linter.all false
set_option maxRecDepth 100000
namespace Bz
open PySem PySem.Spec PyProof.Rows L2
section
variable {G : Gl} {S S1 Sp S' : Wd} {h h' h0 : List O} {H0 : Hp} {t : T} {x : V}
/-- a private world beside ours: its numbers are of objects just made -/
structure Apart (S S1 Sp : Wd) : Prop where
  H : Sp.H = S1.H
  new : ∀ i, i < Sp.n → S.B (Sp.m i) = none ∧ ∀ j, j < S1.n → S1.m j ≠ Sp.m i
theorem Apart.B (ap : Apart S S1 Sp) : Sp.B = S1.B := congrArg bare ap.H
/-- ours, behind what the private one did -/
abbrev Wd.back (S1 S' : Wd) : Wd := ⟨S1.n, S1.m, S'.H⟩
abbrev Wd.both (S1 S' : Wd) : Wd := ⟨S1.n + S'.n, fun i => if i < S1.n then S1.m i else S'.m (i - S1.n), S'.H⟩
theorem Apart.keep (ap : Apart S S1 Sp) (r : RH G h S1) (e' : Ext Sp S') : ∀ i, i < S1.n → S'.H (S1.m i) = S1.H (S1.m i) := fun i hi => by
  obtain ⟨o, ho, nt⟩ := r.there hi
  rw [ho]
  exact e'.fr _ _ (fun j hj z => (ap.new j hj).2 i hi z.symm) (by rw [ap.H]; exact ho) nt
theorem Apart.kp (ap : Apart S S1 Sp) (rp : RH G h0 Sp) (e' : Ext Sp S') : Kp S1 (S1.back S') :=
  ⟨fun _ _ _ => rfl, fun b vs q => e'.fr b _ (fun j hj z => (rp.fixed hj).1 vs (by rw [z, ap.H]; exact q)) (by rw [ap.H]; exact q) fun _ z => (by cases z),
   fun b o vs q => e'.fr b _ (fun j hj z => (rp.fixed hj).2 o vs (by rw [z, ap.H]; exact q)) (by rw [ap.H]; exact q) fun _ z => (by cases z)⟩
theorem Apart.back (ap : Apart S S1 Sp) (r : RH G h S1) (rp : RH G h0 Sp) (e' : Ext Sp S') (r' : RH G h' S') : RH G h (S1.back S') where
  len := r.len
  inj := r.inj
  obj := fun i o ho => by
    have hi : i < S1.n := by rw [← r.len]; exact (List.getElem?_eq_some_iff.mp ho).1
    exact RO.kp (ap.kp rp e') (r.obj i o ho).low (ap.keep r e' i hi) (r.obj i o ho)
  tab := r'.tab
theorem Apart.ext (ap : Apart S S1 Sp) (e : Ext S S1) (e' : Ext Sp S') : Ext S (S1.back S') where
  le := e.le
  ag := e.ag
  fr := fun b o hn hb ho => e'.fr b o (fun j hj z => by rw [← z] at hb; have k := (bare_some hb ho).symm.trans (ap.new j hj).1; cases k) (by rw [ap.H]; exact e.fr b o hn hb ho) ho
  fs := e.fs
  dm := fun b hb => e.dm b (by rw [← ap.B]; exact e'.dm b hb)
theorem Apart.fresh (ap : Apart S S1 Sp) (e : Ext S S1) (e' : Ext Sp S') {i : Nat} (hi : i < S'.n) : S.B (S'.m i) = none := by
  by_cases h : i < Sp.n
  · rw [e'.ag i h]; exact (ap.new i h).1
  · exact e.dm _ (by rw [← ap.B]; exact e'.fs i (Nat.le_of_not_lt h) hi)
theorem Apart.cross (ap : Apart S S1 Sp) (r : RH G h S1) (e' : Ext Sp S') {i j : Nat} (hi : i < S1.n) (hj : j < S'.n) : S1.m i ≠ S'.m j := fun z => by
  by_cases h : j < Sp.n
  · rw [e'.ag j h] at z; exact (ap.new j h).2 i hi z
  · have q := e'.fs j (Nat.le_of_not_lt h) hj
    obtain ⟨o, ho, nt⟩ := r.there hi
    rw [← z, ap.B] at q
    have k := (bare_some ho nt).symm.trans q
    cases k
mutual
theorem RV.sh {n : Nat} {S3 : Wd} (h1 : S3.n = n + S'.n) (h2 : ∀ i, i < S'.n → S3.m (n + i) = S'.m i) (h3 : S3.H = S'.H) : ∀ {d : D} {x : V}, RV G.K S' d x → RV G.K S3 (shD n d) x
  | _, _, .non => .non
  | _, _, .bl b => .bl b
  | _, _, .int b => .int b
  | _, _, .str b => .str b
  | _, _, .tup q l => .tup (by rw [h3]; exact q) (RVs.sh h1 h2 h3 l)
  | _, _, .fl q l => .fl (by rw [h3]; exact q) (RVs.sh h1 h2 h3 l)
  | .ref i, _, .ref hi => by
    have z : RV G.K S3 (.ref (n + i)) (.ref (S3.m (n + i))) := .ref (by rw [h1]; exact Nat.add_lt_add_left hi n)
    rw [h2 i hi] at z
    exact z
theorem RVs.sh {n : Nat} {S3 : Wd} (h1 : S3.n = n + S'.n) (h2 : ∀ i, i < S'.n → S3.m (n + i) = S'.m i) (h3 : S3.H = S'.H) : ∀ {l : List D} {xs : List V}, RVs G.K S' l xs → RVs G.K S3 (shL n l) xs
  | _, _, .nil => .nil
  | _, _, .cons a b => .cons (RV.sh h1 h2 h3 a) (RVs.sh h1 h2 h3 b)
end
theorem RKs.sh {κ : Type} {n : Nat} {S3 : Wd} (h1 : S3.n = n + S'.n) (h2 : ∀ i, i < S'.n → S3.m (n + i) = S'.m i) (h3 : S3.H = S'.H) : ∀ {l : List (κ × D)} {xs : List (κ × V)}, RKs G S' l xs → RKs G S3 (shP n l) xs
  | _, _, .nil => .nil
  | _, _, .cons a b => .cons ⟨a.1, RV.sh h1 h2 h3 a.2⟩ (RKs.sh h1 h2 h3 b)
theorem RFs.sh {n : Nat} {S3 : Wd} (h1 : S3.n = n + S'.n) (h2 : ∀ i, i < S'.n → S3.m (n + i) = S'.m i) (h3 : S3.H = S'.H) : ∀ {l : List (Nat × D)} {xs : List (Str × V)}, RFs G S' l xs → RFs G S3 (shP n l) xs
  | _, _, .nil => .nil
  | _, _, .cons a b => .cons ⟨a.1, RV.sh h1 h2 h3 a.2⟩ (RFs.sh h1 h2 h3 b)
theorem RO.sh {n : Nat} {S3 : Wd} {a : Addr} {o : O} (h1 : S3.n = n + S'.n) (h2 : ∀ i, i < S'.n → S3.m (n + i) = S'.m i) (h3 : S3.H = S'.H) (q : RO G S' a o) : RO G S3 a (shO n o) := by
  cases o with
  | lst l => obtain ⟨vs, a1, a2⟩ := q; exact ⟨vs, by rw [h3]; exact a1, a2.sh h1 h2 h3⟩
  | dk l => obtain ⟨vs, a1, a2⟩ := q; exact ⟨vs, by rw [h3]; exact a1, a2.sh h1 h2 h3⟩
  | dkf l => obtain ⟨o, vs, a1, a2⟩ := q; exact ⟨o, vs, by rw [h3]; exact a1, a2.sh h1 h2 h3⟩
  | dt l => obtain ⟨vs, a1, a2⟩ := q; exact ⟨vs, by rw [h3]; exact a1, a2.sh h1 h2 h3⟩
  | dtf l => obtain ⟨o, vs, a1, a2⟩ := q; exact ⟨o, vs, by rw [h3]; exact a1, a2.sh h1 h2 h3⟩
  | ins c fs => obtain ⟨dx, vs, a1, a2⟩ := q; exact ⟨dx, vs, by rw [h3]; exact a1, a2.sh h1 h2 h3⟩
theorem lowP_le {κ : Type} {n n' : Nat} (h : n ≤ n') : ∀ l : List (κ × D), lowP n l = true → lowP n' l = true
  | [], _ => rfl
  | d :: l, q => by
    rw [lowP, Bool.and_eq_true] at q
    rw [lowP, lowD_le h _ q.1, lowP_le h l q.2]; rfl
theorem lowO_le {n n' : Nat} (h : n ≤ n') : ∀ o : O, lowO n o = true → lowO n' o = true
  | .lst l, q => lowL_le h l q
  | .dk l, q => lowP_le h l q
  | .dkf l, q => lowP_le h l q
  | .dt l, q => lowP_le h l q
  | .dtf l, q => lowP_le h l q
  | .ins c l, q => lowP_le h l q
theorem both_old {i : Nat} (hi : i < S1.n) : (S1.both S').m i = S1.m i := if_pos hi
theorem both_new {i : Nat} : (S1.both S').m (S1.n + i) = S'.m i := by
  show (if S1.n + i < S1.n then _ else _) = _
  rw [if_neg (by omega), Nat.add_sub_cancel_left]
theorem Apart.both (ap : Apart S S1 Sp) (r : RH G h S1) (rp : RH G h0 Sp) (e' : Ext Sp S') (r' : RH G h' S') : RH G (h ++ h'.map (shO h.length)) (S1.both S') where
  len := by rw [List.length_append, List.length_map, r.len, r'.len]
  inj := fun i j hi hj e => by
    have hi : i < S1.n + S'.n := hi
    have hj : j < S1.n + S'.n := hj
    by_cases h1 : i < S1.n
    · by_cases h2 : j < S1.n
      · rw [both_old h1, both_old h2] at e; exact r.inj i j h1 h2 e
      · obtain ⟨k, rfl⟩ := Nat.exists_eq_add_of_le (Nat.le_of_not_lt h2)
        rw [both_old h1, both_new] at e
        exact absurd e (ap.cross r e' h1 (by omega))
    · obtain ⟨k, rfl⟩ := Nat.exists_eq_add_of_le (Nat.le_of_not_lt h1)
      by_cases h2 : j < S1.n
      · rw [both_old h2, both_new] at e
        exact absurd e.symm (ap.cross r e' h2 (by omega))
      · obtain ⟨k', rfl⟩ := Nat.exists_eq_add_of_le (Nat.le_of_not_lt h2)
        rw [both_new, both_new] at e
        rw [r'.inj k k' (by omega) (by omega) e]
  obj := fun i o ho => by
    by_cases h1 : i < h.length
    · rw [List.getElem?_append_left h1] at ho
      have h1' : i < S1.n := by rw [← r.len]; exact h1
      rw [both_old h1']
      have q := (ap.back r rp e' r').obj i o ho
      have k : Kp (S1.back S') (S1.both S') := ⟨fun i hi _ => both_old hi, fun _ _ z => z, fun _ _ _ z => z⟩
      exact RO.kp k (lowO_le (Nat.le_add_right _ _) o q.low) rfl q
    · have h2 := Nat.le_of_not_lt h1
      rw [List.getElem?_append_right h2, List.getElem?_map, Option.map_eq_some_iff] at ho
      obtain ⟨u, hu, rfl⟩ := ho
      have q := r'.obj _ u hu
      have e1 : i = S1.n + (i - h.length) := by rw [← r.len]; omega
      rw [e1, both_new, r.len]
      rw [r.len] at q
      exact q.sh rfl (fun j _ => both_new) rfl
  tab := r'.tab
theorem Apart.extB (ap : Apart S S1 Sp) (e : Ext S S1) (e' : Ext Sp S') : Ext S (S1.both S') where
  le := Nat.le_trans e.le (Nat.le_add_right _ _)
  ag := fun i hi => (both_old (Nat.lt_of_lt_of_le hi e.le)).trans (e.ag i hi)
  fr := (ap.ext e e').fr
  fs := fun i h1 h2 => by
    by_cases h : i < S1.n
    · rw [both_old h]; exact e.fs i h1 h
    · obtain ⟨k, rfl⟩ := Nat.exists_eq_add_of_le (Nat.le_of_not_lt h)
      rw [both_new]
      have h2 : S1.n + k < S1.n + S'.n := h2
      exact ap.fresh e e' (by omega)
  dm := (ap.ext e e').dm
theorem low0_kp {S2 : Wd} (hH : S2.H = S'.H) (h0 : S2.n = 0) : Kp S' S2 := ⟨fun i _ h => absurd h (by rw [h0]; exact Nat.not_lt_zero i), fun _ _ z => by rw [hH]; exact z, fun _ _ _ z => by rw [hH]; exact z⟩
mutual
theorem RV.up0 {S2 S3 : Wd} (hH : S3.H = S2.H) : ∀ {d : D} {x : V}, lowD 0 d = true → RV G.K S2 d x → RV G.K S3 d x
  | _, _, _, .non => .non
  | _, _, _, .bl b => .bl b
  | _, _, _, .int b => .int b
  | _, _, _, .str b => .str b
  | _, _, h, .tup q l => .tup (by rw [hH]; exact q) (RVs.up0 hH (by simpa [lowD] using h) l)
  | _, _, h, .fl q l => .fl (by rw [hH]; exact q) (RVs.up0 hH (by simpa [lowD] using h) l)
  | .ref i, _, h, .ref hi => by
    have : i < 0 := by simpa [lowD] using h
    exact absurd this (Nat.not_lt_zero i)
theorem RVs.up0 {S2 S3 : Wd} (hH : S3.H = S2.H) : ∀ {l : List D} {xs : List V}, lowL 0 l = true → RVs G.K S2 l xs → RVs G.K S3 l xs
  | _, _, _, .nil => .nil
  | d :: l, _, h, .cons a b => by
    have h' : lowD 0 d = true ∧ lowL 0 l = true := by simpa [lowL] using h
    exact .cons (RV.up0 hH h'.1 a) (RVs.up0 hH h'.2 b)
end
theorem RKs.up0 {κ : Type} {S2 S3 : Wd} (hH : S3.H = S2.H) : ∀ {l : List (κ × D)} {xs : List (κ × V)}, lowP 0 l = true → RKs G S2 l xs → RKs G S3 l xs
  | _, _, _, .nil => .nil
  | d :: l, _, h, .cons a b => by
    have h' : lowD 0 d.2 = true ∧ lowP 0 l = true := by simpa [lowP] using h
    exact .cons ⟨a.1, RV.up0 hH h'.1 a.2⟩ (RKs.up0 hH h'.2 b)
theorem RT.up0 {H1 : Hp} {S2 S3 : Wd} (hH : S3.H = S2.H) (hl : lowT 0 t = true) (hf : ∀ a, H1 a = none → H0 a = none ∧ ∀ i, i < S3.n → S3.m i ≠ a) (q : RT G H1 S2 t x) : RT G H0 S3 t x := by
  cases q with
  | v q => exact .v (q.up0 hH hl)
  | tl a b c d => exact .tl (by rw [hH]; exact a) (b.up0 hH hl) (hf _ c).1 (hf _ c).2
  | tk a b c d => exact .tk (by rw [hH]; exact a) (b.up0 hH hl) (hf _ c).1 (hf _ c).2
  | tt a b c d => exact .tt (by rw [hH]; exact a) (b.up0 hH hl) (hf _ c).1 (hf _ c).2
  | rg a c d => exact .rg (by rw [hH]; exact a) (hf _ c).1 (hf _ c).2

theorem priv_ok {E : XK} {Q : VK} {res : R T} (e : Ext S S1) (r : RH G h S1) (rp : RH G h0 Sp) (ap : Apart S S1 Sp) (p : PO G (rT G) E S Q (priv h res)) : PO G (rT G) E Sp Q res := by
  cases res with
  | bad => exact p
  | ex c fs h' =>
    intro S' cls d e' r' z
    simp only [priv] at p
    split at p
    · rename_i hf
      refine p (S1.back S') cls d (ap.ext e e') (ap.back r rp e' r') ⟨z.1, ?_⟩
      obtain ⟨_, z⟩ := z
      cases fs with
      | nil => exact z
      | cons f fs =>
        cases fs with
        | nil =>
          obtain ⟨a, y, ed, ha, w⟩ := z
          rw [lowL, Bool.and_eq_true] at hf
          exact ⟨a, y, ed, ha, RV.up0 (S2 := S') (S3 := S1.back S') rfl hf.1 w⟩
        | cons _ _ => exact z
    · exact p.elim
  | ok t h' =>
    intro S' x e' r' z
    have fr : ∀ a, Sp.B a = none → S.B a = none ∧ ∀ i, i < (S1.back S').n → (S1.back S').m i ≠ a := fun a ha => ⟨e.dm a (by rw [← ap.B]; exact ha), fun i hi q => by
      obtain ⟨o, ho, nt⟩ := r.there hi
      have q' : S1.m i = a := q
      rw [q', ← ap.H] at ho
      have k := (bare_some ho nt).symm.trans ha
      cases k⟩
    simp only [priv] at p
    split at p
    · rename_i hl
      exact p (S1.back S') x (ap.ext e e') (ap.back r rp e' r') (RT.up0 (S2 := S') (S3 := S1.back S') rfl hl fr z)
    · split at p
      · rename_i t' ht
        obtain ⟨i, rfl, hi, _, rfl, how⟩ := unT_ok r' z ht
        refine p (S1.back S') _ (ap.ext e e') (ap.back r rp e' r') ?_
        have f1 := ap.fresh e e' hi
        have f2 : ∀ j, j < (S1.back S').n → (S1.back S').m j ≠ S'.m i := fun j hj => ap.cross r e' hj hi
        rcases how with ⟨l, vs, rfl, a, b, c⟩ | ⟨l, vs, rfl, a, b, c⟩ | ⟨l, vs, rfl, a, b, c⟩
        · exact .tl a (RVs.up0 (S2 := S') (S3 := S1.back S') rfl c b) f1 f2
        · exact .tk a (RKs.up0 (S2 := S') (S3 := S1.back S') rfl c b) f1 f2
        · exact .tt a (RKs.up0 (S2 := S') (S3 := S1.back S') rfl c b) f1 f2
      · refine p (S1.both S') x (ap.extB e e') (ap.both r rp e' r') ?_
        have nn : ∀ {a : Addr}, Sp.B a = none → (∀ i, i < S'.n → S'.m i ≠ a) → S.B a = none ∧ ∀ i, i < (S1.both S').n → (S1.both S').m i ≠ a := fun {a} ha hn => ⟨(fr a ha).1, fun i hi q => by
          by_cases h1 : i < S1.n
          · rw [both_old h1] at q; exact (fr a ha).2 i h1 q
          · obtain ⟨k, rfl⟩ := Nat.exists_eq_add_of_le (Nat.le_of_not_lt h1)
            rw [both_new] at q
            have hi : S1.n + k < S1.n + S'.n := hi
            exact hn k (by omega) q⟩
        rw [r.len]
        cases z with
        | v z => exact .v (z.sh rfl (fun j _ => both_new) rfl)
        | tl a b c d => exact .tl a (b.sh rfl (fun j _ => both_new) rfl) (nn c d).1 (nn c d).2
        | tk a b c d => exact .tk a (b.sh rfl (fun j _ => both_new) rfl) (nn c d).1 (nn c d).2
        | tt a b c d => exact .tt a (b.sh rfl (fun j _ => both_new) rfl) (nn c d).1 (nn c d).2
        | rg a c d => exact .rg a (nn c d).1 (nn c d).2
end
end Bz
set_option Elab.async false
set_option linter.all false
set_option maxRecDepth 100000
set_option autoImplicit false
namespace Bz
open PySem PySem.Spec PyProof.Rows L2
/-- a def as a function on objects -/
abbrev Cl := List D → List O → R T
/-- what a call of it wants -/
def spC (G : Gl) (c : Cl) (np : Nat) : L2.Sp := fun vs H Q E => vs.length = np ∧ ∃ S h ds, S.H = H ∧ RH G h S ∧ RVs G.K S ds vs ∧ PO G (rT G) E S Q (c ds h)
section
variable {G : Gl} {S S1 Sp S' : Wd} {h h' h0 : List O} {H0 : Hp} {t : T} {x : V}
open Classical in
/-- nowhere but at ours -/
noncomputable def offH (S S1 : Wd) : Hp := fun b => if (∃ i, i < S1.n ∧ S1.m i = b) then some (.tup []) else S.B b
theorem offH_none {b : Addr} (q : offH S S1 b = none) : S.B b = none ∧ ∀ i, i < S1.n → S1.m i ≠ b := by
  unfold offH at q
  split at q
  · cases q
  · rename_i hn
    exact ⟨q, fun i hi z => hn ⟨i, hi, z⟩⟩
theorem offH_of {b : Addr} (q : S.B b = none) (hn : ∀ i, i < S1.n → S1.m i ≠ b) : offH S S1 b = none := by
  unfold offH
  rw [if_neg fun ⟨i, hi, z⟩ => hn i hi z]
  exact q
theorem RH.none (r : RH G h S1) : RH G [] ⟨0, S1.m, S1.H⟩ := ⟨rfl, fun i j hi => absurd hi (Nat.not_lt_zero i), fun i o ho => by simp at ho, r.tab⟩
theorem RT.off (q : RT G S.B S1 t x) (hl : lowT 0 t = true) : RT G (offH S S1) ⟨0, S1.m, S1.H⟩ t x := by
  cases q with
  | v q => exact .v (RV.up0 (S2 := S1) (S3 := ⟨0, S1.m, S1.H⟩) rfl hl q)
  | tl a b c d => exact .tl a (RVs.up0 (S2 := S1) (S3 := ⟨0, S1.m, S1.H⟩) rfl hl b) (offH_of c d) fun i hi => absurd hi (Nat.not_lt_zero i)
  | tk a b c d => exact .tk a (RKs.up0 (S2 := S1) (S3 := ⟨0, S1.m, S1.H⟩) rfl hl b) (offH_of c d) fun i hi => absurd hi (Nat.not_lt_zero i)
  | tt a b c d => exact .tt a (RKs.up0 (S2 := S1) (S3 := ⟨0, S1.m, S1.H⟩) rfl hl b) (offH_of c d) fun i hi => absurd hi (Nat.not_lt_zero i)
  | rg a c d => exact .rg a (offH_of c d) fun i hi => absurd hi (Nat.not_lt_zero i)
theorem pair_off : ∀ {ts : List T} {xs : List V}, Paired (RT G S.B S1) ts xs → ts.all (lowT 0) = true → Paired (RT G (offH S S1) ⟨0, S1.m, S1.H⟩) ts xs
  | _, _, .nil, _ => .nil
  | _, _, .cons q r, hl => by
    rw [List.all_cons, Bool.and_eq_true] at hl
    exact .cons (q.off hl.1) (pair_off r hl.2)
theorem callW_ok {E : XK} {Q : VK} {c : List D → List O → R T} {ts : List T} {xs : List V} {np : Nat} (e : Ext S S1) (r : RH G h S1) (z : (rA G).rel S.B S1 ts xs) (hl : xs.length = np)
    (p : PO G (rT G) E S Q (callW c ts h)) : spC G c np xs S1.H Q E := by
  unfold callW at p
  split at p
  · rename_i low
    split at p
    · rename_i ds h0 ha
      obtain ⟨Sp, rp, w, g⟩ := alcs_ok r.none (pair_off z.1 low) z.2 ha
      have ap : Apart S S1 Sp := ⟨g.H, fun i hi => offH_none (g.new i (Nat.zero_le i) hi)⟩
      exact ⟨hl, Sp, h0, ds, g.H, rp, w, priv_ok e r rp ap p⟩
    · exact p.elim
  · split at p
    · rename_i ds h1 ha
      obtain ⟨S2, r2, w, g⟩ := alcs_ok r z.1 z.2 ha
      exact ⟨hl, S2, h1, ds, g.H, r2, w, inpl_ok (h1 := h1) e r g p⟩
    · exact p.elim
end

/-! ### calls by a name -/
def evCall (c : List D → List O → R T) (f : Ea) : Ev := fun r h => (f r h).bind fun ts h1 => callW c ts h1
/-- what a call of a def wants: it keeps its promise at the level k -/
structure CallAt (G : Gl) (X : Cx) (CX : CXT) (k : Nat) (x : Str) (np : Nat) (c : List D → List O → R T) : Prop where
  of : ∃ (f : Addr) (fd : FuncData) (ps : List Str), X.mg x = some (.ref f) ∧ PySem.W.keepIn X.K (.ref f) = true ∧ Binds X.K fd ps [] ∧ ps.length = np ∧ FnOk X.prog X.w X.K X.mg X.base CX k f fd ps (spC G c np)
section
variable {G : Gl} {X : Cx} {W : WX} {CX : CXT} {k : Nat} {x : Str} {np : Nat} {c : List D → List O → R T}
theorem Paired.len {A B : Type} {F : A → B → Prop} : ∀ {l : List A} {r : List B}, Paired F l r → l.length = r.length
  | _, _, .nil => rfl
  | _, _, .cons _ b => by rw [List.length_cons, List.length_cons, Paired.len b]
/-- an argument list of a fixed length -/
def eaLen (n : Nat) (f : Ea) : Prop := ∀ r h, match f r h with
  | .ok ts _ => ts.length = n
  | _ => True
theorem eaLen_nil : eaLen 0 eaNil := fun _ _ => rfl
theorem eaLen_cons {n : Nat} {f : Ev} {g : Ea} (hg : eaLen n g) : eaLen (n + 1) (eaCons f g) := fun r h => by
  unfold eaCons
  cases f r h with
  | bad => trivial
  | ex => trivial
  | ok t h1 =>
    have q := hg r h1
    simp only [R.bind_ok]
    cases e : g r h1 with
    | bad => trivial
    | ex => trivial
    | ok ts h2 => rw [e] at q; simp only [R.bind_ok]; rw [List.length_cons, q]
theorem se_call {e : Expr} {es : List Expr} {f : Ea} {p pos : Pos} (F : CallAt G X CX k x np c) (hr : Room k X.A) (hx : ∀ σ, PassesAt CX X σ (WE W σ)) (hg : L2.Gl X x) (hf : SAs G X W f (e :: es)) (hn : eaLen np f)
    (hdb : (x == ("__debug__" : Str)) = false) (he : starEach (e :: es) X.env = (false, eval e X.env) :: starEach es X.env) (hpl : (backTo pos (starEach es X.env)).any (·.1) = false) : SE G X W (evCall c f) (.Call (.Name x p) (e :: es) [] pos) := by
  obtain ⟨fa, fd, ps, hm, hk, hb, hps, F⟩ := F.of
  refine PE.imp (pe_callS F hr hg hm hk hb hx hf hdb he hpl) fun s H Q ⟨S, r, h, e, q, z, p⟩ => ?_
  subst e
  refine ⟨S, r, h, rfl, q, z, ?_⟩
  have hl := hn r h
  unfold evCall at p
  cases ef : f r h with
  | bad => rw [ef] at p; exact p
  | ex c' fs h' => rw [ef] at p; exact p
  | ok ts h1 =>
    rw [ef] at p hl
    intro S1 xs e1 r1 z1
    exact callW_ok e1 r1 z1 (by rw [← Paired.len z1.1]; exact hl) p
theorem se_call0 {p pos : Pos} (F : CallAt G X CX k x 0 c) (hr : Room k X.A) (hx : ∀ σ, PassesAt CX X σ (WE W σ)) (hg : L2.Gl X x) (hdb : (x == ("__debug__" : Str)) = false) : SE G X W (evCall c eaNil) (.Call (.Name x p) [] [] pos) := by
  obtain ⟨fa, fd, ps, hm, hk, hb, hps, F⟩ := F.of
  refine PE.imp (zpe_call0S F hr hg hm hk hb hx hdb) fun s H Q ⟨S, r, h, e, q, z, p⟩ => ?_
  subst e
  exact callW_ok (ts := []) (Ext.refl S) q ⟨.nil, trivial⟩ rfl p
end
end Bz
set_option Elab.async false
set_option linter.all false
set_option maxRecDepth 100000
set_option autoImplicit false
namespace Bz
open PySem PySem.Spec PyProof.Rows L2

/-! ### built-in functions that change nothing -/
def Fn1 (G : Gl) (X : Cx) (u : Value) (g : List T → List O → Option T) : Prop :=
  CallR X u fun xs H Q => ∃ S h H0 ts t, S.H = H ∧ RH G h S ∧ (rA G).rel H0 S ts xs ∧ (∀ c, bare H c = none → H0 c = none) ∧ g ts h = some t ∧ Got G h S t Q
def evFn (g : List T → List O → Option T) (f : Ea) : Ev := fun r h => (f r h).bind fun ts h1 => opt h1 (g ts h1)
section
variable {G : Gl} {X : Cx} {W : WX}
theorem fn_read {g : List T → List O → Option T} {f : Ea} {s : L2.St} {H : Hp} {Q : VK} (p : rd G (rT G) W (evFn g f) s H Q) :
    rd G (rA G) W f s H fun xs H1 => ∃ S h H0 ts t, S.H = H1 ∧ RH G h S ∧ (rA G).rel H0 S ts xs ∧ (∀ c, bare H1 c = none → H0 c = none) ∧ g ts h = some t ∧ Got G h S t Q := by
  obtain ⟨S, r, h, e, q, z, p⟩ := p
  subst e
  refine ⟨S, r, h, rfl, q, z, PO.step p fun S1 h1 ts xs e1 r1 z1 p1 => ?_⟩
  obtain ⟨t, ht, got⟩ := PO.opt p1
  exact ⟨S1, h1, S.B, ts, t, rfl, r1, z1, e1.dm, ht, got⟩
theorem se_fnB {id : String} {x : Str} {e : Expr} {es : List Expr} {g : List T → List O → Option T} {f : Ea} {p pos : Pos} (hc : Fn1 G X (.builtin id) g) (hg : L2.Gl X x) (hm : X.mg x = none) (hf : SAs G X W f (e :: es)) (hv : bootBuiltins x = some (.builtin id)) (hn : x ≠ "__name__" := by decide) (hdb : (x == ("__debug__" : Str)) = false := by decide)
    (he : starEach (e :: es) X.env = (false, eval e X.env) :: starEach es X.env := by rfl) (hpl : (backTo pos (starEach es X.env)).any (·.1) = false := by rfl) : SE G X W (evFn g f) (.Call (.Name x p) (e :: es) [] pos) :=
  PE.imp (pe_callB hc hg hm hv hf hn hdb he hpl) fun s H Q p => fn_read p
theorem se_fnT {id : String} {x : Str} {e : Expr} {es : List Expr} {g : List T → List O → Option T} {f : Ea} {p pos : Pos} (hc : Fn1 G X (.type id) g) (hg : L2.Gl X x) (hm : X.mg x = none) (hf : SAs G X W f (e :: es)) (hv : bootBuiltins x = some (.type id)) (hn : x ≠ "__name__" := by decide) (hdb : (x == ("__debug__" : Str)) = false := by decide)
    (he : starEach (e :: es) X.env = (false, eval e X.env) :: starEach es X.env := by rfl) (hpl : (backTo pos (starEach es X.env)).any (·.1) = false := by rfl) : SE G X W (evFn g f) (.Call (.Name x p) (e :: es) [] pos) :=
  PE.imp (pe_callTy hc hg hm hv hf hn hdb he hpl) fun s H Q p => fn_read p
/-- one argument -/
def g1 (g : T → List O → Option T) : List T → List O → Option T := fun ts h => match ts with
  | [t] => g t h
  | _ => none
theorem fn1_of {u : Value} {g : T → List O → Option T} {r : List V → Hp → VK → Prop} (hc : CallR X u r)
    (hp : ∀ (S : Wd) (h : List O) (H0 : Hp) (t o : T) (x : V) (Q : VK), RH G h S → RT G H0 S t x → (∀ c, S.B c = none → H0 c = none) → g t h = some o → Got G h S o Q → r [x] S.H Q) : Fn1 G X u (g1 g) := by
  intro pins s σ H xs us Q I rv ⟨S, h, H0, ts, t, e, rr, z, dm, hg, got⟩
  subst e
  refine hc pins s σ S.H xs us Q I rv ?_
  cases z.1 with
  | nil => cases hg
  | cons a b =>
    cases b with
    | nil => exact hp S h H0 _ _ _ Q rr a dm hg got
    | cons _ _ => cases hg
theorem CallR.or {u : Value} {r1 r2 : List V → Hp → VK → Prop} (h1 : CallR X u r1) (h2 : CallR X u r2) : CallR X u fun xs H Q => r1 xs H Q ∨ r2 xs H Q := fun pins s σ H xs us Q I rv h =>
  h.elim (h1 pins s σ H xs us Q I rv) (h2 pins s σ H xs us Q I rv)

/-! ### len, abs, int, str -/
def g_len (t : T) (h : List O) : Option T :=
  match seqL h t with
  | some l => some (tI l.length)
  | none => match t with
    | .v (.tup l) => some (tI l.length)
    | .v (.str s) => if s.length ≤ SZ then some (tI s.length) else none
    | .tk l => some (tI l.length)
    | .tt l => some (tI l.length)
    | .v (.ref i) => match h[i]? with
      | some (.dk l) => some (tI l.length)
      | some (.dt l) => some (tI l.length)
      | _ => none
    | _ => none
theorem RKs.length {κ : Type} {S : Wd} : ∀ {l : List (κ × D)} {xs : List (κ × V)}, RKs G S l xs → l.length = xs.length
  | _, _, .nil => rfl
  | _, _, .cons _ b => by rw [List.length_cons, List.length_cons, RKs.length b]
theorem fn_len (hK : X.K = G.K) : Fn1 G X (.builtin "len") (g1 g_len) := by
  refine fn1_of (CallR.or call_len (CallR.or call_lenD call_len_dT)) fun S h H0 t o x Q r q dm e got => ?_
  unfold g_len at e
  split at e
  · rename_i l hl
    cases e
    obtain ⟨a, vs, rfl, s1, w⟩ := seqL_ok r q hl
    refine .inl ⟨_, vs.length, rfl, .inl ⟨vs, by rw [hK]; exact s1, rfl⟩, ?_⟩
    rw [← w.length]; exact got.here r (.int _)
  · split at e
    · cases e
      obtain ⟨a, vs, rfl, s1, w, _⟩ := seqT_ok q rfl
      refine .inl ⟨_, vs.length, rfl, .inr ⟨vs, by rw [hK]; exact s1, rfl⟩, ?_⟩
      rw [← w.length]; exact got.here r (.int _)
    · split at e
      · rename_i hz
        cases e
        have ex := q.str_inv
        subst ex
        exact .inl ⟨_, _, rfl, ⟨by rw [sz_eq]; exact hz, rfl⟩, got.here r (.int _)⟩
      · cases e
    · cases e
      cases q with
      | tk a b c d =>
        refine .inr (.inl ⟨_, _, rfl, a, ?_⟩)
        rw [← RKs.length b]; exact got.here r (.int _)
    · cases e
      cases q with
      | tt a b c d =>
        refine .inr (.inr ⟨_, _, rfl, a, ?_⟩)
        rw [← RKs.length b]; exact got.here r (.int _)
    · rename_i i hn
      cases q with
      | v q =>
        cases q with
        | ref hi =>
          split at e
          · rename_i l hl
            cases e
            obtain ⟨vs, h1, h2⟩ := r.obj _ _ hl
            refine .inr (.inl ⟨_, _, rfl, h1, ?_⟩)
            rw [← RKs.length h2]; exact got.here r (.int _)
          · rename_i l hl
            cases e
            obtain ⟨vs, h1, h2⟩ := r.obj _ _ hl
            refine .inr (.inr ⟨_, _, rfl, h1, ?_⟩)
            rw [← RKs.length h2]; exact got.here r (.int _)
          · cases e
    · cases e
def g_abs (t : T) (_ : List O) : Option T := match t with
  | .v (.int i) => some (tI (if i < 0 then -i else i))
  | _ => none
theorem fn_abs : Fn1 G X (.builtin "abs") (g1 g_abs) := fn1_of call_abs fun S h H0 t o x Q r q dm e got => by
  unfold g_abs at e
  split at e
  · cases e
    exact ⟨_, by rw [q.int_inv], got.here r (.int _)⟩
  · cases e
def g_toI (t : T) (_ : List O) : Option T := match t with
  | .v (.int i) => some (tI i)
  | .v (.bl k) => some (tI (if k then 1 else 0))
  | _ => none
theorem fn_int : Fn1 G X (.type "int") (g1 g_toI) := fn1_of call_int1 fun S h H0 t o x Q r q dm e got => by
  unfold g_toI at e
  split at e
  · cases e
    exact .inl ⟨_, by rw [q.int_inv], got.here r (.int _)⟩
  · cases e
    cases q with
    | v q => cases q with
      | bl b => exact .inr ⟨_, rfl, got.here r (.int _)⟩
  · cases e
def g_toS (t : T) (_ : List O) : Option T := match t with
  | .v (.int i) => if i.natAbs.log2 < 1920 then some (tS (toString i)) else none
  | .v (.str s) => some (tS s)
  | _ => none
theorem fn_str : Fn1 G X (.type "str") (g1 g_toS) := fn1_of (CallR.or call_str_int SkE.call_str_str) fun S h H0 t o x Q r q dm e got => by
  unfold g_toS at e
  split at e
  · split at e
    · rename_i hz
      cases e
      exact .inl ⟨_, by rw [q.int_inv], hz, got.here r (.str _)⟩
    · cases e
  · cases e
    exact .inr ⟨_, by rw [q.str_inv], got.here r (.str _)⟩
  · cases e
/-- two arguments -/
def g2 (g : T → T → List O → Option T) : List T → List O → Option T := fun ts h => match ts with
  | [t, u] => g t u h
  | _ => none
theorem fn2_of {u : Value} {g : T → T → List O → Option T} {r : List V → Hp → VK → Prop} (hc : CallR X u r)
    (hp : ∀ (S : Wd) (h : List O) (H0 : Hp) (t t2 o : T) (x y : V) (Q : VK), RH G h S → RT G H0 S t x → RT G H0 S t2 y → (∀ c, S.B c = none → H0 c = none) → g t t2 h = some o → Got G h S o Q → r [x, y] S.H Q) : Fn1 G X u (g2 g) := by
  intro pins s σ H xs us Q I rv ⟨S, h, H0, ts, t, e, rr, z, dm, hg, got⟩
  subst e
  refine hc pins s σ S.H xs us Q I rv ?_
  cases z.1 with
  | nil => cases hg
  | cons a b =>
    cases b with
    | nil => cases hg
    | cons b c =>
      cases c with
      | nil => exact hp S h H0 _ _ _ _ _ Q rr a b dm hg got
      | cons _ _ => cases hg
def g_max2 (t u : T) (_ : List O) : Option T := match t, u with
  | .v (.int i), .v (.int j) => some (tI (if j > i then j else i))
  | _, _ => none
def g_min2 (t u : T) (_ : List O) : Option T := match t, u with
  | .v (.int i), .v (.int j) => some (tI (if j < i then j else i))
  | _, _ => none
theorem fn_max2 (hc : X.calm = true) : Fn1 G X (.builtin "max") (g2 g_max2) := fn2_of (call_max2 hc) fun S h H0 t u o x y Q r q q2 dm e got => by
  unfold g_max2 at e
  split at e
  · cases e
    exact ⟨_, _, by rw [q.int_inv, q2.int_inv], got.here r (.int _)⟩
  · cases e
theorem fn_min2 (hc : X.calm = true) : Fn1 G X (.builtin "min") (g2 g_min2) := fn2_of (call_min2 hc) fun S h H0 t u o x y Q r q q2 dm e got => by
  unfold g_min2 at e
  split at e
  · cases e
    exact ⟨_, _, by rw [q.int_inv, q2.int_inv], got.here r (.int _)⟩
  · cases e

/-! ### sum, list, tuple -/
def intsD : List D → Option (List Int)
  | [] => some []
  | .int i :: l => match intsD l with
    | some r => some (i :: r)
    | none => none
  | _ :: _ => none
theorem intsD_ok {S : Wd} : ∀ {l : List D} {xs : List V} {ns : List Int}, RVs G.K S l xs → intsD l = some ns → xs = ns.map V.int
  | [], _, ns, .nil, e => by cases e; rfl
  | .int i :: l, _, ns, .cons a b, e => by
    simp only [intsD] at e
    split at e
    · rename_i r hr
      cases e
      cases a
      rw [intsD_ok b hr]; rfl
    · cases e
  | .non :: l, _, ns, .cons a b, e => by cases e
  | .bl _ :: l, _, ns, .cons a b, e => by cases e
  | .str _ :: l, _, ns, .cons a b, e => by cases e
  | .tup _ :: l, _, ns, .cons a b, e => by cases e
  | .fl _ :: l, _, ns, .cons a b, e => by cases e
  | .ref _ :: l, _, ns, .cons a b, e => by cases e
def g_sum (t : T) (h : List O) : Option T := match seqL h t with
  | some l => match intsD l with
    | some ns => some (tI ns.sum)
    | none => none
  | none => none
theorem fn_sum (hK : X.K = G.K) (hc : X.calm = true) : Fn1 G X (.builtin "sum") (g1 g_sum) := fn1_of (cr_sum hc) fun S h H0 t o x Q r q dm e got => by
  unfold g_sum at e
  split at e
  · rename_i l hl
    split at e
    · rename_i ns hn
      cases e
      obtain ⟨a, vs, rfl, s1, w⟩ := seqL_ok r q hl
      have := intsD_ok w hn
      subst this
      exact ⟨a, ns, rfl, by rw [hK]; exact s1, got.here r (.int _)⟩
    · cases e
  · cases e
def g_list (t : T) (h : List O) : Option T := match seqL h t with
  | some l => some (.tl l)
  | none => match seqT t with
    | some l => some (.tl l)
    | none => none
theorem fn_list (hK : X.K = G.K) : Fn1 G X (.type "list") (g1 g_list) := fn1_of call_list_of fun S h H0 t o x Q r q dm e got => by
  unfold g_list at e
  split at e
  · rename_i l hl
    cases e
    obtain ⟨a, vs, rfl, s1, w⟩ := seqL_ok r q hl
    exact ⟨a, vs, rfl, .inl (by rw [hK]; exact s1), got.lst r w⟩
  · split at e
    · rename_i l hl
      cases e
      obtain ⟨a, vs, rfl, s1, w, _⟩ := seqT_ok q hl
      exact ⟨a, vs, rfl, .inr (by rw [hK]; exact s1), got.lst r w⟩
    · cases e
def g_tuple (t : T) (h : List O) : Option T := match seqL h t with
  | some l => some (tU l)
  | none => match seqT t with
    | some l => some (tU l)
    | none => none
theorem fn_tuple (hK : X.K = G.K) : Fn1 G X (.type "tuple") (g1 g_tuple) := fn1_of call_tuple_of fun S h H0 t o x Q r q dm e got => by
  unfold g_tuple at e
  split at e
  · rename_i l hl
    cases e
    obtain ⟨a, vs, rfl, s1, w⟩ := seqL_ok r q hl
    exact ⟨a, vs, rfl, .inl ⟨by rw [hK]; exact s1, got.tup r w⟩⟩
  · split at e
    · rename_i l hl
      cases e
      obtain ⟨a, vs, rfl, s1, w, v⟩ := seqT_ok q hl
      exact ⟨a, vs, rfl, .inr ⟨by rw [hK]; exact s1, got.here r v⟩⟩
    · cases e
end

/-! ### ranges -/
def rgD (a b : Int) : List D := (List.range (b - a).toNat).map fun i => D.int (a + (i : Nat))
theorem rgD_ok {K : PySem.W.Frag} {S : Wd} (a b : Int) : RVs K S (rgD a b) (rgV a b) := by
  unfold rgD rgV
  generalize List.range (b - a).toNat = l
  induction l with
  | nil => exact .nil
  | cons i l ih => exact .cons (.int _) ih
def rgOk (a b : Int) : Bool := decide (-(2 ^ 62) ≤ a) && decide (a < 2 ^ 62) && decide (-(2 ^ 62) ≤ b) && decide (b < 2 ^ 62) && decide ((b - a).toNat ≤ 2 ^ 24)
theorem rgOk_ok {a b : Int} (h : rgOk a b = true) : RgOk a b := by
  simp only [rgOk, Bool.and_eq_true, decide_eq_true_eq] at h
  exact ⟨h.1.1.1.1, h.1.1.1.2, h.1.1.2, h.1.2, h.2⟩
/-- the ends of a range -/
abbrev Er := List (Option D) → List O → R (Int × Int)
def optR {A : Type} (h : List O) : Option A → R A
  | some t => .ok t h
  | none => .bad
def er1 (f : Ev) : Er := fun r h => (f r h).bind fun t h1 => optR h1 ((intT t).map fun n => (0, n))
def er2 (f g : Ev) : Er := fun r h => (f r h).bind fun t h1 => (g r h1).bind fun u h2 => optR h2 (match intT t, intT u with
  | some a, some b => some (a, b)
  | _, _ => none)
def rP (G : Gl) : Rl G (Int × Int) (Int × Int) := ⟨fun _ _ a b => a = b, fun _ _ q => q, fun _ q => q⟩
section
variable {G : Gl} {X : Cx} {W : WX}
/-- an expression that makes a range -/
abbrev SR (G : Gl) (X : Cx) (W : WX) (f : Er) (e : Expr) : Prop := PRg X e fun σ H Q => rd G (rP G) W f σ H fun p H' => Q p.1 p.2 H'
theorem PRg.imp {e : Expr} {t t' : L2.St → Hp → (Int → Int → Hp → Prop) → Prop} (h : PRg X e t) (q : ∀ s H Q, t' s H Q → t s H Q) : PRg X e t' := fun pins s σ H Q I z => h pins s σ H Q I (q _ _ _ z)
theorem PO.optR {A B : Type} {l : Rl G A B} {E : XK} {S : Wd} {h : List O} {o : Option A} {Q : B → Hp → Prop} (p : PO G l E S Q (optR h o)) : ∃ t, o = some t ∧ PO G l E S Q (.ok t h) := by
  cases o with
  | none => exact p.elim
  | some t => exact ⟨t, rfl, p⟩
theorem sr_1 {a : Expr} {f : Ev} {p pos : Pos} (hg : L2.Gl X "range") (hm : X.mg "range" = none) (ha : SE G X W f a) (na : starEach [a] X.env = (false, eval a X.env) :: starEach [] X.env := by rfl) : SR G X W (er1 f) (.Call (.Name "range" p) [a] [] pos) := by
  refine PRg.imp (prg_1 hg hm ha na) fun s H Q ⟨S, r, h, e, q, z, p⟩ => ?_
  subst e
  refine ⟨S, r, h, rfl, q, z, PO.step p fun S1 h1 t x e1 r1 z1 p1 => ?_⟩
  obtain ⟨u, hu, p1⟩ := PO.optR p1
  rw [Option.map_eq_some_iff] at hu
  obtain ⟨n, hn, rfl⟩ := hu
  exact ⟨n, intT_ok z1 hn, p1 S1 _ (Ext.refl S1) r1 rfl⟩
theorem sr_2 {a b : Expr} {f g : Ev} {p pos : Pos} (hg : L2.Gl X "range") (hm : X.mg "range" = none) (ha : SE G X W f a) (hb : SE G X W g b) (na : starEach [a, b] X.env = (false, eval a X.env) :: starEach [b] X.env := by rfl)
    (nb : starEach [b] X.env = (false, eval b X.env) :: starEach [] X.env := by rfl) (hp : (backTo pos (starEach [b] X.env)).any (·.1) = false := by rfl) : SR G X W (er2 f g) (.Call (.Name "range" p) [a, b] [] pos) := by
  refine PRg.imp (prg_2 hg hm ha hb na nb hp) fun s H Q ⟨S, r, h, e, q, z, p⟩ => ?_
  subst e
  refine ⟨S, r, h, rfl, q, z, PO.step p fun S1 h1 t x e1 r1 z1 p1 => ⟨S1, r, h1, rfl, r1, z.ext q e1, PO.step p1 fun S2 h2 u y e2 r2 z2 p2 => ?_⟩⟩
  obtain ⟨v, hv, p2⟩ := PO.optR p2
  split at hv
  · rename_i a b h1 h2
    cases hv
    exact ⟨a, b, intT_ok z1 h1, intT_ok z2 h2, p2 S2 _ (Ext.refl S2) r2 rfl⟩
  · cases hv
def evLrg (f : Er) : Ev := fun r h => (f r h).bind fun p h1 => if rgOk p.1 p.2 then .ok (.tl (rgD p.1 p.2)) h1 else .bad
def evTrg (f : Er) : Ev := fun r h => (f r h).bind fun p h1 => if rgOk p.1 p.2 then .ok (tU (rgD p.1 p.2)) h1 else .bad
theorem se_lrg {e : Expr} {f : Er} {p pos : Pos} (hc : X.calm = true) (hg : L2.Gl X "list") (hm : X.mg "list" = none) (he : SR G X W f e) (na : starEach [e] X.env = (false, eval e X.env) :: starEach [] X.env := by rfl) : SE G X W (evLrg f) (.Call (.Name "list" p) [e] [] pos) := by
  refine PE.imp (pe_listRg hc hg hm he na) fun s H Q ⟨S, r, h, e, q, z, p⟩ => ?_
  subst e
  refine ⟨S, r, h, rfl, q, z, PO.step p fun S1 h1 t x e1 r1 z1 p1 => ?_⟩
  cases (show t = x from z1)
  split at p1
  · rename_i ok
    exact ⟨rgOk_ok ok, Got.lst (l := rgD t.1 t.2) p1 r1 (rgD_ok _ _)⟩
  · exact p1.elim
theorem se_trg {e : Expr} {f : Er} {p pos : Pos} (hc : X.calm = true) (hg : L2.Gl X "tuple") (hm : X.mg "tuple" = none) (he : SR G X W f e) (na : starEach [e] X.env = (false, eval e X.env) :: starEach [] X.env := by rfl) : SE G X W (evTrg f) (.Call (.Name "tuple" p) [e] [] pos) := by
  refine PE.imp (pe_tupRg hc hg hm he na) fun s H Q ⟨S, r, h, e, q, z, p⟩ => ?_
  subst e
  refine ⟨S, r, h, rfl, q, z, PO.step p fun S1 h1 t x e1 r1 z1 p1 => ?_⟩
  cases (show t = x from z1)
  split at p1
  · rename_i ok
    exact ⟨rgOk_ok ok, Got.tup (l := rgD t.1 t.2) p1 r1 (rgD_ok _ _)⟩
  · exact p1.elim
end
end Bz
set_option Elab.async false
set_option linter.all false
set_option maxRecDepth 100000
set_option autoImplicit false
namespace Bz
open PySem PySem.Spec PyProof.Rows L2

/-! ### subscripts -/
theorem ixN_lt {n : Nat} {i : Int} {j : Nat} (h : ixN n i = some j) : j < n := (ixN_seq h).2.1
section
variable {G : Gl} {X : Cx} {W : WX} {S : Wd} {h : List O}
theorem atI_ok {K : PySem.W.Frag} {l : List D} {xs : List V} {i : Int} {d : D} (q : RVs K S l xs) (e : atI l i = some d) : ∃ x, atI xs i = some x ∧ RV K S d x := by
  unfold atI at e ⊢
  rw [← q.length]
  cases hj : ixN l.length i with
  | none => rw [hj] at e; cases e
  | some j => rw [hj] at e; exact q.get e
def g_ix (a b : T) (h : List O) : Option T :=
  match seqL h a, b with
  | some l, .v (.int i) => (atI l i).map .v
  | _, _ => match a, b with
    | .v (.tup l), .v (.int i) => (atI l i).map .v
    | .v (.str s), .v (.int i) => if s.length ≤ SZ then (atI s.cps.toList i).map fun c => tS ⟨#[c]⟩ else none
    | a, b => match dicG h a b with
      | some (some d) => some (.v d)
      | _ => none
theorem ix_dict (hu : X.A.units + 64 < cLine) : IxR X (fun x y H Q => ∃ a v, x = V.ref a ∧ DGet H a y (some v) ∧ Q v H) := by
  intro value slice pins s σ H x y v u Q I rx ry ⟨a, w, ex, g, q⟩ hs
  subst ex
  obtain rfl : v = Value.ref a := rx
  have hT := dict_typeIs I g
  unfold subscriptTail
  refine wpAny_bind ?_
  rw [getitemInPython_of_ne hT.not_modules]
  refine wpAny_bind (wpAny_specialOf hT PySem.F.slot_dict_getitem.lookup ?_)
  have fin : wpAny (model X.prog X.w) X.A (subscripted slice false (Value.ref a) u) (fun r s₃ => wpAny (model X.prog X.w) X.A (letTemporaryGo value (Value.ref a) r >>= fun _ => pure r) (EP X pins σ Q) X.xe s₃) X.xe s := by
    rw [hs]
    refine wpAny_operating (d_getItem (by omega) I g ry fun w' s3 I3 rw' => ?_)
    exact wpAny_bind (wpAny_letTemporaryGo (wpAny_pure ⟨w, H, I3, rw', q⟩))
  first
    | exact wpAny_pure (wpAny_bind fin)
    | exact wpAny_bind (wpAny_pure (wpAny_bind fin))
    | exact wpAny_bind fin
def rIxA (X : Cx) : R2 := fun x y H Q => rIx X.K x y H Q ∨ ∃ a v, x = V.ref a ∧ DGet H a y (some v) ∧ Q v H
theorem ix_any (hu : X.A.units + 64 < cLine) : IxR X (rIxA X) := ix_seq.or (ix_dict hu)
theorem g_ix_ok (hK : X.K = G.K) {H0 : Hp} {a b t : T} {x y : V} {Q : VK} (r : RH G h S) (q1 : RT G H0 S a x) (q2 : RT G H0 S b y) (e : g_ix a b h = some t) (got : Got G h S t Q) : rIxA X x y S.H Q := by
  unfold g_ix at e
  split at e
  · rename_i l i hl
    rw [Option.map_eq_some_iff] at e
    obtain ⟨d, e, rfl⟩ := e
    obtain ⟨ad, vs, rfl, s1, w⟩ := seqL_ok r q1 hl
    obtain ⟨z, h1, h2⟩ := atI_ok w e
    exact .inl (.inl ⟨ad, vs, i, z, rfl, q2.int_inv, by rw [hK]; exact s1, h1, got.here r h2⟩)
  · split at e
    · rw [Option.map_eq_some_iff] at e
      obtain ⟨d, e, rfl⟩ := e
      obtain ⟨ad, vs, rfl, s1, w, _⟩ := seqT_ok q1 rfl
      obtain ⟨z, h1, h2⟩ := atI_ok w e
      exact .inl (.inr (.inl ⟨ad, vs, _, z, rfl, q2.int_inv, by rw [hK]; exact s1, h1, got.here r h2⟩))
    · split at e
      · rename_i hz
        rw [Option.map_eq_some_iff] at e
        obtain ⟨c, e, rfl⟩ := e
        exact .inl (.inr (.inr ⟨_, _, c, q1.str_inv, q2.int_inv, by rw [sz_eq]; exact hz, e, got.here r (.str _)⟩))
      · cases e
    · split at e
      · rename_i d hd
        cases e
        obtain ⟨ad, v, rfl, g, z⟩ := dicG_ok r q1 q2 hd
        rcases z with ⟨h1, _⟩ | ⟨d', v', h1, rfl, w⟩
        · cases h1
        · cases h1
          exact .inr ⟨ad, v', rfl, g, got.here r w⟩
      · cases e
theorem se_ix {a b : Expr} {fa fb : Ev} {pos : Pos} (hK : X.K = G.K) (hu : X.A.units + 64 < cLine) (ha : SE G X W fa a) (hb : SE G X W fb b) (hs : PlainIx b := by intro _ _; rfl) : SE G X W (ev2 g_ix fa fb) (.Subscript a b pos) :=
  PE.imp (pe_ix (ix_any hu) ha hb hs) fun s H Q p => se_two (fun x y H Q ⟨S, h, H0, ta, tb, t, e, r, q1, q2, dm, g, got⟩ => by
    subst e
    exact g_ix_ok hK r q1 q2 g got) p

/-! ### slices -/
abbrev Eo := List (Option D) → List O → R (Option Int)
def eoN : Eo := fun _ h => .ok none h
def eoS (f : Ev) : Eo := fun r h => (f r h).bind fun t h1 => optR h1 ((intT t).map some)
def rO (G : Gl) : Rl G (Option Int) (Option Int) := ⟨fun _ _ a b => a = b, fun _ _ q => q, fun _ q => q⟩
abbrev SO (G : Gl) (X : Cx) (W : WX) (f : Eo) (e : Option Expr) : Prop := L2.PO X e (rd G (rO G) W f)
theorem PO'.imp {e : Option Expr} {t t' : TO} (h : L2.PO X e t) (q : ∀ s H Q, t' s H Q → t s H Q) : L2.PO X e t' := ⟨fun pins s σ H Q I z => h.run pins s σ H Q I (q _ _ _ z)⟩
theorem so_none : SO G X W eoN none := PO'.imp po_none fun s H Q ⟨S, r, h, e, q, z, p⟩ => by subst e; exact p S none (Ext.refl S) q rfl
theorem so_some {e : Expr} {f : Ev} (hf : SE G X W f e) : SO G X W (eoS f) (some e) := PO'.imp (po_some hf) fun s H Q ⟨S, r, h, e, q, z, p⟩ => by
  subst e
  refine ⟨S, r, h, rfl, q, z, PO.step p fun S1 h1 t x e1 r1 z1 p1 => ?_⟩
  obtain ⟨u, hu, p1⟩ := PO.optR p1
  rw [Option.map_eq_some_iff] at hu
  obtain ⟨n, hn, rfl⟩ := hu
  exact ⟨n, intT_ok z1 hn, p1 S1 _ (Ext.refl S1) r1 rfl⟩
def cutD (xs : List D) (lo hi : Option Int) : List D := (xs.drop (HT.sIx xs.length 0 lo)).take (HT.sIx xs.length xs.length hi - HT.sIx xs.length 0 lo)
theorem cut_ok {K : PySem.W.Frag} {l : List D} {xs : List V} (q : RVs K S l xs) (lo hi : Option Int) : RVs K S (cutD l lo hi) (cutV xs lo hi) := by
  unfold cutD cutV
  rw [q.length]
  exact (q.drop _).take _
def g_sl (a : T) (lo hi : Option Int) (h : List O) : Option T :=
  match seqL h a with
  | some l => some (.tl (cutD l lo hi))
  | none => match a with
    | .v (.tup l) => some (tU (cutD l lo hi))
    | .v (.str s) => if s.length ≤ SZ then some (tS (cutS s lo hi)) else none
    | _ => none
def evSl (f : Ev) (lo hi : Eo) : Ev := fun r h => (f r h).bind fun a h1 => (lo r h1).bind fun l h2 => (hi r h2).bind fun u h3 => opt h3 (g_sl a l u h3)
theorem cutD_all {l : List D} {lo hi : Option Int} (h1 : HT.sIx l.length 0 lo = 0) (h2 : HT.sIx l.length l.length hi = l.length) : cutD l lo hi = l := by
  unfold cutD
  rw [h1, h2, List.drop_zero, Nat.sub_zero, List.take_length]
theorem se_sl {e : Expr} {lo hi : Option Expr} {f : Ev} {fl fh : Eo} {p2 pos : Pos} (hK : X.K = G.K) (he : SE G X W f e) (hl : SO G X W fl lo) (hh : SO G X W fh hi) : SE G X W (evSl f fl fh) (.Subscript e (.Slice lo hi none p2) pos) := by
  refine PE.imp (pe_slice (sl_list.or (sl_tupA.or sl_str)) he hl hh) fun s H Q ⟨S, r, h, e, q, z, p⟩ => ?_
  subst e
  refine ⟨S, r, h, rfl, q, z, PO.step p fun S1 h1 ta x e1 r1 z1 p1 => ⟨S1, r, h1, rfl, r1, z.ext q e1, PO.step p1 fun S2 h2 tb y e2 r2 z2 p2 => ⟨S2, r, h2, rfl, r2, (z.ext q e1).ext r1 e2, PO.step p2 fun S3 h3 tc w e3 r3 z3 p3 => ?_⟩⟩⟩
  cases (show tb = y from z2)
  cases (show tc = w from z3)
  obtain ⟨t, ht, got⟩ := PO.opt p3
  have z1' := (z1.ext r1 e2).ext r2 e3
  unfold g_sl at ht
  split at ht
  · rename_i l hl
    cases ht
    obtain ⟨ad, vs, rfl, s1, w⟩ := seqL_ok r3 z1' hl
    exact .inl ⟨ad, vs, rfl, by rw [hK]; exact s1, got.lst r3 (cut_ok w _ _)⟩
  · split at ht
    · rename_i l
      cases ht
      obtain ⟨ad, vs, rfl, s1, w, v⟩ := seqT_ok z1' rfl
      refine .inr (.inl ⟨ad, vs, rfl, by rw [hK]; exact s1, fun ⟨c1, c2⟩ => ?_, fun _ => got.tup r3 (cut_ok w _ _)⟩)
      rw [← w.length] at c1 c2
      have e := cutD_all c1 c2
      refine got S3 _ (Ext.refl S3) r3 (.v ?_)
      rw [e]; exact v
    · split at ht
      · rename_i hz
        cases ht
        have ex := z1'.str_inv
        subst ex
        exact .inr (.inr ⟨_, rfl, by rw [sz_eq]; exact hz, got.here r3 (.str _)⟩)
      · cases ht
    · cases ht
end

/-! ### writing into an object of ours -/
abbrev Wd.put (S : Wd) (i : Nat) (o : HO) : Wd := ⟨S.n, S.m, upd S.H (S.m i) o⟩
section
variable {G : Gl} {X : Cx} {W : WX} {S : Wd} {h : List O}
theorem Ext.put {i : Nat} {o : HO} (hi : i < S.n) (ho : (S.H (S.m i)).isSome = true) (nt : ∀ ps, o ≠ .tbl ps) : Ext S (S.put i o) where
  le := Nat.le_refl _
  ag := fun _ _ => rfl
  fr := fun b u hn hb _ => by
    show upd S.H (S.m i) o b = some u
    rw [upd_ne fun e => hn i hi e.symm]; exact hb
  fs := fun i h1 h2 => absurd (Nat.lt_of_lt_of_le h2 h1) (Nat.lt_irrefl _)
  dm := fun b hb => by
    by_cases e : b = S.m i
    · rw [e] at hb
      have k := (bare_some (show upd S.H (S.m i) o (S.m i) = some o from upd_same) nt).symm.trans hb
      cases k
    · exact (bare_eq (upd_ne e)).symm.trans hb
theorem tabs_put {T : List (Addr × Str)} {H : Hp} {a : Addr} {o u : HO} (t : LamX.Tabs T H) (ha : H a = some u) (h1 : ∀ ps, u ≠ .tbl ps) (h2 : ∀ f q, u ≠ LamX.CodeO f q) : LamX.Tabs T (upd H a o) := fun p hp => by
  obtain ⟨ps, e1, e2, e3⟩ := t p hp
  refine ⟨ps, ?_, e2, fun pos cv hc => ?_⟩
  · rw [upd_ne fun e => by rw [e, ha] at e1; exact h1 _ (Option.some.inj e1)]; exact e1
  · obtain ⟨c, c1, c2⟩ := e3 pos cv hc
    refine ⟨c, c1, ?_⟩
    rw [upd_ne fun e => by rw [e, ha] at c2; exact h2 _ _ (Option.some.inj c2)]; exact c2
theorem RO.hot {a : Addr} {o : O} (q : RO G S a o) : ∃ u, S.H a = some u ∧ (∀ ps, u ≠ .tbl ps) ∧ ∀ f q, u ≠ LamX.CodeO f q := by
  cases o with
  | lst l => obtain ⟨vs, h1, h2⟩ := q; exact ⟨_, h1, fun _ z => (by cases z), fun _ _ z => (by unfold LamX.CodeO at z; cases z)⟩
  | dk l => obtain ⟨vs, h1, h2⟩ := q; exact ⟨_, h1, fun _ z => (by cases z), fun _ _ z => (by unfold LamX.CodeO at z; cases z)⟩
  | dkf l => obtain ⟨o, vs, h1, h2⟩ := q; exact ⟨_, h1, fun _ z => (by cases z), fun _ _ z => (by unfold LamX.CodeO at z; cases z)⟩
  | dt l => obtain ⟨vs, h1, h2⟩ := q; exact ⟨_, h1, fun _ z => (by cases z), fun _ _ z => (by unfold LamX.CodeO at z; cases z)⟩
  | dtf l => obtain ⟨o, vs, h1, h2⟩ := q; exact ⟨_, h1, fun _ z => (by cases z), fun _ _ z => (by unfold LamX.CodeO at z; cases z)⟩
  | ins c fs => obtain ⟨dx, vs, h1, h2⟩ := q; exact ⟨_, h1, fun _ z => (by cases z), fun _ _ z => (by unfold LamX.CodeO at z; cases z)⟩
/-- ours, one object rewritten -/
theorem RH.put (r : RH G h S) {i : Nat} (hi : i < S.n) {u : HO} {o : O} (nt : ∀ ps, u ≠ .tbl ps) (ho : ∀ S' : Wd, Ext S S' → S'.H (S.m i) = some u → RO G S' (S.m i) o) : RH G (h.set i o) (S.put i u) ∧ Ext S (S.put i u) := by
  have hl : i < h.length := by rw [r.len]; exact hi
  obtain ⟨u0, hu0, n1, n2⟩ := (r.obj i h[i] (List.getElem?_eq_getElem hl)).hot
  have e : Ext S (S.put i u) := Ext.put hi (by rw [hu0]; rfl) nt
  refine ⟨⟨by rw [List.length_set]; exact r.len, r.inj, fun j o' hj => ?_, tabs_put r.tab hu0 n1 n2⟩, e⟩
  by_cases hij : i = j
  · subst hij
    rw [List.getElem?_set_self hl] at hj
    cases hj
    exact ho _ e upd_same
  · rw [List.getElem?_set_ne hij] at hj
    have hjn : j < S.n := by rw [← r.len]; exact (List.getElem?_eq_some_iff.mp hj).1
    exact RO.ext r e (upd_ne fun z => hij (r.inj i j hi hjn z.symm)) (r.obj j o' hj)
theorem RH.putL (r : RH G h S) {i : Nat} (hi : i < S.n) {l : List D} {vs : List V} (q : RVs G.K S l vs) : RH G (h.set i (.lst l)) (S.put i (.lst vs)) ∧ Ext S (S.put i (.lst vs)) :=
  r.put hi (fun _ z => by cases z) fun S' e hu => ⟨vs, hu, q.ext r e⟩

theorem Got.later {S0 : Wd} {t : T} {Q : VK} (got : Got G h S0 t Q) (e : Ext S0 S) : Got G h S t Q := fun S' z e' r q => got S' z (e.trans e') r (q.from e.dm)
/-! ### methods of lists and texts -/
abbrev Mf := T → List T → List O → Option (T × List O)
def Mt1 (G : Gl) (X : Cx) (id : String) (g : Mf) : Prop :=
  MtR X id fun x xs H Q => ∃ S0 S h a ts t h', S.H = H ∧ Ext S0 S ∧ RH G h S ∧ RT G S0.B S a x ∧ (rA G).rel S0.B S ts xs ∧ g a ts h = some (t, h') ∧ Got G h' S0 t Q
inductive Ty | L | S | K
def tyOk (h : List O) : Ty → T → Bool
  | .L, t => (seqL h t).isSome
  | .S, t => (strT t).isSome
  | .K, .tk _ => true
  | .K, .tt _ => true
  | .K, .v (.ref i) => match h[i]? with
    | some (.dk _) => true
    | some (.dt _) => true
    | _ => false
  | .K, _ => false
def Ty.nm : Ty → String
  | .L => "list"
  | .S => "str"
  | .K => "dict"
theorem tyOk_ok (hK : X.K = G.K) {H0 : Hp} {t : T} {x : V} (r : RH G h S) (q : RT G H0 S t x) : ∀ (k : Ty), tyOk h k t = true → tyV X.K k.nm x S.H
  | .L, e => by
    obtain ⟨l, hl⟩ := Option.isSome_iff_exists.mp e
    obtain ⟨a, vs, rfl, s1, _⟩ := seqL_ok r q hl
    exact .inl ⟨rfl, vs, by rw [hK]; exact s1⟩
  | .S, e => by
    obtain ⟨l, hl⟩ := Option.isSome_iff_exists.mp e
    rw [strT_ok q hl]; rfl
  | .K, e => by
    cases q with
    | tk a b c d => exact .inr (.inr (.inl ⟨rfl, .inl ⟨_, a⟩⟩))
    | tt a b c d => exact .inr (.inr (.inl ⟨rfl, .inr ⟨_, a⟩⟩))
    | tl a b c d => cases e
    | rg a b c => cases e
    | v q =>
      cases q with
      | ref hi =>
        simp only [tyOk] at e
        split at e
        · rename_i l hl
          obtain ⟨vs, h1, _⟩ := r.obj _ _ hl
          exact .inr (.inr (.inl ⟨rfl, .inl ⟨_, h1⟩⟩))
        · rename_i l hl
          obtain ⟨vs, h1, _⟩ := r.obj _ _ hl
          exact .inr (.inr (.inl ⟨rfl, .inr ⟨_, h1⟩⟩))
        · cases e
      | _ => cases e
def optH : Option (T × List O) → R T
  | some p => .ok p.1 p.2
  | none => .bad
def evMt (k : Ty) (g : Mf) (fo : Ev) (fa : Ea) : Ev := fun r h => (fo r h).bind fun a h1 => if tyOk h1 k a then (fa r h1).bind fun ts h2 => optH (g a ts h2) else .bad
theorem se_mt {k : Ty} {id : String} {g : Mf} {o e : Expr} {es : List Expr} {fo : Ev} {fa : Ea} {name : Str} {apos cpos : Pos} (hK : X.K = G.K) (pa : PlainAttrs k.nm) (slot : Slot k.nm name id) (hty : typeOf (.builtin id) = pure (.type "method_descriptor")) (hm : Mt1 G X id g)
    (ho : SE G X W fo o) (ha : SAs G X W fa (e :: es)) (hbase : attributeBase o name X.env (eval o X.env) = eval o X.env := by rfl)
    (hfew : ((backTo cpos (starEach (e :: es) X.env)).all (fun x => !x.1) && (backToKw cpos (keywordEach [] X.env)).all (fun x => x.1.isSome)
      && decide ((e :: es).length + ([] : List Keyword).length + (if ([] : List Keyword).isEmpty then 0 else 1) < 30)) = true := by rfl)
    (hline : (apos.endLine == cpos.line) = true := by rfl) (hs : starEach (e :: es) X.env = (false, eval e X.env) :: starEach es X.env := by rfl) (hplain : (backTo cpos (starEach es X.env)).any (·.1) = false := by rfl) :
    SE G X W (evMt k g fo fa) (.Call (.Attribute o name apos) (e :: es) [] cpos) := by
  refine PE.imp (pe_bm pa slot hty hm ho ha hbase hfew hline hs hplain) fun s H Q ⟨S, r, h, e, q, z, p⟩ => ?_
  subst e
  refine ⟨S, r, h, rfl, q, z, PO.stepAt (Ext.refl S) p fun S1 h1 ta x e1 r1 z1 p1 => ?_⟩
  split at p1
  · rename_i ty
    refine ⟨tyOk_ok hK r1 z1 k ty, S1, r, h1, rfl, r1, z.ext q e1, PO.stepAt e1 p1 fun S2 h2 ts xs e2 r2 z2 p2 => ?_⟩
    cases hg : g ta ts h2 with
    | none => rw [hg] at p2; exact p2.elim
    | some w =>
      rw [hg] at p2
      exact ⟨S, S2, h2, ta, ts, w.1, w.2, rfl, e1.trans e2, r2, z1.ext r1 e2, (rA G).frm e1.dm z2, hg, p2⟩
  · exact p1.elim
theorem se_mt0 {k : Ty} {id : String} {g : Mf} {o : Expr} {fo : Ev} {name : Str} {apos cpos : Pos} (hK : X.K = G.K) (pa : PlainAttrs k.nm) (slot : Slot k.nm name id) (hty : typeOf (.builtin id) = pure (.type "method_descriptor")) (hm : Mt1 G X id g)
    (ho : SE G X W fo o) (hbase : attributeBase o name X.env (eval o X.env) = eval o X.env := by rfl) (hline : (apos.endLine == cpos.line) = true := by rfl) : SE G X W (evMt k g fo eaNil) (.Call (.Attribute o name apos) [] [] cpos) := by
  refine PE.imp (pe_bm0 pa slot hty hm ho hbase hline) fun s H Q ⟨S, r, h, e, q, z, p⟩ => ?_
  subst e
  refine ⟨S, r, h, rfl, q, z, PO.stepAt (Ext.refl S) p fun S1 h1 ta x e1 r1 z1 p1 => ?_⟩
  split at p1
  · rename_i ty
    refine ⟨tyOk_ok hK r1 z1 k ty, ?_⟩
    simp only [eaNil, R.bind_ok] at p1
    cases hg : g ta [] h1 with
    | none => rw [hg] at p1; exact p1.elim
    | some w =>
      rw [hg] at p1
      exact ⟨S, S1, h1, ta, [], w.1, w.2, rfl, e1, r1, z1, ⟨.nil, trivial⟩, hg, p1⟩
  · exact p1.elim
/-- methods that change nothing, of one argument -/
def mf0 (g : T → List O → Option T) : Mf := fun a ts h => match ts with
  | [] => (g a h).map fun t => (t, h)
  | _ => none
def mf1 (g : T → T → List O → Option T) : Mf := fun a ts h => match ts with
  | [b] => (g a b h).map fun t => (t, h)
  | _ => none
theorem mt0_of {id : String} {g : T → List O → Option T} {r : V → List V → Hp → VK → Prop} (hc : MtR X id r)
    (hp : ∀ (S : Wd) (h : List O) (H0 : Hp) (a o : T) (x : V) (Q : VK), RH G h S → RT G H0 S a x → g a h = some o → Got G h S o Q → r x [] S.H Q) : Mt1 G X id (mf0 g) := by
  intro pins s σ H x xs v us Q I rx rv ⟨S0, S, h, a, ts, t, h', e, e0, rr, za, z, hg, got⟩
  subst e
  refine hc pins s σ S.H x xs v us Q I rx rv ?_
  cases z.1 with
  | nil =>
    simp only [mf0, Option.map_eq_some_iff] at hg
    obtain ⟨o, ho, e⟩ := hg
    cases e
    exact hp S h S0.B _ _ _ Q rr za ho (got.later e0)
  | cons _ _ => cases hg
theorem mt1_of {id : String} {g : T → T → List O → Option T} {r : V → List V → Hp → VK → Prop} (hc : MtR X id r)
    (hp : ∀ (S : Wd) (h : List O) (H0 : Hp) (a b o : T) (x y : V) (Q : VK), RH G h S → RT G H0 S a x → RT G H0 S b y → g a b h = some o → Got G h S o Q → r x [y] S.H Q) : Mt1 G X id (mf1 g) := by
  intro pins s σ H x xs v us Q I rx rv ⟨S0, S, h, a, ts, t, h', e, e0, rr, za, z, hg, got⟩
  subst e
  refine hc pins s σ S.H x xs v us Q I rx rv ?_
  cases z.1 with
  | nil => cases hg
  | cons a1 b1 =>
    cases b1 with
    | nil =>
      simp only [mf1, Option.map_eq_some_iff] at hg
      obtain ⟨o, ho, e⟩ := hg
      cases e
      exact hp S h S0.B _ _ _ _ _ Q rr za a1 ho (got.later e0)
    | cons _ _ => cases hg
/-! texts -/
def strsD : List D → Option (List Str)
  | [] => some []
  | .str i :: l => match strsD l with
    | some r => some (i :: r)
    | none => none
  | _ :: _ => none
theorem strsD_ok {S : Wd} : ∀ {l : List D} {xs : List V} {ns : List Str}, RVs G.K S l xs → strsD l = some ns → xs = ns.map V.str
  | [], _, ns, .nil, e => by cases e; rfl
  | .str i :: l, _, ns, .cons a b, e => by
    simp only [strsD] at e
    split at e
    · rename_i r hr
      cases e
      cases a
      rw [strsD_ok b hr]; rfl
    · cases e
  | .non :: l, _, ns, .cons a b, e => by cases e
  | .bl _ :: l, _, ns, .cons a b, e => by cases e
  | .int _ :: l, _, ns, .cons a b, e => by cases e
  | .tup _ :: l, _, ns, .cons a b, e => by cases e
  | .fl _ :: l, _, ns, .cons a b, e => by cases e
  | .ref _ :: l, _, ns, .cons a b, e => by cases e
theorem strsV {S : Wd} : ∀ (l : List Str), RVs G.K S (l.map D.str) (l.map V.str)
  | [] => .nil
  | a :: l => .cons (.str a) (strsV l)
def g_join (a b : T) (h : List O) : Option T := match strT a, seqL h b with
  | some z, some l => match strsD l with
    | some ys => if (ys.map (·.length)).sum + ys.length * z.length ≤ SZ then some (tS (Txt.join z ys)) else none
    | none => none
  | _, _ => none
theorem mtd_join (hK : X.K = G.K) : Mt1 G X "str.join" (mf1 g_join) := mt1_of mt_join fun S h H0 a b o x y Q r q q2 e got => by
  unfold g_join at e
  split at e
  · rename_i z l h1 h2
    split at e
    · rename_i ys h3
      split at e
      · rename_i hz
        cases e
        obtain ⟨ad, vs, rfl, s1, w⟩ := seqL_ok r q2 h2
        have := strsD_ok w h3
        subst this
        exact ⟨z, ad, ys, strT_ok q h1, rfl, .inl (by rw [hK]; exact s1), hz, got.here r (.str _)⟩
      · cases e
    · cases e
  · cases e
def g_sindex (a b : T) (_ : List O) : Option T := match strT a, strT b with
  | some z, some y => match Builtin.Str.occurrences z y 0 z.length 1 with
    | i :: _ => some (tI (i : Nat))
    | [] => none
  | _, _ => none
theorem mtd_sindex : Mt1 G X "str.index" (mf1 g_sindex) := mt1_of mt_sindex fun S h H0 a b o x y Q r q q2 e got => by
  unfold g_sindex at e
  split at e
  · rename_i z y' h1 h2
    split at e
    · rename_i i rest hi
      cases e
      exact ⟨z, y', i, rest, strT_ok q h1, by rw [strT_ok q2 h2], hi, got.here r (.int _)⟩
    · cases e
  · cases e

/-! lists: append, pop, extend -/
/-- a method that rewrites the list at i -/
theorem mtL_of {id : String} {g : Mf} {r : V → List V → Hp → VK → Prop} (hc : MtR X id r)
    (hp : ∀ (S0 S : Wd) (h : List O) (a : T) (ts : List T) (t : T) (h' : List O) (x : V) (xs : List V) (Q : VK), Ext S0 S → RH G h S → RT G S0.B S a x → (rA G).rel S0.B S ts xs → g a ts h = some (t, h') → Got G h' S0 t Q → r x xs S.H Q) : Mt1 G X id g := by
  intro pins s σ H x xs v us Q I rx rv ⟨S0, S, h, a, ts, t, h', e, e0, rr, za, z, hg, got⟩
  subst e
  exact hc pins s σ S.H x xs v us Q I rx rv (hp S0 S h a ts t h' x xs Q e0 rr za z hg got)
/-- the own list at a place -/
def ownL (h : List O) : T → Option (Nat × List D)
  | .v (.ref i) => match h[i]? with
    | some (.lst l) => some (i, l)
    | _ => none
  | _ => none
theorem ownL_ok {H0 : Hp} {t : T} {x : V} {i : Nat} {l : List D} (r : RH G h S) (q : RT G H0 S t x) (e : ownL h t = some (i, l)) : ∃ vs, i < S.n ∧ h[i]? = some (.lst l) ∧ x = .ref (S.m i) ∧ S.H (S.m i) = some (.lst vs) ∧ RVs G.K S l vs := by
  cases q with
  | v q =>
    cases q with
    | @ref j hj =>
      simp only [ownL] at e
      split at e
      · rename_i l' hl
        cases e
        obtain ⟨vs, h1, h2⟩ := r.obj _ _ hl
        exact ⟨vs, hj, hl, rfl, h1, h2⟩
      · cases e
    | _ => cases e
  | _ => cases e
/-- one argument made ours -/
theorem alc1 {S0 : Wd} {t : T} {y : V} {d : D} {h2 : List O} (e0 : Ext S0 S) (r : RH G h S) (q : RT G S0.B S t y) (ea : alc t h = some (d, h2)) : ∃ S2, RH G h2 S2 ∧ RV G.K S2 d y ∧ Regd G S0.B S S2 ∧ Ext S0 S2 := by
  have al : alcs [t] h = some ([d], h2) := by simp [alcs, ea]
  obtain ⟨S2, r2, w2, g2⟩ := alcs_ok r (.cons q .nil) ⟨fun _ => trivial, trivial⟩ al
  cases w2 with
  | cons w3 w4 => exact ⟨S2, r2, w3, g2, g2.ext e0⟩
def m_append : Mf := fun a ts h => match ownL h a, ts with
  | some (i, l), [t] => match alc t h with
    | some (d, h1) => if l.length < SZ then some (.v .non, h1.set i (.lst (l ++ [d]))) else none
    | none => none
  | _, _ => none
theorem RVs.regs {S2 : Wd} {H0 : Hp} (g : Regd G H0 S S2) : ∀ {l : List D} {xs : List V}, RVs G.K S l xs → RVs G.K S2 l xs
  | _, _, .nil => .nil
  | _, _, .cons a b => .cons (g.up _ _ a) (RVs.regs g b)
theorem mtd_append : Mt1 G X "list.append" m_append := mtL_of mt_append fun S0 S h a ts t h' x xs Q e0 r q z e got => by
  unfold m_append at e
  split at e
  · rename_i i l b h1
    split at e
    · rename_i d h2 h3
      split at e
      · rename_i hz
        cases e
        obtain ⟨vs, hi, hl, rfl, s1, w⟩ := ownL_ok r q h1
        obtain ⟨z1, z2⟩ := z
        cases z1 with
        | cons y1 y2 =>
          cases y2
          obtain ⟨S2, r2, w2, g2, e2⟩ := alc1 e0 r y1 h3
          refine ⟨_, vs, _, rfl, rfl, s1, by rw [← w.length, sz_eq]; exact hz, ?_⟩
          obtain ⟨r3, e3⟩ := r2.putL (Nat.lt_of_lt_of_le hi g2.le) (RVs.app (w.regs g2) (.cons w2 .nil))
          have k := got _ _ (e2.trans e3) r3 (.v .non)
          have k' : Q .non (upd S2.H (S2.m i) (.lst (vs ++ [_]))) := k
          rw [g2.H, g2.ag i hi] at k'
          exact k'
      · cases e
    · cases e
  · cases e
def m_pop : Mf := fun a ts h => match ownL h a, ts with
  | some (i, l), [] => match l[l.length - 1]? with
    | some d => some (.v d, h.set i (.lst (l.take (l.length - 1))))
    | none => none
  | some (i, l), [.v (.int k)] => match ixN l.length k with
    | some j => match l[j]? with
      | some d => some (.v d, h.set i (.lst (l.eraseIdx j)))
      | none => none
    | none => none
  | _, _ => none
theorem ixN_small {n : Nat} {i : Int} {j : Nat} (hn : n ≤ SZ) (h : ixN n i = some j) : seqIndex? i n = some j ∧ -(2 ^ 63) ≤ i ∧ i < 2 ^ 63 := by
  obtain ⟨h1, h2, h3, h4⟩ := ixN_seq h
  have : SZ < 2 ^ 63 := by decide
  exact ⟨h1, by omega, by omega⟩
def lenOk (l : List D) : Bool := decide (l.length ≤ SZ)
def m_popA : Mf := fun a ts h => match ownL h a with
    | some (_, l) => if lenOk l then m_pop a ts h else none
    | none => none
theorem mtd_pop : Mt1 G X "list.pop" m_popA := mtL_of (@MtR.or X "list.pop" rPop rPopAt mt_pop mt_popAt) fun S0 S h a ts t h' x xs Q e0 r q z e got => by
  unfold m_popA at e
  split at e
  · rename_i i0 l0 h0
    split at e
    · rename_i hlen
      have hlen := of_decide_eq_true hlen
      unfold m_pop at e
      split at e
      · rename_i i l h1
        cases h0.symm.trans h1
        split at e
        · rename_i d hd
          cases e
          obtain ⟨vs, hi, hl, rfl, s1, w⟩ := ownL_ok r q h1
          obtain ⟨z1, z2⟩ := z
          cases z1
          obtain ⟨y, hy, wy⟩ := w.get hd
          rw [w.length] at hy
          refine .inl ⟨_, vs, y, rfl, rfl, s1, hy, ?_⟩
          obtain ⟨r3, e3⟩ := r.putL hi (w.take (l0.length - 1))
          have k : Q y (upd S.H (S.m i0) (.lst (vs.take (l0.length - 1)))) := got _ _ (e0.trans e3) r3 (.v (wy.ext r e3))
          rw [w.length, ← List.dropLast_eq_take] at k
          exact k
        · cases e
      · rename_i i l k h1
        cases h0.symm.trans h1
        split at e
        · rename_i j hj
          split at e
          · rename_i d hd
            cases e
            obtain ⟨vs, hi, hl, rfl, s1, w⟩ := ownL_ok r q h1
            obtain ⟨z1, z2⟩ := z
            cases z1 with
            | cons y1 y2 =>
              cases y2
              obtain ⟨y, hy, wy⟩ := w.get hd
              obtain ⟨k1, k2, k3⟩ := ixN_small hlen hj
              refine .inr ⟨_, vs, k, j, y, rfl, by rw [y1.int_inv], s1, k2, k3, by rw [← w.length]; exact k1, hy, ?_⟩
              obtain ⟨r3, e3⟩ := r.putL hi (w.eraseIdx j)
              exact got _ _ (e0.trans e3) r3 (.v (wy.ext r e3))
          · cases e
        · cases e
      · cases e
    · cases e
  · cases e
end
end Bz
set_option Elab.async false
set_option linter.all false
set_option maxRecDepth 100000
set_option autoImplicit false
namespace Bz
open PySem PySem.Spec PyProof.Rows L2

/-! ### what is walked -/
inductive IV where
  | fx (l : List D) | lv (i : Nat) | rv (i n : Nat) | en (v : IV) | zp (v w : IV)
def itemAt : IV → Nat → List O → Option (Option D)
  | .fx l, k, _ => some l[k]?
  | .lv i, k, h => match h[i]? with
    | some (.lst l) => some l[k]?
    | _ => none
  | .rv i n, k, h => if k < n then match h[i]? with
      | some (.lst l) => match l[n - 1 - k]? with
        | some d => some (some d)
        | none => none
      | _ => none
    else some none
  | .en v, k, h => match itemAt v k h with
    | some (some d) => some (some (.tup [.int (k : Nat), d]))
    | some none => some none
    | none => none
  | .zp v w, k, h => match itemAt v k h, itemAt w k h with
    | some (some d), some (some e) => some (some (.tup [d, e]))
    | some _, some _ => some none
    | _, _ => none
structure ItOk (G : Gl) (S : Wd) (v : IV) (J : It) : Prop where
  stop : ∀ S' h k, Ext S S' → RH G h S' → itemAt v k h = some none → J.stop k S'.H
  go : ∀ S' h k d, Ext S S' → RH G h S' → itemAt v k h = some (some d) → J.go k S'.H ∧ ∀ x H', J.yld k S'.H x H' → ∃ S'', S''.H = H' ∧ Ext S' S'' ∧ RH G h S'' ∧ RV G.K S'' d x
def rI (G : Gl) : Rl G IV It := ⟨fun _ S v J => ItOk G S v J, fun _ e q => ⟨fun S' h k e' => q.stop S' h k (e.trans e'), fun S' h k d e' => q.go S' h k d (e.trans e')⟩, fun _ q => q⟩
abbrev Ei := List (Option D) → List O → R IV
section
variable {G : Gl} {X : Cx} {W : WX} {S : Wd} {h : List O}
abbrev SI (G : Gl) (X : Cx) (W : WX) (tg : Expr) (f : Ei) (e : Expr) : Prop := PI X tg e (rd G (rI G) W f)
theorem PI.imp {tg e : Expr} {t t' : TI} (p : PI X tg e t) (q : ∀ s H R, t' s H R → t s H R) : PI X tg e t' := ⟨fun pins s σ H R I z => p.run pins s σ H R I (q _ _ _ z)⟩
/-- the items of the sequence at a are the iterator's -/
def InS (Sq : Hp → Addr → List V → Prop) (G : Gl) (S : Wd) (v : IV) (a : Addr) : Prop := ∀ S' h k o, Ext S S' → RH G h S' → itemAt v k h = some o → ∃ xs, Sq S'.H a xs ∧ match o with
  | none => xs.length ≤ k
  | some d => ∃ x, xs[k]? = some x ∧ RV G.K S' d x
def ivT (h : List O) : T → Option IV
  | .v (.ref i) => match h[i]? with
    | some (.lst _) => some (.lv i)
    | _ => none
  | .tl l => some (.fx l)
  | .v (.tup l) => some (.fx l)
  | .v (.fl l) => some (.fx l)
  | .v (.str s) => some (.fx (s.cps.toList.map fun c => D.str ⟨#[c]⟩))
  | _ => none
theorem get_none_le {α : Type} {l : List α} {k : Nat} (e : l[k]? = none) : l.length ≤ k := List.getElem?_eq_none_iff.mp e
theorem rvs_item {K : PySem.W.Frag} {S : Wd} {l : List D} {xs : List V} (q : RVs K S l xs) (k : Nat) : match l[k]? with
  | none => xs.length ≤ k
  | some d => ∃ x, xs[k]? = some x ∧ RV K S d x := by
  cases e : l[k]? with
  | none => show xs.length ≤ k; rw [← q.length]; exact get_none_le e
  | some d => exact q.get e
theorem ivT_ok {H0 : Hp} {t : T} {x : V} {v : IV} (r : RH G h S) (q : RT G H0 S t x) (e : ivT h t = some v) :
    (∃ a, x = .ref a ∧ (∃ xs, SqL G.K S.H a xs) ∧ InS (SqL G.K) G S v a) ∨ (∃ a, x = .ref a ∧ (∃ xs, SqT G.K S.H a xs) ∧ InS (SqT G.K) G S v a) ∨ ∃ s : Str, x = .str s ∧ v = .fx (s.cps.toList.map fun c => D.str ⟨#[c]⟩) := by
  cases q with
  | @tl l vs a b c d f =>
    cases e
    refine .inl ⟨a, rfl, ⟨vs, SqL.of b⟩, fun S' h' k o e' r' ho => ⟨vs, SqL.of (e'.fr _ _ f b fun _ z => by cases z), ?_⟩⟩
    cases ho
    exact rvs_item (c.ext r e') k
  | tk a b c d => cases e
  | tt a b c d => cases e
  | rg a b c => cases e
  | v q =>
    cases q with
    | @ref i hi =>
      simp only [ivT] at e
      split at e
      · rename_i l hl
        cases e
        obtain ⟨vs, h1, h2⟩ := r.obj _ _ hl
        refine .inl ⟨S.m i, rfl, ⟨vs, SqL.of h1⟩, fun S' h' k o e' r' ho => ?_⟩
        simp only [itemAt] at ho
        split at ho
        · rename_i l' hl'
          cases ho
          obtain ⟨vs', h1', h2'⟩ := r'.obj _ _ hl'
          rw [e'.ag i hi] at h1'
          exact ⟨vs', SqL.of h1', rvs_item h2' k⟩
        · cases ho
      · cases e
    | @tup l p vs q1 q2 =>
      cases e
      refine .inr (.inl ⟨p, rfl, ⟨vs, q1.sq⟩, fun S' h' k o e' r' ho => ⟨vs, (TQ.ext r e' q1).sq, ?_⟩⟩)
      cases ho
      exact rvs_item (q2.ext r e') k
    | @fl l p vs q1 q2 =>
      cases e
      refine .inl ⟨p, rfl, ⟨vs, q1.sq⟩, fun S' h' k o e' r' ho => ⟨vs, (IQ.ext r e' q1).sq, ?_⟩⟩
      cases ho
      exact rvs_item (q2.ext r e') k
    | str s => cases e; exact .inr (.inr ⟨s, rfl, rfl⟩)
    | _ => cases e
theorem it_list {v : IV} {a : Addr} (i : InS (SqL G.K) G S v a) : ItOk G S v (Itl G.K a) where
  stop := fun S' h k e r ho => let ⟨xs, h1, h2⟩ := i S' h k _ e r ho; ⟨xs, h1, h2⟩
  go := fun S' h k d e r ho => by
    obtain ⟨xs, h1, x, h2, h3⟩ := i S' h k _ e r ho
    refine ⟨⟨xs, x, h1, h2⟩, fun y H' ⟨e', hy⟩ => ⟨S', e'.symm, Ext.refl S', r, ?_⟩⟩
    have := (hy xs h1).symm.trans h2
    cases this
    exact h3
theorem it_tup {v : IV} {a : Addr} (i : InS (SqT G.K) G S v a) : ItOk G S v (Itt G.K a) where
  stop := fun S' h k e r ho => let ⟨xs, h1, h2⟩ := i S' h k _ e r ho; ⟨xs, h1, h2⟩
  go := fun S' h k d e r ho => by
    obtain ⟨xs, h1, x, h2, h3⟩ := i S' h k _ e r ho
    refine ⟨⟨xs, x, h1, h2⟩, fun y H' ⟨e', hy⟩ => ⟨S', e'.symm, Ext.refl S', r, ?_⟩⟩
    have := (hy xs h1).symm.trans h2
    cases this
    exact h3
theorem it_str {s : Str} : ItOk G S (.fx (s.cps.toList.map fun c => D.str ⟨#[c]⟩)) (Its s) where
  stop := fun S' h k e r ho => by
    simp only [itemAt, Option.some.injEq, List.getElem?_map, Option.map_eq_none_iff] at ho
    have := get_none_le ho
    show s.cps.size ≤ k
    simpa using this
  go := fun S' h k d e r ho => by
    simp only [itemAt, Option.some.injEq, List.getElem?_map, Option.map_eq_some_iff] at ho
    obtain ⟨c, hc, rfl⟩ := ho
    have hk := (List.getElem?_eq_some_iff.mp hc).1
    refine ⟨by show k < s.cps.size; simpa using hk, fun y H' ⟨e', c', hc', ey⟩ => ⟨S', e'.symm, Ext.refl S', r, ?_⟩⟩
    rw [← Array.getElem?_toList] at hc'
    rw [hc] at hc'
    cases hc'
    rw [ey]
    exact .str _
/-- a new pair at each turn -/
theorem new_pair {S' : Wd} {H' : Hp} {p : Addr} {d1 d2 : D} {x1 x2 : V} (r : RH G h S') (hp : S'.H p = none) (e : H' = upd S'.H p (.tup [x1, x2])) (q1 : RV G.K S' d1 x1) (q2 : RV G.K S' d2 x2) :
    ∃ S'', S''.H = H' ∧ Ext S' S'' ∧ RH G h S'' ∧ RV G.K S'' (.tup [d1, d2]) (.ref p) :=
  ⟨S'.add p (.tup [x1, x2]), e.symm, Ext.add hp, r.add hp, .tup upd_same ((RVs.cons q1 (.cons q2 .nil)).add r hp)⟩
theorem it_enum {v : IV} {a : Addr} (i : InS (SqL G.K) G S v a) : ItOk G S (.en v) (Ite G.K a) where
  stop := fun S' h k e r ho => by
    simp only [itemAt] at ho
    split at ho
    · cases ho
    · rename_i h0
      obtain ⟨xs, h1, h2⟩ := i S' h k _ e r h0
      exact ⟨xs, h1, h2⟩
    · cases ho
  go := fun S' h k d e r ho => by
    simp only [itemAt] at ho
    split at ho
    · rename_i d' h0
      cases ho
      obtain ⟨xs, h1, x, h2, h3⟩ := i S' h k _ e r h0
      refine ⟨⟨xs, x, h1, h2⟩, fun y H' ⟨p, x', ey, hp, eH, hy⟩ => ?_⟩
      have := (hy xs h1).symm.trans h2
      cases this
      rw [ey]
      exact new_pair r hp eH (.int _) h3
    · cases ho
    · cases ho
theorem it_zip {v w : IV} {a b : Addr} (i : InS (SqL G.K) G S v a) (j : InS (SqL G.K) G S w b) : ItOk G S (.zp v w) (Itz G.K a b) where
  stop := fun S' h k e r ho => by
    simp only [itemAt] at ho
    split at ho
    · cases ho
    · rename_i o1 o2 hn h1 h2
      obtain ⟨xs, a1, a2⟩ := i S' h k _ e r h1
      obtain ⟨ys, b1, b2⟩ := j S' h k _ e r h2
      refine ⟨xs, ys, a1, b1, ?_⟩
      cases o1 with
      | none => exact .inl a2
      | some d => cases o2 with
        | none => exact .inr b2
        | some d' => exact (hn d d' rfl rfl).elim
    · cases ho
  go := fun S' h k d e r ho => by
    simp only [itemAt] at ho
    split at ho
    · rename_i d1 d2 h1 h2
      cases ho
      obtain ⟨xs, a1, x, a2, a3⟩ := i S' h k _ e r h1
      obtain ⟨ys, b1, y, b2, b3⟩ := j S' h k _ e r h2
      refine ⟨⟨xs, ys, x, y, a1, b1, a2, b2⟩, fun z H' ⟨p, x', y', ez, hp, eH, hx, hy⟩ => ?_⟩
      have := (hx xs a1).symm.trans a2
      cases this
      have := (hy ys b1).symm.trans b2
      cases this
      rw [ez]
      exact new_pair r hp eH a3 b3
    · cases ho
    · cases ho
theorem it_zipT {v w : IV} {a b : Addr} (i : InS (SqT G.K) G S v a) (j : InS (SqT G.K) G S w b) : ItOk G S (.zp v w) (RZ.ItzT G.K a b) where
  stop := fun S' h k e r ho => by
    simp only [itemAt] at ho
    split at ho
    · cases ho
    · rename_i o1 o2 hn h1 h2
      obtain ⟨xs, a1, a2⟩ := i S' h k _ e r h1
      obtain ⟨ys, b1, b2⟩ := j S' h k _ e r h2
      refine ⟨xs, ys, a1, b1, ?_⟩
      cases o1 with
      | none => exact .inl a2
      | some d => cases o2 with
        | none => exact .inr b2
        | some d' => exact (hn d d' rfl rfl).elim
    · cases ho
  go := fun S' h k d e r ho => by
    simp only [itemAt] at ho
    split at ho
    · rename_i d1 d2 h1 h2
      cases ho
      obtain ⟨xs, a1, x, a2, a3⟩ := i S' h k _ e r h1
      obtain ⟨ys, b1, y, b2, b3⟩ := j S' h k _ e r h2
      refine ⟨⟨xs, ys, x, y, a1, b1, a2, b2⟩, fun z H' ⟨p, x', y', ez, hp, eH, hx, hy⟩ => ?_⟩
      have := (hx xs a1).symm.trans a2
      cases this
      have := (hy ys b1).symm.trans b2
      cases this
      rw [ez]
      exact new_pair r hp eH a3 b3
    · cases ho
    · cases ho

/-! ### iterables -/
def eiT (f : Ev) : Ei := fun r h => (f r h).bind fun t h1 => optR h1 (ivT h1 t)
/-- a list, a tuple or a text -/
theorem si_any {tg e : Expr} {f : Ev} (hK : X.K = G.K) (he : SE G X W f e) : SI G X W tg (eiT f) e := by
  refine ⟨fun pins s σ H R I ⟨S, r, h, eH, q, z, p⟩ => ?_⟩
  subst eH
  refine thn (he.run pins s σ S.H (fun x H1 => (∃ a, x = .ref a ∧ (∃ xs, SqL X.K H1 a xs) ∧ R (Itl X.K a) H1) ∨ (∃ a, x = .ref a ∧ (∃ xs, SqT X.K H1 a xs) ∧ R (Itt X.K a) H1) ∨ ∃ y, x = .str y ∧ R (Its y) H1) I
    ⟨S, r, h, rfl, q, z, PO.step p fun S1 h1 t x e1 r1 z1 p1 => ?_⟩) fun v s1 ⟨x, H1, I1, rx, q1⟩ => ?_
  · obtain ⟨v, hv, p1⟩ := PO.optR p1
    rw [hK]
    rcases ivT_ok r1 z1 hv with ⟨a, ex, hs, i⟩ | ⟨a, ex, hs, i⟩ | ⟨y, ex, ev⟩
    · exact .inl ⟨a, ex, hs, p1 S1 _ (Ext.refl S1) r1 (it_list i)⟩
    · exact .inr (.inl ⟨a, ex, hs, p1 S1 _ (Ext.refl S1) r1 (it_tup i)⟩)
    · subst ev
      exact .inr (.inr ⟨y, ex, p1 S1 _ (Ext.refl S1) r1 it_str⟩)
  · rcases q1 with ⟨a, ex, ⟨xs, hq⟩, q⟩ | ⟨a, ex, ⟨xs, hq⟩, q⟩ | ⟨y, ex, q⟩
    · subst ex
      cases rx
      obtain ⟨its, rv, p, hz⟩ := I1.list hq
      refine wpAny_pyIter_list p.isList ?_
      exact pi_one (tk := s1.toks) I1 _ (turn_list a _) ⟨_, Heap.get?_push_size _ rfl, rfl, rfl⟩ q
    · subst ex
      cases rx
      obtain ⟨its, rv, p, hz⟩ := I1.tuple hq
      refine wpAny_pyIter_tuple (show s1.heap.IsTuple a its.toArray from p) ?_
      exact pi_one (tk := s1.toks) I1 _ (turn_tuple a _) ⟨_, Heap.get?_push_size _ rfl, rfl, rfl⟩ q
    · subst ex
      obtain ⟨t, rfl⟩ := rx
      cases ha : y.cps.all (· < 128)
      · exact wpAny_pyIter_wide ha (pi_one (tk := s1.toks) I1 _ (turn_str _ y t "str_iterator" (.inr rfl)) ⟨_, Heap.get?_push_size _ rfl, rfl, rfl⟩ q)
      · exact wpAny_pyIter_ascii ha (pi_one (tk := s1.toks) I1 _ (turn_str _ y t "str_ascii_iterator" (.inl rfl)) ⟨_, Heap.get?_push_size _ rfl, rfl, rfl⟩ q)
/-- ranges -/
def rgB (a b : Int) : Bool := decide (-(2 ^ 62) ≤ a) && decide (a < 2 ^ 62) && decide (-(2 ^ 62) ≤ b) && decide (b < 2 ^ 62)
def iv1 : List T → Option IV
  | [.v (.int j)] => if rgB 0 j then some (.fx (rgD 0 j)) else none
  | _ => none
def iv2 : List T → Option IV
  | [.v (.int i), .v (.int j)] => if rgB i j then some (.fx (rgD i j)) else none
  | _ => none
def eiA (g : List T → Option IV) (f : Ea) : Ei := fun r h => (f r h).bind fun ts h1 => optR h1 (g ts)
theorem rgD_get {a b : Int} (k : Nat) : (rgD a b)[k]? = if k < (b - a).toNat then some (.int (a + (k : Nat))) else none := by
  unfold rgD
  rw [List.getElem?_map]
  by_cases hk : k < (b - a).toNat
  · rw [List.getElem?_range hk, if_pos hk]; rfl
  · rw [if_neg hk, List.getElem?_eq_none (by simpa using hk)]; rfl
theorem it_rng (a b : Int) : ItOk G S (.fx (rgD a b)) (Itr a (b - a).toNat) where
  stop := fun S' h k e r ho => by
    simp only [itemAt, rgD_get, Option.some.injEq] at ho
    split at ho
    · cases ho
    · rename_i hk; exact Nat.le_of_not_lt hk
  go := fun S' h k d e r ho => by
    simp only [itemAt, rgD_get, Option.some.injEq] at ho
    split at ho
    · rename_i hk
      cases ho
      exact ⟨hk, fun y H' ⟨e', ey⟩ => ⟨S', e'.symm, Ext.refl S', r, by rw [ey]; exact .int _⟩⟩
    · cases ho
theorem args1 {H0 : Hp} {t : T} {xs : List V} (z : (rA G).rel H0 S [t] xs) : ∃ x, xs = [x] ∧ RT G H0 S t x := by
  cases z.1 with
  | cons a b => cases b; exact ⟨_, rfl, a⟩
theorem args2 {H0 : Hp} {t u : T} {xs : List V} (z : (rA G).rel H0 S [t, u] xs) : ∃ x y, xs = [x, y] ∧ RT G H0 S t x ∧ RT G H0 S u y := by
  cases z.1 with
  | cons a b => cases b with
    | cons b c => cases c; exact ⟨_, _, rfl, a, b⟩
theorem args3 {H0 : Hp} {t u w : T} {xs : List V} (z : (rA G).rel H0 S [t, u, w] xs) : ∃ x y v, xs = [x, y, v] ∧ RT G H0 S t x ∧ RT G H0 S u y ∧ RT G H0 S w v := by
  cases z.1 with
  | cons a b => cases b with
    | cons b c => cases c with
      | cons c d => cases d; exact ⟨_, _, _, rfl, a, b, c⟩
theorem si_rg1 {tg a : Expr} {f : Ea} {p pos : Pos} (hg : L2.Gl X "range") (hm : X.mg "range" = none) (ha : SAs G X W f [a]) (hs : starEach [a] X.env = [(false, eval a X.env)] := by rfl) : SI G X W tg (eiA iv1 f) (.Call (.Name "range" p) [a] [] pos) := by
  refine PI.imp (pi_range1 hg hm ha hs) fun s H R ⟨S, r, h, e, q, z, p⟩ => ?_
  subst e
  refine ⟨S, r, h, rfl, q, z, PO.step p fun S1 h1 ts xs e1 r1 z1 p1 => ?_⟩
  obtain ⟨v, hv, p1⟩ := PO.optR p1
  unfold iv1 at hv
  split at hv
  · split at hv
    · rename_i hb
      cases hv
      obtain ⟨x, rfl, q1⟩ := args1 z1
      simp only [rgB, Bool.and_eq_true, decide_eq_true_eq] at hb
      refine ⟨_, by rw [q1.int_inv], hb.1.2, hb.2, ?_⟩
      have k := p1 S1 _ (Ext.refl S1) r1 (it_rng 0 _)
      rw [Int.sub_zero] at k
      exact k
    · cases hv
  · cases hv
theorem si_rg2 {tg a b : Expr} {f : Ea} {p pos : Pos} (hg : L2.Gl X "range") (hm : X.mg "range" = none) (ha : SAs G X W f [a, b]) (hs : starEach [a, b] X.env = [(false, eval a X.env), (false, eval b X.env)] := by rfl) (hs2 : starEach [b] X.env = [(false, eval b X.env)] := by rfl) : SI G X W tg (eiA iv2 f) (.Call (.Name "range" p) [a, b] [] pos) := by
  refine PI.imp (pi_range2 hg hm ha hs hs2) fun s H R ⟨S, r, h, e, q, z, p⟩ => ?_
  subst e
  refine ⟨S, r, h, rfl, q, z, PO.step p fun S1 h1 ts xs e1 r1 z1 p1 => ?_⟩
  obtain ⟨v, hv, p1⟩ := PO.optR p1
  unfold iv2 at hv
  split at hv
  · split at hv
    · rename_i hb
      cases hv
      obtain ⟨x, y, rfl, q1, q2⟩ := args2 z1
      simp only [rgB, Bool.and_eq_true, decide_eq_true_eq] at hb
      exact ⟨_, _, by rw [q1.int_inv, q2.int_inv], ⟨hb.1.1.1, hb.1.1.2, hb.1.2, hb.2⟩, p1 S1 _ (Ext.refl S1) r1 (it_rng _ _)⟩
    · cases hv
  · cases hv
/-- a range by a step -/
def rgC (i c : Int) (n : Nat) : List D := (List.range n).map fun (k : Nat) => D.int (i + (k : Nat) * c)
def iv3 : List T → Option IV
  | [.v (.int i), .v (.int j), .v (.int c)] => if decide (c ≠ 0) && decide (c.natAbs < 1073741824) && Builtin.Range.small i j c && decide (0 ≤ Builtin.Range.rangeSize i j c) then some (.fx (rgC i c (Builtin.Range.rangeSize i j c).toNat)) else none
  | _ => none
theorem it_rngC (i c : Int) (n : Nat) : ItOk G S (.fx (rgC i c n)) (Itc i c n) where
  stop := fun S' h k e r ho => by
    simp only [itemAt, rgC, Option.some.injEq, List.getElem?_map, Option.map_eq_none_iff] at ho
    have := get_none_le ho
    show n ≤ k
    simpa using this
  go := fun S' h k d e r ho => by
    simp only [itemAt, rgC, Option.some.injEq, List.getElem?_map, Option.map_eq_some_iff] at ho
    obtain ⟨m, hm, rfl⟩ := ho
    have hk := (List.getElem?_eq_some_iff.mp hm).1
    have hk' : k < n := by simpa using hk
    rw [List.getElem?_range hk'] at hm
    cases hm
    exact ⟨hk', fun y H' ⟨e', ey⟩ => ⟨S', e'.symm, Ext.refl S', r, by rw [ey]; exact .int _⟩⟩
theorem si_rg3 {tg a b c : Expr} {f : Ea} {p pos : Pos} (hg : L2.Gl X "range") (hm : X.mg "range" = none) (ha : SAs G X W f [a, b, c])
    (hs : starEach [a, b, c] X.env = (false, eval a X.env) :: starEach [b, c] X.env := by rfl) (hpl : (backTo pos (starEach [b, c] X.env)).any (·.1) = false := by rfl) : SI G X W tg (eiA iv3 f) (.Call (.Name "range" p) [a, b, c] [] pos) := by
  refine PI.imp (pi_range3 hg hm ha hs hpl) fun s H R ⟨S, r, h, e, q, z, p⟩ => ?_
  subst e
  refine ⟨S, r, h, rfl, q, z, PO.step p fun S1 h1 ts xs e1 r1 z1 p1 => ?_⟩
  obtain ⟨v, hv, p1⟩ := PO.optR p1
  unfold iv3 at hv
  split at hv
  · split at hv
    · rename_i hb
      cases hv
      obtain ⟨x, y, w, rfl, q1, q2, q3⟩ := args3 z1
      simp only [Bool.and_eq_true, decide_eq_true_eq] at hb
      exact ⟨_, _, _, _, by rw [q1.int_inv, q2.int_inv, q3.int_inv], ⟨hb.1.1.1, hb.1.1.2, hb.1.2, (Int.toNat_of_nonneg hb.2).symm⟩, p1 S1 _ (Ext.refl S1) r1 (it_rngC _ _ _)⟩
    · cases hv
  · cases hv
end
end Bz
set_option Elab.async false
set_option linter.all false
set_option maxRecDepth 100000
set_option autoImplicit false
namespace Bz
open PySem PySem.Spec PyProof.Rows L2

/-! ### enumerate of a tuple -/
set_option maxHeartbeats 1000000 in
theorem meets_enum_tup (l : Addr) (items : Array Value) (n : Nat) (dct : Option Addr) (sl : Array (Option Value)) :
    Meets (Builtin.«enumerate.__new__» ⟨[.type "enumerate", .ref l], []⟩) (fun _ R s => s.heap.get? l = some { cls := .type "tuple", dict := dct, data := .seq items n, slots := sl } ∧
      R (.ok (.ret (.ref (s.heap.push { cls := .type "tuple_iterator", data := .fields #[.ref l, .int 0 0] }).objs.size)))
        { s with heap := (s.heap.push { cls := .type "tuple_iterator", data := .fields #[.ref l, .int 0 0] }).push { cls := .type "enumerate", data := .fields #[.none, .bool false, .ref s.heap.objs.size, rawInt 0, .none, .none] } }) :=
  .of_wp fun prog w A R s h => by
    obtain ⟨hp, g, d, tk, os⟩ := s; obtain ⟨hl, h⟩ := h
    have hsub := PySem.sub_enumerate
    have hL : Heap.IsTuple (Shared.heap ⟨hp, g, d, tk, os⟩) l items := ⟨_, hl, rfl, n, rfl⟩
    wp_walk using wpAny_loadPart' hl
    refine wpAny_stack_any fun st => wpAny_pure ?_
    split
    · rename_i c _ _ _ _ _
      cases (c == Value.type "enumerate")
      · wp_walk using wpAny_loadPart' hl, wpAny_pyIter_tuple hL
        exact ⟨_, rfl, h⟩
      · wp_walk using wpAny_loadPart' hl, wpAny_pyIter_tuple hL
        exact ⟨_, rfl, h⟩
    · wp_walk using wpAny_loadPart' hl, wpAny_pyIter_tuple hL
      exact ⟨_, rfl, h⟩
theorem call_enum_tup {prog : Program} {w : World} {A : Around} {E : Value → Shared → Prop} {s : Shared} {l : Addr} {items : Array Value} {Q : Value → Shared → Prop} (hL : s.heap.IsTuple l items)
    (h : ∀ h', IsEnum h' (s.heap.objs.size + 1) s.heap.objs.size 0 .none → h'.IsTupleIter s.heap.objs.size l 0 → h'.objs.size = s.heap.objs.size + 2 →
      (∀ b o, s.heap.get? b = some o → h'.get? b = some o) → Q (.ref (s.heap.objs.size + 1)) { s with heap := h' }) :
    wpAny (model prog w) A (call (.type "enumerate") [.ref l]) Q E s := by
  obtain ⟨⟨c, dct, dt, sl⟩, hl, hc, n, hd⟩ := hL
  replace hc : c = .type "tuple" := hc
  replace hd : dt = .seq items n := hd
  subst hc hd
  refine callType_new F.called_enumerate (by decide) (F.typeCall_enumerate_1 _) (F.newCall_enumerate_1 _) (fun obj => F.args_object_init_2 obj _) F.entry_enumerate_new
    (meets_enum_tup l items n dct sl) ⟨hl, ?_⟩
  have hz : (s.heap.push { cls := .type "tuple_iterator", data := .fields #[.ref l, .int 0 0] }).objs.size = s.heap.objs.size + 1 := Heap.size_push ..
  show _ ∧ _
  rw [hz]
  have he : IsEnum ((s.heap.push { cls := .type "tuple_iterator", data := .fields #[.ref l, .int 0 0] }).push
      { cls := .type "enumerate", data := .fields #[.none, .bool false, .ref s.heap.objs.size, rawInt 0, .none, .none] }) (s.heap.objs.size + 1) s.heap.objs.size 0 .none := by
    have := Heap.get?_push_size (s.heap.push { cls := .type "tuple_iterator", data := .fields #[.ref l, .int 0 0] })
      (o := { cls := .type "enumerate", data := .fields #[.none, .bool false, .ref s.heap.objs.size, rawInt 0, .none, .none] }) rfl
    rw [hz] at this; exact this
  refine ⟨⟨_, he, rfl⟩, h _ he ⟨_, Heap.get?_push_of_some _ (Heap.get?_push_size _ rfl), rfl, rfl⟩ (by rw [Heap.size_push, hz]) fun b o x => Heap.get?_push_of_some _ (Heap.get?_push_of_some _ x)⟩
def IteT (K : PySem.W.Frag) (a : Addr) : It :=
  ⟨fun i H => ∃ (xs : List V) (x : V), SqT K H a xs ∧ xs[i]? = some x, fun i H v H' => ∃ T x, v = .ref T ∧ H T = none ∧ H' = upd H T (.tup [.int (i : Nat), x]) ∧ ∀ xs, SqT K H a xs → xs[i]? = some x, fun i H => ∃ xs : List V, SqT K H a xs ∧ xs.length ≤ i⟩
theorem turn_enumT {P : Program} {w : World} {K : PySem.W.Frag} {elts : List Expr} {kk : Nat} {tpos : Pos} (a e it n : Nat) (ha : a < it) (hei : e = it + 1) :
    Turn P w K (.Tuple elts kk tpos) ⟨fun i H => ∃ (xs : List V) (x : V), SqT K H a xs ∧ xs.length = n ∧ xs[i]? = some x, (IteT K a).yld, fun i H => ∃ xs : List V, SqT K H a xs ∧ xs.length = n ∧ n ≤ i⟩ [e, it] e (fun i h => i ≤ n ∧ (∃ old, IsEnum h e it ((i : Nat) : Int) old) ∧ h.IsTupleIter it a i) where
  mem := by simp
  obj := fun i h st b hb => by
    obtain ⟨_, ⟨old, he⟩, ⟨o, ho, hc, hd⟩⟩ := st
    have e' : b = e ∨ b = it := by simpa using hb
    rcases e' with z | z
    · rw [z]; exact ⟨_, he, fun v q => nomatch q⟩
    · rw [z]; exact ⟨o, ho, fun v q => by rw [hd] at q; cases q⟩
  keep := fun i h h' st k => let ⟨hin, ⟨old, he⟩, hi⟩ := st; ⟨hin, ⟨old, k e (by simp) _ he⟩, hi.at fun o q => k it (by simp) o q⟩
  item := by
    intro X hP hw hK hc i pins s σ H E I hf st hg
    subst hP hw hK
    obtain ⟨hin, ⟨old, he⟩, hit⟩ := st
    obtain ⟨xs, x, hq, hn, hx⟩ := hg
    obtain ⟨its, rv, p, hz⟩ := I.tuple hq
    obtain ⟨u, hu, ru⟩ := rv.get hx
    have hne : e ≠ it := by rw [hei]; exact Nat.succ_ne_self _
    have hel : e < s.heap.objs.size := Heap.lt_size he
    have hil : it < s.heap.objs.size := by obtain ⟨_, q, _⟩ := hit; exact Heap.lt_size q
    have hlt : i < its.toArray.size := by
      have := (List.getElem?_eq_some_iff.mp hu).1
      simpa using this
    have D := Draws.tuple (prog := X.prog) (w := X.w) (A := X.A.in1) (I.ok.hd hc) it a (Nat.ne_of_lt ha) its.toArray
    refine wpAny_pyNext_enum_itemD D he ⟨hit, p⟩ hlt hne (by simp only [List.mem_cons, List.not_mem_nil, or_false, not_or]; exact ⟨hne, Nat.ne_of_gt (show a < e by omega)⟩) fun y h' tk hy ho hs' hT hsz hk => ?_
    have hyu : y = u := by
      have e1 : its.toArray[i]? = some y := hy
      have e2 : its.toArray[i]? = some u := by simpa using hu
      rw [e1] at e2
      exact Option.some.inj e2
    subst hyu
    refine ⟨_, rfl, wpAny_letOwnedTupleGo_enum (s := { s with heap := h', toks := tk + 1 }) ho fun h'' he' sb => ?_⟩
    have hT2 : h''.get? s.heap.objs.size = some { cls := .type "tuple", data := .seq #[.int i tk, y] } := (sb.2 _ (Nat.ne_of_gt hel)).trans hT
    have new : ObjOk X.prog X.w (upd H s.heap.objs.size (.tup [.int (i : Nat), x])) h'' s.heap.objs.size (.tup [.int (i : Nat), x]) :=
      ⟨by show 2 ≤ sizeLine; decide, [.int i tk, y], .cons ⟨_, rfl⟩ (.cons ru .nil), ⟨_, hT2, rfl, _, rfl⟩⟩
    have I1 : Inv X pins σ (upd H s.heap.objs.size (.tup [.int (i : Nat), x])) { s with heap := h'', toks := tk + 1 } :=
      I.turnedNew (ch := [e, it]) (fun b ob hb q => (sb.2 b (fun z => hb (by simp [z]))).trans (hk b ob (fun z => hb (by simp [z])) (fun z => hb (by simp [z])) q)) hf (Nat.le_refl _) new
    refine ⟨.ref s.heap.objs.size, _, I1, rfl, ⟨_, x, rfl, I.hok.fresh (Nat.le_refl _), rfl, fun ys hy => by rw [I.tuple_inj hy hq]; exact hx⟩, ⟨by rw [← hn]; exact (List.getElem?_eq_some_iff.mp hx).1, ⟨y, ?_⟩, hs'.1.at fun o q => (sb.2 it (Ne.symm hne)).trans q⟩, fun b hb => ?_⟩
    · have e1 : ((i + 1 : Nat) : Int) = (i : Int) + 1 := by omega
      rw [e1]; exact he'
    · have hb' : b < s.heap.objs.size := by
        have e' : b = e ∨ b = it := by simpa using hb
        rcases e' with z | z
        · rw [z]; exact hel
        · rw [z]; exact hil
      rw [upd_ne (Nat.ne_of_lt hb')]
      exact (hf b hb).1
  done := by
    intro X hP hw hK hc i pins s σ H E I hf st hg
    subst hP hw hK
    obtain ⟨hin, ⟨old, he⟩, hit⟩ := st
    obtain ⟨xs, hq, hn, hi⟩ := hg
    obtain ⟨its, rv, p, hz⟩ := I.tuple hq
    obtain ⟨f0, f1, f2, f3, f4, f5⟩ := hf it (by simp)
    have hl := rv.length
    have D := Draws.tuple (prog := X.prog) (w := X.w) (A := X.A.in1) (I.ok.hd hc) it a (Nat.ne_of_lt ha) its.toArray
    have hs : its.toArray.size = i := by rw [List.size_toArray, ← hl, hn]; exact Nat.le_antisymm hi hin
    exact wpAny_pyNext_enum_endD D he (by rw [hs]; exact ⟨hit, p⟩) fun h' eb => ⟨rfl, I.turned (t' := s.toks) (fun b o hb q => eb b o hb q) f0 f1 f3 f4 f5⟩
  self := fun A i s Q E st h => let ⟨_, ⟨_, he⟩, _⟩ := st; wpAny_pyIter_enum he h
end Bz
set_option Elab.async false
set_option linter.all false
set_option maxRecDepth 100000
set_option autoImplicit false
namespace Bz
open PySem PySem.Spec PyProof.Rows L2
section
variable {G : Gl} {X : Cx} {W : WX} {S : Wd} {h : List O}
def jE (K : PySem.W.Frag) (a n : Nat) : It := ⟨fun i H => ∃ (xs : List V) (x : V), SqT K H a xs ∧ xs.length = n ∧ xs[i]? = some x, (IteT K a).yld, fun i H => ∃ xs : List V, SqT K H a xs ∧ xs.length = n ∧ n ≤ i⟩
theorem it_enumT {l : List D} {p : Addr} {vs : List V} (r0 : RH G h S) (q1 : TQ G.K S.H p vs) (q2 : RVs G.K S l vs) : ItOk G S (.en (.fx l)) (jE G.K p vs.length) where
  stop := fun S' h' k e r ho => by
    simp only [itemAt] at ho
    split at ho
    · cases ho
    · rename_i h0
      have h0 : l[k]? = none := Option.some.inj h0
      exact ⟨vs, (TQ.ext r0 e q1).sq, rfl, by rw [← q2.length]; exact get_none_le h0⟩
    · cases ho
  go := fun S' h' k d e r ho => by
    simp only [itemAt] at ho
    split at ho
    · rename_i d' h0
      cases ho
      have h0 : l[k]? = some d' := Option.some.inj h0
      obtain ⟨x, h2, h3⟩ := (q2.ext r0 e).get h0
      have sq := (TQ.ext r0 e q1).sq
      refine ⟨⟨vs, x, sq, rfl, h2⟩, fun y H' ⟨p', x', ey, hp, eH, hy⟩ => ?_⟩
      have := (hy vs sq).symm.trans h2
      cases this
      rw [ey]
      exact new_pair r hp eH (.int _) h3
    · cases ho
    · cases ho
/-- a list or a tuple -/
def ivQ (h : List O) (t : T) : Option IV := match t with
  | .v (.str _) => none
  | t => ivT h t
theorem ivQ_ok {H0 : Hp} {t : T} {x : V} {v : IV} (r : RH G h S) (q : RT G H0 S t x) (e : ivQ h t = some v) :
    (∃ a, x = .ref a ∧ (∃ xs, SqL G.K S.H a xs) ∧ InS (SqL G.K) G S v a) ∨ ∃ (a : Addr) (l : List D) (vs : List V), x = .ref a ∧ v = .fx l ∧ TQ G.K S.H a vs ∧ RVs G.K S l vs ∧ InS (SqT G.K) G S v a := by
  unfold ivQ at e
  split at e
  · cases e
  · rename_i hn
    rcases ivT_ok r q e with z | ⟨a, ex, _, i⟩ | ⟨s, ex, ev⟩
    · exact .inl z
    · cases q with
      | v q =>
        cases q with
        | @tup l p vs q1 q2 => cases e; cases ex; exact .inr ⟨_, l, vs, rfl, rfl, q1, q2, i⟩
        | @ref i hi =>
          refine .inl ?_
          rcases ivT_ok r (.v (RV.ref hi) : RT G H0 S _ _) e with z | ⟨a, ex, _, i⟩ | ⟨s, ex, ev⟩
          · exact z
          · simp only [ivT] at e
            split at e
            · rename_i l hl
              cases e
              obtain ⟨vs, h1, h2⟩ := r.obj _ _ hl
              refine ⟨_, rfl, ⟨vs, SqL.of h1⟩, fun S' h' k o e' r' ho => ?_⟩
              simp only [itemAt] at ho
              split at ho
              · rename_i l' hl'
                cases ho
                obtain ⟨vs', h1', h2'⟩ := r'.obj _ _ hl'
                rw [e'.ag _ hi] at h1'
                exact ⟨vs', SqL.of h1', rvs_item h2' k⟩
              · cases ho
            · cases e
          · cases ex
        | @fl l p vs q1 q2 =>
          cases e
          refine .inl ⟨p, rfl, ⟨vs, q1.sq⟩, fun S' h' k o e' r' ho => ⟨vs, (IQ.ext r e' q1).sq, ?_⟩⟩
          cases ho
          exact rvs_item (q2.ext r e') k
        | str => cases ex
        | _ => cases e
      | @tl l vs a b c d f =>
        cases e
        refine .inl ⟨a, rfl, ⟨vs, SqL.of b⟩, fun S' h' k o e' r' ho => ⟨vs, SqL.of (e'.fr _ _ f b fun _ z => by cases z), ?_⟩⟩
        cases ho
        exact rvs_item (c.ext r e') k
      | _ => cases e
    · subst ex
      cases q with
      | v q => cases q with
        | str => exact (hn s rfl).elim
/-- enumerate(x) -/
def ivE (h : List O) : List T → Option IV
  | [t] => (ivQ h t).map .en
  | _ => none
def eiH (g : List O → List T → Option IV) (f : Ea) : Ei := fun r h => (f r h).bind fun ts h1 => optR h1 (g h1 ts)
theorem si_enum {elts : List Expr} {kk : Nat} {tpos : Pos} {e : Expr} {f : Ea} {p pos : Pos} (hK : X.K = G.K) (hg : L2.Gl X "enumerate") (hm : X.mg "enumerate" = none) (ha : SAs G X W f [e]) (hs : starEach [e] X.env = [(false, eval e X.env)] := by rfl) :
    SI G X W (.Tuple elts kk tpos) (eiH ivE f) (.Call (.Name "enumerate" p) [e] [] pos) := by
  refine ⟨fun pins s σ H R I ⟨S, r, h, eH, q, z, p⟩ => ?_⟩
  subst eH
  refine Call_ (ld_blt I hg hm boot_enumerate (PyProof.Rows.callWith_type1 (thn (ha.run pos pins s σ S.H (fun vs H1 => (∃ a xs, vs = [.ref a] ∧ SqL X.K H1 a xs ∧ R (Ite X.K a) H1) ∨ ∃ a xs, vs = [.ref a] ∧ SqT X.K H1 a xs ∧ R (jE X.K a xs.length) H1) I
    ⟨S, r, h, rfl, q, z, PO.step p fun S1 h1 ts x e1 r1 z1 p1 => ?_⟩) fun us s1 ⟨vs, H1, I1, r1, q1⟩ => ?_) hs rfl))
  · obtain ⟨v, hv, p1⟩ := PO.optR p1
    unfold ivE at hv
    split at hv
    · rename_i t
      rw [Option.map_eq_some_iff] at hv
      obtain ⟨v, hv, rfl⟩ := hv
      obtain ⟨y, rfl, qt⟩ := args1 z1
      rw [hK]
      rcases ivQ_ok r1 qt hv with ⟨a, rfl, ⟨xs, hs⟩, i⟩ | ⟨a, l, vs, rfl, rfl, q1, q2, i⟩
      · exact .inl ⟨a, xs, rfl, hs, p1 S1 _ (Ext.refl S1) r1 (it_enum i)⟩
      · exact .inr ⟨a, vs, rfl, q1.sq, p1 S1 _ (Ext.refl S1) r1 (it_enumT r1 q1 q2)⟩
    · cases hv
  · rcases q1 with ⟨a, xs, ex, hq, q⟩ | ⟨a, xs, ex, hq, q⟩
    · subst ex
      cases r1 with
      | cons r rr =>
        cases rr
        cases r
        obtain ⟨its, rv, p', hz⟩ := I1.list hq
        refine call_enumerate_list p'.isList fun h' he hit hsz hk => wpAny_pyIter_enum he ?_
        have I2 : Inv X pins σ H1 { s1 with heap := h' } := I1.kept (t' := s1.toks) hk
        refine ⟨s1.heap.objs.size + 1, [s1.heap.objs.size + 1, s1.heap.objs.size], _, _, H1, rfl, I2, turn_enum a (s1.heap.objs.size + 1) s1.heap.objs.size, ⟨⟨.none, he⟩, hit, Nat.succ_ne_self _⟩, fun b hb => ?_, q⟩
        have e' : b = s1.heap.objs.size + 1 ∨ b = s1.heap.objs.size := by simpa using hb
        have hle : s1.heap.objs.size ≤ b := by
          rcases e' with z | z
          · rw [z]; exact Nat.le_add_right _ _
          · rw [z]; exact Nat.le_refl _
        exact I1.fpOk hle (I1.hok.fresh hle)
    · subst ex
      cases r1 with
      | cons r rr =>
        cases rr
        cases r
        obtain ⟨its, rv, p', hz⟩ := I1.tuple hq
        refine call_enum_tup p' fun h' he hit hsz hk => wpAny_pyIter_enum he ?_
        have I2 : Inv X pins σ H1 { s1 with heap := h' } := I1.kept (t' := s1.toks) hk
        refine ⟨s1.heap.objs.size + 1, [s1.heap.objs.size + 1, s1.heap.objs.size], _, _, H1, rfl, I2, turn_enumT a (s1.heap.objs.size + 1) s1.heap.objs.size xs.length ?_ rfl, ⟨Nat.zero_le _, ⟨.none, he⟩, hit⟩, fun b hb => ?_, q⟩
        · obtain ⟨o, ho, _⟩ := p'
          exact Heap.lt_size ho
        · have e' : b = s1.heap.objs.size + 1 ∨ b = s1.heap.objs.size := by simpa using hb
          have hle : s1.heap.objs.size ≤ b := by
            rcases e' with z | z
            · rw [z]; exact Nat.le_add_right _ _
            · rw [z]; exact Nat.le_refl _
          exact I1.fpOk hle (I1.hok.fresh hle)
/-- zip(x, y), two lists or two tuples -/
def kindQ : T → Bool
  | .v (.tup _) => true
  | _ => false
def ivZ (h : List O) : List T → Option IV
  | [t, u] => if kindQ t == kindQ u then match ivQ h t, ivQ h u with
      | some v, some w => some (.zp v w)
      | _, _ => none
    else none
  | _ => none
theorem ivQ_tup {H0 : Hp} {t : T} {x : V} {v : IV} (r : RH G h S) (q : RT G H0 S t x) (e : ivQ h t = some v) :
    (kindQ t = false ∧ ∃ a xs, x = .ref a ∧ SqL G.K S.H a xs ∧ InS (SqL G.K) G S v a) ∨ (kindQ t = true ∧ ∃ (a : Addr) (vs : List V), x = .ref a ∧ SqT G.K S.H a vs ∧ InS (SqT G.K) G S v a) := by
  cases hk : kindQ t with
  | true =>
    refine .inr ⟨rfl, ?_⟩
    cases q with
    | v q =>
      cases q with
      | @tup l p vs q1 q2 =>
        cases e
        refine ⟨p, vs, rfl, q1.sq, fun S' h' k o e' r' ho => ⟨vs, (TQ.ext r e' q1).sq, ?_⟩⟩
        cases ho
        exact rvs_item (q2.ext r e') k
      | _ => cases hk
    | _ => cases hk
  | false =>
    refine .inl ⟨rfl, ?_⟩
    rcases ivQ_ok r q e with ⟨a, ex, ⟨xs, hs⟩, i⟩ | ⟨a, l, vs, ex, ev, q1, q2, i⟩
    · exact ⟨a, xs, ex, hs, i⟩
    · cases q with
      | v q =>
        cases q with
        | tup => cases hk
        | @ref i hi =>
          exfalso
          cases ex
          unfold ivQ at e
          simp only [ivT] at e
          split at e
          · subst ev; cases e
          · cases e
        | @fl l' p vs' q1' q2' =>
          cases ex
          exact ⟨_, vs', rfl, q1'.sq, fun S' h' k o e' r' ho => ⟨vs', (IQ.ext r e' q1').sq, by
            cases e
            cases ho
            exact rvs_item (q2'.ext r e') k⟩⟩
        | _ => cases e
      | @tl l' vs' a' b c d f =>
        cases ex
        exact ⟨_, vs', rfl, SqL.of b, fun S' h' k o e' r' ho => ⟨vs', SqL.of (e'.fr _ _ f b fun _ z => by cases z), by
          cases e
          cases ho
          exact rvs_item (c.ext r e') k⟩⟩
      | _ => cases e
theorem si_zip {elts : List Expr} {kk : Nat} {tpos : Pos} {e e2 : Expr} {f : Ea} {p pos : Pos} (hK : X.K = G.K) (hg : L2.Gl X "zip") (hm : X.mg "zip" = none) (ha : SAs G X W f [e, e2])
    (hs : starEach [e, e2] X.env = (false, eval e X.env) :: starEach [e2] X.env := by rfl) (hpl : (backTo pos (starEach [e2] X.env)).any (·.1) = false := by rfl) :
    SI G X W (.Tuple elts kk tpos) (eiH ivZ f) (.Call (.Name "zip" p) [e, e2] [] pos) := by
  refine PI.imp (RZ.pi_zipA hg hm ha hs hpl) fun s H R ⟨S, r, h, eH, q, z, p⟩ => ?_
  subst eH
  refine ⟨S, r, h, rfl, q, z, PO.step p fun S1 h1 ts x e1 r1 z1 p1 => ?_⟩
  obtain ⟨v, hv, p1⟩ := PO.optR p1
  unfold ivZ at hv
  split at hv
  · split at hv
    · rename_i hk
      have hk := eq_of_beq hk
      split at hv
      · rename_i v1 v2 h1' h2'
        cases hv
        obtain ⟨y1, y2, rfl, q1, q2⟩ := args2 z1
        rw [hK]
        rcases ivQ_tup r1 q1 h1' with ⟨k1, a, xs, rfl, sa, ia⟩ | ⟨k1, a, xs, rfl, sa, ia⟩ <;> rcases ivQ_tup r1 q2 h2' with ⟨k2, b, ys, rfl, sb, ib⟩ | ⟨k2, b, ys, rfl, sb, ib⟩
        · exact ⟨a, b, xs, ys, rfl, .inl ⟨sa, sb, p1 S1 _ (Ext.refl S1) r1 (it_zip ia ib)⟩⟩
        · rw [k1, k2] at hk; cases hk
        · rw [k1, k2] at hk; cases hk
        · exact ⟨a, b, xs, ys, rfl, .inr ⟨sa, sb, p1 S1 _ (Ext.refl S1) r1 (it_zipT ia ib)⟩⟩
      · cases hv
    · cases hv
  · cases hv
end
end Bz
set_option Elab.async false
set_option linter.all false
set_option maxRecDepth 100000
set_option autoImplicit false
namespace Bz
open PySem PySem.Spec PyProof.Rows L2

/-! ### statements -/
abbrev Rho := List (Option D)
inductive RSt where
  | nx (r : Rho) (h : List O) | ct (r : Rho) (h : List O) | bk (r : Rho) (h : List O)
  | rt (t : T) (h : List O) | ex (c : Nat) (fs : List D) (r : Rho) (h : List O) | bad
abbrev Es := Rho → List O → RSt
def R.to {A : Type} (r : Rho) (x : R A) (k : A → List O → RSt) : RSt := match x with
  | .ok t h => k t h
  | .ex c fs h => .ex c fs r h
  | .bad => .bad
@[simp] theorem R.to_ok {A : Type} (r : Rho) (t : A) (h : List O) (k : A → List O → RSt) : R.to r (.ok t h) k = k t h := rfl
@[simp] theorem R.to_ex {A : Type} (r : Rho) (c : Nat) (fs : List D) (h : List O) (k : A → List O → RSt) : R.to r (.ex c fs h : R A) k = .ex c fs r h := rfl
@[simp] theorem R.to_bad {A : Type} (r : Rho) (k : A → List O → RSt) : R.to r (.bad : R A) k = .bad := rfl
section
variable {G : Gl} {X : Cx} {W : WX} {S : Wd} {h : List O}
def PSt (G : Gl) (W : WX) (S : Wd) (D : Ends) : RSt → Prop
  | .nx r h => ∀ (S' : Wd) (σ : L2.St), Ext S S' → RH G h S' → RS G S' r σ → D.nx σ S'.H
  | .ct r h => ∀ (S' : Wd) (σ : L2.St), Ext S S' → RH G h S' → RS G S' r σ → D.ct σ S'.H
  | .bk r h => ∀ (S' : Wd) (σ : L2.St), Ext S S' → RH G h S' → RS G S' r σ → D.bk σ S'.H
  | .rt t h => ∀ (S' : Wd) (x : V), Ext S S' → RH G h S' → RT G S.B S' t x → D.rt x S'.H
  | .ex c fs r h => ∀ (S' : Wd) (cls : Value) (d : Option Addr) (σ : L2.St), Ext S S' → RH G h S' → RX G S' c fs cls d → RS G S' r σ → W cls d σ S'.H
  | .bad => False
theorem PSt.later {D : Ends} {S1 : Wd} (e : Ext S S1) : ∀ {x : RSt}, PSt G W S D x → PSt G W S1 D x
  | .nx r h, q => fun S' σ e' r z => q S' σ (e.trans e') r z
  | .ct r h, q => fun S' σ e' r z => q S' σ (e.trans e') r z
  | .bk r h, q => fun S' σ e' r z => q S' σ (e.trans e') r z
  | .rt t h, q => fun S' x e' r z => q S' x (e.trans e') r (z.from e.dm)
  | .ex c fs r h, q => fun S' cls d σ e' r z w => q S' cls d σ (e.trans e') r z w
  | .bad, q => q
theorem PSt.stepAt {A B : Type} {l : Rl G A B} {D : Ends} {S0 : Wd} {h0 : List O} {r : Rho} {σ : L2.St} {x : R A} {k : A → List O → RSt} {Q : B → Hp → Prop} (e0 : Ext S S0) (rh : RH G h0 S0) (z : RS G S0 r σ) (p : PSt G W S D (x.to r k))
    (f : ∀ (S1 : Wd) (h1 : List O) (a : A) (b : B), Ext S0 S1 → RH G h1 S1 → l.rel S0.B S1 a b → PSt G W S D (k a h1) → Q b S1.H) : PO G l (fun c d H' => W c d σ H') S0 Q x := by
  cases x with
  | ok t h => exact fun S' b e r' w => f S' h t b e r' w p
  | ex c fs h => exact fun S' cls d e r' w => p S' cls d σ (e0.trans e) r' w (z.ext rh e)
  | bad => exact p
theorem PSt.step {A B : Type} {l : Rl G A B} {D : Ends} {h0 : List O} {r : Rho} {σ : L2.St} {x : R A} {k : A → List O → RSt} {Q : B → Hp → Prop} (rh : RH G h0 S) (z : RS G S r σ) (p : PSt G W S D (x.to r k))
    (f : ∀ (S1 : Wd) (h1 : List O) (a : A) (b : B), Ext S S1 → RH G h1 S1 → l.rel S.B S1 a b → PSt G W S1 D (k a h1) → Q b S1.H) : PO G l (fun c d H' => W c d σ H') S Q x :=
  PSt.stepAt (Ext.refl S) rh z p fun S1 h1 a b e r' w q => f S1 h1 a b e r' w (q.later e)
def rdS (G : Gl) (W : WX) (f : Es) : TS := fun D σ H => ∃ S r h, S.H = H ∧ RH G h S ∧ RS G S r σ ∧ PSt G W S D (f r h)
abbrev SS (G : Gl) (X : Cx) (W : WX) (f : Es) (st : Stmt) : Prop := PS X st (rdS G W f)
abbrev SSs (G : Gl) (X : Cx) (W : WX) (f : Es) (st : List Stmt) : Prop := PSs X st (rdS G W f)
theorem PS.imp {st : Stmt} {t t' : TS} (p : PS X st t) (q : ∀ D s H, t' D s H → t D s H) : PS X st t' := ⟨fun pins s σ H D I z => p.run pins s σ H D I (q _ _ _ z)⟩
theorem PSs.imp {st : List Stmt} {t t' : TS} (p : PSs X st t) (q : ∀ D s H, t' D s H → t D s H) : PSs X st t' := ⟨fun pins s σ H D I z => p.run pins s σ H D I (q _ _ _ z)⟩
def esNil : Es := fun r h => .nx r h
def esSeq (f g : Es) : Es := fun r h => match f r h with
  | .nx r' h' => g r' h'
  | o => o
theorem ss_nil : SSs G X W esNil [] := PSs.imp pss_nil fun D s H ⟨S, r, h, e, q, z, p⟩ => by subst e; exact p S s (Ext.refl S) q z
theorem ss_cons {st : Stmt} {rest : List Stmt} {f g : Es} (hf : SS G X W f st) (hg : SSs G X W g rest) : SSs G X W (esSeq f g) (st :: rest) := by
  refine PSs.imp (pss_cons hf hg) fun D s H ⟨S, r, h, e, q, z, p⟩ => ?_
  subst e
  refine ⟨S, r, h, rfl, q, z, ?_⟩
  unfold esSeq at p
  split at p
  · rename_i r' h' e'
    rw [e']
    exact fun S' σ e' r1 z1 => ⟨S', _, _, rfl, r1, z1, p.later e'⟩
  · rename_i o hn
    cases e : f r h with
    | nx r' h' => exact (hn _ _ e).elim
    | ct r' h' => rw [e] at p; exact p
    | bk r' h' => rw [e] at p; exact p
    | rt r' h' => rw [e] at p; exact p
    | ex c fs r' h' => rw [e] at p; exact p
    | bad => rw [e] at p; exact p.elim
theorem ss_one {st : Stmt} {f : Es} (hf : SS G X W f st) : SSs G X W f [st] := pss_one hf
def esPass : Es := fun r h => .nx r h
def esBrk : Es := fun r h => .bk r h
def esCnt : Es := fun r h => .ct r h
theorem ss_pass {pos : Pos} : SS G X W esPass (.Pass pos) := PS.imp ps_pass fun D s H ⟨S, r, h, e, q, z, p⟩ => by subst e; exact p S s (Ext.refl S) q z
theorem ss_brk {pos : Pos} : SS G X W esBrk (.Break pos) := PS.imp ps_break fun D s H ⟨S, r, h, e, q, z, p⟩ => by subst e; exact p S s (Ext.refl S) q z
theorem ss_cnt {pos : Pos} : SS G X W esCnt (.Continue pos) := PS.imp ps_continue fun D s H ⟨S, r, h, e, q, z, p⟩ => by subst e; exact p S s (Ext.refl S) q z
def esE (f : Ev) : Es := fun r h => (f r h).to r fun _ h1 => .nx r h1
theorem ss_expr {e : Expr} {f : Ev} {pos : Pos} (hf : SE G X W f e) (hs : swapsWith e none pos.line X.env = pure false := by rfl) : SS G X W (esE f) (.Expr e pos) := by
  refine PS.imp (ps_expr hf hs) fun D s H ⟨S, r, h, e, q, z, p⟩ => ?_
  subst e
  exact ⟨S, r, h, rfl, q, z, PSt.step q z p fun S1 h1 a b e1 r1 w p1 => p1 S1 s (Ext.refl S1) r1 (z.ext q e1)⟩
def esRet (f : Ev) : Es := fun r h => (f r h).to r fun t h1 => .rt t h1
theorem ss_ret {e : Expr} {f : Ev} {pos : Pos} (hf : SE G X W f e) : SS G X W (esRet f) (.Return (some e) pos) := by
  refine PS.imp (ps_ret hf) fun D s H ⟨S, r, h, e, q, z, p⟩ => ?_
  subst e
  exact ⟨S, r, h, rfl, q, z, PSt.stepAt (Ext.refl S) q z p fun S1 h1 a b e1 r1 w p1 => p1 S1 b e1 r1 w⟩
def esRetN : Es := fun r h => .rt (.v .non) h
theorem ss_retN {pos : Pos} : SS G X W esRetN (.Return none pos) := PS.imp ps_retN fun D s H ⟨S, r, h, e, q, z, p⟩ => by subst e; exact p S .non (Ext.refl S) q (.v .non)
def esIf (c : Ec) (f g : Es) : Es := fun r h => (c r h).to r fun b h1 => if b then f r h1 else g r h1
theorem ss_if {c : Expr} {a b : List Stmt} {fc : Ec} {f g : Es} {pos : Pos} (hc : SC G X W fc c) (ha : SSs G X W f a) (hb : SSs G X W g b) : SS G X W (esIf fc f g) (.If c a b pos) := by
  refine PS.imp (ps_if hc ha hb) fun D s H ⟨S, r, h, e, q, z, p⟩ => ?_
  subst e
  refine ⟨S, r, h, rfl, q, z, PSt.step q z p fun S1 h1 a b e1 r1 w p1 => ?_⟩
  cases (show a = b from w)
  cases a with
  | true => exact ⟨S1, r, h1, rfl, r1, z.ext q e1, p1⟩
  | false => exact ⟨S1, r, h1, rfl, r1, z.ext q e1, p1⟩

/-! ### targets -/
abbrev Eg := D → Rho → List O → RSt
abbrev Egs := List D → Rho → List O → RSt
def gEnds (Q : L2.St → Hp → Prop) : Ends := { nx := Q, rt := fun _ _ => False }
def rdG (G : Gl) (W : WX) (g : Eg) : TG := fun v σ H Q => ∃ S r h d, S.H = H ∧ RH G h S ∧ RS G S r σ ∧ RV G.K S d v ∧ PSt G W S (gEnds Q) (g d r h)
def rdGs (G : Gl) (W : WX) (g : Egs) : TGs := fun vs σ H Q => ∃ S r h ds, S.H = H ∧ RH G h S ∧ RS G S r σ ∧ RVs G.K S ds vs ∧ PSt G W S (gEnds Q) (g ds r h)
abbrev SG (G : Gl) (X : Cx) (W : WX) (g : Eg) (e : Expr) : Prop := PG X e (rdG G W g)
abbrev SGs (G : Gl) (X : Cx) (W : WX) (g : Egs) (e : List Expr) : Prop := PGs X e (rdGs G W g)
theorem PG.imp {e : Expr} {t t' : TG} (p : PG X e t) (q : ∀ v s H Q, t' v s H Q → t v s H Q) : PG X e t' := ⟨fun pins s σ H v u Q I r z => p.run pins s σ H v u Q I r (q _ _ _ _ z)⟩
theorem PGs.imp {e : List Expr} {t t' : TGs} (p : PGs X e t) (q : ∀ v s H Q, t' v s H Q → t v s H Q) : PGs X e t' := ⟨fun pins s σ H v u Q I r z => p.run pins s σ H v u Q I r (q _ _ _ _ z)⟩
def egN (i : Nat) : Eg := fun d r h => .nx (r.set i (some d)) h
theorem sg_name {i : Nat} {x : Str} {pos : Pos} (hN : X.N.Nodup) (hi : X.N[i]? = some x) (hx : Loc X.env.scope x) (hf : X.fn x = true ∨ X.env.scope.names.lookup x = some .local := by first | exact .inl rfl | exact .inr rfl | assumption) : SG G X W (egN i) (.Name x pos) :=
  PG.imp (pg_name hN hi hx hf) fun v s H Q ⟨S, r, h, d, e, q, z, w, p⟩ => by
    subst e
    exact p S _ (Ext.refl S) q (z.set i w)
def egsNil : Egs := fun ds r h => match ds with
  | [] => .nx r h
  | _ => .bad
def egsCons (g : Eg) (gs : Egs) : Egs := fun ds r h => match ds with
  | d :: ds => match g d r h with
    | .nx r' h' => gs ds r' h'
    | .ex c fs r' h' => .ex c fs r' h'
    | _ => .bad
  | [] => .bad
theorem sgs_nil : SGs G X W egsNil [] := PGs.imp pgs_nil fun v s H Q ⟨S, r, h, d, e, q, z, w, p⟩ => by
  subst e
  unfold egsNil at p
  split at p
  · cases w
    exact ⟨rfl, p S _ (Ext.refl S) q z⟩
  · exact p.elim
theorem sgs_cons {e : Expr} {es : List Expr} {g : Eg} {gs : Egs} (h1 : SG G X W g e) (h2 : SGs G X W gs es) (hs : (assignEach (e :: es) X.env).map (·.2) = assign e X.env :: (assignEach es X.env).map (·.2) := by rfl) : SGs G X W (egsCons g gs) (e :: es) := by
  refine PGs.imp (pgs_cons h1 h2 hs) fun v s H Q ⟨S, r, h, d, e, q, z, w, p⟩ => ?_
  subst e
  unfold egsCons at p
  split at p
  · rename_i d ds
    cases w with
    | cons w1 w2 =>
      refine ⟨_, _, rfl, S, r, h, d, rfl, q, z, w1, ?_⟩
      split at p
      · rename_i r' h' e'
        rw [e']
        exact fun S' σ e1 r1 z1 => ⟨S', _, _, ds, rfl, r1, z1, w2.ext q e1, p.later e1⟩
      · rename_i c fs r' h' e'
        rw [e']
        exact p
      · exact p.elim
  · exact p.elim
def egT (n : Nat) (gs : Egs) : Eg := fun d r h => match d with
  | .tup l => if l.length = n then gs l r h else .bad
  | _ => .bad
theorem sg_tup {es : List Expr} {k n : Nat} {gs : Egs} {pos : Pos} (hK : X.K = G.K) (hc : X.calm = true) (h : SGs G X W gs es) (hn : (assignEach es X.env).length = n := by rfl) (hst : (assignEach es X.env).findIdx? (·.1) = none := by rfl) : SG G X W (egT n gs) (.Tuple es k pos) := by
  refine PG.imp (pg_tup hc h hn hst) fun v s H Q ⟨S, r, h, d, e, q, z, w, p⟩ => ?_
  subst e
  unfold egT at p
  split at p
  · split at p
    · rename_i hl
      cases w with
      | tup q1 q2 => exact ⟨_, _, rfl, by rw [hK]; exact q1.sq, by rw [← q2.length]; exact hl, S, r, h, _, rfl, q, z, q2, p⟩
    · exact p.elim
  · exact p.elim

/-! ### assignments -/
def esAsg (f : Ev) (g : Eg) : Es := fun r h => (f r h).to r fun t h1 => match alc t h1 with
  | some (d, h2) => match g d r h2 with
    | .nx r' h' => .nx r' h'
    | .ex c fs r' h' => .ex c fs r' h'
    | _ => .bad
  | none => .bad
theorem PSt.gEnds {D : Ends} : ∀ {x : RSt}, PSt G W S D (match x with
    | .nx r' h' => .nx r' h'
    | .ex c fs r' h' => .ex c fs r' h'
    | _ => .bad) → PSt G W S (Bz.gEnds D.nx) x
  | .nx r h, q => q
  | .ct r h, q => q.elim
  | .bk r h, q => q.elim
  | .rt t h, q => q.elim
  | .ex c fs r h, q => q
  | .bad, q => q
theorem asg_ok {f : Ev} {g : Eg} {D : Ends} {s : L2.St} {H : Hp} (p : rdS G W (esAsg f g) D s H) : tAsg (rd G (rT G) W f) (rdG G W g) D s H := by
  obtain ⟨S, r, h, e, q, z, p⟩ := p
  subst e
  refine ⟨S, r, h, rfl, q, z, PSt.stepAt (Ext.refl S) q z p fun S1 h1 t x e1 r1 w p1 => ?_⟩
  cases ea : alc t h1 with
  | none => simp only [ea] at p1; exact p1.elim
  | some dh =>
    obtain ⟨d, h2⟩ := dh
    simp only [ea] at p1
    obtain ⟨S2, r2, w2, g2, e2⟩ := alc1 e1 r1 w ea
    exact ⟨S2, r, h2, d, g2.H, r2, z.ext q e2, w2, PSt.gEnds (p1.later e2)⟩
theorem ss_asg {tg e : Expr} {f : Ev} {g : Eg} {pos : Pos} (he : SE G X W f e) (hg : SG G X W g tg) (hs : swapsWithSole [tg] e pos.line X.env = pure false := by rfl) (hw : swappedStores [tg] e X.env = pure none := by rfl)
    (h1 : (assignEach [tg] X.env).map (·.2) = [assign tg X.env] := by rfl) : SS G X W (esAsg f g) (.Assign [tg] e pos) := PS.imp (ps_asg he hg hs hw h1) fun D s H p => asg_ok p
/-- a, b = e, f on locals -/
def esPar (i j : Nat) (f : Ea) : Es := fun r h => (f r h).to r fun ts h1 => match alcs ts h1 with
  | some ([d, e], h2) => .nx ((r.set i (some d)).set j (some e)) h2
  | _ => .bad
theorem ss_par {i j : Nat} {x y : Str} {a b : Expr} {f : Ea} {px py pt : Pos} {kt k2 : Nat} {pt2 pos : Pos} (hc : X.calm = true) (hN : X.N.Nodup) (hi : X.N[i]? = some x) (hj : X.N[j]? = some y) (hij : i ≠ j)
    (hx : X.env.scope.names.lookup x = some .local) (hy : X.env.scope.names.lookup y = some .local) (ha : SAs G X W f [a, b])
    (hw : swappedStores [.Tuple [.Name x px, .Name y py] kt pt] (.Tuple [a, b] k2 pt2) X.env = pure (some [x, y]) := by rfl)
    (hs : swapsWithSole [.Tuple [.Name x px, .Name y py] kt pt] (.Tuple [a, b] k2 pt2) pos.line X.env = pure false := by rfl) : SS G X W (esPar i j f) (.Assign [.Tuple [.Name x px, .Name y py] kt pt] (.Tuple [a, b] k2 pt2) pos) := by
  refine PS.imp (ps_par hc hN hi hj hij hx hy ha hw hs) fun D s H ⟨S, r, h, e, q, z, p⟩ => ?_
  subst e
  refine ⟨S, r, h, rfl, q, z, PSt.stepAt (Ext.refl S) q z p fun S1 h1 ts xs e1 r1 w p1 => ?_⟩
  split at p1
  · rename_i d e h2 ea
    obtain ⟨S2, r2, w2, g2⟩ := alcs_ok r1 w.1 w.2 ea
    cases w2 with
    | cons a1 a2 =>
      cases a2 with
      | cons b1 b2 =>
        cases b2
        have e2 := g2.ext e1
        refine ⟨_, _, rfl, ?_⟩
        rw [← g2.H]
        exact p1 S2 _ e2 r2 (((z.ext q e2).set i a1).set j b1)
  · exact p1.elim

/-! ### loops -/
def forL (v : IV) (g : Eg) (b : Es) : Nat → Nat → Rho → List O → RSt
  | 0, _, _, _ => .bad
  | n + 1, k, r, h => match itemAt v k h with
    | some none => .nx r h
    | some (some d) => match g d r h with
      | .nx r1 h1 => match b r1 h1 with
        | .nx r2 h2 => forL v g b n (k + 1) r2 h2
        | .ct r2 h2 => forL v g b n (k + 1) r2 h2
        | .bk r2 h2 => .nx r2 h2
        | o => o
      | .ex c fs r1 h1 => .ex c fs r1 h1
      | _ => .bad
    | none => .bad
def fuelV (h : List O) : IV → Nat
  | .fx l => l.length
  | .lv i => match h[i]? with
    | some (.lst l) => l.length
    | _ => 0
  | .rv _ n => n
  | .en v => fuelV h v
  | .zp v _ => fuelV h v
def esFor (f : Ei) (g : Eg) (b : Es) : Es := fun r h => (f r h).to r fun v h1 => forL v g b (fuelV h1 v + 1) 0 r h1
/-- what a body gives, within a loop -/
theorem PSt.body {D : Ends} {N : L2.St → Hp → Prop} {k : Rho → List O → RSt} (hN : ∀ r h, PSt G W S D (k r h) → ∀ (S' : Wd) (σ : L2.St), Ext S S' → RH G h S' → RS G S' r σ → N σ S'.H) : ∀ {x : RSt}, PSt G W S D (match x with
      | .nx r2 h2 => k r2 h2
      | .ct r2 h2 => k r2 h2
      | .bk r2 h2 => .nx r2 h2
      | o => o) → PSt G W S { D with nx := N, ct := N, bk := D.nx } x
  | .nx r h, q => hN r h q
  | .ct r h, q => hN r h q
  | .bk r h, q => q
  | .rt t h, q => q
  | .ex c fs r h, q => q
  | .bad, q => q
theorem ss_for {tg iter : Expr} {body : List Stmt} {f : Ei} {g : Eg} {b : Es} {pos : Pos} (hp : PassesOwn (model X.prog X.w) X.A X.env X.xe) (hc : X.calm = true) (hi : SI G X W tg f iter) (hg : SG G X W g tg) (hb : SSs G X W b body)
    (hs : ∀ x, foldedSetIterable iter X.env x = pure x := by intro _; rfl) : SS G X W (esFor f g b) (.For tg iter body [] pos) := by
  refine PS.imp (ps_for hp hc hi hg hb hs) fun D s H ⟨S, r, h, e, q, z, p⟩ => ?_
  subst e
  refine ⟨S, r, h, rfl, q, z, PSt.step q z p fun S1 h1 v J e1 r1 w p1 => ?_⟩
  have w : ItOk G S1 v J := w
  refine ⟨fun i m σ H => ∃ S' r h, S'.H = H ∧ Ext S1 S' ∧ RH G h S' ∧ RS G S' r σ ∧ PSt G W S' D (forL v g b m i r h), ⟨_, S1, r, h1, rfl, Ext.refl S1, r1, z.ext q e1, p1⟩, ?_⟩
  rintro i m σ H ⟨S', r, h, rfl, e', rh, rs, p⟩
  cases m with
  | zero => exact p.elim
  | succ n =>
    simp only [forL] at p
    split at p
    · rename_i hit
      exact .inl ⟨w.stop S' h i e' rh hit, p S' σ (Ext.refl S') rh rs⟩
    · rename_i d hit
      obtain ⟨go, yl⟩ := w.go S' h i d e' rh hit
      refine .inr ⟨go, fun σ' H' => ∃ S' r h, S'.H = H' ∧ Ext S1 S' ∧ RH G h S' ∧ RS G S' r σ' ∧ PSt G W S' D (forL v g b n (i + 1) r h), fun σ' H' x => ⟨n, Nat.lt_succ_self n, x⟩, fun x H' hy => ?_⟩
      obtain ⟨S2, eH, e2, r2, w2⟩ := yl x H' hy
      refine ⟨S2, r, h, d, eH, r2, rs.ext rh e2, w2, ?_⟩
      have p2 := p.later e2
      cases eg : g d r h with
      | nx r3 h3 =>
        rw [eg] at p2
        exact fun S3 σ3 e3 r3' z3 => ⟨S3, r3, h3, rfl, r3', z3, PSt.body (fun r4 h4 p4 S4 σ4 e4 r4' z4 => ⟨S4, r4, h4, rfl, ((e'.trans e2).trans e3).trans e4, r4', z4, p4.later e4⟩) (p2.later e3)⟩
      | ex c fs r3 h3 => rw [eg] at p2; exact p2
      | ct => rw [eg] at p2; exact p2.elim
      | bk => rw [eg] at p2; exact p2.elim
      | rt => rw [eg] at p2; exact p2.elim
      | bad => rw [eg] at p2; exact p2.elim
    · exact p.elim
def whL (c : Ec) (b : Es) : Nat → Rho → List O → RSt
  | 0, _, _ => .bad
  | n + 1, r, h => (c r h).to r fun k h1 => if k then match b r h1 with
      | .nx r2 h2 => whL c b n r2 h2
      | .ct r2 h2 => whL c b n r2 h2
      | .bk r2 h2 => .nx r2 h2
      | o => o
    else .nx r h1
def esWh (n : Nat) (c : Ec) (b : Es) : Es := fun r h => whL c b n r h
theorem ss_wh {n : Nat} {c : Expr} {body : List Stmt} {fc : Ec} {b : Es} {pos : Pos} (hp : PassesOwn (model X.prog X.w) X.A X.env X.xe) (hc : SC G X W fc c) (hb : SSs G X W b body) : SS G X W (esWh n fc b) (.While c body [] pos) := by
  refine PS.imp (ps_while hp hc hb) fun D s H ⟨S, r, h, e, q, z, p⟩ => ?_
  subst e
  refine ⟨fun m σ H => ∃ S' r h, S'.H = H ∧ RH G h S' ∧ RS G S' r σ ∧ PSt G W S' D (whL fc b m r h), ⟨n, S, r, h, rfl, q, z, p⟩, ?_⟩
  rintro m σ H ⟨S', r, h, rfl, rh, rs, p⟩
  cases m with
  | zero => exact p.elim
  | succ n =>
    simp only [whL] at p
    refine ⟨S', r, h, rfl, rh, rs, PSt.step rh rs p fun S1 h1 k k' e1 r1 w p1 => ?_⟩
    cases (show k = k' from w)
    cases k with
    | false => exact p1 S1 σ (Ext.refl S1) r1 (rs.ext rh e1)
    | true =>
      exact ⟨fun σ' H' => ∃ S' r h, S'.H = H' ∧ RH G h S' ∧ RS G S' r σ' ∧ PSt G W S' D (whL fc b n r h), fun σ' H' x => ⟨n, Nat.lt_succ_self n, x⟩, S1, r, h1, rfl, r1, rs.ext rh e1,
        PSt.body (fun r4 h4 p4 S4 σ4 e4 r4' z4 => ⟨S4, r4, h4, rfl, r4', z4, p4.later e4⟩) p1⟩
end
end Bz
set_option Elab.async false
set_option linter.all false
set_option maxRecDepth 100000
set_option autoImplicit false
namespace Bz
open PySem PySem.Spec PyProof.Rows L2

/-! ### stores -/
def putD {κ : Type} [DecidableEq κ] (l : List (κ × D)) (k : κ) (d : D) : List (κ × D) :=
  if (l.any fun p => decide (p.1 = k)) = true then l.map (fun p => if p.1 = k then (p.1, d) else p) else l ++ [(k, d)]
section
variable {G : Gl} {X : Cx} {W : WX} {S : Wd} {h : List O}
theorem RKs.any {κ : Type} [DecidableEq κ] (k : κ) : ∀ {l : List (κ × D)} {vs : List (κ × V)}, RKs G S l vs → (l.any fun p => decide (p.1 = k)) = vs.any fun p => decide (p.1 = k)
  | _, _, .nil => rfl
  | _, _, .cons a b => by rw [List.any_cons, List.any_cons, a.1, RKs.any k b]
theorem RKs.repl {κ : Type} [DecidableEq κ] (k : κ) {d : D} {x : V} (q : RV G.K S d x) : ∀ {l : List (κ × D)} {vs : List (κ × V)}, RKs G S l vs → RKs G S (l.map fun p => if p.1 = k then (p.1, d) else p) (vs.map fun p => if p.1 = k then (p.1, x) else p)
  | _, _, .nil => .nil
  | p :: l, _, .cons a b => by
    rw [List.map_cons, List.map_cons]
    refine .cons ?_ (RKs.repl k q b)
    by_cases e : p.1 = k
    · rw [if_pos e, if_pos (a.1.symm.trans e)]; exact ⟨a.1, q⟩
    · rw [if_neg e, if_neg (fun z => e (a.1.trans z))]; exact a
theorem RKs.app {κ : Type} : ∀ {l l' : List (κ × D)} {vs vs' : List (κ × V)}, RKs G S l vs → RKs G S l' vs' → RKs G S (l ++ l') (vs ++ vs')
  | _, _, _, _, .nil, b => b
  | _, _, _, _, .cons a r, b => .cons a (RKs.app r b)
theorem RKs.put {κ : Type} [DecidableEq κ] (k : κ) {d : D} {x : V} (q : RV G.K S d x) {l : List (κ × D)} {vs : List (κ × V)} (w : RKs G S l vs) : RKs G S (putD l k d) (putK vs k x) := by
  unfold putD putK
  rw [w.any k]
  split
  · exact w.repl k q
  · exact w.app (.cons ⟨rfl, q⟩ .nil)
def setT (o i : T) (d : D) (h : List O) : Option (List O) := match o with
  | .v (.ref j) => match h[j]? with
    | some (.lst l) => match i with
      | .v (.int k) => (ixN l.length k).map fun m => h.set j (.lst (l.set m d))
      | _ => none
    | some (.dk l) => if l.length < SZ then (keyT i).map fun k => h.set j (.dk (putD l k d)) else none
    | some (.dt l) => if l.length < SZ then (keyU i).map fun k => h.set j (.dt (putD l k d)) else none
    | _ => none
  | _ => none
theorem set_dict (hu : X.A.units + 64 < cLine) : PSet X (fun o i v H Q => ∃ a H', o = V.ref a ∧ DPut H a i v H' ∧ Q H') := by
  intro pins s σ H o i v ov iv u Q I ro ri rv ⟨a, H', eo, g, q⟩
  subst eo
  obtain rfl : ov = Value.ref a := ro
  exact d_setItem (by omega) I g ri rv fun s' I' => ⟨H', I', q⟩
def rSetA (X : Cx) : TSet := fun o i v H Q => rSetL o i v H Q ∨ ∃ a H', o = V.ref a ∧ DPut H a i v H' ∧ Q H'
theorem set_any (hu : X.A.units + 64 < cLine) : PSet X (rSetA X) := by
  intro pins s σ H o i v ov iv u Q I ro ri rv q
  rcases q with q | q
  · exact set_list pins s σ H o i v ov iv u Q I ro ri rv q
  · exact set_dict hu pins s σ H o i v ov iv u Q I ro ri rv q
theorem RH.putO (r : RH G h S) {i : Nat} (hi : i < S.n) {l : List (Key × D)} {vs : List (Key × V)} (q : RKs G S l vs) : RH G (h.set i (.dk l)) (S.put i (.dK vs)) ∧ Ext S (S.put i (.dK vs)) :=
  r.put hi (fun _ z => by cases z) fun S' e hu => ⟨vs, hu, q.ext r e⟩
theorem RH.putU (r : RH G h S) {i : Nat} (hi : i < S.n) {l : List (List Key × D)} {vs : List (List Key × V)} (q : RKs G S l vs) : RH G (h.set i (.dt l)) (S.put i (.dT vs)) ∧ Ext S (S.put i (.dT vs)) :=
  r.put hi (fun _ z => by cases z) fun S' e hu => ⟨vs, hu, q.ext r e⟩
theorem setT_ok {H0 H1 : Hp} {o i : T} {d : D} {h' : List O} {x y v : V} {Q : Hp → Prop} (r : RH G h S) (q1 : RT G H0 S o x) (q2 : RT G H1 S i y) (q3 : RV G.K S d v) (e : setT o i d h = some h')
    (k : ∀ S' : Wd, Ext S S' → RH G h' S' → S'.n = S.n → S'.m = S.m → Q S'.H) : rSetA X x y v S.H Q := by
  unfold setT at e
  split at e
  · rename_i j
    cases q1 with
    | v q1 =>
      cases q1 with
      | ref hj =>
        split at e
        · rename_i l hl
          split at e
          · rename_i n
            rw [Option.map_eq_some_iff] at e
            obtain ⟨m, hm, rfl⟩ := e
            obtain ⟨vs, h1, h2⟩ := r.obj _ _ hl
            obtain ⟨r3, e3⟩ := r.putL hj (h2.set q3 m)
            exact .inl ⟨_, vs, n, m, rfl, q2.int_inv, h1, by rw [← h2.length]; exact hm, k _ e3 r3 rfl rfl⟩
          · cases e
        · rename_i l hl
          split at e
          · rename_i hz
            rw [Option.map_eq_some_iff] at e
            obtain ⟨key, hk, rfl⟩ := e
            obtain ⟨vs, h1, h2⟩ := r.obj _ _ hl
            obtain ⟨r3, e3⟩ := r.putO hj (h2.put key q3)
            have ey : y = kV key := by
              cases i with
              | v i => cases q2 with | v q2 => exact keyD_ok q2 hk
              | _ => cases hk
            exact .inr ⟨_, _, rfl, .inl ⟨vs, key, h1, ey, by rw [← RKs.length h2, sz_eq]; exact hz, rfl⟩, k _ e3 r3 rfl rfl⟩
          · cases e
        · rename_i l hl
          split at e
          · rename_i hz
            rw [Option.map_eq_some_iff] at e
            obtain ⟨key, hk, rfl⟩ := e
            obtain ⟨vs, h1, h2⟩ := r.obj _ _ hl
            obtain ⟨r3, e3⟩ := r.putU hj (h2.put key q3)
            cases i with
            | v i =>
              cases q2 with
              | v q2 =>
                cases q2 with
                | tup t1 t2 =>
                  have ey := keysD_ok t2 hk
                  subst ey
                  exact .inr ⟨_, _, rfl, .inr ⟨vs, key, _, h1, rfl, t1, by rw [← RKs.length h2, sz_eq]; exact hz, rfl⟩, k _ e3 r3 rfl rfl⟩
                | _ => cases hk
            | _ => cases hk
          · cases e
        · cases e
  · cases e
def egSub (fo fi : Ev) : Eg := fun d r h => (fo r h).to r fun o h1 => (fi r h1).to r fun i h2 => match setT o i d h2 with
  | some h3 => .nx r h3
  | none => .bad
theorem sg_sub {o i : Expr} {fo fi : Ev} {pos : Pos} (hu : X.A.units + 64 < cLine) (ho : SE G X W fo o) (hi : SE G X W fi i)
    (ha : ∀ v, assign (.Subscript o i pos) X.env v = (do
      let ov ← holding [v] (eval o X.env)
      let iv ← holding [v, ov] (eval i X.env)
      standAt pos
      holding [v, ov, iv] (setItem ov iv v)
      release [v, ov, iv] []) := by intro _; rfl) : SG G X W (egSub fo fi) (.Subscript o i pos) := by
  refine PG.imp (pg_sub ho hi (set_any hu) ha) fun v s H Q ⟨S, r, h, d, e, q, z, w, p⟩ => ?_
  subst e
  refine ⟨S, r, h, rfl, q, z, PSt.step (l := rT G) q z p fun S1 h1 ta x e1 r1 z1 p1 => ⟨S1, r, h1, rfl, r1, z.ext q e1, PSt.step (l := rT G) r1 (z.ext q e1) p1 fun S2 h2 tb y e2 r2 z2 p2 => ?_⟩⟩
  cases hs : setT ta tb d h2 with
  | none => rw [hs] at p2; exact p2.elim
  | some h3 =>
    rw [hs] at p2
    exact setT_ok r2 (z1.ext r1 e2) z2 ((w.ext q e1).ext r1 e2) hs fun S' e' r' _ _ => p2 S' s e' r' (((z.ext q e1).ext r1 e2).ext r2 e')

/-! ### name op= e -/
def esAug (i : Nat) (g : T → T → List O → Option T) (f : Ev) : Es := fun r h => match r[i]? with
  | some (some d) => (f r h).to r fun t h1 => match g (.v d) t h1 with
    | some u => match alc u h1 with
      | some (e, h2) => .nx (r.set i (some e)) h2
      | none => .bad
    | none => .bad
  | _ => .bad
def Ip2 (G : Gl) (X : Cx) (op : Operator) (g : T → T → List O → Option T) : Prop := PIp X op fun x y H Q => ∃ S0 S h a b t, S.H = H ∧ Ext S0 S ∧ RH G h S ∧ RT G S0.B S a x ∧ RT G S0.B S b y ∧ g a b h = some t ∧ Got G h S0 t Q
theorem ss_aug {i : Nat} {x : Str} {e : Expr} {f : Ev} {op : Operator} {g : T → T → List O → Option T} {pos' pos : Pos} (hN : X.N.Nodup) (hi : X.N[i]? = some x) (hx : Loc X.env.scope x) (he : SE G X W f e) (ho : Ip2 G X op g) (hf : X.fn x = true ∨ X.env.scope.names.lookup x = some .local := by first | exact .inl rfl | exact .inr rfl | assumption) :
    SS G X W (esAug i g f) (.AugAssign (.Name x pos') op e pos) := by
  refine PS.imp (ps_aug hN hi hx he ho hf) fun D s H ⟨S, r, h, e, q, z, p⟩ => ?_
  subst e
  unfold esAug at p
  split at p
  · rename_i d hd
    obtain ⟨x0, hx0, w0⟩ := z.2 i d hd
    refine ⟨x0, hx0, S, r, h, rfl, q, z, PSt.stepAt (l := rT G) (Ext.refl S) q z p fun S1 h1 t y e1 r1 z1 p1 => ?_⟩
    cases hg : g (.v d) t h1 with
    | none => rw [hg] at p1; exact p1.elim
    | some u =>
      rw [hg] at p1
      refine ⟨S, S1, h1, .v d, t, u, rfl, e1, r1, .v (w0.ext q e1), z1, hg, fun S' v e' r' v' => ?_⟩
      simp only at p1
      cases ea : alc u h1 with
      | none => rw [ea] at p1; exact p1.elim
      | some dh =>
        obtain ⟨d2, h2⟩ := dh
        rw [ea] at p1
        obtain ⟨S2, r2, w2, g2, e2⟩ := alc1 e' r' v' ea
        have k : D.nx (s.set i (some v)) S2.H := p1 S2 _ e2 r2 ((z.ext q e2).set i w2)
        rw [g2.H] at k
        exact k
  · exact p.elim
theorem ip_of {op : Operator} {g : T → T → List O → Option T} {r : R2} (ho : OpR X (inplaceOp op) r)
    (k : ∀ (S : Wd) (h : List O) (H0 : Hp) (a b t : T) (x y : V) (Q : VK), RH G h S → RT G H0 S a x → RT G H0 S b y → g a b h = some t → Got G h S t Q → r x y S.H Q) : Ip2 G X op g := by
  intro pins s σ H x y v u Q I rx ry ⟨S0, S, h, a, b, t, e, e0, r1, q1, q2, ht, got⟩
  subst e
  exact ho pins s σ S.H x y v u Q I rx ry (k S h S0.B a b t x y Q r1 q1 q2 ht (got.later e0))
def g_iadd (a b : T) (_ : List O) : Option T := match a, b with
  | .v (.int i), .v (.int j) => some (tI (i + j))
  | .v (.str i), .v (.str j) => if i.length + j.length ≤ SZ then some (tS (i ++ j)) else none
  | _, _ => none
theorem ip2_add : Ip2 G X .Add g_iadd := ip_of (iop_add.or iop_add_str) fun S h H0 a b t x y Q r q1 q2 e got => by
  unfold g_iadd at e
  split at e
  · cases e; exact .inl ⟨_, _, q1.int_inv, q2.int_inv, got.here r (.int _)⟩
  · split at e
    · rename_i hz; cases e; exact .inr ⟨_, _, q1.str_inv, q2.str_inv, by rw [sz_eq]; exact hz, got.here r (.str _)⟩
    · cases e
  · cases e
theorem ip2_sub : Ip2 G X .Sub g_sub := ip_of iop_sub fun S h H0 a b t x y Q r q1 q2 e got => by
  unfold g_sub at e
  split at e
  · cases e; exact ⟨_, _, q1.int_inv, q2.int_inv, got.here r (.int _)⟩
  · cases e
def g_imul (a b : T) (_ : List O) : Option T := match a, b with
  | .v (.int i), .v (.int j) => if i.natAbs < 18446744073709551616 ∨ j.natAbs < 18446744073709551616 then some (tI (i * j)) else none
  | _, _ => none
theorem ip2_mul : Ip2 G X .Mult g_imul := ip_of iop_mul fun S h H0 a b t x y Q r q1 q2 e got => by
  have e64 : (2 : Int) ^ 64 = 18446744073709551616 := by decide
  unfold g_imul at e
  split at e
  · split at e
    · rename_i hc
      cases e
      refine ⟨_, _, q1.int_inv, q2.int_inv, ?_, got.here r (.int _)⟩
      rcases hc with hc | hc
      · left; rw [e64]; omega
      · right; rw [e64]; omega
    · cases e
  · cases e
theorem ip2_fdiv : Ip2 G X .FloorDiv g_fdiv := ip_of iop_fdiv fun S h H0 a b t x y Q r q1 q2 e got => by
  unfold g_fdiv at e
  split at e
  · split at e
    · rename_i hc
      cases e
      exact ⟨_, _, q1.int_inv, q2.int_inv, hc, got.here r (.int _)⟩
    · cases e
  · cases e
theorem ip2_mod : Ip2 G X .Mod g_mod := ip_of iop_mod fun S h H0 a b t x y Q r q1 q2 e got => by
  unfold g_mod at e
  split at e
  · split at e
    · rename_i hc
      cases e
      exact ⟨_, _, q1.int_inv, q2.int_inv, hc, got.here r (.int _)⟩
    · cases e
  · cases e
end
end Bz
set_option Elab.async false
set_option linter.all false
set_option maxRecDepth 100000
set_option autoImplicit false
namespace L2
open PySem PySem.Spec PyProof.Rows
/-! ### a display with tuples as keys -/
abbrev KeyAt (H : Hp) : List (V × V) → List (List Key × V) → Prop := Paired fun q kv => ∃ b, q.1 = .ref b ∧ H b = some (.tup (kv.1.map kV)) ∧ q.2 = kv.2
def mergeT (kvs more : List (List Key × V)) : List (List Key × V) := more.foldl (fun acc kv => putK acc kv.1 kv.2) kvs
def zDispT (trs : List (TE × TE)) : TE := fun σ H Q => ∀ p, H p = none → tPairs trs σ (upd H p (.dT [])) fun ps H2 => H2 p = some (.dT []) ∧ ∃ kvs, KeyAt H2 ps kvs ∧ kvs.length ≤ 15 ∧ Q (.ref p) (upd H2 p (.dT (mergeT [] kvs)))
theorem zcarries {P : Program} {w : World} {H : Hp} {h : Heap} (hok : HOk P w H h) : ∀ {ps : List (V × V)} {kvs : List (List Key × V)} {ws : List (Value × Value)}, KeyAt H ps kvs → VV ps ws →
    ∃ xs : List (List Key × Addr × Value), CarriesH (tupleKind (mixKind P w)) h ws xs ∧ Paired (fun kv x => kv.1 = x.1 ∧ H x.2.1 = some (.tup (kv.1.map kV)) ∧ RelV kv.2 x.2.2) kvs xs
  | _, _, _, .nil, .nil => ⟨[], True.intro, .nil⟩
  | _, _, _, .cons (a := q) (b := kv) a b, .cons (b := w) c d => by
    obtain ⟨xs, h1, h2⟩ := zcarries hok b d
    obtain ⟨ad, e1, e2, e3⟩ := a
    obtain ⟨c1, c2⟩ := c
    rw [e1] at c1
    rw [e3] at c2
    obtain ⟨w1, w2⟩ := w
    obtain rfl : w1 = Value.ref ad := c1
    exact ⟨(kv.1, ad, w2) :: xs, ⟨rfl, rfl, key_of hok e2, h1⟩, .cons ⟨rfl, e2, c2⟩ h2⟩
theorem zKT_merge {H : Hp} : ∀ {more : List (List Key × V)} {xs : List (List Key × Addr × Value)} {kvs : List (List Key × V)} {acc : List (List Key × Addr × Value)},
    Paired (fun kv x => kv.1 = x.1 ∧ H x.2.1 = some (.tup (kv.1.map kV)) ∧ RelV kv.2 x.2.2) more xs → KT H kvs acc → KT H (mergeT kvs more) (storedAllH acc xs)
  | _, _, kvs, acc, .nil, r => r
  | _, _, kvs, acc, .cons (a := kv) (b := x) a b, r => by
    obtain ⟨k, ad, u⟩ := x
    obtain ⟨h1, h2, h3⟩ := a
    have h1 : kv.1 = k := h1
    subst h1
    show KT H (mergeT (putK kvs kv.1 kv.2) _) (storedAllH (storedH acc kv.1 ad u) _)
    exact zKT_merge b (r.put kv.1 h2 h3)
theorem zlen_mergeT : ∀ (more kvs : List (List Key × V)), (mergeT kvs more).length ≤ kvs.length + more.length
  | [], kvs => by show kvs.length ≤ kvs.length + 0; omega
  | p :: r, kvs => by
    have h1 := zlen_mergeT r (putK kvs p.1 p.2)
    have h2 := length_putK kvs p.1 p.2
    show (mergeT (putK kvs p.1 p.2) r).length ≤ _
    rw [List.length_cons]; omega
theorem zpe_dispT {X : Cx} {pos : Pos} {keys : List (Option Expr)} {values : List Expr} {trs : List (TE × TE)} (hu : X.A.units + 64 < cLine) (h : PPs X pos keys values trs) (hall : keys.all (·.isSome) = true) (hl : keys.length = values.length) (h0 : keys ≠ [])
    (h15 : keys.length ≤ 15) : PE X (.Dict keys values pos) (zDispT trs) := by
  refine ⟨fun pins s σ H Q I q => ?_⟩
  have hn := I.hok.fresh (Nat.le_refl s.heap.objs.size)
  have I1 := I.laid (a := s.heap.objs.size) (o := .dT []) (h' := s.heap.push { cls := .type "dict", data := .dict #[] }) (t' := s.toks) (fun _ _ q => Heap.get?_push_of_some _ q) (Nat.le_refl _) (dt_empty s.heap I.big)
  have hpl := pairTrees_length keys values X.env pos hall hl
  have hne : pairTrees keys values X.env pos ≠ [] := fun z => by
    rw [z] at hpl
    exact h0 (List.length_eq_zero_iff.mp hpl.symm)
  rw [arm_eval_Dict, zip_pairTrees keys values X.env pos hall hl, dictDisplay_pairs (pairTrees keys values X.env pos) hne (by rw [hpl]; omega)]
  refine wpAny_bind (wpAny_standAt (wpAny_bind (wpAny_subDictH (knd := tupleKind (mixKind X.prog X.w)) (Q := fun d s' => wpAny (model X.prog X.w) X.A (pure (Value.ref d)) (EP X pins σ Q) X.xe s') (show X.A.units < cLine by omega) (by rw [hpl]; exact h15)
    (thn (h.run pins _ σ _ _ I1 (q _ hn)) fun ws s2 ⟨ps, H2, I2, rel, e, kvs, ep, lk, q2⟩ => ?_))))
  obtain ⟨xs, c, rk⟩ := zcarries (P := X.prog) (w := X.w) I2.hok ep rel
  obtain ⟨z, hd, vs0, r0, dd⟩ := dt_of I2.hok e
  cases r0
  refine ⟨xs, c, dd, fun h' tk dd' hs => wpAny_pure ⟨.ref s.heap.objs.size, _, ?_, rfl, q2⟩⟩
  have hz : (mergeT [] kvs).length ≤ sizeLine := by
    have h1 := zlen_mergeT kvs []
    rw [List.length_nil] at h1
    rw [sizeLine_eq]; omega
  obtain ⟨o, es, ep', hq, h2, h3, h4, _, h5⟩ := dd'
  refine (d_write (t' := tk) I2 (by rw [e]; exact True.intro) hs ⟨o, hq⟩ ⟨hz, hd, _, (zKT_merge rk .nil).keeps fun c ys ec => ?_, o, es, ep', hq, h2, h3, h4, h5⟩)
  rw [upd_ne (ne_of ec e (fun z => nomatch z))]
  exact ec
end L2
namespace Bz
open PySem PySem.Spec PyProof.Rows L2
section
variable {G : Gl} {X : Cx} {W : WX} {S : Wd} {h : List O}
/-! ### dicts displayed -/
def evNewK : Ev := fun _ h => .ok (.tk []) h
def evNewT : Ev := fun _ h => .ok (.tt []) h
theorem se_newK {pos : Pos} : SE G X W evNewK (.Dict [] [] pos) := PE.imp pe_dnewK fun s H Q ⟨S, r, h, e, q, z, p⟩ => by
  subst e
  exact fun a ha => p (S.add a (.dK [])) (.ref a) (Ext.add ha) (q.add ha) (.tk upd_same .nil (bare_none ha) (q.apart ha))
theorem se_newT {pos : Pos} : SE G X W evNewT (.Dict [] [] pos) := PE.imp pe_dnewT fun s H Q ⟨S, r, h, e, q, z, p⟩ => by
  subst e
  exact fun a ha => p (S.add a (.dT [])) (.ref a) (Ext.add ha) (q.add ha) (.tt upd_same .nil (bare_none ha) (q.apart ha))
def eaPairs : List (Ev × Ev) → Ea
  | [] => eaNil
  | p :: l => eaCons p.1 (eaCons p.2 (eaPairs l))
def unpair {α : Type} : List α → List (α × α)
  | a :: b :: l => (a, b) :: unpair l
  | _ => []
theorem rA_cons {H0 : Hp} {S1 S2 : Wd} {h1 : List O} {t : T} {x : V} {ts : List T} {xs : List V} (r1 : RH G h1 S1) (e2 : Ext S1 S2) (d : ∀ c, S1.B c = none → H0 c = none) (a : RT G H0 S1 t x) (b : (rA G).rel S1.B S2 ts xs) : (rA G).rel H0 S2 (t :: ts) (x :: xs) := by
  refine ⟨.cons (a.ext r1 e2) (Paired.mapP b.1 fun _ _ w => RT.from d w), fun ht => ?_, b.2⟩
  obtain ⟨ad, o, ea, ho⟩ := a.far ht
  exact far_of ea ho b.1
theorem pairs_ok : ∀ (l : List (Ev × Ev)) {s : L2.St} {H : Hp} {Q : List (V × V) → Hp → Prop}, rd G (rA G) W (eaPairs l) s H (fun xs H1 => Q (unpair xs) H1) → tPairs (l.map fun p => (rd G (rT G) W p.1, rd G (rT G) W p.2)) s H Q
  | [], s, H, Q, ⟨S, r, h, e, q, z, p⟩ => by
    subst e
    exact p S [] (Ext.refl S) q ⟨.nil, trivial⟩
  | (f, g) :: l, s, H, Q, ⟨S, r, h, e, q, z, p⟩ => by
    subst e
    refine ⟨S, r, h, rfl, q, z, PO.stepAt (Ext.refl S) p fun S1 h1 ta x e1 r1 z1 p1 => ?_⟩
    refine ⟨S1, r, h1, rfl, r1, z.ext q e1, ?_⟩
    have p1 : PO G (rA G) (fun c d H' => W c d s H') S (fun xs H1 => Q (unpair xs) H1) (((g r h1).bind fun t h2 => (eaPairs l r h2).bind fun ts h3 => .ok (t :: ts) h3).bind fun ts h2 => .ok (ta :: ts) h2) := p1
    have assoc : ∀ {A B C : Type} (u : R A) (k : A → List O → R B) (j : B → List O → R C), (u.bind k).bind j = u.bind fun a h => (k a h).bind j := fun u k j => by cases u <;> rfl
    rw [assoc] at p1
    refine PO.stepAt e1 p1 fun S2 h2 tb y e2 r2 z2 p2 => ?_
    rw [assoc] at p2
    have e02 := e1.trans e2
    refine pairs_ok l ⟨S2, r, h2, rfl, r2, (z.ext q e1).ext r1 e2, PO.stepAt e02 p2 fun S3 h3 ts xs e3 r3 z3 p3 => ?_⟩
    have w2 := rA_cons r2 e3 e2.dm z2 z3
    have w1 := rA_cons (H0 := S.B) r1 (e2.trans e3) e1.dm z1 w2
    exact p3 S3 (x :: y :: xs) (e02.trans e3) r3 w1
def mergeD {κ : Type} [DecidableEq κ] (l more : List (κ × D)) : List (κ × D) := more.foldl (fun acc p => putD acc p.1 p.2) l
theorem RKs.mergeK : ∀ {more : List (Key × D)} {ms : List (Key × V)} {l : List (Key × D)} {vs : List (Key × V)}, RKs G S more ms → RKs G S l vs → RKs G S (mergeD l more) (L2.mergeK vs ms)
  | _, _, _, _, .nil, r => r
  | _, _, _, _, .cons (a := p) (b := q) a b, r => by
    have k := r.put p.1 a.2
    rw [a.1] at k
    show RKs G S (mergeD (putD _ p.1 p.2) _) (L2.mergeK (putK _ q.1 q.2) _)
    refine RKs.mergeK b ?_
    rw [a.1]; exact k
theorem RKs.mergeT : ∀ {more : List (List Key × D)} {ms : List (List Key × V)} {l : List (List Key × D)} {vs : List (List Key × V)}, RKs G S more ms → RKs G S l vs → RKs G S (mergeD l more) (L2.mergeT vs ms)
  | _, _, _, _, .nil, r => r
  | _, _, _, _, .cons (a := p) (b := q) a b, r => by
    have k := r.put p.1 a.2
    rw [a.1] at k
    show RKs G S (mergeD (putD _ p.1 p.2) _) (L2.mergeT (putK _ q.1 q.2) _)
    refine RKs.mergeT b ?_
    rw [a.1]; exact k
def pairsK : List D → Option (List (Key × D))
  | k :: d :: l => match keyD k, pairsK l with
    | some k, some r => some ((k, d) :: r)
    | _, _ => none
  | [] => some []
  | _ => none
def pairsU : List D → Option (List (List Key × D))
  | .tup k :: d :: l => match keysD k, pairsU l with
    | some k, some r => some ((k, d) :: r)
    | _, _ => none
  | [] => some []
  | _ => none
theorem pairsK_ok : ∀ {l : List D} {xs : List V} {ks : List (Key × D)}, RVs G.K S l xs → pairsK l = some ks → ∃ kvs : List (Key × V), unpair xs = kvs.map (fun kv => (kV kv.1, kv.2)) ∧ RKs G S ks kvs ∧ kvs.length = ks.length
  | [], _, ks, .nil, e => by cases e; exact ⟨[], rfl, .nil, rfl⟩
  | [_], _, ks, _, e => by cases e
  | k :: d :: l, _, ks, .cons a (.cons b c), e => by
    simp only [pairsK] at e
    split at e
    · rename_i k' r hk hr
      cases e
      obtain ⟨kvs, h1, h2, h3⟩ := pairsK_ok c hr
      refine ⟨(k', _) :: kvs, ?_, .cons ⟨rfl, b⟩ h2, by rw [List.length_cons, List.length_cons, h3]⟩
      rw [unpair, h1, keyD_ok a hk]; rfl
    · cases e
theorem pairsU_ok : ∀ {l : List D} {xs : List V} {ks : List (List Key × D)}, RVs G.K S l xs → pairsU l = some ks → ∃ kvs : List (List Key × V), KeyAt S.H (unpair xs) kvs ∧ RKs G S ks kvs ∧ kvs.length = ks.length
  | [], _, ks, .nil, e => by cases e; exact ⟨[], .nil, .nil, rfl⟩
  | .tup k :: d :: l, _, ks, .cons (.tup a1 a2) (.cons b c), e => by
    simp only [pairsU] at e
    split at e
    · rename_i k' r hk hr
      cases e
      obtain ⟨kvs, h1, h2, h3⟩ := pairsU_ok c hr
      have ek := keysD_ok a2 hk
      refine ⟨(k', _) :: kvs, .cons ⟨_, rfl, by rw [← ek]; exact a1, rfl⟩ h1, .cons ⟨rfl, b⟩ h2, by rw [List.length_cons, List.length_cons, h3]⟩
    · cases e
  | [.tup _], _, ks, _, e => by cases e
  | .non :: _, _, ks, _, e => by cases e
  | .bl _ :: _, _, ks, _, e => by cases e
  | .int _ :: _, _, ks, _, e => by cases e
  | .str _ :: _, _, ks, _, e => by cases e
  | .fl _ :: _, _, ks, _, e => by cases e
  | .ref _ :: _, _, ks, _, e => by cases e
def evDispK (l : List (Ev × Ev)) : Ev := fun r h => (eaPairs l r h).bind fun ts h1 => match alcs ts h1 with
  | some (ds, h2) => match pairsK ds with
    | some ks => if ks.length ≤ 15 then .ok (.tk (mergeD [] ks)) h2 else .bad
    | none => .bad
  | none => .bad
def evDispT (l : List (Ev × Ev)) : Ev := fun r h => (eaPairs l r h).bind fun ts h1 => match alcs ts h1 with
  | some (ds, h2) => match pairsU ds with
    | some ks => if ks.length ≤ 15 then .ok (.tt (mergeD [] ks)) h2 else .bad
    | none => .bad
  | none => .bad
/-- an object that stood no one's stands no one's -/
theorem still {S0 S1 S2 : Wd} {p : Addr} {o : HO} {h0 : List O} (r0 : RH G h0 S0) (hp : S0.H p = none) (e1 : Ext (S0.add p o) S1) (g : Regd G (S0.add p o).B S1 S2) (ho : ∀ ps, o ≠ .tbl ps) : S2.H p = some o ∧ ∀ i, i < S2.n → S2.m i ≠ p := by
  have hs : (S0.add p o).H p = some o := upd_same
  have h1 : S1.H p = some o := e1.fr p o (fun i hi => r0.apart hp i hi) hs ho
  refine ⟨by rw [g.H]; exact h1, fun i hi z => ?_⟩
  have e2 : Ext (S0.add p o) S2 := g.ext e1
  by_cases hlt : i < S0.n
  · exact r0.apart hp i hlt ((e2.ag i hlt).symm.trans z)
  · have q : (S0.add p o).B (S2.m i) = none := e2.fs i (Nat.le_of_not_lt hlt) hi
    rw [z] at q
    have k := (bare_some hs ho).symm.trans q
    cases k
/-- its own object written, behind all -/
theorem put_own {S0 S2 : Wd} {p : Addr} {o u : HO} {h2 : List O} (r2 : RH G h2 S2) (hp : S0.H p = none) (e : Ext S0 S2) (hs : S2.H p = some o) (n1 : ∀ ps, o ≠ .tbl ps) (n2 : ∀ f q, o ≠ LamX.CodeO f q) (n3 : ∀ vs, o ≠ .tup vs) (n4 : ∀ a vs, o ≠ .frz a (.lst vs)) (hn : ∀ i, i < S2.n → S2.m i ≠ p) :
    Ext S0 ⟨S2.n, S2.m, upd S2.H p u⟩ ∧ RH G h2 ⟨S2.n, S2.m, upd S2.H p u⟩ ∧ Kp S2 ⟨S2.n, S2.m, upd S2.H p u⟩ := by
  have k : Kp S2 ⟨S2.n, S2.m, upd S2.H p u⟩ := ⟨fun _ _ _ => rfl, fun b vs q => (upd_ne fun z => by rw [z, hs] at q; exact n3 _ (Option.some.inj q)).trans q, fun b o' vs q => (upd_ne fun z => by rw [z, hs] at q; exact n4 _ _ (Option.some.inj q)).trans q⟩
  refine ⟨⟨e.le, e.ag, fun b o' h1 h2 h3 => ?_, e.fs, fun b hb => ?_⟩, ⟨r2.len, r2.inj, fun i o' ho => ?_, tabs_put r2.tab hs n1 n2⟩, k⟩
  · show upd S2.H p u b = some o'
    rw [upd_ne (fun z => by rw [z, hp] at h2; cases h2)]
    exact e.fr b o' h1 h2 h3
  · by_cases hbp : b = p
    · rw [hbp]; exact bare_none hp
    · exact e.dm b ((bare_eq (upd_ne hbp)).symm.trans hb)
  · have hi : i < S2.n := by rw [← r2.len]; exact (List.getElem?_eq_some_iff.mp ho).1
    exact RO.kp k (r2.obj i o' ho).low (upd_ne (hn i hi)) (r2.obj i o' ho)
theorem se_dispK {ks : List (Option Expr)} {vs : List Expr} {l : List (Ev × Ev)} {pos : Pos} (hf : PPs X pos ks vs (l.map fun p => (rd G (rT G) W p.1, rd G (rT G) W p.2))) (hall : ks.all (·.isSome) = true := by rfl) (hl : ks.length = vs.length := by rfl) (h0 : ks ≠ [] := by intro z; cases z) (h15 : ks.length ≤ 15 := by decide) : SE G X W (evDispK l) (.Dict ks vs pos) := by
  refine PE.imp (pe_disp hf hall hl h0 h15) fun s H Q ⟨S, r, h, e, q, z, p⟩ => ?_
  subst e
  intro a ha
  refine pairs_ok l ⟨S.add a (.dK []), r, h, rfl, q.add ha, z.ext q (Ext.add ha), PO.stepAt (Ext.add ha) p fun S1 h1 ts xs e1 r1 z1 p1 => ?_⟩
  cases ea : alcs ts h1 with
  | none => rw [ea] at p1; exact p1.elim
  | some dh =>
    obtain ⟨ds, h2⟩ := dh
    rw [ea] at p1
    simp only at p1
    split at p1
    · rename_i kd hk
      split at p1
      · rename_i hz
        obtain ⟨S2, r2, w2, g2⟩ := alcs_ok r1 z1.1 z1.2 ea
        obtain ⟨hs, hn⟩ := still q ha e1 g2 fun _ z => by cases z
        obtain ⟨kvs, e2, rk, el⟩ := pairsK_ok w2 hk
        have e02 : Ext S S2 := (Ext.add ha).trans (g2.ext e1)
        obtain ⟨e3, r3, k3⟩ := put_own (u := .dK (mergeK [] kvs)) r2 ha e02 hs (fun _ z => by cases z) (fun _ _ z => by unfold LamX.CodeO at z; cases z) (fun _ z => by cases z) (fun _ _ z => by cases z) hn
        rw [← g2.H]
        refine ⟨hs, kvs, e2, by omega, p1 _ _ e3 r3 (.tk upd_same ?_ (bare_none ha) hn)⟩
        have m := RKs.mergeK rk (.nil : RKs G S2 [] [])
        exact m.kp k3 m.low
      · exact p1.elim
    · exact p1.elim
theorem se_dispT {ks : List (Option Expr)} {vs : List Expr} {l : List (Ev × Ev)} {pos : Pos} (hu : X.A.units + 64 < cLine) (hf : PPs X pos ks vs (l.map fun p => (rd G (rT G) W p.1, rd G (rT G) W p.2))) (hall : ks.all (·.isSome) = true := by rfl) (hl : ks.length = vs.length := by rfl) (h0 : ks ≠ [] := by intro z; cases z) (h15 : ks.length ≤ 15 := by decide) : SE G X W (evDispT l) (.Dict ks vs pos) := by
  refine PE.imp (zpe_dispT hu hf hall hl h0 h15) fun s H Q ⟨S, r, h, e, q, z, p⟩ => ?_
  subst e
  intro a ha
  refine pairs_ok l ⟨S.add a (.dT []), r, h, rfl, q.add ha, z.ext q (Ext.add ha), PO.stepAt (Ext.add ha) p fun S1 h1 ts xs e1 r1 z1 p1 => ?_⟩
  cases ea : alcs ts h1 with
  | none => rw [ea] at p1; exact p1.elim
  | some dh =>
    obtain ⟨ds, h2⟩ := dh
    rw [ea] at p1
    simp only at p1
    split at p1
    · rename_i kd hk
      split at p1
      · rename_i hz
        obtain ⟨S2, r2, w2, g2⟩ := alcs_ok r1 z1.1 z1.2 ea
        obtain ⟨hs, hn⟩ := still q ha e1 g2 fun _ z => by cases z
        obtain ⟨kvs, e2, rk, el⟩ := pairsU_ok w2 hk
        have e02 : Ext S S2 := (Ext.add ha).trans (g2.ext e1)
        obtain ⟨e3, r3, k3⟩ := put_own (u := .dT (mergeT [] kvs)) r2 ha e02 hs (fun _ z => by cases z) (fun _ _ z => by unfold LamX.CodeO at z; cases z) (fun _ z => by cases z) (fun _ _ z => by cases z) hn
        rw [← g2.H]
        refine ⟨hs, kvs, e2, by omega, p1 _ _ e3 r3 (.tt upd_same ?_ (bare_none ha) hn)⟩
        have m := RKs.mergeT rk (.nil : RKs G S2 [] [])
        exact m.kp k3 m.low
      · exact p1.elim
    · exact p1.elim
end
end Bz
set_option Elab.async false
set_option linter.all false
set_option maxRecDepth 100000
set_option autoImplicit false
namespace Bz
open PySem PySem.Spec PyProof.Rows L2

/-! ### targets of comprehensions -/
inductive Tg where
  | n (i : Nat) | t (l : List Nat)
def tgS (K : PySem.W.Frag) (l : List Nat) : TGs := l.foldr (fun i g => gCons (gName i) g) gNil
def tgR (K : PySem.W.Frag) : Tg → TG
  | .n i => gName i
  | .t l => gTup K l.length (tgS K l)
def setAll : List Nat → List D → Rho → Rho
  | i :: l, d :: ds, r => setAll l ds (r.set i (some d))
  | _, _, r => r
def setTg : Tg → D → Rho → Option Rho
  | .n i, d, r => some (r.set i (some d))
  | .t l, .tup ds, r => if ds.length = l.length then some (setAll l ds r) else none
  | _, _, _ => none
def tgIn (vs : List Nat) : Tg → Bool
  | .n i => vs.contains i
  | .t l => l.all vs.contains
def wipeR (r : Rho) : List Nat → Rho
  | [] => r
  | v :: vs => (wipeR r vs).set v none
theorem wipe_get {σ : L2.St} {i : Nat} : ∀ {vs : List Nat}, i ∈ vs → i < σ.length → (wipe σ vs)[i]? = some none
  | v :: vs, h, hl => by
    unfold wipe
    by_cases e : v = i
    · rw [e, List.getElem?_set_self (by rw [wipe_length]; exact hl)]
    · rw [List.getElem?_set_ne e]
      rcases List.mem_cons.mp h with z | z
      · exact (e z.symm).elim
      · exact wipe_get z hl
theorem wipe_set {σ : L2.St} {i : Nat} {x : Option V} {vs : List Nat} (h : i ∈ vs) : wipe (σ.set i x) vs = wipe σ vs := by
  apply List.ext_getElem?
  intro j
  by_cases hj : j ∈ vs
  · by_cases hl : j < σ.length
    · rw [wipe_get hj hl, wipe_get hj (by rw [List.length_set]; exact hl)]
    · rw [List.getElem?_eq_none (by rw [wipe_length, List.length_set]; omega), List.getElem?_eq_none (by rw [wipe_length]; omega)]
  · rw [wipe_out hj, wipe_out hj, List.getElem?_set_ne fun e => hj (by rw [← e]; exact h)]
section
variable {G : Gl} {X : Cx} {W : WX} {S : Wd} {h : List O}
theorem RS.wipe {r : Rho} {σ : L2.St} (z : RS G S r σ) : ∀ vs : List Nat, RS G S (wipeR r vs) (L2.wipe σ vs)
  | [] => z
  | v :: vs => by
    have q := RS.wipe z vs
    refine ⟨by show ((wipeR r vs).set v none).length = ((L2.wipe σ vs).set v none).length; rw [List.length_set, List.length_set]; exact q.1, fun i d hd => ?_⟩
    have hd : ((wipeR r vs).set v none)[i]? = some (some d) := hd
    by_cases e : v = i
    · subst e
      by_cases hl : v < (wipeR r vs).length
      · rw [List.getElem?_set_self hl] at hd; cases hd
      · rw [List.getElem?_eq_none (by rw [List.length_set]; omega)] at hd; cases hd
    · rw [List.getElem?_set_ne e] at hd
      obtain ⟨x, h1, h2⟩ := q.2 i d hd
      refine ⟨x, ?_, h2⟩
      show ((L2.wipe σ vs).set v none)[i]? = _
      rw [List.getElem?_set_ne e]; exact h1
theorem setAll_ok {vs : List Nat} {H : Hp} : ∀ (l : List Nat) {ds : List D} {xs : List V} {r : Rho} {σ : L2.St} {Q : L2.St → Hp → Prop}, l.all vs.contains = true → ds.length = l.length → RVs G.K S ds xs → RS G S r σ →
    (∀ σ1, RS G S (setAll l ds r) σ1 → L2.wipe σ1 vs = L2.wipe σ vs → Q σ1 H) → tgS G.K l xs σ H Q
  | [], [], _, r, σ, Q, _, _, .nil, z, k => ⟨rfl, k σ z rfl⟩
  | [], _ :: _, _, _, _, _, _, hl, _, _, _ => by cases hl
  | _ :: _, [], _, _, _, _, _, hl, _, _, _ => by cases hl
  | i :: l, d :: ds, _, r, σ, Q, hin, hl, .cons a b, z, k => by
    rw [List.all_cons, Bool.and_eq_true] at hin
    refine ⟨_, _, rfl, ?_⟩
    exact setAll_ok l hin.2 (Nat.succ.inj hl) b (z.set i a) fun σ1 z1 e1 => k σ1 z1 (e1.trans (wipe_set (by simpa using hin.1)))
theorem tg_ok {vs : List Nat} {t : Tg} {d : D} {v : V} {r r1 : Rho} {σ : L2.St} {Q : L2.St → Hp → Prop} (hK : X.K = G.K) (hin : tgIn vs t = true) (w : RV G.K S d v) (z : RS G S r σ) (e : setTg t d r = some r1)
    (k : ∀ σ1, RS G S r1 σ1 → L2.wipe σ1 vs = L2.wipe σ vs → Q σ1 S.H) : tgR X.K t v σ S.H Q := by
  rw [hK]
  cases t with
  | n i =>
    cases e
    exact k _ (z.set i w) (wipe_set (by simpa [tgIn] using hin))
  | t l =>
    cases w with
    | tup q1 q2 =>
      simp only [setTg] at e
      split at e
      · rename_i hl
        cases e
        exact ⟨_, _, rfl, q1.sq, by rw [← q2.length]; exact hl, setAll_ok l hin hl q2 z k⟩
      · cases e
    | _ => cases e

/-! ### [f for t in it if c] -/
def WF : WX := fun _ _ _ _ => False
def R.no {A : Type} : R A → R A
  | .ok t h => .ok t h
  | _ => .bad
theorem PO.no {A B : Type} {l : Rl G A B} {E E' : XK} {Q : B → Hp → Prop} : ∀ {x : R A}, PO G l E S Q x.no → PO G l E' S Q x
  | .ok t h, p => p
  | .ex c fs h, p => p.elim
  | .bad, p => p.elim
abbrev Eb := Rho → List O → R (Option D)
/-- a turn: the item to add, if any -/
def lcT (c : Ec) (f : Ev) : Eb := fun r h => (c r h).no.bind fun b h1 => if b then (f r h1).no.bind fun t h2 => match alc t h2 with
    | some (d, h3) => .ok (some d) h3
    | none => .bad
  else .ok none h1
def lcL (v : IV) (t : Tg) (r0 : Rho) (b : Eb) : Nat → Nat → List D → List O → R (List D)
  | 0, _, _, _ => .bad
  | n + 1, k, acc, h => match itemAt v k h with
    | some none => .ok acc h
    | some (some d) => match setTg t d r0 with
      | some r1 => (b r1 h).bind fun o h1 => match o with
        | some d => if acc.length < SZ then lcL v t r0 b n (k + 1) (d :: acc) h1 else .bad
        | none => lcL v t r0 b n (k + 1) acc h1
      | none => .bad
    | none => .bad
def evLc (f : Ei) (t : Tg) (vs : List Nat) (c : Ec) (g : Ev) : Ev := fun r h => (f r h).bind fun v h1 => (lcL v t (wipeR r vs) (lcT c g) (fuelV h1 v + 1) 0 [] h1).bind fun l h2 => .ok (.tl l.reverse) h2
theorem still2 {S S' : Wd} {p : Addr} {o : HO} (ho : S.H p = some o) (hn : ∀ i, i < S.n → S.m i ≠ p) (nt : ∀ ps, o ≠ .tbl ps) (e : Ext S S') : S'.H p = some o ∧ ∀ i, i < S'.n → S'.m i ≠ p :=
  ⟨e.fr p o hn ho nt, fun i hi z => by
    by_cases hlt : i < S.n
    · exact hn i hlt ((e.ag i hlt).symm.trans z)
    · have q := e.fs i (Nat.le_of_not_lt hlt) hi
      rw [z] at q
      have k := (bare_some ho nt).symm.trans q
      cases k⟩
/-- the new list grows by an item -/
theorem grow_list {S0 S2 : Wd} {p : Addr} {h2 : List O} {l : List D} {vs : List V} {d : D} {y : V} (r2 : RH G h2 S2) (hp : S0.H p = none) (e : Ext S0 S2) (hs : S2.H p = some (.lst vs)) (hn : ∀ i, i < S2.n → S2.m i ≠ p) (q : RVs G.K S2 l vs) (w : RV G.K S2 d y) :
    Ext S0 ⟨S2.n, S2.m, upd S2.H p (.lst (vs ++ [y]))⟩ ∧ RH G h2 ⟨S2.n, S2.m, upd S2.H p (.lst (vs ++ [y]))⟩ ∧ RVs G.K ⟨S2.n, S2.m, upd S2.H p (.lst (vs ++ [y]))⟩ (l ++ [d]) (vs ++ [y]) ∧ Kp S2 ⟨S2.n, S2.m, upd S2.H p (.lst (vs ++ [y]))⟩ := by
  obtain ⟨e3, r3, k3⟩ := put_own (u := .lst (vs ++ [y])) r2 hp e hs (fun _ z => by cases z) (fun _ _ z => by unfold LamX.CodeO at z; cases z) (fun _ z => by cases z) (fun _ _ z => by cases z) hn
  have m := RVs.app q (.cons w .nil)
  exact ⟨e3, r3, m.kp k3 m.low, k3⟩
def eYes : Ec := fun _ h => .ok true h
abbrev STs (G : Gl) (X : Cx) (W : WX) (f : Ec) (e : List Expr) : Prop := PTs X e (rd G (rB G) W f)
theorem PTs.imp {e : List Expr} {t t' : TT} (p : PTs X e t) (q : ∀ s H Q, t' s H Q → t s H Q) : PTs X e t' := ⟨fun pins s σ H Q I z => p.run pins s σ H Q I (q _ _ _ z)⟩
theorem sts_nil : STs G X W eYes [] := PTs.imp pts_nil fun s H Q ⟨S, r, h, e, q, z, p⟩ => by subst e; exact p S true (Ext.refl S) q rfl
theorem sts_one {e : Expr} {f : Ec} (hf : SC G X W f e) : STs G X W f [e] := pts_one hf
theorem lc_read {f : Ei} {t : Tg} {vs : List Nat} {c : Ec} {g : Ev} {s : L2.St} {H : Hp} {Q : VK} (hK : X.K = G.K) (hin : tgIn vs t = true) (p : rd G (rT G) W (evLc f t vs c g) s H Q) :
    tLc (rd G (rI G) W f) (tgR X.K t) (rd G (rB G) WF c) (rd G (rT G) WF g) vs s H Q := by
  obtain ⟨S, r, h, e, q, z, p⟩ := p
  subst e
  refine ⟨S, r, h, rfl, q, z, PO.stepAt (Ext.refl S) p fun S1 h1 v J e1 r1 w p1 => ?_⟩
  have w : ItOk G S1 v J := w
  intro D hD
  have z1 := (z.ext q e1).wipe vs
  refine ⟨fun i m H => ∃ S' h acc xs, S'.H = H ∧ Ext S1 S' ∧ RH G h S' ∧ S'.H D = some (.lst xs) ∧ (∀ i, i < S'.n → S'.m i ≠ D) ∧ RVs G.K S' acc.reverse xs ∧
    PO G (rT G) (fun c d H' => W c d s H') S Q ((lcL v t (wipeR r vs) (lcT c g) m i acc h).bind fun l h2 => .ok (.tl l.reverse) h2), ⟨_, S1.add D (.lst []), h1, [], [], rfl, Ext.add hD, r1.add hD, upd_same, r1.apart hD, .nil, p1⟩, ?_⟩
  rintro i m H ⟨S', h, acc, xs, rfl, e', rh, hs, hn, ha, p⟩
  cases m with
  | zero => exact p.elim
  | succ n =>
    simp only [lcL] at p
    split at p
    · rename_i hit
      exact .inl ⟨w.stop S' h i e' rh hit, p S' (.ref D) (e1.trans e') rh (.tl hs ha (e1.dm D (bare_none hD)) hn)⟩
    · rename_i d hit
      obtain ⟨go, yl⟩ := w.go S' h i d e' rh hit
      refine .inr ⟨go, fun H' => ∃ S' h acc xs, S'.H = H' ∧ Ext S1 S' ∧ RH G h S' ∧ S'.H D = some (.lst xs) ∧ (∀ i, i < S'.n → S'.m i ≠ D) ∧ RVs G.K S' acc.reverse xs ∧
        PO G (rT G) (fun c d H' => W c d s H') S Q ((lcL v t (wipeR r vs) (lcT c g) n (i + 1) acc h).bind fun l h2 => .ok (.tl l.reverse) h2), fun H' x => ⟨n, Nat.lt_succ_self n, x⟩, fun x H' hy => ?_⟩
      obtain ⟨S2, eH, e2, r2, w2⟩ := yl x H' hy
      subst eH
      obtain ⟨hs2, hn2⟩ := still2 hs hn (fun _ z => by cases z) e2
      have ha2 := ha.ext rh e2
      have e02 := e'.trans e2
      split at p
      · rename_i r3 hset
        refine tg_ok hK hin w2 (z1.ext r1 e02) hset fun σ3 z3 ew => ⟨ew.trans ?_, ?_⟩
        · apply List.ext_getElem?
          intro j
          by_cases hj : j ∈ vs
          · by_cases hl : j < s.length
            · rw [wipe_get hj hl, wipe_get hj (by rw [wipe_length]; exact hl)]
            · rw [List.getElem?_eq_none (by rw [wipe_length, wipe_length]; omega), List.getElem?_eq_none (by rw [wipe_length]; omega)]
          · rw [wipe_out hj, wipe_out hj]
        · have assoc : ∀ {A B C : Type} (u : R A) (k : A → List O → R B) (j : B → List O → R C), (u.bind k).bind j = u.bind fun a h => (k a h).bind j := fun u k j => by cases u <;> rfl
          rw [assoc] at p
          unfold lcT at p
          rw [assoc] at p
          have pE : PO G (rB G) (fun c d H' => WF c d σ3 H') S2 (fun b H3 => if b = true then rd G (rT G) WF g σ3 H3 fun y H4 => ∃ accV, H4 D = some (.lst accV) ∧ accV.length < sizeLine ∧ (fun H' => ∃ S' h acc xs, S'.H = H' ∧ Ext S1 S' ∧ RH G h S' ∧ S'.H D = some (.lst xs) ∧ (∀ i, i < S'.n → S'.m i ≠ D) ∧ RVs G.K S' acc.reverse xs ∧
        PO G (rT G) (fun c d H' => W c d s H') S Q ((lcL v t (wipeR r vs) (lcT c g) n (i + 1) acc h).bind fun l h2 => .ok (.tl l.reverse) h2)) (upd H4 D (.lst (accV ++ [y]))) else (fun H' => ∃ S' h acc xs, S'.H = H' ∧ Ext S1 S' ∧ RH G h S' ∧ S'.H D = some (.lst xs) ∧ (∀ i, i < S'.n → S'.m i ≠ D) ∧ RVs G.K S' acc.reverse xs ∧
        PO G (rT G) (fun c d H' => W c d s H') S Q ((lcL v t (wipeR r vs) (lcT c g) n (i + 1) acc h).bind fun l h2 => .ok (.tl l.reverse) h2)) H3) (c r3 h) := by
            refine PO.no (PO.stepAt (e1.trans e02) p fun S3 h3 b b' e3 r3' w3 p3 => ?_)
            cases (show b = b' from w3)
            obtain ⟨hs3, hn3⟩ := still2 hs2 hn2 (fun _ z => by cases z) e3
            have e03 := e02.trans e3
            cases b with
            | false =>
              rw [if_neg Bool.false_ne_true]
              exact ⟨S3, h3, acc, xs, rfl, e03, r3', hs3, hn3, ha2.ext r2 e3, p3⟩
            | true =>
              rw [if_pos rfl]
              rw [if_pos rfl, assoc] at p3
              refine ⟨S3, r3, h3, rfl, r3', z3.ext r2 e3, PO.no (PO.stepAt (e1.trans e03) p3 fun S4 h4 ty y e4 r4 w4 p4 => ?_)⟩
              cases ea : alc ty h4 with
              | none => rw [ea] at p4; exact p4.elim
              | some dh =>
                obtain ⟨d5, h5⟩ := dh
                rw [ea] at p4
                simp only [R.bind_ok] at p4
                obtain ⟨S5, r5, w5, g5, e5⟩ := alc1 e4 r4 w4 ea
                obtain ⟨hs5, hn5⟩ := still2 hs3 hn3 (fun _ z => by cases z) e5
                split at p4
                · rename_i hz
                  have ha5 := (ha2.ext r2 e3).ext r3' e5
                  have e05 := e03.trans e5
                  obtain ⟨e6, r6, q6, k6⟩ := grow_list r5 hD e05 hs5 hn5 ha5 w5
                  refine ⟨xs, by rw [← g5.H]; exact hs5, by rw [← ha.length, List.length_reverse, sz_eq]; exact hz, _, h5, d5 :: acc, _, by rw [← g5.H], e6, r6, upd_same, hn5, by rw [List.reverse_cons]; exact q6, p4⟩
                · exact p4.elim
          exact ⟨S2, r3, h, rfl, r2, z3, pE⟩
      · exact p.elim
    · exact p.elim
theorem se_lc {elt tg iter : Expr} {ifs : List Expr} {scope : Scope} {own : List (Str × Nat)} {pos : Pos} {f : Ei} {t : Tg} {c : Ec} {g : Ev} (hK : X.K = G.K) (hc : X.calm = true) (hN : X.N.Nodup) (hi : SI G X W tg f iter) (ok : BlkOk X.N X.env.scope scope own)
    (hg : ∀ (s : Shared) (H : Hp) (C : Addr) (cl : List (Str × Addr)) (fp : List Addr), PG (X.blk s H scope (compEnvC scope cl C X.env) fp) tg (tgR X.K t)) (ht : ∀ (s : Shared) (H : Hp) (C : Addr) (cl : List (Str × Addr)) (fp : List Addr), STs G (X.blk s H scope (compEnvC scope cl C X.env) fp) WF c ifs)
    (he : ∀ (s : Shared) (H : Hp) (C : Addr) (cl : List (Str × Addr)) (fp : List Addr), SE G (X.blk s H scope (compEnvC scope cl C X.env) fp) WF g elt) (hin : tgIn (own.map (·.2)) t = true := by rfl) (hs : ∀ x, foldedSetIterable iter X.env x = pure x := by intro _; rfl) :
    SE G X W (evLc f t (own.map (·.2)) c g) (.ListComp elt [⟨tg, iter, ifs, 0⟩] scope pos) := PE.imp (pe_lc hc hN hi ok hg ht he hs) fun s H Q p => lc_read hK hin p
/-- name = [..] -/
def esLc (i : Nat) (f : Ev) : Es := esAsg f (egN i)
theorem ss_setLc {i : Nat} {y : Str} {py : Pos} {elt tg iter : Expr} {ifs : List Expr} {scope : Scope} {own : List (Str × Nat)} {pos spos : Pos} {f : Ei} {t : Tg} {c : Ec} {g : Ev} (hK : X.K = G.K) (hc : X.calm = true) (hN : X.N.Nodup) (hy : X.N[i]? = some y) (hyl : X.env.scope.names.lookup y = some .local)
    (hsw : swapsWith (.ListComp elt [⟨tg, iter, ifs, 0⟩] scope pos) (some (.Name y py)) spos.line X.env = pure true) (hi : SI G X W tg f iter) (ok : BlkOk X.N X.env.scope scope own)
    (hg : ∀ (s : Shared) (H : Hp) (C : Addr) (cl : List (Str × Addr)) (fp : List Addr), PG (X.blk s H scope (compEnvC scope cl C X.env) fp) tg (tgR X.K t)) (ht : ∀ (s : Shared) (H : Hp) (C : Addr) (cl : List (Str × Addr)) (fp : List Addr), STs G (X.blk s H scope (compEnvC scope cl C X.env) fp) WF c ifs)
    (he : ∀ (s : Shared) (H : Hp) (C : Addr) (cl : List (Str × Addr)) (fp : List Addr), SE G (X.blk s H scope (compEnvC scope cl C X.env) fp) WF g elt) (hin : tgIn (own.map (·.2)) t = true := by rfl) (hs : ∀ x, foldedSetIterable iter X.env x = pure x := by intro _; rfl) :
    SS G X W (esAsg (evLc f t (own.map (·.2)) c g) (egN i)) (.Assign [.Name y py] (.ListComp elt [⟨tg, iter, ifs, 0⟩] scope pos) spos) := by
  refine PS.imp (ps_setLc hc hN hy hyl hsw hi ok hg ht he hs) fun D s H p => ?_
  have p := asg_ok p
  have p2 : rd G (rT G) W (evLc f t (own.map (·.2)) c g) s H fun x H1 => gName i x s H1 D.nx := by
    obtain ⟨S, r, h, e, q, z, p⟩ := p
    refine ⟨S, r, h, e, q, z, PO.mono (fun x H ⟨S', r', h', d', e', q', z', w', p'⟩ => ?_) p⟩
    subst e'
    exact p' S' _ (Ext.refl S') q' (z'.set i w')
  exact lc_read hK hin p2
end
end Bz
set_option Elab.async false
set_option linter.all false
set_option maxRecDepth 100000
set_option autoImplicit false
namespace Bz
open PySem PySem.Spec PyProof.Rows L2

/-! ### what is known in a context -/
structure Zx (G : Gl) (X : Cx) (W : WX) (k : Nat) : Prop where
  K : X.K = G.K
  hc : X.calm = true
  nd : X.N.Nodup
  rm : Room k X.A
  tk : L2.Takes X W
section
variable {G : Gl} {X : Cx} {W : WX} {k : Nat} {S : Wd} {h : List O}
theorem Zx.hu (z : Zx G X W k) : X.A.units + 64 < cLine := z.rm.units
theorem Zx.px (z : Zx G X W k) (σ : L2.St) : PassesAt (L2.CX X.prog X.w) X σ (WE W σ) := L2.passAt z.tk σ
theorem Zx.blk (z : Zx G X W k) (s : Shared) (H : Hp) (scope : Scope) (cenv : Env) (fp : List Addr) : Zx G (X.blk s H scope cenv fp) WF k := ⟨z.K, z.hc, z.nd, z.rm, LamX.takes0⟩
theorem Zx.tr (z : Zx G X W k) {W' : WX} {pn : List (Addr × Obj)} {xe : Value → Shared → Prop} (tk : L2.Takes (X.tr pn xe) W') : Zx G (X.tr pn xe) W' k := ⟨z.K, z.hc, z.nd, z.rm, tk⟩

/-- a global text -/
theorem se_gs {x : Str} {v : Str} {pos : Pos} (hm : ∃ t, X.mg x = some (.str v t)) (hg : L2.Gl X x := by rfl) (hd : (x == ("__debug__" : Str)) = false := by decide) : SE G X W (evC (.str v)) (.Name x pos) := by
  obtain ⟨t, ht⟩ := hm
  exact se_const (pe_glob (v := V.str v) hg ht ⟨t, rfl⟩ hd) fun _ => .str v

/-! ### raise X("..") -/
structure XAt (G : Gl) (mg : Str → Option Value) (x : Str) (c : Nat) : Prop where
  gC : mg x = some (.ref (G.ca c))
  q : PySem.W.excIn G.K (G.ca c) He.veBase "ValueError.__new__" = true
  kC : PySem.W.keepIn G.K (.ref (G.ca c)) = true
  r1 : PySem.W.subIn G.K (.ref (G.ca c)) (.type "BaseException") = some true
  r2 : PySem.W.typeIn G.K (.ref (G.ca c)) = some (.type "type")
def esRaise (c : Nat) : Es := fun r h => .ex c [] r h
theorem ss_raise {x m : Str} {c j : Nat} {p p2 pos pos' : Pos} (z : Zx G X W k) (xf : XAt G X.mg x c) (hg : L2.Gl X x := by rfl) (hdb : (x == ("__debug__" : Str)) = false := by decide) : SS G X W (esRaise c) (.Raise (some (.Call (.Name x p) [.Constant (.str m) j p2] [] pos)) none pos') := by
  refine PS.imp (L2.ps_raise z.hc z.tk (L2.pmk_own (C := G.ca c) PySem.F.excBase_ValueError (by rw [z.K]; exact xf.q) xf.gC (by rw [z.K]; exact xf.kC) (L2.raises_own (by rw [z.K]; exact xf.r1) (by rw [z.K]; exact xf.r2)) hg hdb)) fun D s H ⟨S, r, h, e, q, zz, p⟩ => ?_
  subst e
  exact p S _ none s (Ext.refl S) q ⟨rfl, rfl⟩ zz

/-! ### a def -/
def fnC (n : Nat) (f : Es) : Cl := fun ds h => match f (ds.map some ++ List.replicate (n - ds.length) none) h with
  | .nx _ h' => .ok (.v .non) h'
  | .rt t h' => .ok t h'
  | .ex c fs _ h' => .ex c fs h'
  | _ => .bad
theorem RS.start {N : List Str} : ∀ {ds : List D} {vs : List V}, RVs G.K S ds vs → RS G S (ds.map some ++ List.replicate (N.length - ds.length) none) (L2.start N vs) := fun {ds vs} q => by
  unfold L2.start
  rw [q.length]
  refine ⟨by rw [List.length_append, List.length_append, List.length_map, List.length_map, q.length, List.length_replicate, List.length_replicate], fun i d hd => ?_⟩
  by_cases hi : i < ds.length
  · rw [List.getElem?_append_left (by rw [List.length_map]; exact hi), List.getElem?_map] at hd
    cases e : ds[i]? with
    | none => rw [e] at hd; cases hd
    | some d' =>
      rw [e] at hd
      cases hd
      obtain ⟨x, h1, h2⟩ := q.get e
      refine ⟨x, ?_, h2⟩
      rw [List.getElem?_append_left (by rw [List.length_map, ← q.length]; exact hi), List.getElem?_map, h1]; rfl
  · rw [List.getElem?_append_right (by rw [List.length_map]; omega)] at hd
    have := List.mem_of_getElem? hd
    have := (List.mem_replicate.mp this).2
    cases this
/-- the def as a callee -/
structure FnAt (G : Gl) (P : Program) (w : World) (mg : Str → Option Value) (base : Heap) (k : Nat) (x : Str) (np : Nat) (c : Cl) : Prop where
  of : ∃ (f : Addr) (fd : FuncData) (ps : List Str), mg x = some (.ref f) ∧ PySem.W.keepIn G.K (.ref f) = true ∧ Binds G.K fd ps [] ∧ ps.length = np ∧ FnOk P w G.K mg base (L2.CX P w) k f fd ps (spC G c np)
theorem FnAt.at {x : Str} {np : Nat} {c : Cl} (hK : X.K = G.K) (F : FnAt G X.prog X.w X.mg X.base k x np c) : CallAt G X (L2.CX X.prog X.w) k x np c := ⟨by
  obtain ⟨f, fd, ps, h1, h2, h3, h4, h5⟩ := F.of
  exact ⟨f, fd, ps, h1, by rw [hK]; exact h2, by rw [hK]; exact h3, h4, by rw [hK]; exact h5⟩⟩
theorem zcall {x : Str} {np j : Nat} {c : Cl} {e : Expr} {es : List Expr} {f : Ea} {p pos : Pos} (z : Zx G X W k) (F : FnAt G X.prog X.w X.mg X.base j x np c) (hf : SAs G X W f (e :: es)) (hn : eaLen np f) (hj : j ≤ k := by decide) (hg : L2.Gl X x := by rfl)
    (hdb : (x == ("__debug__" : Str)) = false := by decide) (he : starEach (e :: es) X.env = (false, eval e X.env) :: starEach es X.env := by rfl) (hpl : (backTo pos (starEach es X.env)).any (·.1) = false := by rfl) : SE G X W (evCall c f) (.Call (.Name x p) (e :: es) [] pos) :=
  se_call (F.at z.K) (z.rm.mono hj) z.px hg hf hn hdb he hpl
theorem zcall0 {x : Str} {j : Nat} {c : Cl} {p pos : Pos} (z : Zx G X W k) (F : FnAt G X.prog X.w X.mg X.base j x 0 c) (hj : j ≤ k := by decide) (hg : L2.Gl X x := by rfl) (hdb : (x == ("__debug__" : Str)) = false := by decide) : SE G X W (evCall c eaNil) (.Call (.Name x p) [] [] pos) :=
  se_call0 (F.at z.K) (z.rm.mono hj) z.px hg hdb
/-- a def's promise -/
theorem fn_at {P : Program} {w : World} {mg : Str → Option Value} {base : Heap} {x qual : Str} {params : Arguments} {body : List Stmt} {scope : Scope} {f : Addr} {fd : FuncData} {N ps : List Str} {np : Nat} {b : Es} (F : FunD G.K x qual params body scope [] [] f fd) (Sc : FnScope N ps scope) (hnp : ps.length = np)
    (hbody : ∀ (X : Cx) (cdv : Value) (A : Around) (outer : List Env) (s : Shared) (H : Hp) (E : XK), X = cxOf (L2.CX P w) P w G.K mg base N qual scope f cdv A outer s H E → Zx G X (fun c d _ H => E c d H) k → PassesOwn (model X.prog X.w) X.A X.env X.xe → SSs G X (fun c d _ H => E c d H) b body) :
    FnOk P w G.K mg base (L2.CX P w) (k + 1) f fd ps (spC G (fnC N.length b) np) := by
  refine F.ok Sc (fun vs H Q E h => by rw [h.1, hnp]) (fun cdv A outer s H vs Q E hr h => ?_)
  have z : Zx G (cxOf (L2.CX P w) P w G.K mg base N qual scope f cdv A outer s H E) (fun c d _ H => E c d H) k := ⟨rfl, rfl, Sc.nd, hr, L2.takes_of rfl rfl rfl rfl⟩
  refine ⟨_, hbody _ cdv A outer s H E rfl z (L2.passes_of rfl), ?_⟩
  obtain ⟨hl, S, h, ds, eH, r, q, p⟩ := h
  refine ⟨S, _, h, eH, r, RS.start q, ?_⟩
  have hds : ds.length = vs.length := q.length
  unfold fnC at p
  cases e : b (ds.map some ++ List.replicate (N.length - ds.length) none) h with
  | nx r' h' => rw [e] at p; exact fun S' σ e' r1 _ => p S' .non e' r1 (.v .non)
  | rt t h' => rw [e] at p; exact p
  | ex c fs r' h' => rw [e] at p; exact fun S' cls d σ e' r1 z1 _ => p S' cls d e' r1 z1
  | ct => rw [e] at p; exact p.elim
  | bk => rw [e] at p; exact p.elim
  | bad => rw [e] at p; exact p.elim
theorem fn_bind {G : Gl} {x qual : Str} {params : Arguments} {body : List Stmt} {scope : Scope} {f : Addr} {fd : FuncData} {P : Program} {w : World} {mg : Str → Option Value} {base : Heap} {ps : List Str} {np : Nat} {c : Cl} (F : FunD G.K x qual params body scope [] [] f fd) (hm : mg x = some (.ref f)) (hnp : ps.length = np)
    (hb : ∀ (kV doc pm : Value) (an : Option Addr) (cdv ct : Value) (us : List Value), us.length = ps.length → bindArgs (PySem.W.fnOf x qual params body scope .none kV doc pm an cdv ct) ⟨us, []⟩ = pure (ps.zip us)) (ok : FnOk P w G.K mg base (L2.CX P w) k f fd ps (spC G c np)) : FnAt G P w mg base k x np c :=
  ⟨f, fd, ps, hm, F.kp, F.bindsN hb, hnp, ok⟩
end

/-! ### told: a lambda called within a try -/
def wishM (K : PySem.W.Frag) (cls : Value) (H : Hp) (Q : VK) : List (Value × Str) → Prop
  | [] => False
  | (c, s) :: r => ∃ b, PySem.W.exmOne K cls c = some b ∧ (b = true → Q (.str s) H) ∧ (b = false → wishM K cls H Q r)
def TTm (K : PySem.W.Frag) (l : List (Value × Str)) : (XK → Hp → VK → Prop) → Hp → VK → Prop := fun tl H Q => tl (fun cls _ H' => wishM K cls H' Q l) H Q
inductive Hs (X : Cx) : List ExceptHandler → List (Value × Str) → Prop
  | nil : Hs X [] []
  | cons {x : Str} {c : Value} {ret : Str} {j : Nat} {np p5 p6 p7 : Pos} {hds : List ExceptHandler} {l : List (Value × Str)} (hc : Names X x c) (r : Hs X hds l) : Hs X (.ExceptHandler (some (.Name x np)) none [.Return (some (.Constant (.str ret) j p5)) p6] p7 :: hds) ((c, ret) :: l)
theorem Hs.ok {X : Cx} {hds : List ExceptHandler} {l : List (Value × Str)} (h : Hs X hds l) : HdsOk X hds (l.map fun p => (p.1, fun _ _ _ => tRet (tC (.str p.2)))) := by
  induction h with
  | nil => exact .nil
  | cons hc r ih => exact .cons hc (fun a oe cls d pn _ _ => pss_one (ps_ret pe_str)) ih
theorem wish_many {K : PySem.W.Frag} {D : Ends} {cls : Value} {d : Option Addr} {σ : L2.St} {H : Hp} : ∀ {l : List (Value × Str)}, wishM K cls H D.rt l → wMany K (fun _ _ _ _ => False) D (l.map fun p => (p.1, fun _ _ _ => tRet (tC (.str p.2)))) cls d σ H
  | [], h => h
  | (c, s) :: r, ⟨b, h1, h2, h3⟩ => ⟨b, h1, fun hb _ _ => h2 hb, fun hb => wish_many (h3 hb)⟩
theorem told_many {X : Cx} {Ng : List Str} {x a q : Str} {sg : Scope} {g : Addr} {cdg : Value} {h0 : ExceptHandler} {hds : List ExceptHandler} {l : List (Value × Str)} {p1 p2 p3 p8 : Pos}
    (hh : ∀ (s : Shared) (H : Hp), Hs (cxOf C8.CX0 X.prog X.w X.K X.mg X.base Ng x sg g cdg X.A X.stack s H C8.E0).nox (h0 :: hds) l) (hst : ∀ f : Addr, (L2.start Ng [V.ref f])[0]? = some (some (V.ref f))) :
    LamX.GivesTo X Ng x sg g cdg [.Try [.Return (some (.Call (.Name a p1) [] [] p2)) p3] (h0 :: hds) [] [] p8] a q (TTm X.K l) := by
  intro f c' s H Q tl act hc h
  refine ⟨_, pss_one (ps_try_many (X := (cxOf C8.CX0 X.prog X.w X.K X.mg X.base Ng x sg g cdg X.A X.stack s H C8.E0).nox)
      (tb := fun W D σ H => ∃ Ech : XK, (∀ cls d σ' H', Ech cls d H' → W cls d σ' H') ∧ σ[0]? = some (some (.ref f)) ∧ H c' = some (LamX.CodeO c' q) ∧ tl Ech H D.rt)
      rfl rfl LamX.takes0 (fun W pn xe tk _ => ?_) (hh s H).ok), ?_⟩
  · refine ⟨fun pins s' σ H' D I h' => ?_⟩
    obtain ⟨Ech, hW, k1, k2, k3⟩ := h'
    exact (pss_one (ps_ret (pos := p3) (act W pn xe Ech p1 p2 tk hW))).run pins s' σ H' D I ⟨k1, k2, k3⟩
  · exact ⟨fun cls _ H' => wishM X.K cls H' Q l, fun cls d σ' H' w => wish_many w, hst f, hc, h⟩
/-- the first clause that takes the class -/
def findH (mt : Nat → Nat → Option Bool) (c : Nat) : List (Nat × Str) → Option Str
  | [] => none
  | (i, s) :: r => match mt c i with
    | some true => some s
    | some false => findH mt c r
    | none => none
def evTold (mt : Nat → Nat → Option Bool) (l : List (Nat × Str)) (f : Ev) : Ev := fun r h => match f r h with
  | .ok t h' => .ok t h'
  | .ex c _ h' => match findH mt c l with
    | some s => .ok (tS s) h'
    | none => .bad
  | .bad => .bad
section
variable {G : Gl} {X : Cx} {W : WX} {k : Nat} {S : Wd} {h : List O}
/-- which class is under which -/
def ExM (G : Gl) (mt : Nat → Nat → Option Bool) : Prop := ∀ c i b, mt c i = some b → PySem.W.exmOne G.K (.ref (G.ca c)) (.ref (G.ca i)) = some b
theorem findH_ok {mt : Nat → Nat → Option Bool} (hm : ExM G mt) {c : Nat} {H : Hp} {Q : VK} : ∀ {l : List (Nat × Str)} {s : Str}, findH mt c l = some s → Q (.str s) H → wishM G.K (.ref (G.ca c)) H Q (l.map fun p => (.ref (G.ca p.1), p.2))
  | [], s, e, _ => by cases e
  | (i, s') :: r, s, e, q => by
    simp only [findH] at e
    split at e
    · rename_i h1
      cases e
      exact ⟨true, hm _ _ _ h1, fun _ => q, fun z => by cases z⟩
    · rename_i h1
      exact ⟨false, hm _ _ _ h1, fun z => (by cases z), fun _ => findH_ok hm e q⟩
    · cases e
/-- what is known of the def that tells -/
structure ToldAt (G : Gl) (mg : Str → Option Value) (x : Str) (l : List (Nat × Str)) : Prop where
  of : ∃ (g : Addr) (Ng : List Str) (a : Str) (pg : Arguments) (h0 : ExceptHandler) (hds : List ExceptHandler) (sg : Scope) (dV kV doc pm cdv ct oc : Value) (an od : Option Addr) (osl : Array (Option Value)) (p1 p2 p3 p8 : Pos),
    mg x = some (.ref g) ∧ PySem.W.keepIn G.K (.ref g) = true ∧ G.K.lookup g = some ⟨oc, od, .func (PySem.W.fnOf x x pg [.Try [.Return (some (.Call (.Name a p1) [] [] p2)) p3] (h0 :: hds) [] [] p8] sg dV kV doc pm an cdv ct), osl⟩ ∧ PySem.W.codeIn G.K cdv x = true ∧
    L2.Binds G.K (PySem.W.fnOf x x pg [.Try [.Return (some (.Call (.Name a p1) [] [] p2)) p3] (h0 :: hds) [] [] p8] sg dV kV doc pm an cdv ct) [a] [] ∧ FnScope Ng [a] sg ∧ Ng[0]? = some a ∧ Vis sg a ∧ (a == ("__debug__" : Str)) = false ∧ (a == ("__classdict__" : Str)) = false ∧
    (∀ f : Addr, (L2.start Ng [V.ref f])[0]? = some (some (V.ref f))) ∧ ∀ (X : Cx) (s : Shared) (H : Hp), X.mg = mg → Hs (cxOf C8.CX0 X.prog X.w X.K X.mg X.base Ng x sg g cdv X.A X.stack s H C8.E0).nox (h0 :: hds) (l.map fun p => (.ref (G.ca p.1), p.2))
theorem se_told {x : Str} {l : List (Nat × Str)} {mt : Nat → Nat → Option Bool} {f : Ev} {c P : Addr} {params : Arguments} {body : Expr} {scope : Scope} {p lpos pos : Pos} (z : Zx G X W (k + 2)) (F : ToldAt G X.mg x l) (hm : ExM G mt) (TB : LamX.TabB X.base X.mg c P) (hcode : X.env.code = .ref c)
    (hmT : (P, X.env.qual ++ "<lambda>") ∈ G.T) (hu : ∀ p ∈ G.T, p.1 = P → p.2 = X.env.qual ++ "<lambda>") (L : LamX.LamS X.env.scope scope)
    (hbody : ∀ (X' : Cx) (A : Around) (outer : List Env) (s : Shared) (H : Hp) (E : XK) (f' c' : Addr), X' = LamX.lamCx X A outer s H E scope f' c' → Zx G X' (fun c d _ H => E c d H) k → SE G X' (fun c d _ H => E c d H) f body)
    (hdef : defaultsOf params X.env = ([], []) := by rfl)
    (hbind : ∀ (q : Str) (cl : List (Str × Addr)) (pm cv ctv : Value), bindArgs (PySem.W.kla_fn "<lambda>" q params body scope cl pm cv ctv) ⟨[], []⟩ = pure [] := by intros; rfl) (hg : L2.Gl X x := by rfl) (hdb : (x == ("__debug__" : Str)) = false := by decide) :
    SE G X W (evTold mt l f) (.Call (.Name x p) [.Lambda params body scope lpos] [] pos) := by
  obtain ⟨g, Ng, a, pg, h0, hds, sg, dV, kV, doc, pm, cdv, ct, oc, an, od, osl, p1, p2, p3, p8, f1, f2, f3, f4, f5, f6, f7, f8, f9, f10, f11, f12⟩ := F.of
  have K := z.K
  refine PE.imp (LamX.pe_lamcall (T := G.T) (t := fun E => rd G (rT G) (fun c d _ H => E c d H) f) (k := k) hg f1 (by rw [K]; exact f2) (by rw [K]; exact f3) (by rw [K]; exact f4) (by rw [K]; exact f5) f6 f7 f8 (told_many (fun s H => f12 X s H rfl) f11) TB hcode hmT hu z.rm L hdef hbind
    (fun A outer s H E f' c' hr => hbody _ A outer s H E f' c' rfl ⟨K, rfl, z.nd, hr, L2.takes_of rfl rfl rfl rfl⟩) hdb f9 f10) fun s H Q ⟨S, r, h, e, q, zz, p⟩ => ?_
  subst e
  refine ⟨q.tab, fun H1 eN T1 => ?_⟩
  have e1 : Ext S ⟨S.n, S.m, H1⟩ := ⟨Nat.le_refl _, fun _ _ => rfl, fun b o _ hb ho => eN b o hb ho, fun i h1 h2 => absurd (Nat.lt_of_lt_of_le h2 h1) (Nat.lt_irrefl _), fun b hb => by
    cases hH : S.H b with
    | none => exact bare_none hH
    | some o =>
      by_cases ht : ∃ ps, o = .tbl ps
      · obtain ⟨ps, rfl⟩ := ht
        show bare S.H b = none
        unfold bare; rw [hH]
      · have nt : ∀ ps, o ≠ .tbl ps := fun ps e => ht ⟨ps, e⟩
        have k := (bare_some (eN b o hH nt) nt).symm.trans hb
        cases k⟩
  have r1 : RH G h ⟨S.n, S.m, H1⟩ := q.grow e1 rfl (fun i hi => by
    obtain ⟨o, ho, nt⟩ := q.there hi
    rw [ho]; exact eN _ _ ho nt) T1
  have fin : TTm X.K (l.map fun p => (.ref (G.ca p.1), p.2)) (fun E H' Q' => rd G (rT G) (fun c d _ H => E c d H) f s H' Q') H1 Q := by
    refine ⟨⟨S.n, S.m, H1⟩, r, h, rfl, r1, zz.ext q e1, ?_⟩
    unfold evTold at p
    cases ef : f r h with
    | bad => rw [ef] at p; exact p.elim
    | ok t h' => rw [ef] at p; exact PO.later e1 p
    | ex c' fs h' =>
      rw [ef] at p
      simp only at p
      cases eh : findH mt c' l with
      | none => rw [eh] at p; exact p.elim
      | some s' =>
        rw [eh] at p
        intro S' cls d e' r' w
        show wishM X.K cls S'.H Q _
        rw [w.1, K]
        exact findH_ok hm eh (p S' (.str s') (e1.trans e') r' (.v (.str s')))
  exact fin
end
end Bz
set_option Elab.async false
set_option linter.all false
set_option maxRecDepth 100000
set_option autoImplicit false
namespace Bz
open PySem PySem.Spec PyProof.Rows L2

/-! ### sorted -/
def encD (h : List O) (d : D) : PyData := (datF h 7 d).getD .none
def leD (h : List O) (a b : D) : Bool := PySem.W.dataLe false (encD h) a b
def insD (le : D → D → Bool) (a : D) : List D → List D
  | [] => [a]
  | b :: l => if le a b then a :: b :: l else b :: insD le a l
def sortD (le : D → D → Bool) : List D → List D
  | [] => []
  | a :: l => insD le a (sortD le l)
/-- neighbours that are level are the same -/
def tieOk (le : D → D → Bool) : List D → Bool
  | a :: b :: l => (!le b a || beqD a b) && tieOk le (b :: l)
  | _ => true
section
variable {le : D → D → Bool}
theorem ins_perm (a : D) : ∀ l : List D, (insD le a l).Perm (a :: l)
  | [] => .refl _
  | b :: l => by
    unfold insD
    split
    · exact .refl _
    · exact ((ins_perm a l).cons b).trans (.swap a b l)
theorem sort_perm : ∀ l : List D, (sortD le l).Perm l
  | [] => .refl _
  | a :: l => (ins_perm a _).trans ((sort_perm l).cons a)
theorem ins_sorted (tr : ∀ a b c, le a b = true → le b c = true → le a c = true) (to : ∀ a b, le a b = true ∨ le b a = true) (a : D) : ∀ {l : List D}, l.Pairwise (fun a b => le a b = true) → (insD le a l).Pairwise (fun a b => le a b = true)
  | [], _ => List.pairwise_singleton _ _
  | b :: l, p => by
    unfold insD
    rw [List.pairwise_cons] at p
    split
    · rename_i hab
      exact .cons (fun c hc => by
        rcases List.mem_cons.mp hc with rfl | hc
        · exact hab
        · exact tr _ _ _ hab (p.1 c hc)) (.cons p.1 p.2)
    · rename_i hab
      refine .cons (fun c hc => ?_) (ins_sorted tr to a p.2)
      rcases List.mem_cons.mp ((ins_perm a l).mem_iff.mp hc) with rfl | hc
      · exact (to c b).resolve_left hab
      · exact p.1 c hc
theorem sort_sorted (tr : ∀ a b c, le a b = true → le b c = true → le a c = true) (to : ∀ a b, le a b = true ∨ le b a = true) : ∀ l : List D, (sortD le l).Pairwise (fun a b => le a b = true)
  | [] => .nil
  | a :: l => ins_sorted tr to a (sort_sorted tr to l)
theorem tie_all (tr : ∀ a b c, le a b = true → le b c = true → le a c = true) : ∀ {l : List D} {a b : D}, (a :: l).Pairwise (fun a b => le a b = true) → tieOk le (a :: l) = true → b ∈ l → le b a = true → a = b
  | c :: l, a, b, p, t, hb, hle => by
    simp only [tieOk, Bool.and_eq_true, Bool.or_eq_true, Bool.not_eq_true'] at t
    rw [List.pairwise_cons] at p
    have hcb : le b c = true ∨ b = c := by
      rcases List.mem_cons.mp hb with rfl | hb
      · exact .inr rfl
      · exact .inl (tr _ _ _ hle (p.1 c List.mem_cons_self))
    have hca : le c a = true := by
      rcases List.mem_cons.mp hb with rfl | hb
      · exact hle
      · exact tr _ _ _ ((List.pairwise_cons.mp p.2).1 b hb) hle
    have hac : a = c := by
      rcases t.1 with z | z
      · rw [hca] at z; cases z
      · exact beqD_eq z
    rcases List.mem_cons.mp hb with e | hb2
    · rw [e]; exact hac
    · rw [hac] at hle ⊢
      exact tie_all tr p.2 t.2 hb2 hle
theorem sort_one (tr : ∀ a b c, le a b = true → le b c = true → le a c = true) : ∀ {l m : List D}, l.Perm m → l.Pairwise (fun a b => le a b = true) → m.Pairwise (fun a b => le a b = true) → tieOk le l = true → m = l
  | [], m, p, _, _, _ => p.symm.eq_nil
  | a :: l, m, p, hl, hm, t => by
    cases m with
    | nil => exact p.eq_nil.symm ▸ rfl
    | cons b m =>
      have hab : a = b := by
        rcases List.mem_cons.mp (p.mem_iff.mpr (List.mem_cons_self (a := b) (l := m))) with e | e
        · exact e.symm
        · rcases List.mem_cons.mp (p.mem_iff.mp (List.mem_cons_self (a := a) (l := l))) with e2 | e2
          · exact e2
          · exact tie_all tr hl t e ((List.pairwise_cons.mp hm).1 a e2)
      subst hab
      have t2 : tieOk le l = true := by
        cases l with
        | nil => rfl
        | cons c l => simp only [tieOk, Bool.and_eq_true] at t; exact t.2
      rw [sort_one tr (List.Perm.cons_inv p) (List.pairwise_cons.mp hl).2 (List.pairwise_cons.mp hm).2 t2]
end
theorem merge_eq {h : List O} {l : List D} (t : tieOk (leD h) (sortD (leD h) l) = true) : l.mergeSort (PySem.W.dataLe false (encD h)) = sortD (leD h) l := by
  have T : PySem.W.TotalLe (leD h) := PySem.W.sortLe_total _ false _
  have h1 : (l.mergeSort (PySem.W.dataLe false (encD h))).Pairwise (fun a b => leD h a b = true) := List.pairwise_mergeSort (fun a b c => T.trans a b c) (fun a b => by
    rcases T.total a b with z | z <;> · show (leD h a b || leD h b a) = true; rw [z]; simp) l
  exact sort_one T.trans ((sort_perm l).trans (List.mergeSort_perm l _).symm) (sort_sorted T.trans T.total l) h1 t
def isI : PyData → Bool
  | .int _ => true
  | _ => false
def isIs : PyData → Bool
  | .tuple l => l.all isI && !l.isEmpty
  | _ => false
def isSt : PyData → Bool
  | .str _ => true
  | _ => false
def isTp : PyData → Bool
  | .tuple l => !l.isEmpty
  | _ => false
def isOt : PyData → Bool
  | .tuple _ => false
  | .none => false
  | _ => true
def sortOk (ps : List PyData) : Bool := ps.all isI || ps.all isIs || ps.all isSt || ((ps.all fun p => ps.all fun q => PySem.W.alike p q) && (ps.all isTp || ps.all isOt))
theorem ints_alike : ∀ {l m : List PyData}, l.all isI = true → m.all isI = true → PySem.W.alikeAll l m = true
  | [], _, _, _ => by rw [PySem.W.alikeAll]
  | _ :: _, [], _, _ => by rw [PySem.W.alikeAll]
  | a :: l, b :: m, h1, h2 => by
    rw [List.all_cons, Bool.and_eq_true] at h1 h2
    rw [PySem.W.alikeAll, ints_alike h1.2 h2.2, Bool.and_true]
    cases a <;> simp [isI] at h1
    cases b <;> simp [isI] at h2
    rw [PySem.W.alike]
theorem sortOk_ok {ps : List PyData} (h : sortOk ps = true) : PySem.W.AllAlike ps ∧ PySem.W.Sortable ps := by
  simp only [sortOk, Bool.or_eq_true, Bool.and_eq_true, List.all_eq_true] at h
  rcases h with ((h | h) | h) | ⟨h1, h2⟩
  · refine ⟨fun d hd d' hd' => ?_, .inr fun d hd => ?_⟩
    · have a := h d hd
      have b := h d' hd'
      cases d <;> simp [isI] at a
      cases d' <;> simp [isI] at b
      rw [PySem.W.alike]
    · have a := h d hd
      cases d <;> simp [isI] at a
      exact ⟨fun z => (by cases z), fun _ z => (by cases z)⟩
  · refine ⟨fun d hd d' hd' => ?_, .inl fun d hd => ?_⟩
    · have a := h d hd
      have b := h d' hd'
      cases d with
      | tuple l =>
        cases d' with
        | tuple m =>
          simp only [isIs, Bool.and_eq_true] at a b
          rw [PySem.W.alike]
          exact ints_alike a.1 b.1
        | _ => cases b
      | _ => cases a
    · have a := h d hd
      cases d with
      | tuple l =>
        cases l with
        | nil => cases a
        | cons x r => exact ⟨x, r, rfl⟩
      | _ => cases a
  · refine ⟨fun d hd d' hd' => ?_, .inr fun d hd => ?_⟩
    · have a := h d hd
      have b := h d' hd'
      cases d <;> simp [isSt] at a
      cases d' <;> simp [isSt] at b
      rw [PySem.W.alike]
    · have a := h d hd
      cases d <;> simp [isSt] at a
      exact ⟨fun z => (by cases z), fun _ z => (by cases z)⟩
  · refine ⟨h1, ?_⟩
    rcases h2 with h2 | h2
    · refine .inl fun d hd => ?_
      have a := h2 d hd
      cases d with
      | tuple l =>
        cases l with
        | nil => cases a
        | cons x r => exact ⟨x, r, rfl⟩
      | _ => cases a
    · refine .inr fun d hd => ?_
      have a := h2 d hd
      cases d with
      | tuple l => cases a
      | none => cases a
      | _ => exact ⟨fun z => (by cases z), fun _ z => (by cases z)⟩
def keyVD : Key → D
  | .inl i => .int i
  | .inr s => .str s
/-- what is gone through, of what -/
def srcT (h : List O) (t : T) : Option (List D) := match seqL h t with
  | some l => some l
  | none => match seqT t with
    | some l => some l
    | none => match dicK h t with
      | some l => some (l.map fun p => keyVD p.1)
      | none => match dicU h t with
        | some l => some (l.map fun p => .tup (p.1.map keyVD))
        | none => none
def g_sorted (t : T) (h : List O) : Option T := match srcT h t with
  | some l => match omap (datF h 7) l with
    | some ps => if sortOk ps && tieOk (leD h) (sortD (leD h) l) && decide (l.length ≤ SZ) then some (.tl (sortD (leD h) l)) else none
    | none => none
  | none => none
section
variable {G : Gl} {X : Cx} {W : WX} {S : Wd} {h : List O}
/-- the values that a thing is gone through by -/
structure ColAt (G : Gl) (X : Cx) (S : Wd) (σ : L2.St) (pins : List (Addr × Obj)) (s : Shared) (v : Value) (l : List D) : Prop where
  col : ∀ (A : Around) (E : Value → Shared → Prop) (R : List Value → Shared → Prop), A.handled = none →
    (∀ (h' : Heap) (tk : Nat) (acc : List Value) (xs : List V), (∀ b o, s.heap.get? b = some o → h'.get? b = some o) → Vals xs acc → RVs G.K S l xs → R acc { s with heap := h', toks := tk }) → wpAny (model X.prog X.w) A (collect v) R E s
theorem omap_at {f : D → Option PyData} : ∀ {l : List D} {ps : List PyData}, omap f l = some ps → ps = l.map fun d => (f d).getD .none
  | [], ps, e => by cases e; rfl
  | d :: l, ps, e => by
    simp only [omap] at e
    split at e
    · rename_i a b ha hb
      cases e
      rw [List.map_cons, ha, omap_at hb]; rfl
    · cases e
theorem keyV_rv {K : PySem.W.Frag} {S : Wd} (k : Key) : RV K S (keyVD k) (kV k) := by
  cases k with
  | inl i => exact .int i
  | inr s => exact .str s
theorem keyVs_rv {K : PySem.W.Frag} {S : Wd} : ∀ (k : List Key), RVs K S (k.map keyVD) (k.map kV)
  | [] => .nil
  | a :: l => .cons (keyV_rv a) (keyVs_rv l)
theorem keysV {K : PySem.W.Frag} : ∀ {l : List (Key × D)} {kvs : List (Key × V)}, RKs G S l kvs → RVs K S (l.map fun p => keyVD p.1) (kvs.map fun kv => kV kv.1)
  | _, _, .nil => .nil
  | _, _, .cons (a := p) (b := q) a b => by
    rw [List.map_cons, List.map_cons, a.1]
    exact .cons (keyV_rv q.1) (keysV b)
theorem keysU {K : PySem.W.Frag} : ∀ {l : List (List Key × D)} {kvs : List (List Key × V)} {ks : List (List Key × Addr × Value)}, RKs G S l kvs → KT S.H kvs ks → RVs K S (l.map fun p => D.tup (p.1.map keyVD)) (ks.map fun x => V.ref x.2.1)
  | _, _, _, .nil, .nil => .nil
  | _, _, _, .cons (a := p) (b := q) a b, .cons (b := x) c d => by
    rw [List.map_cons, List.map_cons, a.1]
    exact .cons (.tup c.2.1 (keyVs_rv q.1)) (keysU b d)
theorem col_at {H0 : Hp} {t : T} {x : V} {u : Value} {l : List D} {pins : List (Addr × Obj)} {σ : L2.St} {s : Shared} (hK : X.K = G.K) (I : Inv X pins σ S.H s) (r : RH G h S) (q : RT G H0 S t x) (rx : RelV x u) (e : srcT h t = some l) (hz : l.length ≤ SZ) : ColAt G X S σ pins s u l := by
  unfold srcT at e
  split at e
  · rename_i l' hl
    cases e
    obtain ⟨a, vs, rfl, s1, w⟩ := seqL_ok r q hl
    cases rx
    obtain ⟨its, rv, pl, hz'⟩ := I.list (by rw [hK]; exact s1)
    obtain ⟨o, ho, hc, n, hd⟩ := pl.isList
    refine ⟨fun A E R hh k => ?_⟩
    refine wpAny_collect_seq a (.inl rfl) ho hc hd (fun h' kp => ?_) (by rw [List.size_toArray, ← rv.length]; exact hz')
    exact k h' s.toks _ vs kp (by simpa using rv) w
  · split at e
    · rename_i l' hl
      cases e
      obtain ⟨a, vs, rfl, s1, w, _⟩ := seqT_ok q hl
      cases rx
      obtain ⟨its, rv, pl, hz'⟩ := I.tuple (by rw [hK]; exact s1)
      obtain ⟨o, ho, hc, n, hd⟩ := pl
      refine ⟨fun A E R hh k => ?_⟩
      refine wpAny_collect_seq a (.inr rfl) ho hc hd (fun h' kp => ?_) (by rw [List.size_toArray, ← rv.length]; exact hz')
      exact k h' s.toks _ vs kp (by simpa using rv) w
    · split at e
      · rename_i l' hl
        cases e
        obtain ⟨a, kvs, rfl, s1, w⟩ := dicK_ok r q hl
        cases rx
        obtain ⟨z, lo, vs, rel, dd⟩ := dk_rd I.hok s1
        obtain ⟨ep, hat⟩ := dd.dictAt
        have el := rel.length
        refine ⟨fun A E R hh k => ?_⟩
        refine PySem.W.kdu_collect (PySem.W.kdl_dict (knd := mixKind X.prog X.w) (kvs := vs) (ep := ep) lo) hh hat (by omega) fun h' tk acc kp hacc => ?_
        refine k h' tk _ (kvs.map fun kv => kV kv.1) kp ?_ ?_
        · have e0 : acc.toList.length = vs.length := Array.length_toList.trans hacc.1
          refine vals_of_at (by rw [List.length_map, e0]; exact el) fun j x w1 h1 h2 => ?_
          obtain ⟨key, y, hky, hi⟩ := hacc.2 j w1 (by rw [← Array.getElem?_toList]; exact h2)
          have e1 : (kvs.map (·.1))[j]? = some key := by
            rw [rel.keys, List.getElem?_map, hky]; rfl
          rw [List.getElem?_map] at h1 e1
          cases hj : kvs[j]? with
          | none => rw [hj] at h1; cases h1
          | some kv =>
            rw [hj] at h1 e1
            cases h1
            cases e1
            exact keyIs_rel hi
        · exact keysV w
      · split at e
        · rename_i l' hl
          cases e
          obtain ⟨a, kvs, rfl, s1, w⟩ := dicU_ok r q hl
          cases rx
          obtain ⟨z, lo, ks, pr, o, es, ep, ho, hx, hdt, he, hn⟩ := (show ObjOk X.prog X.w S.H s.heap a (.dT kvs) from s1.ok I.hok)
          have l1 : es.size = ks.length := size_of_entries he
          have l2 : kvs.length = ks.length := Paired.length pr
          refine ⟨fun A E R hh k => ?_⟩
          refine PySem.W.kdu_collect (kdl_raw lo hx hdt) hh ho (by omega) fun h' tk acc kp it => ?_
          refine k h' tk _ (ks.map fun x => V.ref x.2.1) kp ?_ (keysU w pr)
          have e0 : acc.toList.length = es.size := Array.length_toList.trans it.1
          refine vals_of_at (by rw [List.length_map, e0]; exact l1.symm) fun j x w1 h1 h2 => ?_
          obtain ⟨en, hen, hv⟩ := it.2 j w1 (by rw [← Array.getElem?_toList]; exact h2)
          have qe := entry_at he j
          rw [hen] at qe
          rw [List.getElem?_map] at h1
          cases hb : ks[j]? with
          | none => rw [hb] at h1; cases h1
          | some b =>
            rw [hb] at qe h1
            cases h1
            have e2 : en = entryOfKey (tupleKind (mixKind X.prog X.w)) b := Option.some.inj qe
            rw [hv, e2]
            rfl
        · cases e
/-- the items, each with what it stands for -/
theorem each_rv {K : PySem.W.Frag} : ∀ {l : List D} {xs : List V} {us : List Value}, RVs K S l xs → Vals xs us → PySem.W.EachIs (fun u d => ∃ x, RelV x u ∧ RV K S d x) us l
  | _, _, _, .nil, .nil => .nil
  | _, _, _, .cons a b, .cons c d => .cons ⟨_, c, a⟩ (each_rv b d)
theorem rv_each {K : PySem.W.Frag} : ∀ {l : List D} {us : List Value}, PySem.W.EachIs (fun u d => ∃ x, RelV x u ∧ RV K S d x) us l → ∃ xs, Vals xs us ∧ RVs K S l xs
  | _, _, .nil => ⟨[], .nil, .nil⟩
  | _, _, .cons ⟨x, h1, h2⟩ b => let ⟨xs, c, d⟩ := rv_each b; ⟨x :: xs, .cons h1 c, .cons h2 d⟩
theorem each_reads {pins : List (Addr × Obj)} {σ : L2.St} {s : Shared} (hK : X.K = G.K) (I : Inv X pins σ S.H s) (r : RH G h S) : ∀ {l : List D} {xs : List V} {us : List Value} {ps : List PyData}, RVs G.K S l xs → Vals xs us → omap (datF h 7) l = some ps →
    PySem.W.EachIs (fun u d => ∃ as, PySem.Reads s.heap u (encD h d) as) us l
  | _, _, _, _, .nil, .nil, _ => .nil
  | d :: l, _, _, ps, .cons a b, .cons c e, ho => by
    simp only [omap] at ho
    split at ho
    · rename_i p q hp hq
      refine .cons ?_ (each_reads hK I r b e hq)
      show ∃ as, PySem.Reads s.heap _ ((datF h 7 d).getD .none) as
      rw [hp]
      exact Dp.reads I p _ _ (by rw [hK]; exact datF_dp r 7 d _ p a hp) c
    · cases ho
theorem fn_sorted (hK : X.K = G.K) (hc : X.calm = true) (hu : X.A.units + 64 < cLine) : Fn1 G X (.builtin "sorted") (g1 g_sorted) := by
  intro pins s σ H xs us Q I rv ⟨S, h, H0, ts, t, e, r, z, dm, hg, got⟩
  subst e
  cases z.1 with
  | nil => cases hg
  | cons a b =>
    cases b with
    | cons _ _ => cases hg
    | nil =>
      obtain ⟨u, eu, rx⟩ := vals1 rv
      subst eu
      simp only [g1, g_sorted] at hg
      split at hg
      · rename_i l hl
        split at hg
        · rename_i ps hps
          split at hg
          · rename_i hok
            cases hg
            simp only [Bool.and_eq_true, decide_eq_true_eq] at hok
            obtain ⟨⟨ok1, ok2⟩, hz⟩ := hok
            obtain ⟨al, so⟩ := sortOk_ok ok1
            have em : ps = l.map (encD h) := omap_at hps
            rw [em] at al so
            have C := col_at hK I r a rx hl hz
            have hh := I.ok.hd hc
            refine Calls.call_function_entry PyProof.Rows.kind_sorted PyProof.Rows.plain_sorted PyProof.Rows.entry_sorted (PyProof.Rows.args_sorted1 _) ?_
            unfold Builtin.«sorted»
            refine wpAny_bind (m := checkCount "sorted" 1 1 _) (wpAny_pure ?_)
            refine wpAny_bind (C.col _ _ _ hh fun h' tk acc ys kp ra wa => ?_)
            have la : acc.length = l.length := by rw [← ra.length, ← wa.length]
            have hzA : acc.length ≤ sizeLine := by rw [la, sz_eq]; exact hz
            refine wpAny_bind (wpAny_newList ?_ hzA)
            have kq : ∀ b o, s.heap.get? b = some o → (PySem.W.sortingHeap (h'.push (seqObj "list" acc.toArray 0)) h'.objs.size acc).get? b = some o := fun b o q =>
              PySem.W.sortingHeap_old (Nat.ne_of_lt (Heap.lt_size (kp b o q))) (Heap.get?_push_of_some _ (kp b o q))
            have hat : (h'.push (seqObj "list" acc.toArray 0)).get? h'.objs.size = some (seqObj "list" acc.toArray 0) := Heap.get?_push_size _ rfl
            have er : PySem.W.EachIs (fun v b => ∃ as, PySem.Reads (PySem.W.sortingHeap (h'.push (seqObj "list" acc.toArray 0)) h'.objs.size acc) v (encD h b) as) acc l := (each_reads hK I r wa ra hps).mono fun _ _ ⟨as, q⟩ => ⟨as, PyProof.Rows.Reads.keeps kq q⟩
            have SA : PySem.W.SortsAt X.prog X.w X.A.in1.in1 { s with heap := PySem.W.sortingHeap (h'.push (seqObj "list" acc.toArray 0)) h'.objs.size acc, toks := tk } (PySem.W.dataKind (PySem.W.sortingHeap (h'.push (seqObj "list" acc.toArray 0)) h'.objs.size acc) (l.map (encD h))) acc :=
              PySem.W.SortsAt.data (PySem.W.each_map (R := fun v d => ∃ as, PySem.Reads (PySem.W.sortingHeap (h'.push (seqObj "list" acc.toArray 0)) h'.objs.size acc) v d as) (encD h) er) al so fun d hd => ?_
            · refine wpAny_bind (wpAny_holding (wpAny_call_entry PyProof.Rows.slot_list_sort ⟨_, hat, rfl⟩ PyProof.Rows.entry_list_sort (PySem.W.list_sort_vals (s := { s with heap := h'.push (seqObj "list" acc.toArray 0), toks := tk }) hat SA hzA ?_) (PyProof.Rows.args_list_sort _)))
              have eo := PySem.W.sortVals_data (R := fun u d => ∃ x, RelV x u ∧ RV G.K S d x) false (each_rv wa ra) er al
              rw [merge_eq ok2] at eo
              obtain ⟨zs, rz, wz⟩ := rv_each eo
              obtain ⟨c, hcc⟩ := sortedHeap_at (vs := acc) (out := (PySem.W.sortVals (PySem.W.dataKind (PySem.W.sortingHeap (h'.push (seqObj "list" acc.toArray 0)) h'.objs.size acc) (l.map (encD h))) false acc acc).toArray) hat
              have hzz : zs.length ≤ sizeLine := by rw [← wz.length, (sort_perm l).length_eq, sz_eq]; exact hz
              have I1 : Inv X pins σ S.H { s with heap := h', toks := tk } := I.kept kp
              have hD : S.H h'.objs.size = none := I1.hok.fresh (Nat.le_refl _)
              refine ⟨_, rfl, wpAny_pure ⟨_, rfl, ⟨.ref h'.objs.size, upd S.H h'.objs.size (.lst zs), ?_, rfl, got.lst r wz _ hD⟩⟩⟩
              exact I1.laid (t' := tk) (fun b o q => (sortedHeap_old (Nat.ne_of_lt (Heap.lt_size q)) (Heap.lt_size (Heap.get?_push_of_some _ q))).trans (Heap.get?_push_of_some _ q)) (Nat.le_refl _) (show ObjOk X.prog X.w _ _ _ (.lst zs) from ⟨hzz, _, c, rz, hcc⟩)
            · obtain ⟨d', hd', rfl⟩ := List.mem_map.mp hd
              have dp : (encD h d').depth ≤ 7 := by
                unfold encD
                cases ed : datF h 7 d' with
                | none => exact Nat.zero_le _
                | some p => exact (datF_ok 7 d' p ed).2
              show X.A.units + 1 + 1 + (encD h d').depth < cLine
              omega
          · cases hg
        · cases hg
      · cases hg
end
end Bz
set_option Elab.async false
set_option linter.all false
set_option maxRecDepth 100000
set_option autoImplicit false
namespace Bz
open PySem PySem.Spec PyProof.Rows L2
section
variable {G : Gl} {X : Cx} {W : WX} {k : Nat}
/-- what is said within a comprehension -/
abbrev Within (G : Gl) (X : Cx) (k : Nat) (scope : Scope) (p : Cx → Prop) : Prop := ∀ (s : Shared) (H : Hp) (C : Addr) (cl : List (Str × Addr)) (fp : List Addr), Zx G (X.blk s H scope (compEnvC scope cl C X.env) fp) WF k → p (X.blk s H scope (compEnvC scope cl C X.env) fp)
theorem zlc {elt tg iter : Expr} {ifs : List Expr} {scope : Scope} {own : List (Str × Nat)} {pos : Pos} {f : Ei} {t : Tg} {c : Ec} {g : Ev} (z : Zx G X W k) (hi : SI G X W tg f iter) (ok : BlkOk X.N X.env.scope scope own)
    (hg : Within G X k scope fun Y => PG Y tg (tgR Y.K t)) (ht : Within G X k scope fun Y => STs G Y WF c ifs) (he : Within G X k scope fun Y => SE G Y WF g elt) (hin : tgIn (own.map (·.2)) t = true := by rfl) (hs : ∀ x, foldedSetIterable iter X.env x = pure x := by intro _; rfl) :
    SE G X W (evLc f t (own.map (·.2)) c g) (.ListComp elt [⟨tg, iter, ifs, 0⟩] scope pos) :=
  se_lc z.K z.hc z.nd hi ok (fun s H C cl fp => hg s H C cl fp (z.blk ..)) (fun s H C cl fp => ht s H C cl fp (z.blk ..)) (fun s H C cl fp => he s H C cl fp (z.blk ..)) hin hs
theorem zsetLc {i : Nat} {y : Str} {py : Pos} {elt tg iter : Expr} {ifs : List Expr} {scope : Scope} {own : List (Str × Nat)} {pos spos : Pos} {f : Ei} {t : Tg} {c : Ec} {g : Ev} (z : Zx G X W k) (hy : X.N[i]? = some y) (hyl : X.env.scope.names.lookup y = some .local)
    (hsw : swapsWith (.ListComp elt [⟨tg, iter, ifs, 0⟩] scope pos) (some (.Name y py)) spos.line X.env = pure true) (hi : SI G X W tg f iter) (ok : BlkOk X.N X.env.scope scope own)
    (hg : Within G X k scope fun Y => PG Y tg (tgR Y.K t)) (ht : Within G X k scope fun Y => STs G Y WF c ifs) (he : Within G X k scope fun Y => SE G Y WF g elt) (hin : tgIn (own.map (·.2)) t = true := by rfl) (hs : ∀ x, foldedSetIterable iter X.env x = pure x := by intro _; rfl) :
    SS G X W (esAsg (evLc f t (own.map (·.2)) c g) (egN i)) (.Assign [.Name y py] (.ListComp elt [⟨tg, iter, ifs, 0⟩] scope pos) spos) :=
  ss_setLc z.K z.hc z.nd hy hyl hsw hi ok (fun s H C cl fp => hg s H C cl fp (z.blk ..)) (fun s H C cl fp => ht s H C cl fp (z.blk ..)) (fun s H C cl fp => he s H C cl fp (z.blk ..)) hin hs
end

/-! ### [g for t in it if c for t1 in it1 if c1] -/
def lcA (v : IV) (t : Tg) (r0 : Rho) (b : List D → Rho → List O → R (List D)) : Nat → Nat → List D → List O → R (List D)
  | 0, _, _, _ => .bad
  | n + 1, k, acc, h => match itemAt v k h with
    | some none => .ok acc h
    | some (some d) => match setTg t d r0 with
      | some r1 => (b acc r1 h).bind fun acc1 h1 => lcA v t r0 b n (k + 1) acc1 h1
      | none => .bad
    | none => .bad
def lcB (c : Ec) (f1 : Ei) (t1 : Tg) (vs1 : List Nat) (c1 : Ec) (g : Ev) : List D → Rho → List O → R (List D) := fun acc r h => (c r h).no.bind fun b h1 => if b then (f1 r h1).no.bind fun v1 h2 => lcL v1 t1 (wipeR r vs1) (lcT c1 g) (fuelV h2 v1 + 1) 0 acc h2
  else .ok acc h1
def evLc2 (f : Ei) (t : Tg) (vs : List Nat) (c : Ec) (f1 : Ei) (t1 : Tg) (vs1 : List Nat) (c1 : Ec) (g : Ev) : Ev := fun r h => (f r h).bind fun v h1 => (lcA v t (wipeR r vs) (lcB c f1 t1 vs1 c1 g) (fuelV h1 v + 1) 0 [] h1).bind fun l h2 => .ok (.tl l.reverse) h2
theorem R.assoc {A B C : Type} (u : R A) (k : A → List O → R B) (j : B → List O → R C) : (u.bind k).bind j = u.bind fun a h => (k a h).bind j := by cases u <;> rfl
theorem bind_cong {A B : Type} {u : R A} {k j : A → List O → R B} (e : ∀ a h, k a h = j a h) : u.bind k = u.bind j := by rw [show k = j from funext fun a => funext fun h => e a h]
theorem wipe_wipe (s : L2.St) (vs : List Nat) : L2.wipe (L2.wipe s vs) vs = L2.wipe s vs := by
  apply List.ext_getElem?
  intro j
  by_cases hj : j ∈ vs
  · by_cases hl : j < s.length
    · rw [wipe_get hj hl, wipe_get hj (by rw [wipe_length]; exact hl)]
    · rw [List.getElem?_eq_none (by rw [wipe_length, wipe_length]; omega), List.getElem?_eq_none (by rw [wipe_length]; omega)]
  · rw [wipe_out hj, wipe_out hj]

/-! ### what is walked while something grows that nobody names -/
structure EWk (S S' : Wd) : Prop where
  le : S.n ≤ S'.n
  kp : Kp S S'
theorem EWk.refl (S : Wd) : EWk S S := ⟨Nat.le_refl _, ⟨fun _ _ _ => rfl, fun _ _ q => q, fun _ _ _ q => q⟩⟩
theorem EWk.trans {S S1 S2 : Wd} (a : EWk S S1) (b : EWk S1 S2) : EWk S S2 := ⟨Nat.le_trans a.le b.le, ⟨fun i h1 h2 => (b.kp.ag i (Nat.lt_of_lt_of_le h1 a.le) h2).trans (a.kp.ag i h1 (Nat.lt_of_lt_of_le h1 a.le)), fun p vs q => b.kp.tp p vs (a.kp.tp p vs q), fun p o vs q => b.kp.fz p o vs (a.kp.fz p o vs q)⟩⟩
theorem Ext.wk {G : Gl} {h : List O} {S S' : Wd} (r : RH G h S) (e : Ext S S') : EWk S S' := ⟨e.le, ⟨fun i hi _ => e.ag i hi, fun p vs q => TQ.ext r e q, fun p o vs q => e.fr p _ (fun i hi z => (r.fixed hi).2 o vs (by rw [z]; exact q)) q fun ps z => by cases z⟩⟩
section
variable {G : Gl} {S S' : Wd}
theorem EWk.rvs (e : EWk S S') {l : List Bz.D} {xs : List V} (q : RVs G.K S l xs) : RVs G.K S' l xs := q.kp e.kp (lowL_le e.le _ q.low)
theorem EWk.rs (e : EWk S S') {r : Rho} {s : L2.St} (z : RS G S r s) : RS G S' r s := ⟨z.1, fun i d hd => let ⟨x, h1, h2⟩ := z.2 i d hd; ⟨x, h1, h2.kp e.kp (lowD_le e.le _ h2.low)⟩⟩
theorem EWk.rv (e : EWk S S') {d : Bz.D} {x : V} (q : RV G.K S d x) : RV G.K S' d x := q.kp e.kp (lowD_le e.le _ q.low)
end
structure It2 (G : Gl) (S : Wd) (v : IV) (J : It) : Prop where
  stop : ∀ S' h k, EWk S S' → RH G h S' → itemAt v k h = some none → J.stop k S'.H
  go : ∀ S' h k d, EWk S S' → RH G h S' → itemAt v k h = some (some d) → J.go k S'.H ∧ ∀ x H', J.yld k S'.H x H' → ∃ S'', S''.H = H' ∧ Ext S' S'' ∧ RH G h S'' ∧ RV G.K S'' d x
def rI2 (G : Gl) : Rl G IV It := ⟨fun _ S v J => It2 G S v J, fun r e q => ⟨fun S' h k e' => q.stop S' h k ((e.wk r).trans e'), fun S' h k d e' => q.go S' h k d ((e.wk r).trans e')⟩, fun _ q => q⟩
abbrev SI2 (G : Gl) (X : Cx) (W : WX) (tg : Expr) (f : Ei) (e : Expr) : Prop := PI X tg e (rd G (rI2 G) W f)
def InS2 (Sq : Hp → Addr → List V → Prop) (G : Gl) (S : Wd) (v : IV) (a : Addr) : Prop := ∀ S' h k o, EWk S S' → RH G h S' → itemAt v k h = some o → ∃ xs, Sq S'.H a xs ∧ match o with
  | none => xs.length ≤ k
  | some d => ∃ x, xs[k]? = some x ∧ RV G.K S' d x
def iv2T (h : List O) : T → Option IV
  | .v (.ref i) => match h[i]? with
    | some (.lst _) => some (.lv i)
    | _ => none
  | .v (.tup l) => some (.fx l)
  | .v (.fl l) => some (.fx l)
  | _ => none
section
variable {G : Gl} {X : Cx} {W : WX} {S : Wd} {h : List O}
def eiT2 (f : Ev) : Ei := fun r h => (f r h).bind fun t h1 => optR h1 (iv2T h1 t)
theorem iv2T_ok {H0 : Hp} {t : T} {x : V} {v : IV} (r : RH G h S) (q : RT G H0 S t x) (e : iv2T h t = some v) :
    (∃ a, x = .ref a ∧ (∃ xs, SqL G.K S.H a xs) ∧ InS2 (SqL G.K) G S v a) ∨ (∃ a, x = .ref a ∧ (∃ xs, SqT G.K S.H a xs) ∧ InS2 (SqT G.K) G S v a) := by
  cases q with
  | tl a b c d => cases e
  | tk a b c d => cases e
  | tt a b c d => cases e
  | rg a b c => cases e
  | v q =>
    cases q with
    | @ref i hi =>
      simp only [iv2T] at e
      split at e
      · rename_i l hl
        cases e
        obtain ⟨vs, h1, h2⟩ := r.obj _ _ hl
        refine .inl ⟨S.m i, rfl, ⟨vs, SqL.of h1⟩, fun S' h' k o e' r' ho => ?_⟩
        simp only [itemAt] at ho
        split at ho
        · rename_i l' hl'
          cases ho
          obtain ⟨vs', h1', h2'⟩ := r'.obj _ _ hl'
          rw [e'.kp.ag i hi (Nat.lt_of_lt_of_le hi e'.le)] at h1'
          exact ⟨vs', SqL.of h1', rvs_item h2' k⟩
        · cases ho
      · cases e
    | @tup l p vs q1 q2 =>
      cases e
      refine .inr ⟨p, rfl, ⟨vs, q1.sq⟩, fun S' h' k o e' r' ho => ⟨vs, TQ.sq (K := G.K) (e'.kp.tp _ _ q1), ?_⟩⟩
      cases ho
      exact rvs_item (e'.rvs q2) k
    | @fl l p vs q1 q2 =>
      cases e
      refine .inl ⟨p, rfl, ⟨vs, q1.sq⟩, fun S' h' k o e' r' ho => ⟨vs, IQ.sq (q1.elim (fun ⟨o, w⟩ => .inl ⟨o, e'.kp.fz _ _ _ w⟩) .inr), ?_⟩⟩
      cases ho
      exact rvs_item (e'.rvs q2) k
    | str s => cases e
    | _ => cases e
theorem it2_list {v : IV} {a : Addr} (i : InS2 (SqL G.K) G S v a) : It2 G S v (Itl G.K a) where
  stop := fun S' h k e r ho => let ⟨xs, h1, h2⟩ := i S' h k _ e r ho; ⟨xs, h1, h2⟩
  go := fun S' h k d e r ho => by
    obtain ⟨xs, h1, x, h2, h3⟩ := i S' h k _ e r ho
    refine ⟨⟨xs, x, h1, h2⟩, fun y H' ⟨e', hy⟩ => ⟨S', e'.symm, Ext.refl S', r, ?_⟩⟩
    have := (hy xs h1).symm.trans h2
    cases this
    exact h3
theorem it2_tup {v : IV} {a : Addr} (i : InS2 (SqT G.K) G S v a) : It2 G S v (Itt G.K a) where
  stop := fun S' h k e r ho => let ⟨xs, h1, h2⟩ := i S' h k _ e r ho; ⟨xs, h1, h2⟩
  go := fun S' h k d e r ho => by
    obtain ⟨xs, h1, x, h2, h3⟩ := i S' h k _ e r ho
    refine ⟨⟨xs, x, h1, h2⟩, fun y H' ⟨e', hy⟩ => ⟨S', e'.symm, Ext.refl S', r, ?_⟩⟩
    have := (hy xs h1).symm.trans h2
    cases this
    exact h3
theorem it2_rng (a b : Int) : It2 G S (.fx (rgD a b)) (Itr a (b - a).toNat) where
  stop := fun S' h k e r ho => (it_rng (G := G) a b).stop S' h k (Ext.refl S') r ho
  go := fun S' h k d e r ho => (it_rng (G := G) a b).go S' h k d (Ext.refl S') r ho
theorem si2_any {tg e : Expr} {f : Ev} (hK : X.K = G.K) (he : SE G X W f e) : SI2 G X W tg (eiT2 f) e := by
  refine ⟨fun pins s σ H R I ⟨S, r, h, eH, q, z, p⟩ => ?_⟩
  subst eH
  refine thn (he.run pins s σ S.H (fun x H1 => (∃ a, x = .ref a ∧ (∃ xs, SqL X.K H1 a xs) ∧ R (Itl X.K a) H1) ∨ (∃ a, x = .ref a ∧ (∃ xs, SqT X.K H1 a xs) ∧ R (Itt X.K a) H1)) I
    ⟨S, r, h, rfl, q, z, PO.step p fun S1 h1 t x e1 r1 z1 p1 => ?_⟩) fun v s1 ⟨x, H1, I1, rx, q1⟩ => ?_
  · obtain ⟨v, hv, p1⟩ := PO.optR p1
    rw [hK]
    rcases iv2T_ok r1 z1 hv with ⟨a, ex, hs, i⟩ | ⟨a, ex, hs, i⟩
    · exact .inl ⟨a, ex, hs, p1 S1 _ (Ext.refl S1) r1 (it2_list i)⟩
    · exact .inr ⟨a, ex, hs, p1 S1 _ (Ext.refl S1) r1 (it2_tup i)⟩
  · rcases q1 with ⟨a, ex, ⟨xs, hq⟩, q⟩ | ⟨a, ex, ⟨xs, hq⟩, q⟩
    · subst ex
      cases rx
      obtain ⟨its, rv, p, hz⟩ := I1.list hq
      refine wpAny_pyIter_list p.isList ?_
      exact pi_one (tk := s1.toks) I1 _ (turn_list a _) ⟨_, Heap.get?_push_size _ rfl, rfl, rfl⟩ q
    · subst ex
      cases rx
      obtain ⟨its, rv, p, hz⟩ := I1.tuple hq
      refine wpAny_pyIter_tuple (show s1.heap.IsTuple a its.toArray from p) ?_
      exact pi_one (tk := s1.toks) I1 _ (turn_tuple a _) ⟨_, Heap.get?_push_size _ rfl, rfl, rfl⟩ q
theorem si2_rg1 {tg a : Expr} {f : Ea} {p pos : Pos} (hg : L2.Gl X "range") (hm : X.mg "range" = none) (ha : SAs G X W f [a]) (hs : starEach [a] X.env = [(false, eval a X.env)] := by rfl) : SI2 G X W tg (eiA iv1 f) (.Call (.Name "range" p) [a] [] pos) := by
  refine PI.imp (pi_range1 hg hm ha hs) fun s H R ⟨S, r, h, e, q, z, p⟩ => ?_
  subst e
  refine ⟨S, r, h, rfl, q, z, PO.step p fun S1 h1 ts xs e1 r1 z1 p1 => ?_⟩
  obtain ⟨v, hv, p1⟩ := PO.optR p1
  unfold iv1 at hv
  split at hv
  · split at hv
    · rename_i hb
      cases hv
      obtain ⟨x, rfl, q1⟩ := args1 z1
      simp only [rgB, Bool.and_eq_true, decide_eq_true_eq] at hb
      refine ⟨_, by rw [q1.int_inv], hb.1.2, hb.2, ?_⟩
      have k := p1 S1 _ (Ext.refl S1) r1 (it2_rng 0 _)
      rw [Int.sub_zero] at k
      exact k
    · cases hv
  · cases hv
end
section
variable {G : Gl} {X : Cx} {W : WX} {k : Nat} {S : Wd} {h : List O}
/-- the list that grows at D, what is still to be done -/
def Gr (G : Gl) (W : WX) (s : L2.St) (S S1 S0 : Wd) (D : Addr) (Q : VK) (rest : List Bz.D → List O → R T) (H : Hp) : Prop := ∃ S' h acc xs, S'.H = H ∧ Ext S1 S' ∧ EWk S0 S' ∧ RH G h S' ∧ S'.H D = some (.lst xs) ∧ (∀ i, i < S'.n → S'.m i ≠ D) ∧ RVs G.K S' acc.reverse xs ∧
  PO G (rT G) (fun c d H' => W c d s H') S Q (rest acc h)
/-- one element: tested, made, put behind -/
theorem lc_elt {c : Ec} {g : Ev} {s σ3 : L2.St} {S1 S0 S2 : Wd} {D : Addr} {Q : VK} {acc : List Bz.D} {xs : List V} {r3 : Rho} {rest : List Bz.D → List O → R T} (hD : S1.H D = none) (e0 : Ext S S2) (e02 : Ext S1 S2) (f02 : EWk S0 S2) (r2 : RH G h S2) (hs2 : S2.H D = some (.lst xs)) (hn2 : ∀ i, i < S2.n → S2.m i ≠ D) (ha : RVs G.K S2 acc.reverse xs) (z3 : RS G S2 r3 σ3)
    (p : PO G (rT G) (fun c d H' => W c d s H') S Q ((lcT c g r3 h).bind fun o h1 => match o with
      | some d => if acc.length < SZ then rest (d :: acc) h1 else .bad
      | none => rest acc h1)) :
    rd G (rB G) WF c σ3 S2.H fun b H3 => if b = true then rd G (rT G) WF g σ3 H3 fun y H4 => ∃ accV, H4 D = some (.lst accV) ∧ accV.length < sizeLine ∧ Gr G W s S S1 S0 D Q rest (upd H4 D (.lst (accV ++ [y]))) else Gr G W s S S1 S0 D Q rest H3 := by
  refine ⟨S2, r3, h, rfl, r2, z3, ?_⟩
  unfold lcT at p
  rw [R.assoc] at p
  refine PO.no (PO.stepAt e0 p fun S3 h3 b b' e3 r3' w3 p3 => ?_)
  cases (show b = b' from w3)
  obtain ⟨hs3, hn3⟩ := still2 hs2 hn2 (fun _ z => by cases z) e3
  have e03 := e02.trans e3
  cases b with
  | false =>
    rw [if_neg Bool.false_ne_true]
    exact ⟨S3, h3, acc, xs, rfl, e03, f02.trans (e3.wk r2), r3', hs3, hn3, ha.ext r2 e3, p3⟩
  | true =>
    rw [if_pos rfl]
    rw [if_pos rfl, R.assoc] at p3
    refine ⟨S3, r3, h3, rfl, r3', z3.ext r2 e3, PO.no (PO.stepAt (e0.trans e3) p3 fun S4 h4 ty y e4 r4 w4 p4 => ?_)⟩
    cases ea : alc ty h4 with
    | none => rw [ea] at p4; exact p4.elim
    | some dh =>
      obtain ⟨d5, h5⟩ := dh
      rw [ea] at p4
      simp only [R.bind_ok] at p4
      obtain ⟨S5, r5, w5, g5, e5⟩ := alc1 e4 r4 w4 ea
      obtain ⟨hs5, hn5⟩ := still2 hs3 hn3 (fun _ z => by cases z) e5
      split at p4
      · rename_i hz
        have ha5 := (ha.ext r2 e3).ext r3' e5
        obtain ⟨e6, r6, q6, k6⟩ := grow_list r5 hD (e03.trans e5) hs5 hn5 ha5 w5
        refine ⟨xs, by rw [← g5.H]; exact hs5, by rw [← ha.length, List.length_reverse, sz_eq]; exact hz, _, h5, d5 :: acc, _, by rw [← g5.H], e6, ((f02.trans (e3.wk r2)).trans (e5.wk r3')).trans ⟨Nat.le_refl _, k6⟩, r6, upd_same, hn5, by rw [List.reverse_cons]; exact q6, p4⟩
      · exact p4.elim
theorem lc2_read {f f1 : Ei} {t t1 : Tg} {vs vs1 : List Nat} {c c1 : Ec} {g : Ev} {s : L2.St} {H : Hp} {Q : VK} (hK : X.K = G.K) (hin : tgIn vs t = true) (hin1 : tgIn vs1 t1 = true) (p : rd G (rT G) W (evLc2 f t vs c f1 t1 vs1 c1 g) s H Q) :
    tLc2 (rd G (rI G) W f) (tgR X.K t) (rd G (rB G) WF c) (rd G (rI2 G) WF f1) (tgR X.K t1) (rd G (rB G) WF c1) (rd G (rT G) WF g) vs vs1 s H Q := by
  obtain ⟨S, r, h, e, q, z, p⟩ := p
  subst e
  refine ⟨S, r, h, rfl, q, z, PO.stepAt (Ext.refl S) p fun S1 h1 v J e1 r1 w p1 => ?_⟩
  have w : ItOk G S1 v J := w
  intro D hD
  have z1 := (z.ext q e1).wipe vs
  let fin : List Bz.D → List O → R T := fun l h2 => .ok (.tl l.reverse) h2
  refine ⟨fun i m H => Gr G W s S S1 S1 D Q (fun acc h => (lcA v t (wipeR r vs) (lcB c f1 t1 vs1 c1 g) m i acc h).bind fin) H, ⟨_, S1.add D (.lst []), h1, [], [], rfl, Ext.add hD, (Ext.add hD).wk r1, r1.add hD, upd_same, r1.apart hD, .nil, p1⟩, ?_⟩
  rintro i m H ⟨S', h, acc, xs, rfl, e', -, rh, hs, hn, ha, p⟩
  cases m with
  | zero => exact p.elim
  | succ n =>
    simp only [lcA] at p
    split at p
    · rename_i hit
      exact .inl ⟨w.stop S' h i e' rh hit, p S' (.ref D) (e1.trans e') rh (.tl hs ha (e1.dm D (bare_none hD)) hn)⟩
    · rename_i d hit
      obtain ⟨go, yl⟩ := w.go S' h i d e' rh hit
      let rest : List Bz.D → List O → R T := fun acc h => (lcA v t (wipeR r vs) (lcB c f1 t1 vs1 c1 g) n (i + 1) acc h).bind fin
      refine .inr ⟨go, fun H' => Gr G W s S S1 S1 D Q rest H', fun H' x => ⟨n, Nat.lt_succ_self n, x⟩, fun x H' hy => ?_⟩
      obtain ⟨S2, eH, e2, r2, w2⟩ := yl x H' hy
      subst eH
      obtain ⟨hs2, hn2⟩ := still2 hs hn (fun _ z => by cases z) e2
      have ha2 := ha.ext rh e2
      have e02 := e'.trans e2
      split at p
      · rename_i r3 hset
        refine tg_ok hK hin w2 (z1.ext r1 e02) hset fun σ3 z3 ew => ⟨ew.trans (wipe_wipe s vs), ?_⟩
        rw [R.assoc] at p
        unfold lcB at p
        rw [R.assoc] at p
        refine ⟨S2, r3, h, rfl, r2, z3, PO.no (PO.stepAt (e1.trans e02) p fun S3 h3 b b' e3 r3' w3 p3 => ?_)⟩
        cases (show b = b' from w3)
        obtain ⟨hs3, hn3⟩ := still2 hs2 hn2 (fun _ z => by cases z) e3
        have e03 := e02.trans e3
        have ha3 := ha2.ext r2 e3
        have z33 := z3.ext r2 e3
        cases b with
        | false =>
          rw [if_neg Bool.false_ne_true]
          exact ⟨S3, h3, acc, xs, rfl, e03, e03.wk r1, r3', hs3, hn3, ha3, p3⟩
        | true =>
          rw [if_pos rfl]
          rw [if_pos rfl, R.assoc] at p3
          refine ⟨S3, r3, h3, rfl, r3', z33, PO.no (PO.stepAt (e1.trans e03) p3 fun S4 h4 v1 J1 e4 r4 w4 p4 => ?_)⟩
          have w4 : It2 G S4 v1 J1 := w4
          obtain ⟨hs4, hn4⟩ := still2 hs3 hn3 (fun _ z => by cases z) e4
          have z4 := (z33.ext r3' e4).wipe vs1
          refine ⟨fun j m H => Gr G W s S S1 S4 D Q (fun acc h => (lcL v1 t1 (wipeR r3 vs1) (lcT c1 g) m j acc h).bind rest) H, ⟨_, S4, h4, acc, xs, rfl, e03.trans e4, EWk.refl S4, r4, hs4, hn4, ha3.ext r3' e4, p4⟩, ?_⟩
          rintro j m H ⟨S5, h5, acc5, xs5, rfl, e15, e45, r5, hs5, hn5, ha5, p5⟩
          cases m with
          | zero => exact p5.elim
          | succ m =>
            simp only [lcL] at p5
            split at p5
            · rename_i hit1
              exact .inl ⟨w4.stop S5 h5 j e45 r5 hit1, S5, h5, acc5, xs5, rfl, e15, e15.wk r1, r5, hs5, hn5, ha5, p5⟩
            · rename_i d1 hit1
              obtain ⟨go1, yl1⟩ := w4.go S5 h5 j d1 e45 r5 hit1
              let rest1 : List Bz.D → List O → R T := fun acc h => (lcL v1 t1 (wipeR r3 vs1) (lcT c1 g) m (j + 1) acc h).bind rest
              refine .inr ⟨go1, fun H' => Gr G W s S S1 S4 D Q rest1 H', fun H' x => ⟨m, Nat.lt_succ_self m, x⟩, fun x1 H' hy1 => ?_⟩
              obtain ⟨S6, eH6, e6, r6, w6⟩ := yl1 x1 H' hy1
              subst eH6
              obtain ⟨hs6, hn6⟩ := still2 hs5 hn5 (fun _ z => by cases z) e6
              have e46 := e45.trans (e6.wk r5)
              split at p5
              · rename_i r7 hset1
                refine tg_ok hK hin1 w6 (e46.rs z4) hset1 fun σ7 z7 ew7 => ⟨ew7.trans (wipe_wipe σ3 vs1), ?_⟩
                rw [R.assoc, bind_cong (j := fun o h1 => match o with
                  | some d => if acc5.length < SZ then rest1 (d :: acc5) h1 else .bad
                  | none => rest1 acc5 h1) (fun a h => by cases a with
                    | none => rfl
                    | some d => dsimp only; split <;> rfl)] at p5
                exact lc_elt hD ((e1.trans e15).trans e6) (e15.trans e6) e46 r6 hs6 hn6 (ha5.ext r5 e6) z7 (rest := rest1) p5
              · exact p5.elim
            · exact p5.elim
      · exact p.elim
    · exact p.elim
theorem zlc2 {elt tg iter tg1 iter1 : Expr} {ifs ifs1 : List Expr} {scope : Scope} {own : List (Str × Nat)} {vs1 : List Nat} {pos : Pos} {f f1 : Ei} {t t1 : Tg} {c c1 : Ec} {g : Ev} (z : Zx G X W k) (hi : SI G X W tg f iter) (ok : BlkOk X.N X.env.scope scope own) (hv : vs1.all (fun i => (own.map (·.2)).contains i) = true)
    (hg : Within G X k scope fun Y => PG Y tg (tgR Y.K t)) (ht : Within G X k scope fun Y => STs G Y WF c ifs)
    (hi1 : Within G X k scope fun Y => SI2 G Y WF tg1 f1 iter1) (hg1 : Within G X k scope fun Y => PG Y tg1 (tgR Y.K t1)) (ht1 : Within G X k scope fun Y => STs G Y WF c1 ifs1)
    (he : Within G X k scope fun Y => SE G Y WF g elt) (hin : tgIn (own.map (·.2)) t = true := by rfl) (hin1 : tgIn vs1 t1 = true := by rfl) (hs : ∀ x, foldedSetIterable iter X.env x = pure x := by intro _; rfl) (hs1 : ∀ env x, foldedSetIterable iter1 env x = pure x := by intro _ _; rfl) :
    SE G X W (evLc2 f t (own.map (·.2)) c f1 t1 vs1 c1 g) (.ListComp elt [⟨tg, iter, ifs, 0⟩, ⟨tg1, iter1, ifs1, 0⟩] scope pos) :=
  PE.imp (pe_lc2 z.hc z.nd hi ok (fun i hi => by have := List.all_eq_true.mp hv i hi; simpa using this) (fun s H C cl fp => hg s H C cl fp (z.blk ..)) (fun s H C cl fp => ht s H C cl fp (z.blk ..)) (fun s H C cl fp => hi1 s H C cl fp (z.blk ..)) (fun s H C cl fp => hg1 s H C cl fp (z.blk ..)) (fun s H C cl fp => ht1 s H C cl fp (z.blk ..)) (fun s H C cl fp => he s H C cl fp (z.blk ..)) hs hs1) fun s H Q p => lc2_read z.K hin hin1 p
theorem zsetLc2 {i : Nat} {y : Str} {py : Pos} {elt tg iter tg1 iter1 : Expr} {ifs ifs1 : List Expr} {scope : Scope} {own : List (Str × Nat)} {vs1 : List Nat} {pos spos : Pos} {f f1 : Ei} {t t1 : Tg} {c c1 : Ec} {g : Ev} (z : Zx G X W k) (hy : X.N[i]? = some y) (hyl : X.env.scope.names.lookup y = some .local)
    (hsw : swapsWith (.ListComp elt [⟨tg, iter, ifs, 0⟩, ⟨tg1, iter1, ifs1, 0⟩] scope pos) (some (.Name y py)) spos.line X.env = pure true) (hi : SI G X W tg f iter) (ok : BlkOk X.N X.env.scope scope own) (hv : vs1.all (fun i => (own.map (·.2)).contains i) = true)
    (hg : Within G X k scope fun Y => PG Y tg (tgR Y.K t)) (ht : Within G X k scope fun Y => STs G Y WF c ifs)
    (hi1 : Within G X k scope fun Y => SI2 G Y WF tg1 f1 iter1) (hg1 : Within G X k scope fun Y => PG Y tg1 (tgR Y.K t1)) (ht1 : Within G X k scope fun Y => STs G Y WF c1 ifs1)
    (he : Within G X k scope fun Y => SE G Y WF g elt) (hin : tgIn (own.map (·.2)) t = true := by rfl) (hin1 : tgIn vs1 t1 = true := by rfl) (hs : ∀ x, foldedSetIterable iter X.env x = pure x := by intro _; rfl) (hs1 : ∀ env x, foldedSetIterable iter1 env x = pure x := by intro _ _; rfl) :
    SS G X W (esAsg (evLc2 f t (own.map (·.2)) c f1 t1 vs1 c1 g) (egN i)) (.Assign [.Name y py] (.ListComp elt [⟨tg, iter, ifs, 0⟩, ⟨tg1, iter1, ifs1, 0⟩] scope pos) spos) := by
  refine PS.imp (ps_setLc2 (g := tgR X.K t) (g1 := tgR X.K t1) z.hc z.nd hy hyl hsw hi ok (fun i hi => by have := List.all_eq_true.mp hv i hi; simpa using this) (fun s H C cl fp => hg s H C cl fp (z.blk ..)) (fun s H C cl fp => ht s H C cl fp (z.blk ..)) (fun s H C cl fp => hi1 s H C cl fp (z.blk ..)) (fun s H C cl fp => hg1 s H C cl fp (z.blk ..)) (fun s H C cl fp => ht1 s H C cl fp (z.blk ..)) (fun s H C cl fp => he s H C cl fp (z.blk ..)) hs hs1) fun D s H p => ?_
  have p := asg_ok p
  have p2 : rd G (rT G) W (evLc2 f t (own.map (·.2)) c f1 t1 vs1 c1 g) s H fun x H1 => gName i x s H1 D.nx := by
    obtain ⟨S, r, h, e, q, z, p⟩ := p
    refine ⟨S, r, h, e, q, z, PO.mono (fun x H ⟨S', r', h', d', e', q', z', w', p'⟩ => ?_) p⟩
    subst e'
    exact p' S' _ (Ext.refl S') q' (z'.set i w')
  exact lc2_read z.K hin hin1 p2
end
end Bz
set_option Elab.async false
set_option linter.all false
set_option maxRecDepth 100000
set_option autoImplicit false
namespace Bz
open PySem PySem.Spec PyProof.Rows L2 GenW

/-! ### a generator expression's own frame -/
abbrev gbx (X : Cx) (A : Around) (s : Shared) (H : Hp) (cenv : Env) (fp : List Addr) (pn : List (Addr × Obj)) : Cx := { X with A := A, s_0 := s, H_0 := H, env := cenv, outer := X.stack, stack := cenv :: X.stack, ex := fp, fn := fun _ => false, pn := pn, xe := fun _ _ => False }
abbrev gEnv (X : Cx) (scope : Scope) (C : Addr) (code : Value) : Env := genEnv scope (cloFrom X.env.cells scope.names []) C code builtinsNs X.env
section
variable {X : Cx} {pins : List (Addr × Obj)} {σ : L2.St} {H : Hp} {s : Shared}
theorem gb_start {A : Around} {scope : Scope} {own : List (Str × Nat)} {fp : List Addr} {code : Value} {pn sp : List (Addr × Obj)} {h5 : Heap} {g5 : Array GenState} {t5 : Nat} {m5 : Str → Option Value} (I : Inv X pins σ H s) (ok : BlkOk X.N X.env.scope scope own) (noc : ∀ y ∈ scope.names, y.2 ≠ .cell)
    (hN : X.N.Nodup) (hfp : ∀ b ∈ fp, FpOk X pins H b ∧ b < s.heap.objs.size) (hA : A.frames = some (gEnv X scope s.heap.objs.size code :: X.stack)) (hh : A.handled = none) (kp : ∀ b o, s.heap.get? b = some o → h5.get? b = some o) (hns : h5.Ns s.heap.objs.size m5) (hg : AllBare g5)
    (hpn : ∀ p ∈ pn ++ sp, h5.get? p.1 = some p.2 ∧ s.heap.objs.size < p.1 ∧ ∀ v, p.2.data ≠ .cell v) :
    Inv (gbx X A s H (gEnv X scope s.heap.objs.size code) fp pn) sp (wipe σ (own.map (·.2))) H { s with heap := h5, gens := g5, toks := t5 } := by
  have hfree : ∀ y ∈ scope.names, y.2 = .free → ∃ c, X.env.cells.lookup y.1 = some c := fun y hy e => by
    rcases ok.free y hy e with k | k
    · exact I.ok.has _ (.inl k)
    · exact I.ok.has _ (.inr k)
  have cm : ∀ {y c}, (cloFrom X.env.cells scope.names []).lookup y = some c → X.env.cells.lookup y = some c := fun {y c} e => by
    rcases cloFrom_mem (PySem.mem_of_lookup e) with hm | ⟨h1, h2⟩
    · cases hm
    · obtain ⟨c1, hc⟩ := hfree _ h1 rfl
      have hc : X.env.cells.lookup y = some c1 := hc
      have e2 : c = c1 := by rw [h2, hc]; rfl
      rw [e2]; exact hc
  have look : ∀ {y}, scope.names.lookup y = some .free → ∃ c, (cloFrom X.env.cells scope.names []).lookup y = some c := fun {y} hl => by
    have hy : (y, NameKind.free) ∈ scope.names := PySem.mem_of_lookup hl
    exact mem_lookup (cloFrom_has (cells := X.env.cells) (acc := []) hy)
  have okB : (gbx X A s H (gEnv X scope s.heap.objs.size code) fp pn).Ok := by
    refine ⟨I.ok.mod, ok.kind, I.ok.glob, rfl, Nat.le_refl _, fun y z c e1 e2 => I.ok.inj y z c (cm e1) (cm e2), fun y hy => ?_, fun y c z _ => ?_, fun _ => hh, hA, .inr ⟨rfl, rfl⟩, fun b hb => ⟨?_, fun y c e z => ?_⟩, I.bs, Nat.le_trans I.ok.bsz I.sz, fun b o e hb => ?_, fun b hb z => ?_, I.stack, I.stkFree⟩
    · have hy : scope.names.lookup y = some .cell ∨ scope.names.lookup y = some .free := hy
      rcases hy with hy | hy
      · exact absurd rfl (noc _ (PySem.mem_of_lookup hy))
      · exact look hy
    · have z : false = true := z
      cases z
    · exact Nat.ne_of_lt (hfp b hb).2
    · exact (hfp b hb).1.2.2.2.2.1 y c (cm e) z
    · rcases (hfp b hb).1.2.2.2.1 with z | z
      · exact I.ok.noex b o e z
      · exact absurd (Nat.lt_of_lt_of_le (Heap.lt_size e) (Nat.le_trans I.ok.bsz z)) (Nat.lt_irrefl _)
    · rcases List.mem_cons.mp (I.stkSub b z) with z | z
      · exact (hfp b hb).1.2.1 z
      · exact (hfp b hb).1.2.2.1 z
  refine ⟨okB, rfl, hg, Un.kept kp, ⟨m5, hns, fun i y av e1 e2 e3 => ?_⟩, fun y c e => ?_, I.hok.fresh (Nat.le_refl _), fun y c e => I.freeC y c (cm e), fun p hp => ?_, I.hok.kept kp, by rw [wipe_length]; exact I.len⟩
  · obtain ⟨e2, hne⟩ := wipe_some e2
    have e3 : Vis scope y := e3
    have no : ∀ k', scope.names.lookup y = some k' → ¬ (k' = .local ∨ k' = .cell) := fun k' e hh => by
      rcases ok.own _ (PySem.mem_of_lookup e) hh with e' | e'
      · obtain ⟨p, hp, hpy⟩ := List.mem_map.mp e'
        have e3 := ok.ix p hp
        have : p.1 = y := hpy
        rw [this] at e3
        exact hne (List.mem_map.mpr ⟨p, hp, nodup_ix hN e3 e1⟩)
      · exact e' (List.mem_of_getElem? e1)
    rcases e3 with k | k | k
    · exact absurd (.inl rfl) (no _ k)
    · exact absurd (.inr rfl) (no _ k)
    · obtain ⟨m, hn, hl⟩ := I.loc
      have hvis : Vis X.env.scope y := (ok.free _ (PySem.mem_of_lookup k) rfl).elim (fun k => .inr (.inl k)) (fun k => .inr (.inr k))
      obtain ⟨w', r, q⟩ := hl i y av e1 e2 hvis
      obtain ⟨c2, h2⟩ := look k
      refine ⟨w', r, .inr ⟨.inr k, c2, h2, ?_⟩⟩
      have c1 := cm h2
      rcases q with ⟨k', _⟩ | ⟨_, c3, e', z⟩
      · have k' : X.env.scope.names.lookup y = some .local := k'
        rcases ok.free _ (PySem.mem_of_lookup k) rfl with k2 | k2 <;> rw [show X.env.scope.names.lookup y = _ from k2] at k' <;> cases k'
      · rw [c1] at e'
        cases e'
        exact z.keeps kp
  · obtain ⟨w', z⟩ := I.cell y c (cm e)
    exact ⟨w', z.keeps kp⟩
  · obtain ⟨h1, h2, h3⟩ := hpn p hp
    exact ⟨h1, I.hok.fresh (Nat.le_of_lt h2), Nat.ne_of_gt h2, fun z => by
      rcases List.mem_cons.mp (I.stkSub _ z) with e | e
      · exact absurd (Nat.lt_trans (show X.env.locals < s.heap.objs.size from I.lt) h2) (by rw [← e]; exact Nat.lt_irrefl _)
      · exact I.nofs (Nat.le_of_lt h2) e, h3⟩
/-- the generator's code object is new, or found in the table -/
theorem gen_code {T : List (Addr × Str)} {c P : Addr} {scope : Scope} {pos : Pos} {E : Value → Shared → Prop} {Q : Value → Shared → Prop} (I : Inv X pins σ H s) (TB : LamX.TabB X.base X.mg c P) (hcode : X.env.code = .ref c)
    (hm : (P, X.env.qual ++ "<genexpr>") ∈ T) (hu : ∀ p ∈ T, p.1 = P → p.2 = X.env.qual ++ "<genexpr>") (hT : LamX.Tabs T H)
    (h : ∀ (cv : Value) (H1 : Hp) (s' : Shared), Inv X pins σ H1 s' → LamX.ExtN H H1 → LamX.Tabs T H1 → (∀ b, H b = none → b < s.heap.objs.size → H1 b = none) → (∀ b o, b ≠ P → s.heap.get? b = some o → s'.heap.get? b = some o) → s.heap.objs.size ≤ s'.heap.objs.size → Q cv s') :
    wpAny (model X.prog X.w) X.A (genexprCode X.env pos (X.env.qual ++ "<genexpr>") scope) Q E s := by
  obtain ⟨ps, hP, ht, ha⟩ := hT _ hm
  have hP' : s.heap.get? P = some { cls := .none, data := .fields ps } := I.hok P _ hP
  have cd : PySem.W.CodeHd s.heap c P := TB.code.keeps I.bk
  cases hc : codeAmong pos ps.toList with
  | none =>
    refine wpAny_genexprCodeX hcode (cd.code hP' ht) (cd.tab hP') hc fun c' h' tk hx hge hlt hco hrec htb _ => ?_
    obtain ⟨c2, oc, vs, t, e2, hoc, hd, hv⟩ := hrec
    cases e2
    have nC : H c' = none := I.hok.fresh hge
    have I1 := LamX.inv_table (t' := tk) (more := #[rawInt pos.line, rawInt pos.col, .ref c']) (h' := h') I hP (fun b o hb e => hx b o hb e) htb.2 hge ⟨oc, vs, t, hoc, hd, hv⟩
    have hE : LamX.ExtN H (upd (upd H P (.tbl (ps ++ #[rawInt pos.line, rawInt pos.col, .ref c']))) c' (LamX.CodeO c' (X.env.qual ++ "<genexpr>"))) := fun b o e n => by
      rw [upd_ne (ne_of_none e nC), upd_ne (fun z => n ps (Option.some.inj (e.symm.trans (by rw [z]; exact hP))))]
      exact e
    have eL : (ps ++ #[rawInt pos.line, rawInt pos.col, .ref c']).toList = ps.toList ++ [rawInt pos.line, rawInt pos.col, .ref c'] := by simp
    refine h (.ref c') _ _ I1 hE (fun p hp => ?_) (fun b hb hl => ?_) (fun b o hb e => hx b o hb e) (Nat.le_trans hge (Nat.le_of_lt hlt))
    · by_cases hb : p.1 = P
      · rw [hu p hp hb, hb]
        refine ⟨_, by rw [upd_ne (ne_of_none hP nC), upd_same], by rw [eL]; exact PySem.TriplesOk_snoc _ _ _ _ ht, fun p' cv hcv => ?_⟩
        rw [eL] at hcv
        rcases LamX.among_app _ ht hcv with z | z
        · obtain ⟨c0, e1, e2⟩ := ha p' cv z
          exact ⟨c0, e1, hE _ _ e2 LamX.codeO_ne⟩
        · exact ⟨c', z, upd_same⟩
      · obtain ⟨ps', a1, a2, a3⟩ := hT p hp
        refine ⟨ps', by rw [upd_ne (ne_of_none a1 nC), upd_ne hb]; exact a1, a2, fun p' cv hcv => ?_⟩
        obtain ⟨c0, e1, e2⟩ := a3 p' cv hcv
        exact ⟨c0, e1, hE _ _ e2 LamX.codeO_ne⟩
    · rw [upd_ne (Nat.ne_of_lt (Nat.lt_of_lt_of_le hl hge)), upd_ne (fun z => by rw [z, hP] at hb; cases hb)]
      exact hb
  | some cv =>
    refine wpAny_genexprCode_hit hcode (cd.code hP' ht) hc ?_
    exact h cv H s I (LamX.ExtN.refl H) hT (fun _ h _ => h) (fun _ _ _ e => e) (Nat.le_refl _)
theorem over_gen {A : Around} {elt : Expr} {gs : List Comprehension} {scope : Scope} {pos : Pos} {it acc : Value} {env : Env} : A.over (.compLoop (.GeneratorExp elt gs scope pos) 0 it acc env) [] = A.deeper env := by rfl
theorem over_gen0 {A : Around} {elt : Expr} {gs : List Comprehension} {scope : Scope} {pos : Pos} {it acc : Value} {env : Env} : A.over (.compStart (.GeneratorExp elt gs scope pos) 0 it acc env) [] = A.deeper env := by rfl
end

/-! ### the run of a generator expression -/
/-- what changed while the generator slept: only the objects ch, which now are sp -/
structure Wake (ch : List Addr) (sp : List (Addr × Obj)) (s s' : Shared) : Prop where
  os : s'.os = s.os
  bare : AllBare s'.gens
  keep : ∀ b o, b ∉ ch → s.heap.get? b = some o → s'.heap.get? b = some o
  own : ∀ p ∈ sp, s'.heap.get? p.1 = some p.2 ∧ ∀ v, p.2.data ≠ .cell v
/-- none of the frame's own -/
structure ChOk (Y : Cx) (fp ch : List Addr) : Prop where
  up : ∀ b ∈ ch, Y.s_0.heap.objs.size ≤ b
  loc : ∀ b ∈ ch, b ≠ Y.env.locals
  cell : ∀ b ∈ ch, ∀ x c, Y.env.cells.lookup x = some c → c ≠ b
  pn : ∀ p ∈ Y.pn, p.1 ∉ ch
  fp : ∀ b ∈ fp, b ∉ ch
theorem inv_woke {Y : Cx} {fp ch : List Addr} {sp sp' : List (Addr × Obj)} {σ : L2.St} {H : Hp} {s s' : Shared} (I : Inv Y sp σ H s) (hc : ChOk Y fp ch) (e : sp.map (·.1) = ch) (e' : sp'.map (·.1) = ch) (z : Wake ch sp' s s') : Inv Y sp' σ H s' := by
  have hpin : ∀ b ∈ ch, H b = none ∧ b ≠ Y.env.locals ∧ b ∉ Y.fs := fun b hb => by
    rw [← e] at hb
    obtain ⟨p, hp, rfl⟩ := List.mem_map.mp hb
    obtain ⟨_, h2, h3, h4, _⟩ := I.pin p (List.mem_append_right _ hp)
    exact ⟨h2, h3, h4⟩
  have I0 : Inv Y [] σ H s := I.pins_of fun p hp => absurd hp (by simp)
  obtain ⟨z1, z2, z3, z4⟩ := z
  obtain ⟨hh, g, d, t, o⟩ := s'
  have ho : o = s.os := z1
  subst ho
  have nt : ∀ b u, H b = some u → b ∉ ch := fun b u q hb => by rw [(hpin b hb).1] at q; cases q
  have there : ∀ b ∈ ch, ∃ o', hh.get? b = some o' := fun b hb => by
    rw [← e'] at hb
    obtain ⟨p, hp, rfl⟩ := List.mem_map.mp hb
    exact ⟨p.2, (z4 p hp).1⟩
  have J : Inv Y [] σ H { s with heap := hh, gens := g, drawn := d, toks := t } := by
    refine I0.step (g' := g) (t' := t) (d' := d) (ch := ch) (fun b hb => ⟨.inr (hc.up b hb), hc.loc b hb, hc.cell b hb, fun p hp z => ?_⟩)
      (fun b ob _ _ hc q _ => z3 b ob hc q) (fun b ob _ _ hc q _ => ⟨ob.slots, z3 b ob hc q⟩) (fun _ _ _ _ n => n) (fun b ob hc q => ⟨ob, z3 b ob hc q⟩)
      (fun _ _ q => q) (fun _ _ _ q => q) (fun b ps q => ⟨#[], by rw [q]; simp⟩) (fun m hm => ?_) (fun b u q => ?_) z2
    · rcases List.mem_append.mp hp with hp | hp
      · exact hc.pn p hp (by rw [z]; exact hb)
      · cases hp
    · obtain ⟨ob, es, ep, ho, r⟩ := hm
      exact ⟨ob, es, ep, z3 _ ob (fun hb => hc.loc _ hb rfl) ho, r⟩
    · refine (I0.hok b u q).stay (fun c v hc' y => z3 c v ?_ y) (fun _ y => y) fun _ _ y => y
      rcases hc' with y | y
      · rw [y]; exact nt b u q
      · exact nt c _ y
  refine J.pins_of fun p hp => ?_
  have hb : p.1 ∈ ch := by rw [← e']; exact List.mem_map.mpr ⟨p, hp, rfl⟩
  obtain ⟨h1, h2, h3⟩ := hpin p.1 hb
  exact ⟨(z4 p hp).1, h1, h2, h3, (z4 p hp).2⟩
section
variable {κ : Type}
/-- what a consumer asks: c: its state, as the objects tell it -/
structure Cons (κ : Type) where
  el : κ → List (Addr × Obj) → Prop
  stp : κ → V → (κ → Hp → Prop) → Hp → Prop
  fin : κ → Hp → Prop
def GProto (Y : Cx) (ch : List Addr) (C : Cons κ) : Protocol := fun n s₀ v s kap => ∃ y c sp σ' H' Nx, C.el c sp ∧ sp.map (·.1) = ch ∧ (∀ p ∈ sp, s₀.heap.get? p.1 = some p.2) ∧ RelV y v ∧ Inv Y sp σ' H' s ∧ C.stp c y Nx H' ∧
  ∀ c' sp' s', C.el c' sp' → sp'.map (·.1) = ch → Nx c' H' → Wake ch sp' s s' → kap (.send .none) s'
def GFin (Y : Cx) (ch : List Addr) (C : Cons κ) (s₀ s : Shared) : Prop := ∃ c sp σ' H', C.el c sp ∧ sp.map (·.1) = ch ∧ (∀ p ∈ sp, s₀.heap.get? p.1 = some p.2) ∧ Inv Y sp σ' H' s ∧ C.fin c H'
abbrev GEndR (Y : Cx) (ch : List Addr) (C : Cons κ) : GenEnd := fun n s₀ r s => r = .ok .next ∧ GFin Y ch C s₀ s
def GRun (Y : Cx) (ch : List Addr) (C : Cons κ) (σ : L2.St) (fp : List Addr) (tn : Nat → Heap → Prop) (W : Nat → Nat → κ → Hp → Prop) (m : Nat) (s₀ s : Shared) : Prop :=
  ∃ i c sp H', C.el c sp ∧ sp.map (·.1) = ch ∧ (∀ p ∈ sp, s₀.heap.get? p.1 = some p.2) ∧ Inv Y sp σ H' s ∧ tn i s.heap ∧ (∀ b ∈ fp, H' b = none) ∧ W i m c H'
/-- the turns -/
def GTurns (J : It) (C : Cons κ) (σ : L2.St) (vs : List Nat) (g : TG) (tt : TT) (te : TE) (W : Nat → Nat → κ → Hp → Prop) : Prop := ∀ i m c H, W i m c H →
  (J.stop i H ∧ C.fin c H) ∨ (J.go i H ∧ ∃ Nx : κ → Hp → Prop, (∀ c' H', Nx c' H' → ∃ m', m' < m ∧ W (i + 1) m' c' H') ∧
    ∀ x H', J.yld i H x H' → g x σ H' fun σ2 H2 => wipe σ2 vs = σ ∧ tt σ2 H2 fun b H3 => if b = true then te σ2 H3 fun y H4 => C.stp c y Nx H4 else Nx c H3)
theorem seg_gloop {A : Around} {Y : Cx} {ch fp : List Addr} {C : Cons κ} {σ : L2.St} {vs : List Nat} {it : Addr} {tn : Nat → Heap → Prop} {J : It} {W : Nat → Nat → κ → Hp → Prop} {elt tg iter : Expr} {ifs : List Expr} {scope : Scope} {pos : Pos} {g : TG} {tt : TT} {te : TE}
    (hcalm : Y.calm = true) (hA : A.deeper Y.env = Y.A) (hco : Y.env.scope.isCoroutine = false) (hex : Y.ex = fp) (hxe : Y.xe = fun _ _ => False) (T : Turn Y.prog Y.w Y.K tg J fp it tn) (pg : PG Y tg g) (pt : PTs Y ifs tt) (pe : PE Y elt te) (hc : ChOk Y fp ch) (hpf : ∀ b ∈ fp, ∀ p ∈ Y.pn, p.1 ≠ b) (turn : GTurns J C σ vs g tt te W) (hlen : ∀ σ2 : L2.St, wipe σ2 vs = σ → σ2.length = σ.length) :
    ∀ (m n : Nat) (s₀ s : Shared), m < n → GRun Y ch C σ fp tn W m s₀ s → Seg (model Y.prog Y.w) A (GEndR Y ch C) (GProto Y ch C) n s₀ (.compLoop (.GeneratorExp elt [⟨tg, iter, ifs, 0⟩] scope pos) 0 (.ref it) .none Y.env)
      ((model Y.prog Y.w).den (.compLoop (.GeneratorExp elt [⟨tg, iter, ifs, 0⟩] scope pos) 0 (.ref it) .none Y.env)) [] s := by
  have ov : A.over (.compLoop (.GeneratorExp elt [⟨tg, iter, ifs, 0⟩] scope pos) 0 (.ref it) .none Y.env) [] = Y.A := hA
  have stat : ∀ {sp : List (Addr × Obj)} {σ' : L2.St} {H' : Hp} {s' : Shared}, sp.map (·.1) = ch → Inv Y sp σ' H' s' → (∀ b ∈ fp, H' b = none) → ∀ b ∈ fp, FpOk Y sp H' b := fun {sp σ' H' s'} e I' hn b hb =>
    ⟨hn b hb, (I'.ok.exf b (by rw [hex]; exact hb)).1, I'.ok.exfs b (by rw [hex]; exact hb), .inl (by rw [hex]; exact hb), fun x c e => (I'.ok.exf b (by rw [hex]; exact hb)).2 x c e, fun p hp z => by
      rcases List.mem_append.mp hp with q | q
      · exact hpf b hb p q z
      · exact hc.fp b hb (by rw [← e, ← z]; exact List.mem_map.mpr ⟨p, q, rfl⟩)⟩
  intro m
  induction m using Nat.strongRecOn with
  | ind m ih =>
    intro n s₀ s hmn ⟨i, c, sp, H5, hel, hsp, hs0, I5, st5, n5, w5⟩
    show Seg _ A _ _ _ s₀ _ ((compTurn (.GeneratorExp elt [⟨tg, iter, ifs, 0⟩] scope pos) 0 (.ref it) .none Y.env).onRaise (leaving Y.env)) [] s
    rw [compTurn_gen, Sem.onRaise_eq_wrap]
    refine seg_bind_wrap (wpAny_standAt ?_)
    rcases turn i m c H5 w5 with ⟨stop, qq⟩ | ⟨go, Nx, hNx, step⟩
    · refine seg_bind_wrap ?_
      rw [ov]
      refine thnF (T.done Y rfl rfl rfl hcalm i sp s σ H5 (fun _ _ => False) I5 (stat hsp I5 n5) st5 stop) fun r s6 ⟨hr, I6⟩ => ?_
      subst hr
      exact seg_end (.ok .next) ⟨rfl, c, sp, σ, H5, hel, hsp, hs0, I6, qq⟩
    · refine seg_bind_wrap ?_
      rw [ov]
      refine thnF (T.item Y rfl rfl rfl hcalm i sp s σ H5 (fun _ _ => False) I5 (stat hsp I5 n5) st5 go) fun r s6 ⟨u, hr, h6⟩ => ?_
      subst hr
      refine seg_bind_wrap ?_
      rw [ov]
      refine thnF h6 fun _ s7 ⟨x, H7, I7, r7, y7, st7, n7⟩ => ?_
      have I7' := I7.pinned (stat hsp I7 n7) (T.obj _ _ st7)
      refine seg_bind_wrap ?_
      rw [ov]
      have noX : ∀ {α : Type} {t : Sem α} {Q Q' : α → Shared → Prop} {E : Value → Shared → Prop} {s : Shared}, wpAny (model Y.prog Y.w) Y.A t Q Y.xe s → (∀ a s, Q a s → Q' a s) → wpAny (model Y.prog Y.w) Y.A t Q' E s := fun h hQ => wpAny_mono h hQ fun _ _ z => by rw [hxe] at z; exact z.elim
      refine noX (pg.run _ s7 _ H7 x u _ I7' r7 (step x H7 y7)) fun _ s8 ⟨σ8, H8, I8, hw8, q8⟩ => ?_
      refine seg_bind_wrap ?_
      rw [ov]
      refine noX (pt.run _ s8 σ8 H8 _ I8 q8) fun b s9 ⟨H9, I9, q9⟩ => ?_
      have back : ∀ {s' : Shared} {H' : Hp}, Inv Y (sp ++ pinsAt fp s7.heap) σ8 H' s' → Inv Y sp σ H' s' ∧ tn (i + 1) s'.heap ∧ ∀ b ∈ fp, H' b = none := fun {s' H'} I' => by
        have pin' : ∀ b ∈ fp, ∀ o, s7.heap.get? b = some o → s'.heap.get? b = some o ∧ H' b = none := fun b hb o e =>
          let z := I'.pin (b, o) (List.mem_append_right _ (List.mem_append_right _ (mem_pinsAt hb e)))
          ⟨z.1, z.2.1⟩
        refine ⟨(I'.unpinned (pins := sp)).weak (hlen σ8 hw8).symm (fun j v e => ?_), T.keep _ _ _ st7 fun b hb o e => (pin' b hb o e).1, fun b hb => ?_⟩
        · rw [← hw8] at e
          exact (wipe_some e).1
        · obtain ⟨o, e, _⟩ := T.obj _ _ st7 b hb
          exact (pin' b hb o e).2
      cases b with
      | false =>
        simp only [Bool.false_eq_true, if_false] at q9 ⊢
        obtain ⟨m', hm, w'⟩ := hNx c H9 q9
        obtain ⟨b1, b2, b3⟩ := back I9
        exact seg_again rfl (ih m' hm n s₀ s9 (by omega) ⟨i + 1, c, sp, H9, hel, hsp, hs0, b1, b2, b3, w'⟩)
      | true =>
        simp only [if_true] at q9 ⊢
        have hy : ∀ v, yieldOut Y.env v = yieldValue v := fun v => by simp only [yieldOut, hco, Bool.false_eq_true, if_false]
        simp only [hy]
        rw [Sem.bind_eq_wrap', Sem.bind_eq_wrap', Sem.wrap_wrap, Sem.wrap_wrap]
        refine seg_wrap ?_
        rw [ov]
        refine noX (pe.run _ s9 σ8 H9 _ I9 q9) fun z s10 ⟨yv, H10, I10, r10, q10⟩ => ?_
        obtain ⟨n', rfl⟩ : ∃ n', n = n' + 1 := ⟨n - 1, by omega⟩
        obtain ⟨b1, b2, b3⟩ := back I10
        refine seg_at (seg_yield rfl rfl rfl ⟨yv, c, sp, σ, H10, Nx, hel, hsp, hs0, r10, b1, q10, fun c' sp' s' hel' hsp' nx wk => ?_⟩)
        obtain ⟨m', hm, w'⟩ := hNx c' H10 nx
        refine seg_again rfl (ih m' hm n' s' s' (by omega) ⟨i + 1, c', sp', H10, hel', hsp', fun p hp => (wk.own p hp).1, inv_woke b1 hc hsp hsp' wk, T.keep _ _ _ b2 fun b hb o e => wk.keep b o (hc.fp b hb) e, b3, w'⟩)
end
end Bz
set_option Elab.async false
set_option linter.all false
set_option maxRecDepth 100000
set_option autoImplicit false
namespace Bz
open PySem PySem.Spec PyProof.Rows L2 GenW

section
variable {κ : Type} {Y : Cx} {ch fp : List Addr} {C : Cons κ} {a : Addr} {g : Nat} {go : Obj}
/-- the generator at rest -/
def GSt (Y : Cx) (ch : List Addr) (C : Cons κ) (B : Around) (a : Addr) (g n : Nat) (s : Shared) : Prop := s.heap.IsGen a g ∧ s.heap.NoLimit ∧ ∃ gs, s.gens[g]? = some gs ∧ gs.Goes (model Y.prog Y.w) B (GEndR Y ch C) (GProto Y ch C) n (.send .none) (s.setGen g .running)
theorem gens_bare {Y : Cx} {sp : List (Addr × Obj)} {σ : L2.St} {H : Hp} {s : Shared} (I : Inv Y sp σ H s) {x : GenState} (hx : x.bare = true) (hc : ChOk Y fp ch) (e : sp.map (·.1) = ch) : Inv Y sp σ H (s.setGen g x) :=
  inv_woke I hc e e ⟨rfl, allBare_setGen I.bare hx, fun _ _ _ q => q, fun p hp => ⟨(I.pin p (List.mem_append_right _ hp)).1, (I.pin p (List.mem_append_right _ hp)).2.2.2.2⟩⟩
theorem gens_kept {Y : Cx} {sp : List (Addr × Obj)} {σ : L2.St} {H : Hp} {s : Shared} {h' : Heap} {g' : Array GenState} {t' : Nat} (I : Inv Y sp σ H s) (hg : AllBare g') (hc : ChOk Y fp ch) (e : sp.map (·.1) = ch) (k : ∀ b o, s.heap.get? b = some o → h'.get? b = some o) : Inv Y sp σ H { s with heap := h', gens := g', toks := t' } :=
  inv_woke I hc e e ⟨rfl, hg, fun _ _ _ q => k _ _ q, fun p hp => ⟨k _ _ (I.pin p (List.mem_append_right _ hp)).1, (I.pin p (List.mem_append_right _ hp)).2.2.2.2⟩⟩
theorem gnext {A : Around} {n : Nat} {s : Shared} {Q : Option Value → Shared → Prop} {E : Value → Shared → Prop} (hh : A.handled = none) (hd : A.depth < recursionLimit) (hpn : Y.pn = [(a, go)]) (hgo : ∀ h : Heap, h.get? a = some go → h.IsGen a g) (hc : ChOk Y fp ch) (st : GSt Y ch C A.in1 a g n s)
    (hY : ∀ v s₁ y c sp σ' H' Nx, C.el c sp → sp.map (·.1) = ch → (∀ p ∈ sp, s.heap.get? p.1 = some p.2) → RelV y v → Inv Y sp σ' H' s₁ → C.stp c y Nx H' → (∀ c' sp' s', C.el c' sp' → sp'.map (·.1) = ch → Nx c' H' → Wake ch sp' s₁ s' → s'.gens = s₁.gens → ∃ m, n = m + 1 ∧ GSt Y ch C A.in1 a g m s') → Q (some v) s₁)
    (hF : ∀ s₁ c sp σ' H', C.el c sp → sp.map (·.1) = ch → (∀ p ∈ sp, s.heap.get? p.1 = some p.2) → Inv Y sp σ' H' s₁ → C.fin c H' → Q none s₁) : wpAny (model Y.prog Y.w) A (pyNext (.ref a)) Q E s := by
  obtain ⟨hg, hl, gs, hgs, hgoes⟩ := st
  have hgl : g < s.gens.size := (Array.getElem?_eq_some_iff.mp hgs).1
  refine wpAny_gsz (n := g + 1) hgl (wpAny_pyNext_genexpQ (P := fun _ s₀ s₁ => GFin Y ch C s₀ s₁) hh hl hd hg hgs hgoes (fun v s₁ gs' hbare hv => ?_) (fun s₁ hp h' hk => ?_))
  · intro hsz
    obtain ⟨y, c, sp, σ', H', Nx, h1, h2, h0, h3, I, h5, h6⟩ := hv
    refine hY v _ y c sp σ' H' Nx h1 h2 h0 h3 (gens_bare I hbare hc h2) h5 fun c' sp' s' e1 e2 nx wk eg => ?_
    have hsz1 : g < s₁.gens.size := by
      have q : (s₁.setGen g gs').gens.size = s₁.gens.size := setGen_size _ _ _
      have hsz' : g + 1 ≤ (s₁.setGen g gs').gens.size := hsz
      omega
    have hkap := h6 c' sp' (s'.setGen g .running) e1 e2 nx ⟨wk.os, allBare_setGen wk.bare rfl, fun b o hb q => wk.keep b o hb q, wk.own⟩
    have I' : Inv Y sp' σ' H' s' := inv_woke (gens_bare I hbare hc h2) hc h2 e2 wk
    cases n with
    | zero => exact hkap.elim
    | succ m =>
      exact ⟨m, rfl, hgo _ (I'.pin (a, go) (List.mem_append_left _ (by rw [hpn]; exact List.mem_singleton.mpr rfl))).1, I'.nolimit, gs', by rw [eg]; exact setGen_at hsz1, hkap⟩
  · intro hsz
    obtain ⟨c, sp, σ', H', h1, h2, h0, I, hf⟩ := hp
    have J := gens_kept (s := s₁) (h' := h') (g' := (s₁.setGen g .finished).gens) (t' := s₁.toks) I (allBare_setGen I.bare rfl) hc h2 hk
    exact hF _ c sp σ' H' h1 h2 h0 J hf
/-- any -/
def cAny (Q : VK) : Cons Unit := ⟨fun _ sp => sp = [], fun _ y Nx H => ∃ b, y = .bl b ∧ if b = true then Q (.bl true) H else Nx () H, fun _ H => Q (.bl false) H⟩
def cAll (Q : VK) : Cons Unit := ⟨fun _ sp => sp = [], fun _ y Nx H => ∃ b, y = .bl b ∧ if b = true then Nx () H else Q (.bl false) H, fun _ H => Q (.bl true) H⟩
theorem any_run {A : Around} {Qv : VK} {R : Result → Shared → Prop} (hh : A.handled = none) (hd : A.depth < recursionLimit) (hpn : Y.pn = [(a, go)]) (hgo : ∀ h : Heap, h.get? a = some go → h.IsGen a g) (hc : ChOk Y fp [])
    (hR : ∀ b σ' H' s', Inv Y [] σ' H' s' → Qv (.bl b) H' → R (.ok (.ret (.bool b))) s') : ∀ (n : Nat) (s : Shared), GSt Y [] (cAny Qv) A.in1.in1 a g n s → codeAny (model Y.prog Y.w) A (.builtin "any.loop" ⟨[.ref a], []⟩) R s := by
  intro n
  induction n with
  | zero =>
    intro s st
    refine codeAny_builtin F.entry_any_loop ?_
    rw [Around.under_plainId F.plain_any_loop _]
    show wpAny _ A.in1 (pyNext (.ref a) >>= _) _ _ s
    refine wpAny_bind (gnext (A := A.in1) hh hd hpn hgo hc st (fun v s₁ y c sp σ' H' Nx h1 h2 h0 h3 I h5 h6 => ?_) (fun s₁ c sp σ' H' h1 h2 h0 I hf => ?_))
    · obtain ⟨b, rfl, h5⟩ := h5
      obtain rfl : v = Value.bool b := h3
      subst h1
      refine wpAny_bind (wpAny_holding (wpAny_truthy_bool ?_))
      refine wpAny_bind (wpAny_letGo ?_)
      cases b with
      | true =>
        simp only [if_true] at h5 ⊢
        exact wpAny_bind (wpAny_rule (wpAny_pure (hR true σ' H' s₁ I h5)))
      | false =>
        simp only [Bool.false_eq_true, if_false] at h5
        obtain ⟨m, em, _⟩ := h6 () [] s₁ rfl rfl h5 ⟨rfl, I.bare, fun _ _ _ q => q, fun p hp => absurd hp (by simp)⟩ rfl
        exact absurd em (by omega)
    · subst h1
      exact wpAny_bind (wpAny_rule (wpAny_pure (hR false σ' H' s₁ I hf)))
  | succ n ih =>
    intro s st
    refine codeAny_builtin F.entry_any_loop ?_
    rw [Around.under_plainId F.plain_any_loop _]
    show wpAny _ A.in1 (pyNext (.ref a) >>= _) _ _ s
    refine wpAny_bind (gnext (A := A.in1) hh hd hpn hgo hc st (fun v s₁ y c sp σ' H' Nx h1 h2 h0 h3 I h5 h6 => ?_) (fun s₁ c sp σ' H' h1 h2 h0 I hf => ?_))
    · obtain ⟨b, rfl, h5⟩ := h5
      obtain rfl : v = Value.bool b := h3
      subst h1
      refine wpAny_bind (wpAny_holding (wpAny_truthy_bool ?_))
      refine wpAny_bind (wpAny_letGo ?_)
      cases b with
      | true =>
        simp only [if_true] at h5 ⊢
        exact wpAny_bind (wpAny_rule (wpAny_pure (hR true σ' H' s₁ I h5)))
      | false =>
        simp only [Bool.false_eq_true, if_false] at h5 ⊢
        obtain ⟨m, em, st'⟩ := h6 () [] s₁ rfl rfl h5 ⟨rfl, I.bare, fun _ _ _ q => q, fun p hp => absurd hp (by simp)⟩ rfl
        obtain rfl : n = m := by omega
        exact wpAny_pure ⟨plainId_quiet F.plain_any_loop _, ih _ st'⟩
    · subst h1
      exact wpAny_bind (wpAny_rule (wpAny_pure (hR false σ' H' s₁ I hf)))
theorem all_run {A : Around} {Qv : VK} {R : Result → Shared → Prop} (hh : A.handled = none) (hd : A.depth < recursionLimit) (hpn : Y.pn = [(a, go)]) (hgo : ∀ h : Heap, h.get? a = some go → h.IsGen a g) (hc : ChOk Y fp [])
    (hR : ∀ b σ' H' s', Inv Y [] σ' H' s' → Qv (.bl b) H' → R (.ok (.ret (.bool b))) s') : ∀ (n : Nat) (s : Shared), GSt Y [] (cAll Qv) A.in1.in1 a g n s → codeAny (model Y.prog Y.w) A (.builtin "all.loop" ⟨[.ref a], []⟩) R s := by
  intro n
  induction n with
  | zero =>
    intro s st
    refine codeAny_builtin F.entry_all_loop ?_
    rw [Around.under_plainId F.plain_all_loop _]
    show wpAny _ A.in1 (pyNext (.ref a) >>= _) _ _ s
    refine wpAny_bind (gnext (A := A.in1) hh hd hpn hgo hc st (fun v s₁ y c sp σ' H' Nx h1 h2 h0 h3 I h5 h6 => ?_) (fun s₁ c sp σ' H' h1 h2 h0 I hf => ?_))
    · obtain ⟨b, rfl, h5⟩ := h5
      obtain rfl : v = Value.bool b := h3
      subst h1
      refine wpAny_bind (wpAny_holding (wpAny_truthy_bool ?_))
      refine wpAny_bind (wpAny_letGo ?_)
      cases b with
      | false =>
        simp only [Bool.false_eq_true, if_false] at h5 ⊢
        exact wpAny_bind (wpAny_rule (wpAny_pure (hR false σ' H' s₁ I h5)))
      | true =>
        simp only [if_true] at h5
        obtain ⟨m, em, _⟩ := h6 () [] s₁ rfl rfl h5 ⟨rfl, I.bare, fun _ _ _ q => q, fun p hp => absurd hp (by simp)⟩ rfl
        exact absurd em (by omega)
    · subst h1
      exact wpAny_bind (wpAny_rule (wpAny_pure (hR true σ' H' s₁ I hf)))
  | succ n ih =>
    intro s st
    refine codeAny_builtin F.entry_all_loop ?_
    rw [Around.under_plainId F.plain_all_loop _]
    show wpAny _ A.in1 (pyNext (.ref a) >>= _) _ _ s
    refine wpAny_bind (gnext (A := A.in1) hh hd hpn hgo hc st (fun v s₁ y c sp σ' H' Nx h1 h2 h0 h3 I h5 h6 => ?_) (fun s₁ c sp σ' H' h1 h2 h0 I hf => ?_))
    · obtain ⟨b, rfl, h5⟩ := h5
      obtain rfl : v = Value.bool b := h3
      subst h1
      refine wpAny_bind (wpAny_holding (wpAny_truthy_bool ?_))
      refine wpAny_bind (wpAny_letGo ?_)
      cases b with
      | false =>
        simp only [Bool.false_eq_true, if_false] at h5 ⊢
        exact wpAny_bind (wpAny_rule (wpAny_pure (hR false σ' H' s₁ I h5)))
      | true =>
        simp only [if_true] at h5 ⊢
        obtain ⟨m, em, st'⟩ := h6 () [] s₁ rfl rfl h5 ⟨rfl, I.bare, fun _ _ _ q => q, fun p hp => absurd hp (by simp)⟩ rfl
        obtain rfl : n = m := by omega
        exact wpAny_pure ⟨plainId_quiet F.plain_all_loop _, ih _ st'⟩
    · subst h1
      exact wpAny_bind (wpAny_rule (wpAny_pure (hR true σ' H' s₁ I hf)))
/-- sum -/
abbrev sumObj (n : Int) (t : Tok) (c : Nat) : Obj := { cls := .type "list", dict := none, data := .seq #[.int n t] c, slots := #[] }
def cSum (S : Addr) (Q : VK) : Cons Int := ⟨fun n sp => ∃ t c, sp = [(S, sumObj n t c)], fun n y Nx H => ∃ j, y = .int j ∧ InLong j ∧ InLong (n + j) ∧ Nx (n + j) H, fun n H => Q (.int n) H⟩
theorem sum_run {A : Around} {Qv : VK} {S : Addr} {R : Result → Shared → Prop} (hh : A.handled = none) (hd : A.depth < recursionLimit) (hpn : Y.pn = [(a, go)]) (hgo : ∀ h : Heap, h.get? a = some go → h.IsGen a g) (hc : ChOk Y fp [S])
    (hR : ∀ n t sp σ' H' s', Inv Y sp σ' H' s' → Qv (.int n) H' → R (.ok (.ret (.int n t))) s') : ∀ (n : Nat) (j : Int) (t : Tok) (c : Nat) (s : Shared), s.heap.get? S = some (sumObj j t c) → GSt Y [S] (cSum S Qv) A.in1.in1 a g n s → codeAny (model Y.prog Y.w) A (.builtin "sum.loop" ⟨[.ref a, .ref S, rawInt 0, rawInt 0], []⟩) R s := by
  have two : ∀ {n : Nat} {s : Shared} {j : Int} {t : Tok} {c : Nat}, s.heap.get? S = some (sumObj j t c) → GSt Y [S] (cSum S Qv) A.in1.in1 a g n s → (∀ (m : Nat) (t' : Int × Tok) (c' : Nat) (s' : Shared), n = m + 1 → s'.heap.get? S = some (sumObj t'.1 t'.2 c') → GSt Y [S] (cSum S Qv) A.in1.in1 a g m s' → codeAny (model Y.prog Y.w) A (.builtin "sum.loop" ⟨[.ref a, .ref S, rawInt 0, rawInt 0], []⟩) R s') →
      codeAny (model Y.prog Y.w) A (.builtin "sum.loop" ⟨[.ref a, .ref S, rawInt 0, rawInt 0], []⟩) R s := fun {n s j t c} hS st ih => by
    refine codeAny_builtin F.entry_sum_loop ?_
    rw [Around.under_plainId F.plain_sum_loop _]
    show wpAny _ A.in1 (seqItems? (.ref S) >>= _) _ _ s
    refine wpAny_bind (wpAny_seqItems hS rfl ?_)
    show wpAny _ A.in1 (tryCatch (pyNext (.ref a)) _ >>= _) _ _ s
    refine wpAny_bind (wpAny_tryCatch (gnext (A := A.in1) hh hd hpn hgo hc st (fun v s₁ y n1 sp σ' H' Nx h1 h2 h0 h3 I h5 h6 => ?_) (fun s₁ n1 sp σ' H' h1 h2 h0 I hf => ?_)))
    · obtain ⟨t1, c1, rfl⟩ := h1
      have e0 := h0 _ (List.mem_singleton.mpr rfl)
      rw [hS] at e0
      have e1 : j = n1 ∧ t = t1 := by
        have e2 := congrArg Obj.data (Option.some.inj e0)
        simp only [sumObj] at e2
        injection e2 with e3 e4
        have e5 := congrArg Array.toList e3
        simp only [List.cons.injEq, Value.int.injEq, and_true] at e5
        exact e5
      obtain ⟨rfl, rfl⟩ := e1
      obtain ⟨i, rfl, f12, f34, nx⟩ := h5
      obtain ⟨ti, rfl⟩ := (show ∃ t, v = Value.int i t from h3)
      obtain ⟨f1, f2⟩ := f12
      obtain ⟨f3, f4⟩ := f34
      have hS' : s₁.heap.get? S = some (sumObj j t c1) := (I.pin _ (List.mem_append_right _ (List.mem_singleton.mpr rfl))).1
      have hcb : ((decide (-(2 ^ 63) ≤ i) && decide (i < 2 ^ 63)) && (decide (-(2 ^ 63) ≤ j + i) && decide (j + i < 2 ^ 63))) = true := by
        simp only [Bool.and_eq_true, decide_eq_true_eq]
        exact ⟨⟨f1, f2⟩, f3, f4⟩
      show wpAny _ A.in1 (if (_ : Bool) = true then (mkInt (j + i) >>= _) else _) _ _ _
      split
      · refine wpAny_bind (wpAny_mkInt ?_)
        show wpAny _ A.in1 (updateSeq S (fun _ => #[.int (j + i) s₁.toks]) >>= _) _ _ _
        refine wpAny_bind ?_
        have hup := Heap.get?_update_self (Obj.mapSeq (fun _ => #[Value.int (j + i) s₁.toks])) hS' rfl
        refine wpAny_updateSeq hS' rfl (wpAny_pure ⟨plainId_quiet F.plain_sum_loop _, ?_⟩)
        have own : ∃ c2, (s₁.heap.update S (Obj.mapSeq (fun _ => #[Value.int (j + i) s₁.toks]))).get? S = some (sumObj (j + i) s₁.toks c2) := ⟨_, hup⟩
        obtain ⟨c2, own⟩ := own
        obtain ⟨m, em, st'⟩ := h6 (j + i) [(S, sumObj (j + i) s₁.toks c2)] { s₁ with heap := s₁.heap.update S (Obj.mapSeq (fun _ => #[Value.int (j + i) s₁.toks])), toks := s₁.toks + 1 } ⟨_, _, rfl⟩ rfl nx
          ⟨rfl, I.bare, fun b o hb q => (Heap.get?_update_other _ _ (fun z => hb (by rw [← z]; exact List.mem_singleton.mpr rfl))).trans q, fun p hp => by
            rw [List.mem_singleton.mp hp]
            exact ⟨own, fun v q => by cases q⟩⟩ rfl
        exact ih m (j + i, s₁.toks) c2 _ em own st'
      · rename_i hneg
        exact absurd hcb hneg
    · obtain ⟨t1, c1, rfl⟩ := h1
      have e0 := h0 _ (List.mem_singleton.mpr rfl)
      rw [hS] at e0
      have e1 : j = n1 ∧ t = t1 := by
        have e2 := congrArg Obj.data (Option.some.inj e0)
        simp only [sumObj] at e2
        injection e2 with e3 e4
        have e5 := congrArg Array.toList e3
        simp only [List.cons.injEq, Value.int.injEq, and_true] at e5
        exact e5
      obtain ⟨rfl, rfl⟩ := e1
      exact wpAny_pure (hR j t _ σ' H' _ I hf)
  intro n
  induction n with
  | zero => exact fun j t c s hS st => two hS st fun m _ _ _ em _ _ => absurd em (by omega)
  | succ n ih =>
    intro j t c s hS st
    refine two hS st fun m t' c' s' em hS' st' => ?_
    obtain rfl : n = m := by omega
    exact ih t'.1 t'.2 c' s' hS' st'
end
end Bz
set_option Elab.async false
set_option linter.all false
set_option maxRecDepth 100000
set_option autoImplicit false
namespace Bz
open PySem PySem.Spec PyProof.Rows L2 GenW

section
variable {X : Cx} {pins : List (Addr × Obj)} {σ : L2.St} {H : Hp} {s : Shared}
/-- the context of the elements -/
abbrev gY (X : Cx) (s : Shared) (H : Hp) (scope : Scope) (code : Value) (fp : List Addr) (a : Addr) (go : Obj) : Cx := gbx X (X.A.in1.in1.deeper (gEnv X scope s.heap.objs.size code)) s H (gEnv X scope s.heap.objs.size code) fp [(a, go)]
/-- what is said of an element, of a test -/
abbrev GWithin (X : Cx) (scope : Scope) (p : Cx → Prop) : Prop := ∀ (s : Shared) (H : Hp) (code : Value) (fp : List Addr) (a : Addr) (go : Obj), p (gY X s H scope code fp a go)
theorem seg_gstart {κ : Type} {A : Around} {Y : Cx} {ch : List Addr} {C : Cons κ} {it : Addr} {tg : Expr} {tn : Nat → Heap → Prop} {J : It} {elt iter : Expr} {ifs : List Expr} {scope : Scope} {pos : Pos} {n : Nat} {s₀ s : Shared} {fp : List Addr}
    (T : Turn Y.prog Y.w Y.K tg J fp it tn) (st : tn 0 s.heap)
    (loop : Seg (model Y.prog Y.w) A (GEndR Y ch C) (GProto Y ch C) n s₀ (.compLoop (.GeneratorExp elt [⟨tg, iter, ifs, 0⟩] scope pos) 0 (.ref it) .none Y.env) ((model Y.prog Y.w).den (.compLoop (.GeneratorExp elt [⟨tg, iter, ifs, 0⟩] scope pos) 0 (.ref it) .none Y.env)) [] s) :
    Seg (model Y.prog Y.w) A (GEndR Y ch C) (GProto Y ch C) n s₀ (.compStart (.GeneratorExp elt [⟨tg, iter, ifs, 0⟩] scope pos) 0 (.ref it) .none Y.env) ((model Y.prog Y.w).den (.compStart (.GeneratorExp elt [⟨tg, iter, ifs, 0⟩] scope pos) 0 (.ref it) .none Y.env)) [] s := by
  show Seg _ A _ _ _ s₀ _ ((compStart (.GeneratorExp elt [⟨tg, iter, ifs, 0⟩] scope pos) 0 (.ref it) .none Y.env).onRaise (leaving Y.env)) [] s
  unfold compStart
  rw [Sem.onRaise_eq_wrap]
  show Seg _ A _ _ _ s₀ _ ((ask >>= _).wrap _ _ _ _) [] s
  refine seg_bind_wrap (wpAny_askSetting ?_)
  split
  · exact seg_again rfl loop
  · first
      | exact seg_bind_wrap (wpAny_rule (seg_bind_wrap (wpAny_standAt (seg_bind_wrap (T.self _ 0 s _ _ st (seg_again rfl loop))))))
      | (refine seg_bind_wrap (wpAny_rule ?_); show Seg _ A _ _ _ s₀ _ ((standAt iter.pos >>= _).wrap _ _ _ _) [] s; exact seg_bind_wrap (wpAny_standAt (seg_bind_wrap (T.self _ 0 s _ _ st (seg_again rfl loop)))))
/-- the generator is made and at rest -/
structure GReady (X : Cx) (pins : List (Addr × Obj)) (σ : L2.St) (vs : List Nat) (J : It) (g : TG) (tt : TT) (te : TE) (scope : Scope) (s : Shared) (H : Hp) (code : Value) (fp : List Addr) (a : Addr) (go : Obj) (gn : Nat) (s5 : Shared) : Prop where
  goo : ∀ h : Heap, h.get? a = some go → h.IsGen a gn
  gen : s5.heap.IsGen a gn
  bare : AllBare s5.gens
  cok : ∀ ch : List Addr, (∀ b ∈ ch, s5.heap.objs.size ≤ b) → ChOk (gY X s H scope code fp a go) fp ch
  rest : ∀ (κ : Type) (ch : List Addr) (C : Cons κ) (c0 : κ) (sp0 : List (Addr × Obj)) (s6 : Shared) (m : Nat) (W : Nat → Nat → κ → Hp → Prop), (∀ b ∈ ch, s5.heap.objs.size ≤ b) → C.el c0 sp0 → sp0.map (·.1) = ch → s6.gens = s5.gens → s6.os = s5.os → (∀ b o, s5.heap.get? b = some o → s6.heap.get? b = some o) →
    (∀ p ∈ sp0, s6.heap.get? p.1 = some p.2 ∧ ∀ v, p.2.data ≠ .cell v) → W 0 m c0 H → GTurns J C (wipe σ vs) vs g tt te W → GSt (gY X s H scope code fp a go) ch C X.A.in1.in1 a gn (m + 1) s6
  back : ∀ (sp : List (Addr × Obj)) (σ' : L2.St) (H' : Hp) (s' : Shared), Inv (gY X s H scope code fp a go) sp σ' H' s' → Inv X pins σ H' s'
theorem gx_make {T : List (Addr × Str)} {c P : Addr} {k : Nat} {elt tg iter : Expr} {ifs : List Expr} {scope : Scope} {own : List (Str × Nat)} {pos : Pos} {wi : TI} {g : TG} {tt : TT} {te : TE} {Q' : Value → Shared → Prop} {R : It → Hp → Prop} (hr : Room k X.A) (hcalm : X.calm = true) (hN : X.N.Nodup) (TB : LamX.TabB X.base X.mg c P) (hcode : X.env.code = .ref c)
    (hm : (P, X.env.qual ++ "<genexpr>") ∈ T) (hu : ∀ p ∈ T, p.1 = P → p.2 = X.env.qual ++ "<genexpr>") (hi : PI X tg iter wi) (ok : BlkOk X.N X.env.scope scope own) (noc : ∀ y ∈ scope.names, y.2 ≠ .cell) (hco : scope.isCoroutine = false) (h0 : scope.names.lookup (".0" : Str) = some NameKind.local)
    (hg : GWithin X scope fun Y => PG Y tg g) (ht : GWithin X scope fun Y => PTs Y ifs tt) (he : GWithin X scope fun Y => PE Y elt te) (hs : ∀ x, genFold iter X.env x = pure x) (I : Inv X pins σ H s)
    (h : wi σ H fun J H1 => LamX.Tabs T H1 ∧ R J H1) (hQ : ∀ J H1 H2 s4 code fp a go gn s5, R J H1 → LamX.ExtN H1 H2 → LamX.Tabs T H2 → GReady X pins σ (own.map (·.2)) J g tt te scope s4 H2 code fp a go gn s5 → Q' (.ref a) s5) :
    wpAny (model X.prog X.w) X.A (eval (.GeneratorExp elt [⟨tg, iter, ifs, 0⟩] scope pos) X.env) Q' X.xe s := by
  have hfree : ∀ y ∈ scope.names, y.2 = .free → ∃ c, X.env.cells.lookup y.1 = some c := fun y hy e => by
    rcases ok.free y hy e with k | k
    · exact I.ok.has _ (.inl k)
    · exact I.ok.has _ (.inr k)
  refine wpAny_GeneratorExp_make hco (closure_ok hfree) noc h0 ok.kind (by have := hr.dp; omega) ?_ hs
  refine thn (hi.run pins s σ H _ I h) fun xv s1 hx => thn hx fun itv s2 h2 => ?_
  obtain ⟨it, fp, tn, J, H1, e, I2, Tn, st2, f2, hT, q⟩ := h2
  subst e
  refine ⟨I2.nolimit, gen_code I2 TB hcode hm hu hT fun code H2 s3 I3 eN T2 nfr kp3 sz3 => ?_⟩
  obtain ⟨bm, ob, e1, e2, e3, e4, e5, e6, e7, e8⟩ := TB.bm.keeps I3.bk
  refine wpAny_builtinsFor (m := X.mg) (by rw [I3.ok.glob]; exact I3.mod.glob.keeps I3.bk) e1 e2 e5 e6 e7 e8 ?_
  intro h' hn' hs'
  have sz' : h'.objs.size = s3.heap.objs.size + 1 := by rw [hs'.1, Heap.size_push]
  have keep' : ∀ b o, s3.heap.get? b = some o → h'.get? b = some o := fun b o e => hs'.extBut b o (Nat.ne_of_lt (Heap.lt_size e)) (Heap.get?_push_of_some _ e)
  have lt3 : ∀ b ∈ fp, b < s3.heap.objs.size := fun b hb => by
    obtain ⟨o, e, _⟩ := Tn.obj _ _ st2 b hb
    exact Nat.lt_of_lt_of_le (Heap.lt_size e) sz3
  have f3 : ∀ b ∈ fp, FpOk X pins H2 b ∧ b < s3.heap.objs.size := fun b hb => by
    obtain ⟨o, e, _⟩ := Tn.obj _ _ st2 b hb
    exact ⟨⟨nfr b (f2 b hb).1 (Heap.lt_size e), (f2 b hb).2⟩, lt3 b hb⟩
  have nP : ∀ b ∈ fp, b ≠ P := fun b hb z => by
    obtain ⟨ps, hP, _⟩ := hT _ hm
    have z2 := (f2 b hb).1
    rw [z] at z2
    rw [show H1 P = some (.tbl ps) from hP] at z2
    cases z2
  have st3 : tn 0 s3.heap := Tn.keep _ _ _ st2 fun b hb o e => kp3 b o (nP b hb) e
  generalize hgo : ({ cls := .type "generator", data := .fields #[.int s3.gens.size 0, .str "<genexpr>" (s3.toks + 1), .str (X.env.qual ++ "<genexpr>") (s3.toks + 1 + 1)] } : Obj) = go
  have goo : ∀ h : Heap, h.get? h'.objs.size = some go → h.IsGen h'.objs.size s3.gens.size := fun h e => ⟨go, _, _, e, by rw [← hgo], by rw [← hgo], by rw [← hgo]⟩
  have ga : (h'.push go).get? h'.objs.size = some go := Heap.get?_push_size _ (by rw [← hgo]; rfl)
  have gd : ∀ v, go.data ≠ .cell v := fun v z => by rw [← hgo] at z; cases z
  have kp5 : ∀ b o, s3.heap.get? b = some o → (h'.push go).get? b = some o := fun b o e => Heap.get?_push_of_some _ (keep' b o e)
  have bare5 : AllBare (s3.gens.push (.fresh (.compStart (.GeneratorExp elt [⟨tg, iter, ifs, 0⟩] scope pos) 0 (.ref it) .none (gEnv X scope s3.heap.objs.size code)))) := I3.bare.push rfl
  refine hQ J H1 H2 s3 code fp h'.objs.size go s3.gens.size _ q eN T2 ⟨goo, goo _ ga, bare5, fun ch hch => ?_, ?_, ?_⟩
  · have hch : ∀ b ∈ ch, s3.heap.objs.size + 2 ≤ b := fun b hb => by
      have h1 : (h'.push go).objs.size ≤ b := hch b hb
      rw [Heap.size_push] at h1
      omega
    refine ⟨fun b hb => by have := hch b hb; show s3.heap.objs.size ≤ b; omega, fun b hb => Nat.ne_of_gt (Nat.lt_of_lt_of_le (Nat.lt_add_of_pos_right (by decide : 0 < 2)) (hch b hb)), fun b hb x c' ec z => ?_, fun p hp hb => ?_, fun b hb hc => ?_⟩
    · have ec : (cloFrom X.env.cells scope.names []).lookup x = some c' := ec
      rcases cloFrom_mem (PySem.mem_of_lookup ec) with hm | ⟨h1, h2⟩
      · cases hm
      · obtain ⟨c1, hc1⟩ := hfree _ h1 rfl
        have hc1 : X.env.cells.lookup x = some c1 := hc1
        have e2 : c' = c1 := by rw [h2, hc1]; rfl
        rw [← e2] at hc1
        obtain ⟨v, q⟩ := I3.cell x c' hc1
        have h3 := q.lt
        have h4 := hch b hb
        rw [z] at h3
        exact absurd (Nat.lt_of_lt_of_le h3 (Nat.le_trans (Nat.le_add_right _ 2) h4)) (Nat.lt_irrefl _)
    · rw [List.mem_singleton.mp hp] at hb
      have h4 := hch _ hb
      have h5 : s3.heap.objs.size + 2 ≤ h'.objs.size := h4
      omega
    · exact absurd (Nat.lt_of_lt_of_le (lt3 b hb) (Nat.le_trans (Nat.le_add_right _ 2) (hch b hc))) (Nat.lt_irrefl _)
  · intro κ ch C c0 sp0 s6 m W hch hel hsp hgens hos hkeep hown hW hturn
    have hch' : ∀ b ∈ ch, s3.heap.objs.size + 2 ≤ b := fun b hb => by
      have h1 : (h'.push go).objs.size ≤ b := hch b hb
      rw [Heap.size_push] at h1
      omega
    have cok : ChOk (gY X s3 H2 scope code fp h'.objs.size go) fp ch := by
      refine ⟨fun b hb => by have := hch' b hb; show s3.heap.objs.size ≤ b; omega, fun b hb => Nat.ne_of_gt (Nat.lt_of_lt_of_le (Nat.lt_add_of_pos_right (by decide : 0 < 2)) (hch' b hb)), fun b hb x c' ec z => ?_, fun p hp hb => ?_, fun b hb hc => ?_⟩
      · have ec : (cloFrom X.env.cells scope.names []).lookup x = some c' := ec
        rcases cloFrom_mem (PySem.mem_of_lookup ec) with hm | ⟨h1, h2⟩
        · cases hm
        · obtain ⟨c1, hc1⟩ := hfree _ h1 rfl
          have hc1 : X.env.cells.lookup x = some c1 := hc1
          have e2 : c' = c1 := by rw [h2, hc1]; rfl
          rw [← e2] at hc1
          obtain ⟨v, q⟩ := I3.cell x c' hc1
          have h3 := q.lt
          have h4 := hch' b hb
          rw [z] at h3
          exact absurd (Nat.lt_of_lt_of_le h3 (Nat.le_trans (Nat.le_add_right _ 2) h4)) (Nat.lt_irrefl _)
      · rw [List.mem_singleton.mp hp] at hb
        have h5 : s3.heap.objs.size + 2 ≤ h'.objs.size := hch' _ hb
        omega
      · exact absurd (Nat.lt_of_lt_of_le (lt3 b hb) (Nat.le_trans (Nat.le_add_right _ 2) (hch' b hc))) (Nat.lt_irrefl _)
    have k6 : ∀ b o, s3.heap.get? b = some o → s6.heap.get? b = some o := fun b o e => hkeep b o (kp5 b o e)
    have I6 : ∀ g6 : Array GenState, AllBare g6 → Inv (gY X s3 H2 scope code fp h'.objs.size go) sp0 (wipe σ (own.map (·.2))) H2 { s6 with gens := g6 } := fun g6 hg6 => by
      have J6 := gb_start (A := X.A.in1.in1.deeper (gEnv X scope s3.heap.objs.size code)) (code := code) (pn := [(h'.objs.size, go)]) (sp := sp0) (h5 := s6.heap) (g5 := g6) (t5 := s6.toks) I3 ok noc hN f3 (Around.frames_deeper (show X.A.in1.in1.frames = some X.stack from I3.ok.frames)) hr.hd k6
        (Heap.Ns.keeps (hn'.push _) fun b o e => hkeep b o e) hg6 (fun p hp => ?_)
      · refine inv_woke J6 cok hsp hsp ⟨?_, hg6, fun b o _ e => e, fun p hp => hown p hp⟩
        exact hos
      · rcases List.mem_append.mp hp with z | z
        · rw [List.mem_singleton.mp z]
          exact ⟨hkeep _ _ ga, by show s3.heap.objs.size < h'.objs.size; omega, gd⟩
        · refine ⟨(hown p z).1, ?_, (hown p z).2⟩
          have h4 := hch' p.1 (by rw [← hsp]; exact List.mem_map.mpr ⟨p, z, rfl⟩)
          omega
    refine ⟨goo _ (hkeep _ _ ga), I3.nolimit.keeps k6, .fresh (.compStart (.GeneratorExp elt [⟨tg, iter, ifs, 0⟩] scope pos) 0 (.ref it) .none (gEnv X scope s3.heap.objs.size code)), by rw [hgens]; exact Array.getElem?_push_size .., rfl, ?_⟩
    have hb6 : AllBare s6.gens := by rw [hgens]; exact bare5
    have st6 : tn 0 s6.heap := Tn.keep _ _ _ st3 fun b _ o e => k6 b o e
    refine seg_gstart (Y := gY X s3 H2 scope code fp h'.objs.size go) (A := X.A.in1.in1) Tn st6 (seg_gloop (Y := gY X s3 H2 scope code fp h'.objs.size go) (A := X.A.in1.in1) (W := W) hcalm rfl hco rfl rfl Tn (hg s3 H2 code fp _ go) (ht s3 H2 code fp _ go) (he s3 H2 code fp _ go) cok (fun b hb p hp z => ?_) hturn (fun σ2 e => ?_) m (m + 1) _ _ (Nat.lt_succ_self m)
      ⟨0, c0, sp0, H2, hel, hsp, fun p hp => (hown p hp).1, I6 _ (allBare_setGen hb6 rfl), st6, fun b hb => (f3 b hb).1.1, hW⟩)
    · rw [List.mem_singleton.mp hp] at z
      have h3 : h'.objs.size < s3.heap.objs.size := Nat.lt_of_le_of_lt (Nat.le_of_eq z) (lt3 b hb)
      omega
    · rw [← e, wipe_length]
  · intro sp σ' H' s' J'
    exact I3.call' (ch := fp) J'.os J'.base J'.hok J'.bare fun b hb => ⟨(f3 b hb).1.2.2.2.1, (f3 b hb).1.2.1, (f3 b hb).1.2.2.2.2.1, (f3 b hb).1.2.2.2.2.2⟩
end
end Bz
set_option Elab.async false
set_option linter.all false
set_option maxRecDepth 100000
set_option autoImplicit false
namespace Bz
open PySem PySem.Spec PyProof.Rows L2 GenW

section
variable {X : Cx} {T : List (Addr × Str)} {c P : Addr} {k : Nat} {elt tg iter : Expr} {ifs : List Expr} {scope : Scope} {own : List (Str × Nat)} {p pos gpos : Pos} {wi : TI} {g : TG} {tt : TT} {te : TE}
def tGx {κ : Type} (T : List (Addr × Str)) (wi : TI) (vs : List Nat) (g : TG) (tt : TT) (te : TE) (c0 : κ) (C : VK → Cons κ) : TE := fun σ H Q => wi σ H fun J H1 => LamX.Tabs T H1 ∧ ∀ H2, LamX.ExtN H1 H2 → LamX.Tabs T H2 → ∃ W : Nat → Nat → κ → Hp → Prop, (∃ m, W 0 m c0 H2) ∧ GTurns J (C Q) (wipe σ vs) vs g tt te W
/-- what the making of a generator asks -/
structure GMk (X : Cx) (T : List (Addr × Str)) (c P : Addr) (k : Nat) (scope : Scope) (own : List (Str × Nat)) : Prop where
  hr : Room k X.A
  calm : X.calm = true
  nd : X.N.Nodup
  TB : LamX.TabB X.base X.mg c P
  code : X.env.code = .ref c
  mem : (P, X.env.qual ++ "<genexpr>") ∈ T
  one : ∀ p ∈ T, p.1 = P → p.2 = X.env.qual ++ "<genexpr>"
  ok : BlkOk X.N X.env.scope scope own
  noc : ∀ y ∈ scope.names, y.2 ≠ .cell
  co : scope.isCoroutine = false
  dot : scope.names.lookup (".0" : Str) = some NameKind.local
theorem pe_anyG (M : GMk X T c P k scope own) (hg : L2.Gl X "any") (hmg : X.mg "any" = none) (hi : PI X tg iter wi) (hG : GWithin X scope fun Y => PG Y tg g) (ht : GWithin X scope fun Y => PTs Y ifs tt) (he : GWithin X scope fun Y => PE Y elt te) (hs : ∀ x, genFold iter X.env x = pure x := by intro _; rfl)
    (hst : starEach [.GeneratorExp elt [⟨tg, iter, ifs, 0⟩] scope gpos] X.env = (false, eval (.GeneratorExp elt [⟨tg, iter, ifs, 0⟩] scope gpos) X.env) :: starEach [] X.env := by rfl) :
    PE X (.Call (.Name "any" p) [.GeneratorExp elt [⟨tg, iter, ifs, 0⟩] scope gpos] [] pos) (tGx T wi (own.map (·.2)) g tt te () cAny) := by
  refine ⟨fun pins s σ H Q I h => ?_⟩
  refine wpAny_Call_Name_kw (ld_blt I hg hmg boot_any ?_)
  refine PyProof.Rows.callWith_builtin1 ?_ hst (by rfl)
  rw [hst]
  show wpAny _ _ (spliced ((false, eval (.GeneratorExp elt [⟨tg, iter, ifs, 0⟩] scope gpos) X.env) :: backTo pos (starEach [] X.env))) _ _ s
  refine Calls.spliced_cons (gx_make M.hr M.calm M.nd M.TB M.code M.mem M.one hi M.ok M.noc M.co M.dot hG ht he hs I h fun J H1 H2 s4 code fp a go gn s5 hR eN T2 rdy => ?_)
  refine Calls.spliced_nil ?_
  obtain ⟨W, ⟨m, w⟩, turns⟩ := hR H2 eN T2
  refine call_function_tree F.kind_any F.plain_any F.entry_any (F.args_any1 _) ?_
  unfold Builtin.«any»
  refine wpAny_bind (m := oneArg "any" _) (wpAny_pure ?_)
  refine wpAny_bind (wpAny_pyIter_gen rdy.gen ?_)
  refine wpAny_pure ⟨plainId_quiet F.plain_any_loop _, any_run (Y := gY X s4 H2 scope code fp a go) (g := gn) (go := go) (fp := fp) M.hr.hd (by have := M.hr.dp; show X.A.depth < _; omega) rfl rdy.goo (rdy.cok [] fun b hb => absurd hb (by simp)) (fun b σ' H' s' I' q => ?_) (m + 1) s5
    (rdy.rest Unit [] (cAny Q) () [] s5 m W (fun b hb => absurd hb (by simp)) rfl rfl rfl rfl (fun _ _ e => e) (fun p hp => absurd hp (by simp)) w turns)⟩
  exact ⟨.bl b, H', rdy.back _ _ _ _ I', rfl, q⟩
theorem pe_allG (M : GMk X T c P k scope own) (hg : L2.Gl X "all") (hmg : X.mg "all" = none) (hi : PI X tg iter wi) (hG : GWithin X scope fun Y => PG Y tg g) (ht : GWithin X scope fun Y => PTs Y ifs tt) (he : GWithin X scope fun Y => PE Y elt te) (hs : ∀ x, genFold iter X.env x = pure x := by intro _; rfl)
    (hst : starEach [.GeneratorExp elt [⟨tg, iter, ifs, 0⟩] scope gpos] X.env = (false, eval (.GeneratorExp elt [⟨tg, iter, ifs, 0⟩] scope gpos) X.env) :: starEach [] X.env := by rfl) :
    PE X (.Call (.Name "all" p) [.GeneratorExp elt [⟨tg, iter, ifs, 0⟩] scope gpos] [] pos) (tGx T wi (own.map (·.2)) g tt te () cAll) := by
  refine ⟨fun pins s σ H Q I h => ?_⟩
  refine wpAny_Call_Name_kw (ld_blt I hg hmg PyProof.Rows.boot_all ?_)
  refine PyProof.Rows.callWith_builtin1 ?_ hst (by rfl)
  rw [hst]
  show wpAny _ _ (spliced ((false, eval (.GeneratorExp elt [⟨tg, iter, ifs, 0⟩] scope gpos) X.env) :: backTo pos (starEach [] X.env))) _ _ s
  refine Calls.spliced_cons (gx_make M.hr M.calm M.nd M.TB M.code M.mem M.one hi M.ok M.noc M.co M.dot hG ht he hs I h fun J H1 H2 s4 code fp a go gn s5 hR eN T2 rdy => ?_)
  refine Calls.spliced_nil ?_
  obtain ⟨W, ⟨m, w⟩, turns⟩ := hR H2 eN T2
  refine call_function_tree F.kind_all F.plain_all F.entry_all (F.args_all1 _) ?_
  unfold Builtin.«all»
  refine wpAny_bind (m := oneArg "all" _) (wpAny_pure ?_)
  refine wpAny_bind (wpAny_pyIter_gen rdy.gen ?_)
  refine wpAny_pure ⟨plainId_quiet F.plain_all_loop _, all_run (Y := gY X s4 H2 scope code fp a go) (g := gn) (go := go) (fp := fp) M.hr.hd (by have := M.hr.dp; show X.A.depth < _; omega) rfl rdy.goo (rdy.cok [] fun b hb => absurd hb (by simp)) (fun b σ' H' s' I' q => ?_) (m + 1) s5
    (rdy.rest Unit [] (cAll Q) () [] s5 m W (fun b hb => absurd hb (by simp)) rfl rfl rfl rfl (fun _ _ e => e) (fun p hp => absurd hp (by simp)) w turns)⟩
  exact ⟨.bl b, H', rdy.back _ _ _ _ I', rfl, q⟩
theorem pe_sumG (M : GMk X T c P k scope own) (hg : L2.Gl X "sum") (hmg : X.mg "sum" = none) (hi : PI X tg iter wi) (hG : GWithin X scope fun Y => PG Y tg g) (ht : GWithin X scope fun Y => PTs Y ifs tt) (he : GWithin X scope fun Y => PE Y elt te) (hs : ∀ x, genFold iter X.env x = pure x := by intro _; rfl)
    (hst : starEach [.GeneratorExp elt [⟨tg, iter, ifs, 0⟩] scope gpos] X.env = (false, eval (.GeneratorExp elt [⟨tg, iter, ifs, 0⟩] scope gpos) X.env) :: starEach [] X.env := by rfl) :
    PE X (.Call (.Name "sum" p) [.GeneratorExp elt [⟨tg, iter, ifs, 0⟩] scope gpos] [] pos) (tGx T wi (own.map (·.2)) g tt te 0 (cSum 0)) := by
  refine ⟨fun pins s σ H Q I h => ?_⟩
  refine wpAny_Call_Name_kw (ld_blt I hg hmg PyProof.Rows.boot_sum ?_)
  refine PyProof.Rows.callWith_builtin1 ?_ hst (by rfl)
  rw [hst]
  show wpAny _ _ (spliced ((false, eval (.GeneratorExp elt [⟨tg, iter, ifs, 0⟩] scope gpos) X.env) :: backTo pos (starEach [] X.env))) _ _ s
  refine Calls.spliced_cons (gx_make M.hr M.calm M.nd M.TB M.code M.mem M.one hi M.ok M.noc M.co M.dot hG ht he hs I h fun J H1 H2 s4 code fp a go gn s5 hR eN T2 rdy => ?_)
  refine Calls.spliced_nil ?_
  obtain ⟨W, ⟨m, w⟩, turns⟩ := hR H2 eN T2
  refine call_function_tree F.kind_sum F.plain_sum F.entry_sum (F.args_sum1 _) ?_
  unfold Builtin.«sum»
  simp only [List.length_cons, List.length_nil]
  rw [if_neg (by decide)]
  refine wpAny_bind (wpAny_of_eq (show Builtin.Builtins.bindParams "sum" ["start"] 0 { } = pure [none] from rfl) ?_)
  refine wpAny_bind (wpAny_pyIter_gen rdy.gen ?_)
  refine wpAny_bind (wpAny_mkInt ?_)
  refine wpAny_bind (wpAny_pure ?_)
  simp only [List.forIn_cons, List.forIn_nil]
  refine wpAny_bind (wpAny_bind (wpAny_bind (wpAny_isInstance (T := "int") (b := false) (typeIs_int _ _ _) PySem.sub_int_str ?_)))
  simp only [Bool.false_eq_true, if_false]
  refine wpAny_pure (wpAny_bind (wpAny_bind (wpAny_isInstance (T := "int") (b := false) (typeIs_int _ _ _) PySem.sub_int_bytes ?_)))
  simp only [Bool.false_eq_true, if_false]
  refine wpAny_pure (wpAny_bind (wpAny_bind (wpAny_isInstance (T := "int") (b := false) (typeIs_int _ _ _) PySem.sub_int_bytearray ?_)))
  simp only [Bool.false_eq_true, if_false]
  refine wpAny_pure (wpAny_pure ?_)
  refine wpAny_bind (wpAny_newObj_type ?_)
  have hS : ∀ b ∈ [s5.heap.objs.size], s5.heap.objs.size ≤ b := fun b hb => Nat.le_of_eq (List.mem_singleton.mp hb).symm
  refine wpAny_pure ⟨plainId_quiet F.plain_sum_loop _, sum_run (Y := gY X s4 H2 scope code fp a go) (g := gn) (go := go) (fp := fp) (Qv := Q) (S := s5.heap.objs.size) M.hr.hd (by have := M.hr.dp; show X.A.depth < _; omega) rfl rdy.goo (rdy.cok _ hS) (fun n t sp σ' H' s' I' q => ?_) (m + 1) 0 s5.toks 0 _ (Heap.get?_push_size _ rfl)
    (rdy.rest Int [s5.heap.objs.size] (cSum s5.heap.objs.size Q) 0 [(s5.heap.objs.size, sumObj 0 s5.toks 0)] _ m W hS ⟨_, _, rfl⟩ rfl rfl rfl (fun _ _ e => Heap.get?_push_of_some _ e) (fun p hp => ?_) w turns)⟩
  · exact ⟨.int n, H', rdy.back _ _ _ _ I', ⟨t, rfl⟩, q⟩
  · rw [List.mem_singleton.mp hp]
    exact ⟨Heap.get?_push_size _ rfl, fun v z => by cases z⟩
end
end Bz
set_option Elab.async false
set_option linter.all false
set_option maxRecDepth 100000
set_option autoImplicit false
namespace Bz
open PySem PySem.Spec PyProof.Rows L2 GenW

/-! ### any, all, sum of a generator expression -/
def gxT (c : Ec) (g : Ev) : Rho → List O → R (Option D) := fun r h => (c r h).no.bind fun b h1 => if b then (g r h1).no.bind fun t h2 => match t with
    | .v d => .ok (some d) h2
    | _ => .bad
  else .ok none h1
def gxL {κ : Type} (stp : κ → D → Option (κ ⊕ D)) (v : IV) (t : Tg) (r0 : Rho) (b : Rho → List O → R (Option D)) : Nat → Nat → κ → List O → R (κ ⊕ D)
  | 0, _, _, _ => .bad
  | n + 1, k, c, h => match itemAt v k h with
    | some none => .ok (.inl c) h
    | some (some d) => match setTg t d r0 with
      | some r1 => (b r1 h).bind fun o h1 => match o with
        | some y => match stp c y with
          | some (.inl c') => gxL stp v t r0 b n (k + 1) c' h1
          | some (.inr d') => .ok (.inr d') h1
          | none => .bad
        | none => gxL stp v t r0 b n (k + 1) c h1
      | none => .bad
    | none => .bad
def gxE {κ : Type} (fin : κ → D) : κ ⊕ D → T
  | .inl c => .v (fin c)
  | .inr d => .v d
def evGx {κ : Type} (stp : κ → D → Option (κ ⊕ D)) (fin : κ → D) (c0 : κ) (f : Ei) (t : Tg) (vs : List Nat) (c : Ec) (g : Ev) : Ev := fun r h => (f r h).bind fun v h1 => (gxL stp v t (wipeR r vs) (gxT c g) (fuelV h1 v + 1) 0 c0 h1).bind fun o h2 => .ok (gxE fin o) h2
def anyS : Unit → D → Option (Unit ⊕ D)
  | _, .bl b => some (if b then .inr (.bl true) else .inl ())
  | _, _ => none
def allS : Unit → D → Option (Unit ⊕ D)
  | _, .bl b => some (if b then .inl () else .inr (.bl false))
  | _, _ => none
def inLongB (n : Int) : Bool := decide (-(2 ^ 63) ≤ n) && decide (n < 2 ^ 63)
def sumS : Int → D → Option (Int ⊕ D)
  | n, .int j => if inLongB j && inLongB (n + j) then some (.inl (n + j)) else none
  | _, _ => none
abbrev evAny := evGx anyS (fun _ => .bl false) ()
abbrev evAll := evGx allS (fun _ => .bl true) ()
abbrev evSum := evGx sumS (fun n => .int n) (0 : Int)
structure ConsOk (G : Gl) {κ : Type} (C : VK → Cons κ) (stp : κ → D → Option (κ ⊕ D)) (fin : κ → D) : Prop where
  go : ∀ (Q : VK) c d c' x S Nx H, RV G.K S d x → stp c d = some (.inl c') → Nx c' H → (C Q).stp c x Nx H
  out : ∀ (Q : VK) c d d' x S Nx H, RV G.K S d x → stp c d = some (.inr d') → ∃ x', (∀ S', RV G.K S' d' x') ∧ (Q x' H → (C Q).stp c x Nx H)
  fin : ∀ (Q : VK) c H, ∃ x, (∀ S', RV G.K S' (fin c) x) ∧ (Q x H → (C Q).fin c H)
section
variable {G : Gl} {X : Cx} {W : WX} {k : Nat} {S : Wd} {h : List O}
theorem cons_any : ConsOk G cAny anyS (fun _ => .bl false) where
  go := fun Q c d c' x S Nx H r e n => by
    cases r with
    | bl b =>
      cases b with
      | true => cases e
      | false => exact ⟨false, rfl, n⟩
    | _ => cases e
  out := fun Q c d d' x S Nx H r e => by
    cases r with
    | bl b =>
      cases b with
      | true => cases e; exact ⟨.bl true, fun _ => .bl true, fun q => ⟨true, rfl, q⟩⟩
      | false => cases e
    | _ => cases e
  fin := fun Q c H => ⟨.bl false, fun _ => .bl false, fun q => q⟩
theorem cons_all : ConsOk G cAll allS (fun _ => .bl true) where
  go := fun Q c d c' x S Nx H r e n => by
    cases r with
    | bl b =>
      cases b with
      | true => exact ⟨true, rfl, n⟩
      | false => cases e
    | _ => cases e
  out := fun Q c d d' x S Nx H r e => by
    cases r with
    | bl b =>
      cases b with
      | true => cases e
      | false => cases e; exact ⟨.bl false, fun _ => .bl false, fun q => ⟨false, rfl, q⟩⟩
    | _ => cases e
  fin := fun Q c H => ⟨.bl true, fun _ => .bl true, fun q => q⟩
theorem cons_sum : ConsOk G (cSum 0) sumS (fun n => .int n) where
  go := fun Q c d c' x S Nx H r e n => by
    cases r with
    | int j =>
      simp only [sumS] at e
      split at e
      · rename_i hb
        cases e
        simp only [inLongB, Bool.and_eq_true, decide_eq_true_eq] at hb
        exact ⟨j, rfl, hb.1, hb.2, n⟩
      · cases e
    | _ => cases e
  out := fun Q c d d' x S Nx H r e => by
    cases r with
    | int j =>
      simp only [sumS] at e
      split at e <;> cases e
    | _ => cases e
  fin := fun Q c H => ⟨.int c, fun _ => .int c, fun q => q⟩
theorem gx_read {κ : Type} {C : VK → Cons κ} {stp : κ → D → Option (κ ⊕ D)} {fin : κ → D} {c0 : κ} (ck : ConsOk G C stp fin) {f : Ei} {t : Tg} {vs : List Nat} {c : Ec} {g : Ev} {s : L2.St} {H : Hp} {Q : VK} (hK : X.K = G.K) (hin : tgIn vs t = true) (p : rd G (rT G) W (evGx stp fin c0 f t vs c g) s H Q) :
    tGx G.T (rd G (rI G) W f) vs (tgR X.K t) (rd G (rB G) WF c) (rd G (rT G) WF g) c0 C s H Q := by
  obtain ⟨S, r, h, e, q, z, p⟩ := p
  subst e
  refine ⟨S, r, h, rfl, q, z, PO.stepAt (Ext.refl S) p fun S1 h1 v J e1 r1 w p1 => ?_⟩
  have w : ItOk G S1 v J := w
  refine ⟨r1.tab, fun H2 eN T2 => ?_⟩
  have e12 : Ext S1 ⟨S1.n, S1.m, H2⟩ := ⟨Nat.le_refl _, fun _ _ => rfl, fun b o _ hb ho => eN b o hb ho, fun i h1 h2 => absurd (Nat.lt_of_lt_of_le h2 h1) (Nat.lt_irrefl _), fun b hb => by
    cases hH : S1.H b with
    | none => exact bare_none hH
    | some o =>
      by_cases ht : ∃ ps, o = .tbl ps
      · obtain ⟨ps, rfl⟩ := ht
        show bare S1.H b = none
        unfold bare; rw [hH]
      · have nt : ∀ ps, o ≠ .tbl ps := fun ps e => ht ⟨ps, e⟩
        have k := (bare_some (eN b o hH nt) nt).symm.trans hb
        cases k⟩
  have r2 : RH G h1 ⟨S1.n, S1.m, H2⟩ := r1.grow e12 rfl (fun i hi => by
    obtain ⟨o, ho, nt⟩ := r1.there hi
    rw [ho]; exact eN _ _ ho nt) T2
  have z1 := (z.ext q e1).wipe vs
  let fn : κ ⊕ D → List O → R T := fun o h2 => .ok (gxE fin o) h2
  refine ⟨fun i m c' H => ∃ S' h, S'.H = H ∧ Ext S1 S' ∧ RH G h S' ∧ PO G (rT G) (fun c d H' => W c d s H') S Q ((gxL stp v t (wipeR r vs) (gxT c g) m i c' h).bind fn), ⟨_, _, h1, rfl, e12, r2, p1⟩, ?_⟩
  rintro i m c' H ⟨S', h, rfl, e', rh, p⟩
  cases m with
  | zero => exact p.elim
  | succ n =>
    simp only [gxL] at p
    split at p
    · rename_i hit
      obtain ⟨x, hx, hq⟩ := ck.fin Q c' S'.H
      exact .inl ⟨w.stop S' h i e' rh hit, hq (p S' x (e1.trans e') rh (.v (hx S')))⟩
    · rename_i d hit
      obtain ⟨go, yl⟩ := w.go S' h i d e' rh hit
      refine .inr ⟨go, fun c'' H' => ∃ S' h, S'.H = H' ∧ Ext S1 S' ∧ RH G h S' ∧ PO G (rT G) (fun c d H' => W c d s H') S Q ((gxL stp v t (wipeR r vs) (gxT c g) n (i + 1) c'' h).bind fn), fun c'' H' x => ⟨n, Nat.lt_succ_self n, x⟩, fun x H' hy => ?_⟩
      obtain ⟨S2, eH, e2, r2, w2⟩ := yl x H' hy
      subst eH
      have e02 := e'.trans e2
      split at p
      · rename_i r3 hset
        refine tg_ok hK hin w2 (z1.ext r1 e02) hset fun σ3 z3 ew => ⟨ew.trans (wipe_wipe s vs), ?_⟩
        rw [R.assoc] at p
        unfold gxT at p
        rw [R.assoc] at p
        refine ⟨S2, r3, h, rfl, r2, z3, PO.no (PO.stepAt (e1.trans e02) p fun S3 h3 b b' e3 r3' w3 p3 => ?_)⟩
        cases (show b = b' from w3)
        have e03 := e02.trans e3
        cases b with
        | false =>
          rw [if_neg Bool.false_ne_true]
          exact ⟨S3, h3, rfl, e03, r3', p3⟩
        | true =>
          rw [if_pos rfl]
          rw [if_pos rfl, R.assoc] at p3
          refine ⟨S3, r3, h3, rfl, r3', z3.ext r2 e3, PO.no (PO.stepAt (e1.trans e03) p3 fun S4 h4 ty y e4 r4 w4 p4 => ?_)⟩
          have e04 := e03.trans e4
          cases ty with
          | v dy =>
            have w4 : RT G S3.B S4 (.v dy) y := w4
            cases w4 with
            | v w4 =>
              simp only [R.bind_ok] at p4
              split at p4
              · rename_i c'' es
                exact ck.go Q c' dy c'' y S4 _ _ w4 es ⟨S4, h4, rfl, e04, r4, p4⟩
              · rename_i d' es
                obtain ⟨x', hx', hq⟩ := ck.out Q c' dy d' y S4 _ S4.H w4 es
                exact hq (p4 S4 x' (e1.trans e04) r4 (.v (hx' S4)))
              · exact p4.elim
          | _ => exact p4.elim
      · exact p.elim
    · exact p.elim
end
end Bz
set_option Elab.async false
set_option linter.all false
set_option maxRecDepth 100000
set_option autoImplicit false
namespace Bz
open PySem PySem.Spec PyProof.Rows L2 GenW

/-- the def's code object and its table -/
structure TbAt (G : Gl) (mg : Str → Option Value) (base : Heap) (q : Str) (cd : Value) : Prop where
  of : ∃ (c P : Addr), cd = .ref c ∧ LamX.TabB base mg c P ∧ (P, q) ∈ G.T ∧ ∀ p ∈ G.T, p.1 = P → p.2 = q
abbrev TbX (G : Gl) (X : Cx) (sf : Str) : Prop := TbAt G X.mg X.base (X.env.qual ++ sf) X.env.code
section
variable {G : Gl} {X : Cx} {W : WX} {k : Nat} {S : Wd} {h : List O}
theorem Zx.gy (z : Zx G X W (k + 1)) (s : Shared) (H : Hp) (scope : Scope) (code : Value) (fp : List Addr) (a : Addr) (go : Obj) : Zx G (gY X s H scope code fp a go) WF k :=
  ⟨z.K, z.hc, z.nd, ⟨z.rm.hd, by have := z.rm.dp; show X.A.depth + 1 + 3 * k + 5 < _; omega, by have := z.rm.un; show X.A.units + 1 + 1 + 3 + 16 * k + 200 < _; omega⟩, LamX.takes0⟩
abbrev WithinG (G : Gl) (X : Cx) (k : Nat) (scope : Scope) (p : Cx → Prop) : Prop := ∀ (s : Shared) (H : Hp) (code : Value) (fp : List Addr) (a : Addr) (go : Obj), Zx G (gY X s H scope code fp a go) WF k → p (gY X s H scope code fp a go)
def gxC (scope : Scope) : Bool := (scope.names.all fun y => match y.2 with | .cell => false | _ => true) && !scope.isCoroutine && decide (scope.names.lookup (".0" : Str) = some NameKind.local)
theorem gmk {c P : Addr} {scope : Scope} {own : List (Str × Nat)} (z : Zx G X W (k + 1)) (e : X.env.code = .ref c) (TB : LamX.TabB X.base X.mg c P) (hm : (P, X.env.qual ++ "<genexpr>") ∈ G.T) (hu : ∀ p ∈ G.T, p.1 = P → p.2 = X.env.qual ++ "<genexpr>") (ok : BlkOk X.N X.env.scope scope own) (gc : gxC scope = true) : GMk X G.T c P (k + 1) scope own := by
  simp only [gxC, Bool.and_eq_true, List.all_eq_true, decide_eq_true_eq, Bool.not_eq_true'] at gc
  exact ⟨z.rm, z.hc, z.nd, TB, e, hm, hu, ok, fun y hy e => (by have q := gc.1.1 y hy; rw [e] at q; cases q), gc.1.2, gc.2⟩
theorem zany {elt tg iter : Expr} {ifs : List Expr} {scope : Scope} {own : List (Str × Nat)} {p pos gpos : Pos} {f : Ei} {t : Tg} {c : Ec} {g : Ev} (z : Zx G X W (k + 1)) (tb : TbX G X "<genexpr>") (hmg : X.mg "any" = none) (hi : SI G X W tg f iter) (ok : BlkOk X.N X.env.scope scope own) (gc : gxC scope = true)
    (hG : WithinG G X k scope fun Y => PG Y tg (tgR Y.K t)) (ht : WithinG G X k scope fun Y => STs G Y WF c ifs) (he : WithinG G X k scope fun Y => SE G Y WF g elt) (hin : tgIn (own.map (·.2)) t = true := by rfl) (hg : L2.Gl X "any" := by rfl) (hs : ∀ x, genFold iter X.env x = pure x := by intro _; rfl)
    (hst : starEach [.GeneratorExp elt [⟨tg, iter, ifs, 0⟩] scope gpos] X.env = (false, eval (.GeneratorExp elt [⟨tg, iter, ifs, 0⟩] scope gpos) X.env) :: starEach [] X.env := by rfl) :
    SE G X W (evAny f t (own.map (·.2)) c g) (.Call (.Name "any" p) [.GeneratorExp elt [⟨tg, iter, ifs, 0⟩] scope gpos] [] pos) := by
  obtain ⟨c, P, e, TB, hm, hu⟩ := tb.of
  exact PE.imp (pe_anyG (gmk z e TB hm hu ok gc) hg hmg hi (g := tgR X.K t) (fun s H code fp a go => hG s H code fp a go (z.gy ..)) (fun s H code fp a go => ht s H code fp a go (z.gy ..)) (fun s H code fp a go => he s H code fp a go (z.gy ..)) hs hst) fun s H Q p => gx_read cons_any z.K hin p
theorem zall {elt tg iter : Expr} {ifs : List Expr} {scope : Scope} {own : List (Str × Nat)} {p pos gpos : Pos} {f : Ei} {t : Tg} {c : Ec} {g : Ev} (z : Zx G X W (k + 1)) (tb : TbX G X "<genexpr>") (hmg : X.mg "all" = none) (hi : SI G X W tg f iter) (ok : BlkOk X.N X.env.scope scope own) (gc : gxC scope = true)
    (hG : WithinG G X k scope fun Y => PG Y tg (tgR Y.K t)) (ht : WithinG G X k scope fun Y => STs G Y WF c ifs) (he : WithinG G X k scope fun Y => SE G Y WF g elt) (hin : tgIn (own.map (·.2)) t = true := by rfl) (hg : L2.Gl X "all" := by rfl) (hs : ∀ x, genFold iter X.env x = pure x := by intro _; rfl)
    (hst : starEach [.GeneratorExp elt [⟨tg, iter, ifs, 0⟩] scope gpos] X.env = (false, eval (.GeneratorExp elt [⟨tg, iter, ifs, 0⟩] scope gpos) X.env) :: starEach [] X.env := by rfl) :
    SE G X W (evAll f t (own.map (·.2)) c g) (.Call (.Name "all" p) [.GeneratorExp elt [⟨tg, iter, ifs, 0⟩] scope gpos] [] pos) := by
  obtain ⟨c, P, e, TB, hm, hu⟩ := tb.of
  exact PE.imp (pe_allG (gmk z e TB hm hu ok gc) hg hmg hi (g := tgR X.K t) (fun s H code fp a go => hG s H code fp a go (z.gy ..)) (fun s H code fp a go => ht s H code fp a go (z.gy ..)) (fun s H code fp a go => he s H code fp a go (z.gy ..)) hs hst) fun s H Q p => gx_read cons_all z.K hin p
theorem zsum {elt tg iter : Expr} {ifs : List Expr} {scope : Scope} {own : List (Str × Nat)} {p pos gpos : Pos} {f : Ei} {t : Tg} {c : Ec} {g : Ev} (z : Zx G X W (k + 1)) (tb : TbX G X "<genexpr>") (hmg : X.mg "sum" = none) (hi : SI G X W tg f iter) (ok : BlkOk X.N X.env.scope scope own) (gc : gxC scope = true)
    (hG : WithinG G X k scope fun Y => PG Y tg (tgR Y.K t)) (ht : WithinG G X k scope fun Y => STs G Y WF c ifs) (he : WithinG G X k scope fun Y => SE G Y WF g elt) (hin : tgIn (own.map (·.2)) t = true := by rfl) (hg : L2.Gl X "sum" := by rfl) (hs : ∀ x, genFold iter X.env x = pure x := by intro _; rfl)
    (hst : starEach [.GeneratorExp elt [⟨tg, iter, ifs, 0⟩] scope gpos] X.env = (false, eval (.GeneratorExp elt [⟨tg, iter, ifs, 0⟩] scope gpos) X.env) :: starEach [] X.env := by rfl) :
    SE G X W (evSum f t (own.map (·.2)) c g) (.Call (.Name "sum" p) [.GeneratorExp elt [⟨tg, iter, ifs, 0⟩] scope gpos] [] pos) := by
  obtain ⟨c, P, e, TB, hm, hu⟩ := tb.of
  exact PE.imp (pe_sumG (gmk z e TB hm hu ok gc) hg hmg hi (g := tgR X.K t) (fun s H code fp a go => hG s H code fp a go (z.gy ..)) (fun s H code fp a go => ht s H code fp a go (z.gy ..)) (fun s H code fp a go => he s H code fp a go (z.gy ..)) hs hst) fun s H Q p => gx_read cons_sum z.K hin p
/-- a def's promise, its code object in sight -/
theorem fn_atC {P : Program} {w : World} {mg : Str → Option Value} {base : Heap} {x qual : Str} {params : Arguments} {body : List Stmt} {scope : Scope} {f : Addr} {fd : FuncData} {N ps : List Str} {np : Nat} {b : Es} (F : FunD G.K x qual params body scope [] [] f fd) (Sc : FnScope N ps scope) (hnp : ps.length = np)
    (hbody : ∀ (X : Cx) (cdv : Value) (A : Around) (outer : List Env) (s : Shared) (H : Hp) (E : XK), cdv = fd.code → X = cxOf (L2.CX P w) P w G.K mg base N qual scope f cdv A outer s H E → Zx G X (fun c d _ H => E c d H) k → PassesOwn (model X.prog X.w) X.A X.env X.xe → SSs G X (fun c d _ H => E c d H) b body) :
    FnOk P w G.K mg base (L2.CX P w) (k + 1) f fd ps (spC G (fnC N.length b) np) := by
  obtain ⟨oc, od, dV, kV, doc, pm, an, cdv, ct, osl, rfl, lk, hcd, _, _⟩ := F.ex
  refine fn_of lk hcd Sc (fun vs H Q E h => by rw [h.1, hnp]) (fun A outer s H vs Q E hr h => ?_)
  have z : Zx G (cxOf (L2.CX P w) P w G.K mg base N qual scope f cdv A outer s H E) (fun c d _ H => E c d H) k := ⟨rfl, rfl, Sc.nd, hr, L2.takes_of rfl rfl rfl rfl⟩
  refine ⟨_, hbody _ cdv A outer s H E rfl rfl z (L2.passes_of rfl), ?_⟩
  obtain ⟨hl, S, h, ds, eH, r, q, p⟩ := h
  refine ⟨S, _, h, eH, r, RS.start q, ?_⟩
  have hds : ds.length = vs.length := q.length
  unfold fnC at p
  cases e : b (ds.map some ++ List.replicate (N.length - ds.length) none) h with
  | nx r' h' => rw [e] at p; exact fun S' σ e' r1 _ => p S' .non e' r1 (.v .non)
  | rt t h' => rw [e] at p; exact p
  | ex c fs r' h' => rw [e] at p; exact fun S' cls d σ e' r1 z1 _ => p S' cls d e' r1 z1
  | ct => rw [e] at p; exact p.elim
  | bk => rw [e] at p; exact p.elim
  | bad => rw [e] at p; exact p.elim
end
end Bz
set_option Elab.async false
set_option linter.all false
set_option maxRecDepth 100000
set_option autoImplicit false
namespace Bz
open PySem PySem.Spec PyProof.Rows L2 GenW

/-! ### a generator expression of two clauses -/
theorem gTurn2_out (elt t0 i0 t1 i1 : Expr) (ifs0 ifs1 : List Expr) (scope : Scope) (pos : Pos) (it acc : Value) (env : Env) :
    compTurn (.GeneratorExp elt [⟨t0, i0, ifs0, 0⟩, ⟨t1, i1, ifs1, 0⟩] scope pos) 0 it acc env = (do
      standAt i0.pos
      match ← pyNext it with
      | none => pure (.done .next)
      | some v =>
        letOwnedTupleGo t0 it v
        assign t0 env v
        let mut ok := true
        for c in ifs0 do
          if ok then ok ← isTrue c env (eval c env)
        if ok then
          let x ← eval i1 env
          standAt i1.pos
          let x ← foldedSetIterable i1 env x
          let _ ← runOwn (.compStart (.GeneratorExp elt [⟨t0, i0, ifs0, 0⟩, ⟨t1, i1, ifs1, 0⟩] scope pos) 1 (← holding [x] (pyIter x)) acc env) env
        again (.compLoop (.GeneratorExp elt [⟨t0, i0, ifs0, 0⟩, ⟨t1, i1, ifs1, 0⟩] scope pos) 0 it acc env)) := by rfl
theorem gTurn2_in (elt t0 i0 t1 i1 : Expr) (ifs0 ifs1 : List Expr) (scope : Scope) (pos : Pos) (it acc : Value) (env : Env) :
    compTurn (.GeneratorExp elt [⟨t0, i0, ifs0, 0⟩, ⟨t1, i1, ifs1, 0⟩] scope pos) 1 it acc env = (do
      standAt i1.pos
      match ← pyNext it with
      | none => pure (.done .next)
      | some v =>
        letOwnedTupleGo t1 it v
        assign t1 env v
        let mut ok := true
        for c in ifs1 do
          if ok then ok ← isTrue c env (eval c env)
        if ok then
          (do let v ← eval elt env; standAt elt.pos; let _ ← yieldOut env v)
        again (.compLoop (.GeneratorExp elt [⟨t0, i0, ifs0, 0⟩, ⟨t1, i1, ifs1, 0⟩] scope pos) 1 it acc env)) := by rfl
section
variable {κ : Type}
/-- what is known of an inner iterator's objects -/
structure F1Ok (Y : Cx) (fp1 fp ch : List Addr) : Prop where
  loc : ∀ b ∈ fp1, b ≠ Y.env.locals
  fs : ∀ b ∈ fp1, b ∉ Y.fs
  up : ∀ b ∈ fp1, b ∈ Y.ex ∨ Y.s_0.heap.objs.size ≤ b
  cell : ∀ b ∈ fp1, ∀ x c, Y.env.cells.lookup x = some c → c ≠ b
  pn : ∀ b ∈ fp1, ∀ p ∈ Y.pn, p.1 ≠ b
  ch : ∀ b ∈ fp1, b ∉ ch
  fp : ∀ b ∈ fp1, b ∉ fp
theorem seg_gin {A : Around} {Y : Cx} {ch fp fp1 : List Addr} {C : Cons κ} {σ1 : L2.St} {vs1 : List Nat} {it1 : Addr} {tn1 : Nat → Heap → Prop} {tnO : Heap → Prop} {J1 : It} {W1 : Nat → Nat → κ → Hp → Prop} {Nx : κ → Hp → Prop} {elt t0 i0 t1 i1 : Expr} {ifs0 ifs1 : List Expr} {scope : Scope} {pos : Pos} {g1 : TG} {tt1 : TT} {te : TE} {fs1 : List Frame} {base : Nat}
    (hcalm : Y.calm = true) (hA : A.over (.compLoop (.GeneratorExp elt [⟨t0, i0, ifs0, 0⟩, ⟨t1, i1, ifs1, 0⟩] scope pos) 1 (.ref it1) .none Y.env) fs1 = Y.A) (hsp1 : splitAtGen fs1 = none) (hgd : fs1.any Frame.guarded = false) (hco : Y.env.scope.isCoroutine = false) (hxe : Y.xe = fun _ _ => False) (T1 : Turn Y.prog Y.w Y.K t1 J1 fp1 it1 tn1)
    (pg : PG Y t1 g1) (pt : PTs Y ifs1 tt1) (pe : PE Y elt te) (hc : ChOk Y fp ch) (hf1 : F1Ok Y fp1 fp ch) (turn : GTurns J1 ⟨C.el, C.stp, Nx⟩ σ1 vs1 g1 tt1 te W1) (hlen : ∀ σ2 : L2.St, wipe σ2 vs1 = σ1 → σ2.length = σ1.length)
    (kO : ∀ h h', tnO h → (∀ b ∈ fp, ∀ o, h.get? b = some o → h'.get? b = some o) → tnO h') (oO : ∀ h, tnO h → ∀ b ∈ fp, ∃ o, h.get? b = some o ∧ ∀ v, o.data ≠ .cell v) (fO : ∀ {sp : List (Addr × Obj)} {σ' : L2.St} {H' : Hp} {s' : Shared}, sp.map (·.1) = ch → Inv Y sp σ' H' s' → (∀ b ∈ fp, H' b = none) → ∀ b ∈ fp, FpOk Y sp H' b)
    (hEnd : ∀ (n : Nat) (s₀ s : Shared) (c : κ) (sp : List (Addr × Obj)) (H' : Hp), base < n → C.el c sp → sp.map (·.1) = ch → (∀ p ∈ sp, s₀.heap.get? p.1 = some p.2) → Inv Y sp σ1 H' s → tnO s.heap → (∀ b ∈ fp, H' b = none) → Nx c H' →
      Seg (model Y.prog Y.w) A (GEndR Y ch C) (GProto Y ch C) n s₀ (.compLoop (.GeneratorExp elt [⟨t0, i0, ifs0, 0⟩, ⟨t1, i1, ifs1, 0⟩] scope pos) 1 (.ref it1) .none Y.env) (leafOf (.ok .next)) fs1 s) :
    ∀ (m n : Nat) (s₀ s : Shared) (j : Nat) (c : κ) (sp : List (Addr × Obj)) (H5 : Hp), base + m < n → C.el c sp → sp.map (·.1) = ch → (∀ p ∈ sp, s₀.heap.get? p.1 = some p.2) → Inv Y sp σ1 H5 s → tnO s.heap → (∀ b ∈ fp, H5 b = none) → tn1 j s.heap → (∀ b ∈ fp1, H5 b = none) → W1 j m c H5 →
      Seg (model Y.prog Y.w) A (GEndR Y ch C) (GProto Y ch C) n s₀ (.compLoop (.GeneratorExp elt [⟨t0, i0, ifs0, 0⟩, ⟨t1, i1, ifs1, 0⟩] scope pos) 1 (.ref it1) .none Y.env)
      ((model Y.prog Y.w).den (.compLoop (.GeneratorExp elt [⟨t0, i0, ifs0, 0⟩, ⟨t1, i1, ifs1, 0⟩] scope pos) 1 (.ref it1) .none Y.env)) fs1 s := by
  intro m
  induction m using Nat.strongRecOn with
  | ind m ih =>
    intro n s₀ s j c sp H5 hmn hel hsp hs0 I5 hO nO st5 n5 w5
    show Seg _ A _ _ _ s₀ _ ((compTurn (.GeneratorExp elt [⟨t0, i0, ifs0, 0⟩, ⟨t1, i1, ifs1, 0⟩] scope pos) 1 (.ref it1) .none Y.env).onRaise (fun x => do noteFrame x Y.env; theTreesLotGoes x)) fs1 s
    rw [gTurn2_in, Sem.onRaise_eq_wrap]
    have I5' := I5.pinned (fO hsp I5 nO) (oO _ hO)
    have stat : ∀ {H' : Hp} {hq : Heap}, (∀ b ∈ fp1, H' b = none) → ∀ b ∈ fp1, FpOk Y (sp ++ pinsAt fp hq) H' b := fun {H' hq} hn b hb => ⟨hn b hb, hf1.loc b hb, hf1.fs b hb, hf1.up b hb, hf1.cell b hb, fun p hp z => by
      rcases List.mem_append.mp hp with q | q
      · exact hf1.pn b hb p q z
      · rcases List.mem_append.mp q with q | q
        · exact hf1.ch b hb (by rw [← hsp, ← z]; exact List.mem_map.mpr ⟨p, q, rfl⟩)
        · exact hf1.fp b hb (by rw [← z]; exact (of_pinsAt q).1)⟩
    have outer : ∀ {s' : Shared} {H' : Hp} {σ' : L2.St} {pl : List (Addr × Obj)}, Inv Y ((sp ++ pinsAt fp s.heap) ++ pl) σ' H' s' → tnO s'.heap ∧ ∀ b ∈ fp, H' b = none := fun {s' H' σ' pl} I' => by
      have pin' : ∀ b ∈ fp, ∀ o, s.heap.get? b = some o → s'.heap.get? b = some o ∧ H' b = none := fun b hb o e =>
        let z := I'.pin (b, o) (List.mem_append_right _ (List.mem_append_left _ (List.mem_append_right _ (mem_pinsAt hb e))))
        ⟨z.1, z.2.1⟩
      refine ⟨kO _ _ hO fun b hb o e => (pin' b hb o e).1, fun b hb => ?_⟩
      obtain ⟨o, e, _⟩ := oO _ hO b hb
      exact (pin' b hb o e).2
    refine seg_bind_wrap (wpAny_standAt ?_)
    rcases turn j m c H5 w5 with ⟨stop, qq⟩ | ⟨go, Nx1, hNx, step⟩
    · refine seg_bind_wrap ?_
      rw [hA]
      refine thnF (T1.done Y rfl rfl rfl hcalm j _ s σ1 H5 (fun _ _ => False) I5' (stat n5) st5 stop) fun r s6 ⟨hr, I6⟩ => ?_
      subst hr
      obtain ⟨o1, o2⟩ := outer (pl := []) (by rw [List.append_nil]; exact I6)
      exact hEnd n s₀ s6 c sp H5 (by omega) hel hsp hs0 (I6.unpinned (pins := sp)) o1 o2 qq
    · refine seg_bind_wrap ?_
      rw [hA]
      refine thnF (T1.item Y rfl rfl rfl hcalm j _ s σ1 H5 (fun _ _ => False) I5' (stat n5) st5 go) fun r s6 ⟨u, hr, h6⟩ => ?_
      subst hr
      refine seg_bind_wrap ?_
      rw [hA]
      refine thnF h6 fun _ s7 ⟨x, H7, I7, r7, y7, st7, n7⟩ => ?_
      have I7' := I7.pinned (stat n7) (T1.obj _ _ st7)
      refine seg_bind_wrap ?_
      rw [hA]
      have noX : ∀ {α : Type} {t : Sem α} {Q Q' : α → Shared → Prop} {E : Value → Shared → Prop} {s : Shared}, wpAny (model Y.prog Y.w) Y.A t Q Y.xe s → (∀ a s, Q a s → Q' a s) → wpAny (model Y.prog Y.w) Y.A t Q' E s := fun h hQ => wpAny_mono h hQ fun _ _ z => by rw [hxe] at z; exact z.elim
      refine noX (pg.run _ s7 _ H7 x u _ I7' r7 (step x H7 y7)) fun _ s8 ⟨σ8, H8, I8, hw8, q8⟩ => ?_
      refine seg_bind_wrap ?_
      rw [hA]
      refine noX (pt.run _ s8 σ8 H8 _ I8 q8) fun b s9 ⟨H9, I9, q9⟩ => ?_
      have back : ∀ {s' : Shared} {H' : Hp}, Inv Y ((sp ++ pinsAt fp s.heap) ++ pinsAt fp1 s7.heap) σ8 H' s' → Inv Y sp σ1 H' s' ∧ tn1 (j + 1) s'.heap ∧ (∀ b ∈ fp1, H' b = none) ∧ tnO s'.heap ∧ ∀ b ∈ fp, H' b = none := fun {s' H'} I' => by
        have pin' : ∀ b ∈ fp1, ∀ o, s7.heap.get? b = some o → s'.heap.get? b = some o ∧ H' b = none := fun b hb o e =>
          let z := I'.pin (b, o) (List.mem_append_right _ (List.mem_append_right _ (mem_pinsAt hb e)))
          ⟨z.1, z.2.1⟩
        refine ⟨((I'.unpinned (pins := sp ++ pinsAt fp s.heap)).unpinned (pins := sp)).weak (hlen σ8 hw8).symm (fun j v e => ?_), T1.keep _ _ _ st7 fun b hb o e => (pin' b hb o e).1, fun b hb => ?_, outer I'⟩
        · rw [← hw8] at e
          exact (wipe_some e).1
        · obtain ⟨o, e, _⟩ := T1.obj _ _ st7 b hb
          exact (pin' b hb o e).2
      cases b with
      | false =>
        simp only [Bool.false_eq_true, if_false] at q9 ⊢
        obtain ⟨m', hm, w'⟩ := hNx c H9 q9
        obtain ⟨b1, b2, b3, b4, b5⟩ := back I9
        exact seg_again rfl (ih m' hm n s₀ s9 (j + 1) c sp H9 (by omega) hel hsp hs0 b1 b4 b5 b2 b3 w')
      | true =>
        simp only [if_true] at q9 ⊢
        have hy : ∀ v, yieldOut Y.env v = yieldValue v := fun v => by simp only [yieldOut, hco, Bool.false_eq_true, if_false]
        simp only [hy]
        rw [Sem.bind_eq_wrap', Sem.bind_eq_wrap', Sem.wrap_wrap, Sem.wrap_wrap]
        refine seg_wrap ?_
        rw [hA]
        refine noX (pe.run _ s9 σ8 H9 _ I9 q9) fun z s10 ⟨yv, H10, I10, r10, q10⟩ => ?_
        obtain ⟨n', rfl⟩ : ∃ n', n = n' + 1 := ⟨n - 1, by omega⟩
        obtain ⟨b1, b2, b3, b4, b5⟩ := back I10
        refine seg_at (seg_yield hsp1 rfl hgd ⟨yv, c, sp, σ1, H10, Nx1, hel, hsp, hs0, r10, b1, q10, fun c' sp' s' hel' hsp' nx wk => ?_⟩)
        obtain ⟨m', hm, w'⟩ := hNx c' H10 nx
        refine seg_again rfl (ih m' hm n' s' s' (j + 1) c' sp' H10 (by omega) hel' hsp' (fun p hp => (wk.own p hp).1) (inv_woke b1 hc hsp hsp' wk) (kO _ _ b4 fun b hb o e => wk.keep b o (hc.fp b hb) e) b5 (T1.keep _ _ _ b2 fun b hb o e => wk.keep b o (hf1.ch b hb) e) b3 w')
def GTurns2 (J : It) (C : Cons κ) (σ : L2.St) (vs : List Nat) (g : TG) (tt : TT) (wi1 : TI) (g1 : TG) (tt1 : TT) (te : TE) (vs1 : List Nat) (B : Nat) (W : Nat → Nat → κ → Hp → Prop) : Prop := ∀ i m c H, W i m c H →
  (J.stop i H ∧ C.fin c H) ∨ (J.go i H ∧ ∃ Nx : κ → Hp → Prop, (∀ c' H', Nx c' H' → ∃ m', m' < m ∧ W (i + 1) m' c' H') ∧
    ∀ x H', J.yld i H x H' → g x σ H' fun σ2 H2 => wipe σ2 vs = σ ∧ tt σ2 H2 fun b H3 => if b = true then wi1 σ2 H3 fun J1 H4 => ∃ W1 : Nat → Nat → κ → Hp → Prop, (∃ m1, m1 ≤ B ∧ W1 0 m1 c H4) ∧ GTurns J1 ⟨C.el, C.stp, Nx⟩ (wipe σ2 vs1) vs1 g1 tt1 te W1 else Nx c H3)
theorem seg_gstart1 {A : Around} {Y : Cx} {ch fp1 : List Addr} {C : Cons κ} {it1 : Addr} {t1 : Expr} {tn1 : Nat → Heap → Prop} {J1 : It} {elt t0 i0 i1 : Expr} {ifs0 ifs1 : List Expr} {scope : Scope} {pos : Pos} {n : Nat} {s₀ s : Shared} {fs1 : List Frame}
    (T1 : Turn Y.prog Y.w Y.K t1 J1 fp1 it1 tn1) (st : tn1 0 s.heap)
    (loop : Seg (model Y.prog Y.w) A (GEndR Y ch C) (GProto Y ch C) n s₀ (.compLoop (.GeneratorExp elt [⟨t0, i0, ifs0, 0⟩, ⟨t1, i1, ifs1, 0⟩] scope pos) 1 (.ref it1) .none Y.env) ((model Y.prog Y.w).den (.compLoop (.GeneratorExp elt [⟨t0, i0, ifs0, 0⟩, ⟨t1, i1, ifs1, 0⟩] scope pos) 1 (.ref it1) .none Y.env)) fs1 s) :
    Seg (model Y.prog Y.w) A (GEndR Y ch C) (GProto Y ch C) n s₀ (.compStart (.GeneratorExp elt [⟨t0, i0, ifs0, 0⟩, ⟨t1, i1, ifs1, 0⟩] scope pos) 1 (.ref it1) .none Y.env) ((model Y.prog Y.w).den (.compStart (.GeneratorExp elt [⟨t0, i0, ifs0, 0⟩, ⟨t1, i1, ifs1, 0⟩] scope pos) 1 (.ref it1) .none Y.env)) fs1 s := by
  show Seg _ A _ _ _ s₀ _ ((compStart (.GeneratorExp elt [⟨t0, i0, ifs0, 0⟩, ⟨t1, i1, ifs1, 0⟩] scope pos) 1 (.ref it1) .none Y.env).onRaise (fun x => do noteFrame x Y.env; standAt theWindowsPlace)) fs1 s
  unfold compStart
  rw [Sem.onRaise_eq_wrap]
  show Seg _ A _ _ _ s₀ _ ((ask >>= _).wrap _ _ _ _) fs1 s
  refine seg_bind_wrap (wpAny_askSetting ?_)
  split
  · exact seg_again rfl loop
  · first
      | exact seg_bind_wrap (wpAny_rule (seg_bind_wrap (wpAny_standAt (seg_bind_wrap (T1.self _ 0 s _ _ st (seg_again rfl loop))))))
      | (refine seg_bind_wrap (wpAny_rule ?_); show Seg _ A _ _ _ s₀ _ ((standAt i1.pos >>= _).wrap _ _ _ _) fs1 s; exact seg_bind_wrap (wpAny_standAt (seg_bind_wrap (T1.self _ 0 s _ _ st (seg_again rfl loop)))))
theorem seg_gloop2 {A : Around} {Y : Cx} {ch fp : List Addr} {C : Cons κ} {σ : L2.St} {vs vs1 : List Nat} {it : Addr} {tn : Nat → Heap → Prop} {J : It} {W : Nat → Nat → κ → Hp → Prop} {elt t0 i0 t1 i1 : Expr} {ifs0 ifs1 : List Expr} {scope : Scope} {pos : Pos} {g g1 : TG} {tt tt1 : TT} {te : TE} {wi1 : TI} {B : Nat}
    (hcalm : Y.calm = true) (hA : A.deeper Y.env = Y.A) (hco : Y.env.scope.isCoroutine = false) (hex : Y.ex = fp) (hxe : Y.xe = fun _ _ => False) (T : Turn Y.prog Y.w Y.K t0 J fp it tn) (pg : PG Y t0 g) (pt : PTs Y ifs0 tt) (hi1 : PI Y t1 i1 wi1) (hs1 : ∀ x, foldedSetIterable i1 Y.env x = pure x) (pg1 : PG Y t1 g1) (pt1 : PTs Y ifs1 tt1) (pe : PE Y elt te) (hc : ChOk Y fp ch) (hpf : ∀ b ∈ fp, ∀ p ∈ Y.pn, p.1 ≠ b) (hv : ∀ i ∈ vs1, i ∈ vs)
    (turn : GTurns2 J C σ vs g tt wi1 g1 tt1 te vs1 B W) (hlen : ∀ σ2 : L2.St, wipe σ2 vs = σ → σ2.length = σ.length) :
    ∀ (m n : Nat) (s₀ s : Shared), (m + 1) * (B + 1) < n → GRun Y ch C σ fp tn W m s₀ s → Seg (model Y.prog Y.w) A (GEndR Y ch C) (GProto Y ch C) n s₀ (.compLoop (.GeneratorExp elt [⟨t0, i0, ifs0, 0⟩, ⟨t1, i1, ifs1, 0⟩] scope pos) 0 (.ref it) .none Y.env)
      ((model Y.prog Y.w).den (.compLoop (.GeneratorExp elt [⟨t0, i0, ifs0, 0⟩, ⟨t1, i1, ifs1, 0⟩] scope pos) 0 (.ref it) .none Y.env)) [] s := by
  have ov : A.over (.compLoop (.GeneratorExp elt [⟨t0, i0, ifs0, 0⟩, ⟨t1, i1, ifs1, 0⟩] scope pos) 0 (.ref it) .none Y.env) [] = Y.A := hA
  have stat : ∀ {sp : List (Addr × Obj)} {σ' : L2.St} {H' : Hp} {s' : Shared}, sp.map (·.1) = ch → Inv Y sp σ' H' s' → (∀ b ∈ fp, H' b = none) → ∀ b ∈ fp, FpOk Y sp H' b := fun {sp σ' H' s'} e I' hn b hb =>
    ⟨hn b hb, (I'.ok.exf b (by rw [hex]; exact hb)).1, I'.ok.exfs b (by rw [hex]; exact hb), .inl (by rw [hex]; exact hb), fun x c e => (I'.ok.exf b (by rw [hex]; exact hb)).2 x c e, fun p hp z => by
      rcases List.mem_append.mp hp with q | q
      · exact hpf b hb p q z
      · exact hc.fp b hb (by rw [← e, ← z]; exact List.mem_map.mpr ⟨p, q, rfl⟩)⟩
  intro m
  induction m using Nat.strongRecOn with
  | ind m ih =>
    intro n s₀ s hmn ⟨i, c, sp, H5, hel, hsp, hs0, I5, st5, n5, w5⟩
    show Seg _ A _ _ _ s₀ _ ((compTurn (.GeneratorExp elt [⟨t0, i0, ifs0, 0⟩, ⟨t1, i1, ifs1, 0⟩] scope pos) 0 (.ref it) .none Y.env).onRaise (leaving Y.env)) [] s
    rw [gTurn2_out, Sem.onRaise_eq_wrap]
    refine seg_bind_wrap (wpAny_standAt ?_)
    rcases turn i m c H5 w5 with ⟨stop, qq⟩ | ⟨go, Nx, hNx, step⟩
    · refine seg_bind_wrap ?_
      rw [ov]
      refine thnF (T.done Y rfl rfl rfl hcalm i sp s σ H5 (fun _ _ => False) I5 (stat hsp I5 n5) st5 stop) fun r s6 ⟨hr, I6⟩ => ?_
      subst hr
      exact seg_end (.ok .next) ⟨rfl, c, sp, σ, H5, hel, hsp, hs0, I6, qq⟩
    · refine seg_bind_wrap ?_
      rw [ov]
      refine thnF (T.item Y rfl rfl rfl hcalm i sp s σ H5 (fun _ _ => False) I5 (stat hsp I5 n5) st5 go) fun r s6 ⟨u, hr, h6⟩ => ?_
      subst hr
      refine seg_bind_wrap ?_
      rw [ov]
      refine thnF h6 fun _ s7 ⟨x, H7, I7, r7, y7, st7, n7⟩ => ?_
      have I7' := I7.pinned (stat hsp I7 n7) (T.obj _ _ st7)
      refine seg_bind_wrap ?_
      rw [ov]
      have noX : ∀ {α : Type} {t : Sem α} {Q Q' : α → Shared → Prop} {E : Value → Shared → Prop} {s : Shared}, wpAny (model Y.prog Y.w) Y.A t Q Y.xe s → (∀ a s, Q a s → Q' a s) → wpAny (model Y.prog Y.w) Y.A t Q' E s := fun h hQ => wpAny_mono h hQ fun _ _ z => by rw [hxe] at z; exact z.elim
      refine noX (pg.run _ s7 _ H7 x u _ I7' r7 (step x H7 y7)) fun _ s8 ⟨σ8, H8, I8, hw8, q8⟩ => ?_
      refine seg_bind_wrap ?_
      rw [ov]
      refine noX (pt.run _ s8 σ8 H8 _ I8 q8) fun b s9 ⟨H9, I9, q9⟩ => ?_
      have keepO : ∀ {s' : Shared} {H' : Hp} {σ' : L2.St}, Inv Y (sp ++ pinsAt fp s7.heap) σ' H' s' → tn (i + 1) s'.heap ∧ ∀ b ∈ fp, H' b = none := fun {s' H' σ'} I' => by
        have pin' : ∀ b ∈ fp, ∀ o, s7.heap.get? b = some o → s'.heap.get? b = some o ∧ H' b = none := fun b hb o e =>
          let z := I'.pin (b, o) (List.mem_append_right _ (List.mem_append_right _ (mem_pinsAt hb e)))
          ⟨z.1, z.2.1⟩
        refine ⟨T.keep _ _ _ st7 fun b hb o e => (pin' b hb o e).1, fun b hb => ?_⟩
        obtain ⟨o, e, _⟩ := T.obj _ _ st7 b hb
        exact (pin' b hb o e).2
      cases b with
      | false =>
        simp only [Bool.false_eq_true, if_false] at q9 ⊢
        obtain ⟨m', hm, w'⟩ := hNx c H9 q9
        obtain ⟨b2, b3⟩ := keepO I9
        have hm2 : (m' + 1) * (B + 1) ≤ (m + 1) * (B + 1) := Nat.mul_le_mul_right _ (by omega)
        exact seg_again rfl (ih m' hm n s₀ s9 (by omega) ⟨i + 1, c, sp, H9, hel, hsp, hs0, (I9.unpinned (pins := sp)).weak (hlen σ8 hw8).symm (fun j v e => by rw [← hw8] at e; exact (wipe_some e).1), b2, b3, w'⟩)
      | true =>
        simp only [if_true] at q9 ⊢
        refine seg_bind_wrap ?_
        rw [ov]
        refine noX (hi1.run _ s9 σ8 H9 _ I9 q9) fun xv s10 hx => ?_
        refine seg_bind_wrap (wpAny_standAt ?_)
        refine seg_bind_wrap (wpAny_of_eq (hs1 xv) ?_)
        refine seg_bind_wrap (wpAny_holding ?_)
        rw [ov]
        refine noX hx fun itv s11 h11 => ?_
        obtain ⟨it1, fp1, tn1, J1, H11, e, I11, T1, st11, f11, W1, ⟨m1, hm1, w1⟩, turn1⟩ := h11
        subst e
        obtain ⟨b2, b3⟩ := keepO I11
        have obj7 := T.obj _ _ st7
        have hf1 : F1Ok Y fp1 fp ch := by
          refine ⟨fun b hb => (f11 b hb).2.1, fun b hb => (f11 b hb).2.2.1, fun b hb => (f11 b hb).2.2.2.1, fun b hb => (f11 b hb).2.2.2.2.1, fun b hb p hp => (f11 b hb).2.2.2.2.2 p (List.mem_append_left _ hp), fun b hb hc' => ?_, fun b hb hf => ?_⟩
          · rw [← hsp] at hc'
            obtain ⟨p, hp, e⟩ := List.mem_map.mp hc'
            exact (f11 b hb).2.2.2.2.2 p (List.mem_append_right _ (List.mem_append_left _ hp)) e
          · obtain ⟨o, e, _⟩ := obj7 b hf
            exact (f11 b hb).2.2.2.2.2 (b, o) (List.mem_append_right _ (List.mem_append_right _ (mem_pinsAt hf e))) rfl
        have ws : ∀ (j : Nat) v, σ[j]? = some (some v) → (wipe σ8 vs1)[j]? = some (some v) := fun j v e => by
          rw [← hw8] at e
          obtain ⟨e1, e2⟩ := wipe_some e
          rw [wipe_out fun z => e2 (hv j z)]
          exact e1
        refine seg_call fun p => ?_
        refine seg_gstart1 T1 st11 ?_
        refine seg_gin (Y := Y) (A := A) (C := C) (fp := fp) (fp1 := fp1) (ch := ch) (σ1 := wipe σ8 vs1) (vs1 := vs1) (J1 := J1) (W1 := W1) (Nx := Nx) (tnO := tn (i + 1)) (base := m * (B + 1)) hcalm ((over_loop rfl rfl).trans ov) rfl rfl hco hxe T1 pg1 pt1 pe hc hf1 turn1 (fun σ2 e => by rw [← e, wipe_length])
          (T.keep (i + 1)) (T.obj (i + 1)) stat (fun n' s₀' s' c' sp' H' hn' hel' hsp' hs0' I' hO' nO' nx => ?_) m1 n s₀ s11 0 c sp H11 ?_ hel hsp hs0 ((I11.unpinned (pins := sp)).weak (wipe_length _ _) (fun j v e => (wipe_some e).1)) b2 b3 st11 (fun b hb => (f11 b hb).1) w1
        · obtain ⟨m', hm, w'⟩ := hNx c' H' nx
          have hm2 : (m' + 1) * (B + 1) ≤ m * (B + 1) := Nat.mul_le_mul_right _ (by omega)
          refine seg_leaf (.ok .next) ?_
          exact seg_again rfl (ih m' hm n' s₀' s' (by omega) ⟨i + 1, c', sp', H', hel', hsp', hs0', I'.weak (by rw [wipe_length]; exact (hlen σ8 hw8).symm) ws, hO', nO', w'⟩)
        · have e : (m + 1) * (B + 1) = m * (B + 1) + (B + 1) := by rw [Nat.add_mul, Nat.one_mul]
          omega
end
end Bz
set_option Elab.async false
set_option linter.all false
set_option maxRecDepth 100000
set_option autoImplicit false
namespace Bz
open L2 PySem PySem.Spec PyProof.Rows GenW

/-- the parts of such an expression's making, in their order -/
theorem genexp2_eval (elt tg iter tg1 iter1 : Expr) (ifs ifs1 : List Expr) (sc : Scope) (pos : Pos) (env : Env) (hco : sc.isCoroutine = false) : eval (.GeneratorExp elt [⟨tg, iter, ifs, 0⟩, ⟨tg1, iter1, ifs1, 0⟩] sc pos) env =
    (eval iter env >>= fun v => standAt iter.pos >>= fun _ => genFold iter env v >>= fun v => holding [v] (pyIter v) >>= fun iv => enterFrame >>= fun _ => closureFor sc env >>= fun cells => genexprCode env pos (env.qual ++ "<genexpr>") sc >>= fun co => builtinsFor env.globals env.builtins >>= fun b =>
      newFunctionEnv sc env.globals cells [(".0", iv)] (env.qual ++ "<genexpr>.") none co none b >>= fun ce => newGenerator (.compStart (.GeneratorExp elt [⟨tg, iter, ifs, 0⟩, ⟨tg1, iter1, ifs1, 0⟩] sc pos) 0 iv .none ce) "<genexpr>" (env.qual ++ "<genexpr>")) := by
  rw [arm_eval_GeneratorExp]; simp only [hco, Bool.false_eq_true, if_false]; cases iter <;> rfl
theorem dot_names (iv : Value) : (fun y : Str => ([((".0" : Str), iv)] : List (Str × Value)).reverse.lookup y) = fun y : Str => if y = (".0" : Str) then some iv else none := funext fun y => by
  by_cases q : y = ".0"
  · subst q; simp
  · have q2 : (y == (".0" : Str)) = false := by simpa using q
    simp [List.lookup, q2, q]
theorem genexp2_make {M : Model} {A : Around} {E : Value → Shared → Prop} {s : Shared} {env : Env} {elt tg iter tg1 iter1 : Expr} {ifs ifs1 : List Expr} {sc : Scope} {cells : List (Str × Addr)} {pos : Pos} {Q : Value → Shared → Prop} (hco : sc.isCoroutine = false) (hcl : closureFor sc env = pure cells) (noc : ∀ y ∈ sc.names, y.2 ≠ .cell)
    (dot : sc.names.lookup (".0" : Str) = some NameKind.local) (hk : sc.kind = .function) (room : A.depth < recursionLimit)
    (h : wpAny M A (eval iter env) (fun v s1 => wpAny M A (pyIter v) (fun iv s2 => s2.heap.NoLimit ∧ wpAny M A (genexprCode env pos (env.qual ++ "<genexpr>") sc) (fun co s3 => wpAny M A (builtinsFor env.globals env.builtins) (fun b s4 => ∀ h', h'.Ns s4.heap.objs.size (fun y => if y = ".0" then some iv else none) → Heap.SameBut s4.heap.objs.size (s4.heap.push { cls := .type "frame", data := .dict #[] }) h' →
      Q (.ref h'.objs.size) { s4 with gens := s4.gens.push (.fresh (.compStart (.GeneratorExp elt [⟨tg, iter, ifs, 0⟩, ⟨tg1, iter1, ifs1, 0⟩] sc pos) 0 iv .none (genEnv sc cells s4.heap.objs.size co b env))), toks := s4.toks + 1 + 1 + 1,
                                      heap := h'.push { cls := .type "generator", data := .fields #[.int s4.gens.size 0, .str "<genexpr>" (s4.toks + 1), .str (env.qual ++ "<genexpr>") (s4.toks + 1 + 1)] } }) E s3) E s2) E s1) E s) (hs : ∀ v, genFold iter env v = pure v) :
    wpAny M A (eval (.GeneratorExp elt [⟨tg, iter, ifs, 0⟩, ⟨tg1, iter1, ifs1, 0⟩] sc pos) env) Q E s := by
  rw [genexp2_eval _ _ _ _ _ _ _ _ _ _ hco, hcl]
  refine wpAny_bind (thn h fun v s1 h1 => wpAny_bind (wpAny_standAt (wpAny_bind (wpAny_of_eq (hs v) (wpAny_bind (wpAny_holding (thn h1 fun iv s2 h2 => ?_)))))))
  refine wpAny_bind (wpAny_enterFrame h2.1 room (wpAny_bind (wpAny_pure (wpAny_bind (thn h2.2 fun co s3 h3 => wpAny_bind (thn h3 fun b s4 h4 => ?_))))))
  refine wpAny_bind (wpAny_newFunctionEnv noc (fun y hy => by rw [List.mem_singleton.mp hy]; exact dot) (fun h' k1 k2 => ?_) hk)
  rw [dot_names] at k1
  simp only [newGenerator, newFields]
  exact wpAny_bind (wpAny_newGen (wpAny_bind (wpAny_mkText (wpAny_bind (wpAny_mkText (wpAny_newObj_type (h4 h' k1 k2) (by size_fits)))))))
section
variable {X : Cx} {pins : List (Addr × Obj)} {σ : L2.St} {H : Hp} {s : Shared}
theorem seg_gstart2 {κ : Type} {A : Around} {Y : Cx} {ch : List Addr} {C : Cons κ} {it : Addr} {tg : Expr} {tn : Nat → Heap → Prop} {J : It} {elt iter tg1 iter1 : Expr} {ifs ifs1 : List Expr} {scope : Scope} {pos : Pos} {n : Nat} {s₀ s : Shared} {fp : List Addr}
    (T : Turn Y.prog Y.w Y.K tg J fp it tn) (st : tn 0 s.heap)
    (loop : Seg (model Y.prog Y.w) A (GEndR Y ch C) (GProto Y ch C) n s₀ (.compLoop (.GeneratorExp elt [⟨tg, iter, ifs, 0⟩, ⟨tg1, iter1, ifs1, 0⟩] scope pos) 0 (.ref it) .none Y.env) ((model Y.prog Y.w).den (.compLoop (.GeneratorExp elt [⟨tg, iter, ifs, 0⟩, ⟨tg1, iter1, ifs1, 0⟩] scope pos) 0 (.ref it) .none Y.env)) [] s) :
    Seg (model Y.prog Y.w) A (GEndR Y ch C) (GProto Y ch C) n s₀ (.compStart (.GeneratorExp elt [⟨tg, iter, ifs, 0⟩, ⟨tg1, iter1, ifs1, 0⟩] scope pos) 0 (.ref it) .none Y.env) ((model Y.prog Y.w).den (.compStart (.GeneratorExp elt [⟨tg, iter, ifs, 0⟩, ⟨tg1, iter1, ifs1, 0⟩] scope pos) 0 (.ref it) .none Y.env)) [] s := by
  show Seg _ A _ _ _ s₀ _ ((compStart (.GeneratorExp elt [⟨tg, iter, ifs, 0⟩, ⟨tg1, iter1, ifs1, 0⟩] scope pos) 0 (.ref it) .none Y.env).onRaise (leaving Y.env)) [] s
  unfold compStart
  rw [Sem.onRaise_eq_wrap]
  show Seg _ A _ _ _ s₀ _ ((ask >>= _).wrap _ _ _ _) [] s
  refine seg_bind_wrap (wpAny_askSetting ?_)
  split
  · exact seg_again rfl loop
  · first
      | exact seg_bind_wrap (wpAny_rule (seg_bind_wrap (wpAny_standAt (seg_bind_wrap (T.self _ 0 s _ _ st (seg_again rfl loop))))))
      | (refine seg_bind_wrap (wpAny_rule ?_); show Seg _ A _ _ _ s₀ _ ((standAt iter.pos >>= _).wrap _ _ _ _) [] s; exact seg_bind_wrap (wpAny_standAt (seg_bind_wrap (T.self _ 0 s _ _ st (seg_again rfl loop)))))
structure GReady2 (X : Cx) (pins : List (Addr × Obj)) (σ : L2.St) (vs : List Nat) (J : It) (g : TG) (tt : TT) (wi1 : TI) (g1 : TG) (tt1 : TT) (te : TE) (vs1 : List Nat) (B : Nat) (scope : Scope) (s : Shared) (H : Hp) (code : Value) (fp : List Addr) (a : Addr) (go : Obj) (gn : Nat) (s5 : Shared) : Prop where
  goo : ∀ h : Heap, h.get? a = some go → h.IsGen a gn
  gen : s5.heap.IsGen a gn
  bare : AllBare s5.gens
  cok : ∀ ch : List Addr, (∀ b ∈ ch, s5.heap.objs.size ≤ b) → ChOk (gY X s H scope code fp a go) fp ch
  rest : ∀ (κ : Type) (ch : List Addr) (C : Cons κ) (c0 : κ) (sp0 : List (Addr × Obj)) (s6 : Shared) (m : Nat) (W : Nat → Nat → κ → Hp → Prop), (∀ b ∈ ch, s5.heap.objs.size ≤ b) → C.el c0 sp0 → sp0.map (·.1) = ch → s6.gens = s5.gens → s6.os = s5.os → (∀ b o, s5.heap.get? b = some o → s6.heap.get? b = some o) →
    (∀ p ∈ sp0, s6.heap.get? p.1 = some p.2 ∧ ∀ v, p.2.data ≠ .cell v) → W 0 m c0 H → GTurns2 J C (wipe σ vs) vs g tt wi1 g1 tt1 te vs1 B W → GSt (gY X s H scope code fp a go) ch C X.A.in1.in1 a gn ((m + 1) * (B + 1) + 1) s6
  back : ∀ (sp : List (Addr × Obj)) (σ' : L2.St) (H' : Hp) (s' : Shared), Inv (gY X s H scope code fp a go) sp σ' H' s' → Inv X pins σ H' s'
theorem gx_make2 {T : List (Addr × Str)} {c P : Addr} {k : Nat} {elt tg iter tg1 iter1 : Expr} {ifs ifs1 : List Expr} {scope : Scope} {own : List (Str × Nat)} {pos : Pos} {wi wi1 : TI} {g g1 : TG} {tt tt1 : TT} {te : TE} {vs1 : List Nat} {B : Nat} {Q' : Value → Shared → Prop} {R : It → Hp → Prop} (hr : Room k X.A) (hcalm : X.calm = true) (hN : X.N.Nodup) (TB : LamX.TabB X.base X.mg c P) (hcode : X.env.code = .ref c)
    (hm : (P, X.env.qual ++ "<genexpr>") ∈ T) (hu : ∀ p ∈ T, p.1 = P → p.2 = X.env.qual ++ "<genexpr>") (hi : PI X tg iter wi) (ok : BlkOk X.N X.env.scope scope own) (noc : ∀ y ∈ scope.names, y.2 ≠ .cell) (hco : scope.isCoroutine = false) (h0 : scope.names.lookup (".0" : Str) = some NameKind.local)
    (hg : GWithin X scope fun Y => PG Y tg g) (ht : GWithin X scope fun Y => PTs Y ifs tt) (hi1 : GWithin X scope fun Y => PI Y tg1 iter1 wi1) (hg1 : GWithin X scope fun Y => PG Y tg1 g1) (ht1 : GWithin X scope fun Y => PTs Y ifs1 tt1) (hs1 : ∀ env x, foldedSetIterable iter1 env x = pure x) (hv : ∀ i ∈ vs1, i ∈ own.map (·.2)) (he : GWithin X scope fun Y => PE Y elt te) (hs : ∀ x, genFold iter X.env x = pure x) (I : Inv X pins σ H s)
    (h : wi σ H fun J H1 => LamX.Tabs T H1 ∧ R J H1) (hQ : ∀ J H1 H2 s4 code fp a go gn s5, R J H1 → LamX.ExtN H1 H2 → LamX.Tabs T H2 → GReady2 X pins σ (own.map (·.2)) J g tt wi1 g1 tt1 te vs1 B scope s4 H2 code fp a go gn s5 → Q' (.ref a) s5) :
    wpAny (model X.prog X.w) X.A (eval (.GeneratorExp elt [⟨tg, iter, ifs, 0⟩, ⟨tg1, iter1, ifs1, 0⟩] scope pos) X.env) Q' X.xe s := by
  have hfree : ∀ y ∈ scope.names, y.2 = .free → ∃ c, X.env.cells.lookup y.1 = some c := fun y hy e => by
    rcases ok.free y hy e with k | k
    · exact I.ok.has _ (.inl k)
    · exact I.ok.has _ (.inr k)
  refine genexp2_make hco (closure_ok hfree) noc h0 ok.kind (by have := hr.dp; omega) ?_ hs
  refine thn (hi.run pins s σ H _ I h) fun xv s1 hx => thn hx fun itv s2 h2 => ?_
  obtain ⟨it, fp, tn, J, H1, e, I2, Tn, st2, f2, hT, q⟩ := h2
  subst e
  refine ⟨I2.nolimit, gen_code I2 TB hcode hm hu hT fun code H2 s3 I3 eN T2 nfr kp3 sz3 => ?_⟩
  obtain ⟨bm, ob, e1, e2, e3, e4, e5, e6, e7, e8⟩ := TB.bm.keeps I3.bk
  refine wpAny_builtinsFor (m := X.mg) (by rw [I3.ok.glob]; exact I3.mod.glob.keeps I3.bk) e1 e2 e5 e6 e7 e8 ?_
  intro h' hn' hs'
  have sz' : h'.objs.size = s3.heap.objs.size + 1 := by rw [hs'.1, Heap.size_push]
  have keep' : ∀ b o, s3.heap.get? b = some o → h'.get? b = some o := fun b o e => hs'.extBut b o (Nat.ne_of_lt (Heap.lt_size e)) (Heap.get?_push_of_some _ e)
  have lt3 : ∀ b ∈ fp, b < s3.heap.objs.size := fun b hb => by
    obtain ⟨o, e, _⟩ := Tn.obj _ _ st2 b hb
    exact Nat.lt_of_lt_of_le (Heap.lt_size e) sz3
  have f3 : ∀ b ∈ fp, FpOk X pins H2 b ∧ b < s3.heap.objs.size := fun b hb => by
    obtain ⟨o, e, _⟩ := Tn.obj _ _ st2 b hb
    exact ⟨⟨nfr b (f2 b hb).1 (Heap.lt_size e), (f2 b hb).2⟩, lt3 b hb⟩
  have nP : ∀ b ∈ fp, b ≠ P := fun b hb z => by
    obtain ⟨ps, hP, _⟩ := hT _ hm
    have z2 := (f2 b hb).1
    rw [z] at z2
    rw [show H1 P = some (.tbl ps) from hP] at z2
    cases z2
  have st3 : tn 0 s3.heap := Tn.keep _ _ _ st2 fun b hb o e => kp3 b o (nP b hb) e
  generalize hgo : ({ cls := .type "generator", data := .fields #[.int s3.gens.size 0, .str "<genexpr>" (s3.toks + 1), .str (X.env.qual ++ "<genexpr>") (s3.toks + 1 + 1)] } : Obj) = go
  have goo : ∀ h : Heap, h.get? h'.objs.size = some go → h.IsGen h'.objs.size s3.gens.size := fun h e => ⟨go, _, _, e, by rw [← hgo], by rw [← hgo], by rw [← hgo]⟩
  have ga : (h'.push go).get? h'.objs.size = some go := Heap.get?_push_size _ (by rw [← hgo]; rfl)
  have gd : ∀ v, go.data ≠ .cell v := fun v z => by rw [← hgo] at z; cases z
  have kp5 : ∀ b o, s3.heap.get? b = some o → (h'.push go).get? b = some o := fun b o e => Heap.get?_push_of_some _ (keep' b o e)
  have bare5 : AllBare (s3.gens.push (.fresh (.compStart (.GeneratorExp elt [⟨tg, iter, ifs, 0⟩, ⟨tg1, iter1, ifs1, 0⟩] scope pos) 0 (.ref it) .none (gEnv X scope s3.heap.objs.size code)))) := I3.bare.push rfl
  refine hQ J H1 H2 s3 code fp h'.objs.size go s3.gens.size _ q eN T2 ⟨goo, goo _ ga, bare5, fun ch hch => ?_, ?_, ?_⟩
  · have hch : ∀ b ∈ ch, s3.heap.objs.size + 2 ≤ b := fun b hb => by
      have h1 : (h'.push go).objs.size ≤ b := hch b hb
      rw [Heap.size_push] at h1
      omega
    refine ⟨fun b hb => by have := hch b hb; show s3.heap.objs.size ≤ b; omega, fun b hb => Nat.ne_of_gt (Nat.lt_of_lt_of_le (Nat.lt_add_of_pos_right (by decide : 0 < 2)) (hch b hb)), fun b hb x c' ec z => ?_, fun p hp hb => ?_, fun b hb hc => ?_⟩
    · have ec : (cloFrom X.env.cells scope.names []).lookup x = some c' := ec
      rcases cloFrom_mem (PySem.mem_of_lookup ec) with hm | ⟨h1, h2⟩
      · cases hm
      · obtain ⟨c1, hc1⟩ := hfree _ h1 rfl
        have hc1 : X.env.cells.lookup x = some c1 := hc1
        have e2 : c' = c1 := by rw [h2, hc1]; rfl
        rw [← e2] at hc1
        obtain ⟨v, q⟩ := I3.cell x c' hc1
        have h3 := q.lt
        have h4 := hch b hb
        rw [z] at h3
        exact absurd (Nat.lt_of_lt_of_le h3 (Nat.le_trans (Nat.le_add_right _ 2) h4)) (Nat.lt_irrefl _)
    · rw [List.mem_singleton.mp hp] at hb
      have h4 := hch _ hb
      have h5 : s3.heap.objs.size + 2 ≤ h'.objs.size := h4
      omega
    · exact absurd (Nat.lt_of_lt_of_le (lt3 b hb) (Nat.le_trans (Nat.le_add_right _ 2) (hch b hc))) (Nat.lt_irrefl _)
  · intro κ ch C c0 sp0 s6 m W hch hel hsp hgens hos hkeep hown hW hturn
    have hch' : ∀ b ∈ ch, s3.heap.objs.size + 2 ≤ b := fun b hb => by
      have h1 : (h'.push go).objs.size ≤ b := hch b hb
      rw [Heap.size_push] at h1
      omega
    have cok : ChOk (gY X s3 H2 scope code fp h'.objs.size go) fp ch := by
      refine ⟨fun b hb => by have := hch' b hb; show s3.heap.objs.size ≤ b; omega, fun b hb => Nat.ne_of_gt (Nat.lt_of_lt_of_le (Nat.lt_add_of_pos_right (by decide : 0 < 2)) (hch' b hb)), fun b hb x c' ec z => ?_, fun p hp hb => ?_, fun b hb hc => ?_⟩
      · have ec : (cloFrom X.env.cells scope.names []).lookup x = some c' := ec
        rcases cloFrom_mem (PySem.mem_of_lookup ec) with hm | ⟨h1, h2⟩
        · cases hm
        · obtain ⟨c1, hc1⟩ := hfree _ h1 rfl
          have hc1 : X.env.cells.lookup x = some c1 := hc1
          have e2 : c' = c1 := by rw [h2, hc1]; rfl
          rw [← e2] at hc1
          obtain ⟨v, q⟩ := I3.cell x c' hc1
          have h3 := q.lt
          have h4 := hch' b hb
          rw [z] at h3
          exact absurd (Nat.lt_of_lt_of_le h3 (Nat.le_trans (Nat.le_add_right _ 2) h4)) (Nat.lt_irrefl _)
      · rw [List.mem_singleton.mp hp] at hb
        have h5 : s3.heap.objs.size + 2 ≤ h'.objs.size := hch' _ hb
        omega
      · exact absurd (Nat.lt_of_lt_of_le (lt3 b hb) (Nat.le_trans (Nat.le_add_right _ 2) (hch' b hc))) (Nat.lt_irrefl _)
    have k6 : ∀ b o, s3.heap.get? b = some o → s6.heap.get? b = some o := fun b o e => hkeep b o (kp5 b o e)
    have I6 : ∀ g6 : Array GenState, AllBare g6 → Inv (gY X s3 H2 scope code fp h'.objs.size go) sp0 (wipe σ (own.map (·.2))) H2 { s6 with gens := g6 } := fun g6 hg6 => by
      have J6 := gb_start (A := X.A.in1.in1.deeper (gEnv X scope s3.heap.objs.size code)) (code := code) (pn := [(h'.objs.size, go)]) (sp := sp0) (h5 := s6.heap) (g5 := g6) (t5 := s6.toks) I3 ok noc hN f3 (Around.frames_deeper (show X.A.in1.in1.frames = some X.stack from I3.ok.frames)) hr.hd k6
        (Heap.Ns.keeps (hn'.push _) fun b o e => hkeep b o e) hg6 (fun p hp => ?_)
      · refine inv_woke J6 cok hsp hsp ⟨?_, hg6, fun b o _ e => e, fun p hp => hown p hp⟩
        exact hos
      · rcases List.mem_append.mp hp with z | z
        · rw [List.mem_singleton.mp z]
          exact ⟨hkeep _ _ ga, by show s3.heap.objs.size < h'.objs.size; omega, gd⟩
        · refine ⟨(hown p z).1, ?_, (hown p z).2⟩
          have h4 := hch' p.1 (by rw [← hsp]; exact List.mem_map.mpr ⟨p, z, rfl⟩)
          omega
    refine ⟨goo _ (hkeep _ _ ga), I3.nolimit.keeps k6, .fresh (.compStart (.GeneratorExp elt [⟨tg, iter, ifs, 0⟩, ⟨tg1, iter1, ifs1, 0⟩] scope pos) 0 (.ref it) .none (gEnv X scope s3.heap.objs.size code)), by rw [hgens]; exact Array.getElem?_push_size .., rfl, ?_⟩
    have hb6 : AllBare s6.gens := by rw [hgens]; exact bare5
    have st6 : tn 0 s6.heap := Tn.keep _ _ _ st3 fun b _ o e => k6 b o e
    refine seg_gstart2 (Y := gY X s3 H2 scope code fp h'.objs.size go) (A := X.A.in1.in1) Tn st6 (seg_gloop2 (Y := gY X s3 H2 scope code fp h'.objs.size go) (A := X.A.in1.in1) (W := W) hcalm rfl hco rfl rfl Tn (hg s3 H2 code fp _ go) (ht s3 H2 code fp _ go) (hi1 s3 H2 code fp _ go) (hs1 _) (hg1 s3 H2 code fp _ go) (ht1 s3 H2 code fp _ go) (he s3 H2 code fp _ go) cok (fun b hb p hp z => ?_) hv hturn (fun σ2 e => ?_) m ((m + 1) * (B + 1) + 1) _ _ (Nat.lt_succ_self _)
      ⟨0, c0, sp0, H2, hel, hsp, fun p hp => (hown p hp).1, I6 _ (allBare_setGen hb6 rfl), st6, fun b hb => (f3 b hb).1.1, hW⟩)
    · rw [List.mem_singleton.mp hp] at z
      have h3 : h'.objs.size < s3.heap.objs.size := Nat.lt_of_le_of_lt (Nat.le_of_eq z) (lt3 b hb)
      omega
    · rw [← e, wipe_length]
  · intro sp σ' H' s' J'
    exact I3.call' (ch := fp) J'.os J'.base J'.hok J'.bare fun b hb => ⟨(f3 b hb).1.2.2.2.1, (f3 b hb).1.2.1, (f3 b hb).1.2.2.2.2.1, (f3 b hb).1.2.2.2.2.2⟩
end
section
variable {X : Cx} {T : List (Addr × Str)} {c P : Addr} {k : Nat} {elt tg iter : Expr} {ifs : List Expr} {scope : Scope} {own : List (Str × Nat)} {p pos gpos : Pos} {wi : TI} {g : TG} {tt : TT} {te : TE}
def tGx2 {κ : Type} (T : List (Addr × Str)) (wi : TI) (vs : List Nat) (g : TG) (tt : TT) (wi1 : TI) (g1 : TG) (tt1 : TT) (te : TE) (vs1 : List Nat) (B : Nat) (c0 : κ) (C : VK → Cons κ) : TE := fun σ H Q => wi σ H fun J H1 => LamX.Tabs T H1 ∧ ∀ H2, LamX.ExtN H1 H2 → LamX.Tabs T H2 → ∃ W : Nat → Nat → κ → Hp → Prop, (∃ m, W 0 m c0 H2) ∧ GTurns2 J (C Q) (wipe σ vs) vs g tt wi1 g1 tt1 te vs1 B W
theorem pe_sumG2 {tg1 iter1 : Expr} {ifs1 : List Expr} {wi1 : TI} {g1 : TG} {tt1 : TT} {vs1 : List Nat} {B : Nat} (M : GMk X T c P k scope own) (hg : L2.Gl X "sum") (hmg : X.mg "sum" = none) (hi : PI X tg iter wi) (hG : GWithin X scope fun Y => PG Y tg g) (ht : GWithin X scope fun Y => PTs Y ifs tt) (hi1 : GWithin X scope fun Y => PI Y tg1 iter1 wi1) (hg1 : GWithin X scope fun Y => PG Y tg1 g1) (ht1 : GWithin X scope fun Y => PTs Y ifs1 tt1) (he : GWithin X scope fun Y => PE Y elt te) (hv : ∀ i ∈ vs1, i ∈ own.map (·.2)) (hs1 : ∀ env x, foldedSetIterable iter1 env x = pure x := by intro _ _; rfl) (hs : ∀ x, genFold iter X.env x = pure x := by intro _; rfl)
    (hst : starEach [.GeneratorExp elt [⟨tg, iter, ifs, 0⟩, ⟨tg1, iter1, ifs1, 0⟩] scope gpos] X.env = (false, eval (.GeneratorExp elt [⟨tg, iter, ifs, 0⟩, ⟨tg1, iter1, ifs1, 0⟩] scope gpos) X.env) :: starEach [] X.env := by rfl) :
    PE X (.Call (.Name "sum" p) [.GeneratorExp elt [⟨tg, iter, ifs, 0⟩, ⟨tg1, iter1, ifs1, 0⟩] scope gpos] [] pos) (tGx2 T wi (own.map (·.2)) g tt wi1 g1 tt1 te vs1 B 0 (cSum 0)) := by
  refine ⟨fun pins s σ H Q I h => ?_⟩
  refine wpAny_Call_Name_kw (ld_blt I hg hmg PyProof.Rows.boot_sum ?_)
  refine PyProof.Rows.callWith_builtin1 ?_ hst (by rfl)
  rw [hst]
  show wpAny _ _ (spliced ((false, eval (.GeneratorExp elt [⟨tg, iter, ifs, 0⟩, ⟨tg1, iter1, ifs1, 0⟩] scope gpos) X.env) :: backTo pos (starEach [] X.env))) _ _ s
  refine Calls.spliced_cons (gx_make2 (B := B) M.hr M.calm M.nd M.TB M.code M.mem M.one hi M.ok M.noc M.co M.dot hG ht hi1 hg1 ht1 hs1 hv he hs I h fun J H1 H2 s4 code fp a go gn s5 hR eN T2 rdy => ?_)
  refine Calls.spliced_nil ?_
  obtain ⟨W, ⟨m, w⟩, turns⟩ := hR H2 eN T2
  refine call_function_tree F.kind_sum F.plain_sum F.entry_sum (F.args_sum1 _) ?_
  unfold Builtin.«sum»
  simp only [List.length_cons, List.length_nil]
  rw [if_neg (by decide)]
  refine wpAny_bind (wpAny_of_eq (show Builtin.Builtins.bindParams "sum" ["start"] 0 { } = pure [none] from rfl) ?_)
  refine wpAny_bind (wpAny_pyIter_gen rdy.gen ?_)
  refine wpAny_bind (wpAny_mkInt ?_)
  refine wpAny_bind (wpAny_pure ?_)
  simp only [List.forIn_cons, List.forIn_nil]
  refine wpAny_bind (wpAny_bind (wpAny_bind (wpAny_isInstance (T := "int") (b := false) (typeIs_int _ _ _) PySem.sub_int_str ?_)))
  simp only [Bool.false_eq_true, if_false]
  refine wpAny_pure (wpAny_bind (wpAny_bind (wpAny_isInstance (T := "int") (b := false) (typeIs_int _ _ _) PySem.sub_int_bytes ?_)))
  simp only [Bool.false_eq_true, if_false]
  refine wpAny_pure (wpAny_bind (wpAny_bind (wpAny_isInstance (T := "int") (b := false) (typeIs_int _ _ _) PySem.sub_int_bytearray ?_)))
  simp only [Bool.false_eq_true, if_false]
  refine wpAny_pure (wpAny_pure ?_)
  refine wpAny_bind (wpAny_newObj_type ?_)
  have hS : ∀ b ∈ [s5.heap.objs.size], s5.heap.objs.size ≤ b := fun b hb => Nat.le_of_eq (List.mem_singleton.mp hb).symm
  refine wpAny_pure ⟨plainId_quiet F.plain_sum_loop _, sum_run (Y := gY X s4 H2 scope code fp a go) (g := gn) (go := go) (fp := fp) (Qv := Q) (S := s5.heap.objs.size) M.hr.hd (by have := M.hr.dp; show X.A.depth < _; omega) rfl rdy.goo (rdy.cok _ hS) (fun n t sp σ' H' s' I' q => ?_) ((m + 1) * (B + 1) + 1) 0 s5.toks 0 _ (Heap.get?_push_size _ rfl)
    (rdy.rest Int [s5.heap.objs.size] (cSum s5.heap.objs.size Q) 0 [(s5.heap.objs.size, sumObj 0 s5.toks 0)] _ m W hS ⟨_, _, rfl⟩ rfl rfl rfl (fun _ _ e => Heap.get?_push_of_some _ e) (fun p hp => ?_) w turns)⟩
  · exact ⟨.int n, H', rdy.back _ _ _ _ I', ⟨t, rfl⟩, q⟩
  · rw [List.mem_singleton.mp hp]
    exact ⟨Heap.get?_push_size _ rfl, fun v z => by cases z⟩
end
end Bz
set_option Elab.async false
set_option linter.all false
set_option maxRecDepth 100000
set_option autoImplicit false
namespace Bz
open L2 PySem PySem.Spec PyProof.Rows GenW

def gxB {κ : Type} (stp : κ → D → Option (κ ⊕ D)) (B : Nat) (c : Ec) (f1 : Ei) (t1 : Tg) (vs1 : List Nat) (c1 : Ec) (g : Ev) : κ → Rho → List O → R (κ ⊕ D) := fun k r h => (c r h).no.bind fun b h1 => if b then (f1 r h1).no.bind fun v1 h2 => gxL stp v1 t1 (wipeR r vs1) (gxT c1 g) B 0 k h2 else .ok (.inl k) h1
def gxA {κ : Type} (v : IV) (t : Tg) (r0 : Rho) (b : κ → Rho → List O → R (κ ⊕ D)) : Nat → Nat → κ → List O → R (κ ⊕ D)
  | 0, _, _, _ => .bad
  | n + 1, k, c, h => match itemAt v k h with
    | some none => .ok (.inl c) h
    | some (some d) => match setTg t d r0 with
      | some r1 => (b c r1 h).bind fun o h1 => match o with
        | .inl c' => gxA v t r0 b n (k + 1) c' h1
        | .inr d' => .ok (.inr d') h1
      | none => .bad
    | none => .bad
def evGx2 {κ : Type} (stp : κ → D → Option (κ ⊕ D)) (fin : κ → D) (c0 : κ) (B : Nat) (f : Ei) (t : Tg) (vs : List Nat) (c : Ec) (f1 : Ei) (t1 : Tg) (vs1 : List Nat) (c1 : Ec) (g : Ev) : Ev := fun r h => (f r h).bind fun v h1 => (gxA v t (wipeR r vs) (gxB stp B c f1 t1 vs1 c1 g) (fuelV h1 v + 1) 0 c0 h1).bind fun o h2 => .ok (gxE fin o) h2
abbrev evSum2 := evGx2 sumS (fun n => .int n) (0 : Int)
section
variable {G : Gl} {X : Cx} {W : WX} {k : Nat} {S : Wd} {h : List O}
/-- the turns of an inner clause -/
theorem gx_turns {κ : Type} {E : XK} {el : κ → List (Addr × Obj) → Prop} {stC : κ → V → (κ → Hp → Prop) → Hp → Prop} {Fin : κ → Hp → Prop} {stp : κ → D → Option (κ ⊕ D)} {fn : κ ⊕ D → List O → R T} {t : Tg} {vs : List Nat} {c : Ec} {g : Ev} {s : L2.St} {r : Rho} {S1 : Wd} {v : IV} {J : It} {Q : VK}
    (hK : X.K = G.K) (hin : tgIn vs t = true) (e1 : Ext S S1) (w : ItOk G S1 v J) {h1 : List O} (r1 : RH G h1 S1) (z1 : RS G S1 (wipeR r vs) (L2.wipe s vs))
    (hfin : ∀ c' S' h, Ext S1 S' → RH G h S' → PO G (rT G) E S Q (fn (.inl c') h) → Fin c' S'.H) (hout : ∀ c d d' x S' h Nx, Ext S1 S' → RH G h S' → RV G.K S' d x → stp c d = some (.inr d') → PO G (rT G) E S Q (fn (.inr d') h) → stC c x Nx S'.H)
    (hgo : ∀ c d c' x S' Nx H, RV G.K S' d x → stp c d = some (.inl c') → Nx c' H → stC c x Nx H) :
    GTurns J ⟨el, stC, Fin⟩ (L2.wipe s vs) vs (tgR X.K t) (rd G (rB G) WF c) (rd G (rT G) WF g) (fun i m c' H => ∃ S' h, S'.H = H ∧ Ext S1 S' ∧ RH G h S' ∧ PO G (rT G) E S Q ((gxL stp v t (wipeR r vs) (gxT c g) m i c' h).bind fn)) := by
  rintro i m c' H ⟨S', h, rfl, e', rh, p⟩
  cases m with
  | zero => exact p.elim
  | succ n =>
    simp only [gxL] at p
    split at p
    · rename_i hit
      exact .inl ⟨w.stop S' h i e' rh hit, hfin c' S' h e' rh p⟩
    · rename_i d hit
      obtain ⟨go, yl⟩ := w.go S' h i d e' rh hit
      refine .inr ⟨go, fun c'' H' => ∃ S' h, S'.H = H' ∧ Ext S1 S' ∧ RH G h S' ∧ PO G (rT G) E S Q ((gxL stp v t (wipeR r vs) (gxT c g) n (i + 1) c'' h).bind fn), fun c'' H' x => ⟨n, Nat.lt_succ_self n, x⟩, fun x H' hy => ?_⟩
      obtain ⟨S2, eH, e2, r2, w2⟩ := yl x H' hy
      subst eH
      have e02 := e'.trans e2
      split at p
      · rename_i r3 hset
        refine tg_ok hK hin w2 (z1.ext r1 e02) hset fun σ3 z3 ew => ⟨ew.trans (wipe_wipe s vs), ?_⟩
        rw [R.assoc] at p
        unfold gxT at p
        rw [R.assoc] at p
        refine ⟨S2, r3, h, rfl, r2, z3, PO.no (PO.stepAt (e1.trans e02) p fun S3 h3 b b' e3 r3' w3 p3 => ?_)⟩
        cases (show b = b' from w3)
        have e03 := e02.trans e3
        cases b with
        | false =>
          rw [if_neg Bool.false_ne_true]
          exact ⟨S3, h3, rfl, e03, r3', p3⟩
        | true =>
          rw [if_pos rfl]
          rw [if_pos rfl, R.assoc] at p3
          refine ⟨S3, r3, h3, rfl, r3', z3.ext r2 e3, PO.no (PO.stepAt (e1.trans e03) p3 fun S4 h4 ty y e4 r4 w4 p4 => ?_)⟩
          have e04 := e03.trans e4
          cases ty with
          | v dy =>
            have w4 : RT G S3.B S4 (.v dy) y := w4
            cases w4 with
            | v w4 =>
              simp only [R.bind_ok] at p4
              split at p4
              · rename_i c'' es
                exact hgo c' dy c'' y S4 _ _ w4 es ⟨S4, h4, rfl, e04, r4, p4⟩
              · rename_i d' es
                exact hout c' dy d' y S4 h4 _ e04 r4 w4 es p4
              · exact p4.elim
          | _ => exact p4.elim
      · exact p.elim
    · exact p.elim
theorem gx2_read {κ : Type} {C : VK → Cons κ} {stp : κ → D → Option (κ ⊕ D)} {fin : κ → D} {c0 : κ} (ck : ConsOk G C stp fin) {B : Nat} {f f1 : Ei} {t t1 : Tg} {vs vs1 : List Nat} {c c1 : Ec} {g : Ev} {s : L2.St} {H : Hp} {Q : VK} (hK : X.K = G.K) (hin : tgIn vs t = true) (hin1 : tgIn vs1 t1 = true)
    (p : rd G (rT G) W (evGx2 stp fin c0 B f t vs c f1 t1 vs1 c1 g) s H Q) :
    tGx2 G.T (rd G (rI G) W f) vs (tgR X.K t) (rd G (rB G) WF c) (rd G (rI G) WF f1) (tgR X.K t1) (rd G (rB G) WF c1) (rd G (rT G) WF g) vs1 B c0 C s H Q := by
  obtain ⟨S, r, h, e, q, z, p⟩ := p
  subst e
  refine ⟨S, r, h, rfl, q, z, PO.stepAt (Ext.refl S) p fun S1 h1 v J e1 r1 w p1 => ?_⟩
  have w : ItOk G S1 v J := w
  refine ⟨r1.tab, fun H2 eN T2 => ?_⟩
  have e12 : Ext S1 ⟨S1.n, S1.m, H2⟩ := ⟨Nat.le_refl _, fun _ _ => rfl, fun b o _ hb ho => eN b o hb ho, fun i h1 h2 => absurd (Nat.lt_of_lt_of_le h2 h1) (Nat.lt_irrefl _), fun b hb => by
    cases hH : S1.H b with
    | none => exact bare_none hH
    | some o =>
      by_cases ht : ∃ ps, o = .tbl ps
      · obtain ⟨ps, rfl⟩ := ht
        show bare S1.H b = none
        unfold bare; rw [hH]
      · have nt : ∀ ps, o ≠ .tbl ps := fun ps e => ht ⟨ps, e⟩
        have k := (bare_some (eN b o hH nt) nt).symm.trans hb
        cases k⟩
  have r2 : RH G h1 ⟨S1.n, S1.m, H2⟩ := r1.grow e12 rfl (fun i hi => by
    obtain ⟨o, ho, nt⟩ := r1.there hi
    rw [ho]; exact eN _ _ ho nt) T2
  have z1 := (z.ext q e1).wipe vs
  let fn : κ ⊕ D → List O → R T := fun o h2 => .ok (gxE fin o) h2
  let E : XK := fun c d H' => W c d s H'
  refine ⟨fun i m c' H => ∃ S' h, S'.H = H ∧ Ext S1 S' ∧ RH G h S' ∧ PO G (rT G) E S Q ((gxA v t (wipeR r vs) (gxB stp B c f1 t1 vs1 c1 g) m i c' h).bind fn), ⟨_, _, h1, rfl, e12, r2, p1⟩, ?_⟩
  rintro i m c' H ⟨S', h, rfl, e', rh, p⟩
  cases m with
  | zero => exact p.elim
  | succ n =>
    simp only [gxA] at p
    split at p
    · rename_i hit
      obtain ⟨x, hx, hq⟩ := ck.fin Q c' S'.H
      exact .inl ⟨w.stop S' h i e' rh hit, hq (p S' x (e1.trans e') rh (.v (hx S')))⟩
    · rename_i d hit
      obtain ⟨go, yl⟩ := w.go S' h i d e' rh hit
      let rest : κ ⊕ D → List O → R T := fun o h1 => match o with
        | .inl c' => (gxA v t (wipeR r vs) (gxB stp B c f1 t1 vs1 c1 g) n (i + 1) c' h1).bind fn
        | .inr d' => .ok (gxE fin (.inr d' : κ ⊕ D)) h1
      refine .inr ⟨go, fun c'' H' => ∃ S' h, S'.H = H' ∧ Ext S1 S' ∧ RH G h S' ∧ PO G (rT G) E S Q (rest (.inl c'') h), fun c'' H' x => ⟨n, Nat.lt_succ_self n, x⟩, fun x H' hy => ?_⟩
      obtain ⟨S2, eH, e2, r2, w2⟩ := yl x H' hy
      subst eH
      have e02 := e'.trans e2
      split at p
      · rename_i r3 hset
        refine tg_ok hK hin w2 (z1.ext r1 e02) hset fun σ3 z3 ew => ⟨ew.trans (wipe_wipe s vs), ?_⟩
        rw [R.assoc, bind_cong (j := rest) (fun o h1 => by cases o <;> rfl)] at p
        unfold gxB at p
        rw [R.assoc] at p
        refine ⟨S2, r3, h, rfl, r2, z3, PO.no (PO.stepAt (e1.trans e02) p fun S3 h3 b b' e3 r3' w3 p3 => ?_)⟩
        cases (show b = b' from w3)
        have e03 := e02.trans e3
        cases b with
        | false =>
          rw [if_neg Bool.false_ne_true]
          exact ⟨S3, h3, rfl, e03, r3', p3⟩
        | true =>
          rw [if_pos rfl]
          rw [if_pos rfl, R.assoc] at p3
          refine ⟨S3, r3, h3, rfl, r3', z3.ext r2 e3, PO.no (PO.stepAt (e1.trans e03) p3 fun S4 h4 v1 J1 e4 r4 w4 p4 => ?_)⟩
          have w4 : ItOk G S4 v1 J1 := w4
          have e04 := e03.trans e4
          have z4 := ((z3.ext r2 e3).ext r3' e4).wipe vs1
          refine ⟨_, ⟨B, Nat.le_refl B, S4, h4, rfl, Ext.refl S4, r4, p4⟩, gx_turns hK hin1 (e1.trans e04) w4 r4 z4 (fun c'' S' h e rh p => ⟨S', h, rfl, e04.trans e, rh, p⟩) (fun c'' d d' x S' h Nx e rh rv es p => ?_) (fun c'' d c3 x S' Nx H rv es nx => ck.go Q c'' d c3 x S' Nx H rv es nx)⟩
          obtain ⟨x', hx', hq⟩ := ck.out Q c'' d d' x S' Nx S'.H rv es
          exact hq (p S' x' ((e1.trans e04).trans e) rh (.v (hx' S')))
      · exact p.elim
    · exact p.elim
theorem zsum2 {B : Nat} {elt tg iter tg1 iter1 : Expr} {ifs ifs1 : List Expr} {scope : Scope} {own : List (Str × Nat)} {vs1 : List Nat} {p pos gpos : Pos} {f f1 : Ei} {t t1 : Tg} {c c1 : Ec} {g : Ev} (z : Zx G X W (k + 1)) (tb : TbX G X "<genexpr>") (hmg : X.mg "sum" = none) (hi : SI G X W tg f iter) (ok : BlkOk X.N X.env.scope scope own) (gc : gxC scope = true) (hv : vs1.all (fun i => (own.map (·.2)).contains i) = true)
    (hG : WithinG G X k scope fun Y => PG Y tg (tgR Y.K t)) (ht : WithinG G X k scope fun Y => STs G Y WF c ifs) (hi1 : WithinG G X k scope fun Y => SI G Y WF tg1 f1 iter1) (hg1 : WithinG G X k scope fun Y => PG Y tg1 (tgR Y.K t1)) (ht1 : WithinG G X k scope fun Y => STs G Y WF c1 ifs1) (he : WithinG G X k scope fun Y => SE G Y WF g elt)
    (hin : tgIn (own.map (·.2)) t = true := by rfl) (hin1 : tgIn vs1 t1 = true := by rfl) (hg : L2.Gl X "sum" := by rfl) (hs : ∀ x, genFold iter X.env x = pure x := by intro _; rfl) (hs1 : ∀ env x, foldedSetIterable iter1 env x = pure x := by intro _ _; rfl)
    (hst : starEach [.GeneratorExp elt [⟨tg, iter, ifs, 0⟩, ⟨tg1, iter1, ifs1, 0⟩] scope gpos] X.env = (false, eval (.GeneratorExp elt [⟨tg, iter, ifs, 0⟩, ⟨tg1, iter1, ifs1, 0⟩] scope gpos) X.env) :: starEach [] X.env := by rfl) :
    SE G X W (evSum2 B f t (own.map (·.2)) c f1 t1 vs1 c1 g) (.Call (.Name "sum" p) [.GeneratorExp elt [⟨tg, iter, ifs, 0⟩, ⟨tg1, iter1, ifs1, 0⟩] scope gpos] [] pos) := by
  obtain ⟨c', P, e, TB, hm, hu⟩ := tb.of
  exact PE.imp (pe_sumG2 (B := B) (vs1 := vs1) (gmk z e TB hm hu ok gc) hg hmg hi (g := tgR X.K t) (g1 := tgR X.K t1) (fun s H code fp a go => hG s H code fp a go (z.gy ..)) (fun s H code fp a go => ht s H code fp a go (z.gy ..)) (fun s H code fp a go => hi1 s H code fp a go (z.gy ..)) (fun s H code fp a go => hg1 s H code fp a go (z.gy ..)) (fun s H code fp a go => ht1 s H code fp a go (z.gy ..))
    (fun s H code fp a go => he s H code fp a go (z.gy ..)) (fun i hi => by have := List.all_eq_true.mp hv i hi; simpa using this) hs1 hs hst) fun s H Q p => gx2_read cons_sum z.K hin hin1 p
end
end Bz
set_option Elab.async false
set_option linter.all false
set_option maxRecDepth 100000
set_option autoImplicit false
namespace Bz
open L2 PySem PySem.Spec PyProof.Rows _root_.RT

/-! ### tuple(reversed(a tuple)) -/
section
variable {prog : Program} {w : World} {A : Around} {E : Value → Shared → Prop} {s : Shared}
theorem no_len_rt : typeLookup (.type "reversed") "__len__" = pure none := by rw [typeLookup_type, builtinLookup_eq_fast]; kernel_rfl
theorem has_hint_rt : typeLookup (.type "reversed") "__length_hint__" = pure (some (.builtin "reversed.__length_hint__")) := by rw [typeLookup_type, builtinLookup_eq_fast]; kernel_rfl
theorem slot_rt_hint : Slot "reversed" "__length_hint__" "reversed.__length_hint__" :=
  .of (owner := "reversed") (n := "__length_hint__") (by rw [typeLookup_type, builtinLookup_eq_fast]; kernel_rfl) (by decide +kernel) (by decide +kernel) (by decide +kernel) (by first | exact .inl (by decide +kernel) | exact .inr (by decide +kernel)) (by rw [isSubtype_type]; kernel_rfl)
theorem entry_rt_hint : entryFor table "reversed.__length_hint__" = some Builtin.«reversed.__length_hint__» := entryFor_of_tree (by kernel_rfl)
theorem args_rt_hint (a : Value) : argsOk "reversed.__length_hint__" ⟨[a], []⟩ := by
  unfold argsOk; rw [signature?_of (id := "reversed.__length_hint__") (n := ['_', '_', 't', 'n', 'i', 'h', '_', 'h', 't', 'g', 'n', 'e', 'l', '_', '_']) (o := ['d', 'e', 's', 'r', 'e', 'v', 'e', 'r']) (by kernel_rfl) owner_rt]; kernel_rfl
theorem call_rt_hint {it t : Addr} {items : Array Value} {Q : Value → Shared → Prop} (hit : IsRt s.heap it t ((items.size : Int) - 1)) (ht : IsTup s.heap t items) (hz : items.size ≤ sizeLine) (h : Q (.int items.size (s.toks + 1 + 1)) { s with toks := s.toks + 1 + 1 + 1 }) : wpAny (model prog w) A (call (.builtin "reversed.__length_hint__") [.ref it]) Q E s := by
  obtain ⟨o, ho, hc, hd⟩ := id hit
  refine wpAny_call_entry slot_rt_hint hit.typeIs entry_rt_hint ?_ (args_rt_hint _)
  unfold Builtin.«reversed.__length_hint__»
  refine wpAny_bind (wpAny_of_eq (a := Value.ref it) rfl ?_)
  refine wpAny_bind (wpAny_field ho hd (x := .ref t) rfl ?_)
  try dsimp only
  try rw [if_neg (by decide)]
  have hn := L2.line63
  refine wpAny_bind (PyProof.Rows.len_tuple ht (by omega) ?_)
  refine wpAny_bind (wpAny_of_eq (a := some ((items.size : Nat) : Int)) rfl ?_)
  try dsimp only
  refine wpAny_bind (wpAny_field (s := { s with toks := s.toks + 1 + 1 }) ho hd (x := rawInt ((items.size : Int) - 1)) rfl ?_)
  show wpAny _ _ (if ((items.size : Nat) : Int) < (items.size : Int) - 1 + 1 then _ else _) _ _ _
  rw [if_neg (by omega)]
  have e : (items.size : Int) - 1 + 1 = (items.size : Int) := by omega
  rw [e]
  refine wpAny_bind (wpAny_mkInt ?_)
  exact wpAny_pure ⟨_, rfl, h⟩
theorem walks_rt (hh : A.handled = none) (I t : Addr) (hne : t ≠ I) (items : Array Value) (hz : items.size ≤ sizeLine) :
    Walks prog w A I [I, t] [I] items.size (fun i v => items[items.size - 1 - i]? = some v) (fun i h => i ≤ items.size ∧ IsRt h I t ((items.size : Int) - 1 - (i : Int)) ∧ IsTup h t items) where
  sub := fun b hb => by simp at hb; simp [hb]
  frame := fun i h h' x hk => ⟨x.1, x.2.1.at fun o e => hk I (by simp) o e, by obtain ⟨o, e, r⟩ := x.2.2; exact ⟨o, hk t (by simp) o e, r⟩⟩
  item := fun i s Q E hi x hQ => by
    have e : (items.size : Int) - 1 - (i : Int) = ((items.size - 1 - i : Nat) : Int) := by omega
    have hit := x.2.1
    rw [e] at hit
    have hx : items[items.size - 1 - i]? = some (items[items.size - 1 - i]'(by omega)) := Array.getElem?_eq_getElem (by omega)
    refine next_rt_item hit x.2.2 hx hz fun h' hit' hs' => ?_
    have e2 : ((items.size - 1 - i : Nat) : Int) - 1 = (items.size : Int) - 1 - ((i + 1 : Nat) : Int) := by omega
    rw [e2] at hit'
    exact hQ _ h' (s.toks + 1) hx ⟨hi, hit', by obtain ⟨o, eo, r⟩ := x.2.2; exact ⟨o, (hs'.2 t hne).trans eo, r⟩⟩ fun b o hb eo => hs'.extBut b o (fun h => hb (by simp [h])) eo
  done := fun s Q E x hQ => by
    have e : (items.size : Int) - 1 - (items.size : Int) = -1 := by omega
    have hit := x.2.1
    rw [e] at hit
    exact next_rt_end hh hit fun h' he' => hQ h' s.toks fun b o hb eo => he' b o (fun h => hb (by simp [h])) eo
  self := fun _ _ _ _ x hQ => iter_rt x.2.1 hQ
theorem collect_rt {it t : Addr} {items : Array Value} {Q : List Value → Shared → Prop} (hh : A.handled = none) (hit : IsRt s.heap it t ((items.size : Int) - 1)) (ht : IsTup s.heap t items) (hne : t ≠ it) (hz : items.size ≤ sizeLine)
    (hQ : ∀ (h' : Heap) (tk : Nat) (acc : Array Value), (∀ b o, b ≠ it → s.heap.get? b = some o → h'.get? b = some o) → ItemsOf (fun i v => items[items.size - 1 - i]? = some v) acc items.size → Q acc.toList { s with heap := h', toks := tk }) :
    wpAny (model prog w) A (collect (.ref it)) Q E s := by
  have W := (walks_rt (prog := prog) (w := w) (A := A.in1) hh it t hne items hz).toS
  obtain ⟨oi, hoi, _⟩ := id hit
  obtain ⟨ot, hot, hct⟩ := id ht
  have nS : s.heap.objs.size ∉ [it, t] := by
    simp only [List.mem_cons, List.not_mem_nil, or_false, not_or]
    exact ⟨Nat.ne_of_gt (Heap.lt_size hoi), Nat.ne_of_gt (Heap.lt_size hot)⟩
  generalize hL : ({ cls := .type "list", data := .seq ([] : List Value).toArray } : Obj) = ol
  have up : ∀ b o, s.heap.get? b = some o → (s.heap.push ol).get? b = some o := fun b o e => Heap.get?_push_of_some _ e
  have hS : (s.heap.push ol).get? s.heap.objs.size = some ol := Heap.get?_push_size _ (by rw [← hL]; rfl)
  have hit1 : IsRt (s.heap.push ol) it t ((items.size : Int) - 1) := hit.at fun o e => up _ _ e
  have ht1 : IsTup (s.heap.push ol) t items := ⟨ot, up _ _ hot, hct⟩
  have hT : ({ s with heap := s.heap.push ol } : Shared).TypeIs (.ref it) "reversed" := IsRt.typeIs (s := { s with heap := s.heap.push ol }) hit1
  have hdiff : Builtin.List.listSameRef (.ref s.heap.objs.size) (.ref it) = false := by
    have : s.heap.objs.size ≠ it := Nat.ne_of_gt (Heap.lt_size hoi)
    simp [Builtin.List.listSameRef, this]
  unfold collect
  refine wpAny_bind (wpAny_runValue (codeAny_builtin F.entry_proto_collect ?_))
  rw [Around.under_plainId F.plain_proto_collect _]
  show wpAny _ A.in1 (newList [] >>= fun l' => again (.builtin "list.__iadd__" ⟨[l', .ref it], []⟩)) _ _ s
  refine wpAny_bind (wpAny_newObj_type ?_)
  rw [hL]
  refine wpAny_pure ⟨plainId_quiet F.plain_list_iadd _, codeAny_builtin F.entry_list_iadd ?_⟩
  rw [Around.under_plainId F.plain_list_iadd _]
  show wpAny _ A.in1 (Builtin.List.listExtendWith (.ref s.heap.objs.size) (.ref it) (.ref s.heap.objs.size)) _ _ _
  unfold Builtin.List.listExtendWith
  refine wpAny_bind (wpAny_typeOf hT ?_)
  rw [if_neg (by rw [hdiff]; decide)]
  refine wpAny_bind (iter_rt (s := { s with heap := s.heap.push ol }) hit1 ?_)
  refine wpAny_bind (wpAny_holding ?_)
  unfold Builtin.List.listLengthHint
  refine wpAny_bind (wpAny_specialOf hT no_len_rt ?_)
  show wpAny _ A.in1 (specialOf (Value.ref it) (Str.ofString "__length_hint__") >>= _) _ _ _
  refine wpAny_bind (wpAny_specialOf hT has_hint_rt ?_)
  generalize hid : ("reversed.__length_hint__" : String) = id0
  wp_delta
  rw [show splitId id0 = some ("reversed", "__length_hint__") from by subst hid; decide +kernel]
  subst hid
  refine wpAny_bind (wpAny_isInstance (b := true) hT (by rw [isSubtype_type]; kernel_rfl) ?_)
  show wpAny _ A.in1 (rule "list.length-hint.hint" >>= fun _ => bindSpecial (.builtin "reversed.__length_hint__") (.ref it) >>= _) _ _ _
  refine wpAny_bind (wpAny_rule ?_)
  refine wpAny_bind (wpAny_of_eq (slot_rt_hint.bind _) ?_)
  show wpAny _ A.in1 ((call (.builtin "reversed.__length_hint__") [.ref it]).attempt >>= _) _ _ _
  refine wpAny_bind (wpAny_attempt (call_rt_hint (s := { s with heap := s.heap.push ol }) hit1 ht1 hz ?_))
  have hn := L2.line63
  generalize hn0 : ((items.size : Nat) : Int) = n0
  refine wpAny_bind (m := asInt? (.int n0 _)) (wpAny_pure ?_)
  dsimp only
  have f1 : Builtin.List.listFitsIndex n0 = true := by
    rw [← hn0]
    unfold Builtin.List.listFitsIndex
    simp only [Bool.and_eq_true, decide_eq_true_eq]
    omega
  have f2 : ¬ n0 < 0 := by rw [← hn0]; omega
  have f3 : Builtin.List.listTooLong n0.toNat = false := by
    rw [← hn0]
    unfold Builtin.List.listTooLong
    simp only [decide_eq_false_iff_not]
    show ¬ (items.size > sizeLine)
    omega
  rw [if_neg (by rw [f1]; decide)]
  try rw [if_neg f2]
  try rw [if_neg (by rw [f3]; decide)]
  refine wpAny_pure ?_
  have last : ∀ (h2 : Heap) (c : Nat), h2.get? s.heap.objs.size = some { cls := .type "list", dict := none, data := .seq #[] c, slots := #[] } → (∀ b o, s.heap.get? b = some o → h2.get? b = some o) →
      codeAny (model prog w) A (.builtin "list.extend.loop" ⟨[.ref s.heap.objs.size, .ref it, .ref s.heap.objs.size], []⟩) (fun r s' => match r with
        | .ok (.ret v) => wpAny (model prog w) A (match v with
            | .ref a => do
              let o ← load a
              match o.data with
              | .seq xs _ => pure xs.toList
              | _ => unsupported "internal:collect"
            | _ => unsupported "internal:collect") Q E s'
        | .ok _ => False
        | .error e => E e s') { s with heap := h2, toks := s.toks + 1 + 1 + 1 } := fun h2 c hS2 k2 => by
    have e0 : ((items.size : Nat) : Int) - 1 - ((0 : Nat) : Int) = (items.size : Int) - 1 := by omega
    refine codeAny_extend_loopS W hz _ nS _ items.size 0 _ _ _ rfl (Nat.zero_le _) ⟨Nat.zero_le _, by rw [e0]; exact hit.at fun o e => k2 _ _ e, ⟨ot, k2 _ _ hot, hct⟩⟩ hS2 (ItemsOf.nil _) fun s' acc' c' hm hS' hacc => ?_
    show wpAny _ A (load s.heap.objs.size >>= _) _ _ s'
    refine wpAny_bind (wpAny_load hS' (wpAny_pure ?_))
    rw [Moved.eq_with hm]
    refine hQ s'.heap s'.toks acc' (fun b o hb e => hm.heap b o (fun hmem => ?_) (k2 _ _ e)) hacc
    rcases List.mem_cons.mp hmem with e' | hmem
    · exact absurd (Heap.lt_size e) (by rw [e']; exact Nat.lt_irrefl _)
    · exact hb (List.mem_singleton.mp hmem)
  subst hL
  split
  · refine wpAny_bind (wpAny_rule ?_)
    refine wpAny_bind ?_
    show wpAny _ A.in1 (updateSeq s.heap.objs.size (·.push .none) >>= fun _ => updateSeq s.heap.objs.size (·.pop)) _ _ _
    refine wpAny_bind (wpAny_updateSeq hS rfl ?_)
    have hS3 := Heap.get?_update_self (Obj.mapSeq (·.push Value.none)) hS rfl
    refine wpAny_updateSeq (hz := by seq_fits) hS3 rfl ?_
    have hS4 := Heap.get?_update_self (Obj.mapSeq (·.pop)) hS3 rfl
    refine wpAny_pure ⟨plainId_quiet F.plain_extend_loop _, last _ _ hS4 fun b o e => ?_⟩
    have nb : s.heap.objs.size ≠ b := fun z => absurd (Heap.lt_size e) (by rw [z]; exact Nat.lt_irrefl _)
    exact (Heap.get?_update_other _ _ nb).trans ((Heap.get?_update_other _ _ nb).trans (up b o e))
  · exact wpAny_pure ⟨plainId_quiet F.plain_extend_loop _, last _ _ hS up⟩
end
end Bz
set_option Elab.async false
set_option linter.all false
set_option maxRecDepth 100000
set_option autoImplicit false
namespace Bz
open L2 PySem PySem.Spec PyProof.Rows _root_.RT

section
variable {prog : Program} {w : World} {A : Around} {E : Value → Shared → Prop} {s : Shared}
theorem code_tup_rt {it t : Addr} {items : Array Value} {Q₁ : Value → Shared → Prop} (hh : A.handled = none) (hit : IsRt s.heap it t ((items.size : Int) - 1)) (ht : IsTup s.heap t items) (hne : t ≠ it) (hz : items.size ≤ sizeLine)
    (h : ∀ (h' : Heap) (tk : Nat) (acc : Array Value), (∀ b o, b ≠ it → s.heap.get? b = some o → h'.get? b = some o) → ItemsOf (fun i v => items[items.size - 1 - i]? = some v) acc items.size → Q₁ (.ref h'.objs.size) { s with heap := h'.push { cls := .type "tuple", data := .seq acc }, toks := tk }) :
    codeAny (model prog w) A (.call (.builtin "tuple.__new__") ⟨[.type "tuple", .ref it], []⟩) (wants Q₁ E) s := by
  refine codeAny_of_tree ?_
  show wpAny _ A.in1 (do checkBuiltinCall "tuple.__new__" ⟨[.type "tuple", .ref it], []⟩; again (.builtin "tuple.__new__" ⟨[.type "tuple", .ref it], []⟩)) _ _ s
  refine wpAny_bind (wpAny_of_eq (F.newCall_tuple_1 _) (wpAny_pure ⟨plainId_quiet F.plain_tuple_new _, codeAny_builtin F.entry_tuple_new ?_⟩))
  rw [Around.under_plainId F.plain_tuple_new _]
  have k1 := sub_tuple_self
  have k2 := init_tuple_lookup
  have k3 := madeHere_tuple
  have hTI : s.TypeIs (.ref it) "reversed" := hit.typeIs
  have hh1 : A.in1.handled = none := hh
  wp_walk using wpAny_typeOf hTI, collect_rt (A := A.in1) hh1 hit ht hne hz
  intro h' tk acc hk hacc
  show wpAny _ _ (Builtin.Tuple.tupleExact acc.toList.toArray >>= fun v => ret v) _ _ _
  unfold Builtin.Tuple.tupleExact
  rw [show acc.toList.toArray = acc from by simp]
  exact wpAny_bind (wpAny_newObj_type (wpAny_pure (h h' tk acc hk hacc)) (by show acc.size ≤ sizeLine; rw [hacc.1]; exact hz))
theorem call_tup_rt {it t : Addr} {items : Array Value} {Q : Value → Shared → Prop} (hh : A.handled = none) (hit : IsRt s.heap it t ((items.size : Int) - 1)) (ht : IsTup s.heap t items) (hne : t ≠ it) (hz : items.size ≤ sizeLine)
    (hQ : ∀ (h' : Heap) (tk : Nat) (acc : Array Value), (∀ b o, b ≠ it → s.heap.get? b = some o → h'.get? b = some o) → ItemsOf (fun i v => items[items.size - 1 - i]? = some v) acc items.size → Q (.ref h'.objs.size) { s with heap := h'.push { cls := .type "tuple", data := .seq acc }, toks := tk }) :
    wpAny (model prog w) A (call (.type "tuple") [.ref it]) Q E s := by
  refine callType_codes (Q₁ := fun obj s₁ => s₁.TypeIs obj "tuple" ∧ Q obj s₁) F.called_tuple (F.typeCall_tuple_1 _) F.entry_object_init (code_tup_rt (A := A.in1) hh hit ht hne hz fun h' tk acc hk hacc => ⟨⟨_, Heap.get?_push_size _ rfl, rfl⟩, hQ h' tk acc hk hacc⟩) fun obj s₁ h₁ => ?_
  exact ⟨h₁.1, F.args_object_init_2 obj _, object_init_meets F.called_tuple.init.lookup F.called_tuple.made (by decide) prog w A.in1 _ s₁ ⟨h₁.1, rfl, h₁.2⟩⟩
end
def tTrv (K : PySem.W.Frag) (te : TE) : TE := fun σ H Q => te σ H fun v H1 => ∃ (a : Addr) (xs : List V), v = .ref a ∧ (SqL K H1 a xs ∨ SqT K H1 a xs) ∧ ∀ q, H1 q = none → Q (.ref q) (upd H1 q (.tup xs.reverse))
section
variable {X : Cx}
theorem pe_trv {e : Expr} {te : TE} {p p2 pos pos2 : Pos} (hc : X.calm = true) (hg : L2.Gl X "tuple") (hm : X.mg "tuple" = none) (hg2 : L2.Gl X "reversed") (hm2 : X.mg "reversed" = none) (he : PE X e te) (hs : starEach [e] X.env = (false, eval e X.env) :: starEach [] X.env := by rfl)
    (hs2 : starEach [.Call (.Name "reversed" p2) [e] [] pos2] X.env = (false, eval (.Call (.Name "reversed" p2) [e] [] pos2) X.env) :: starEach [] X.env := by rfl) :
    PE X (.Call (.Name "tuple" p) [.Call (.Name "reversed" p2) [e] [] pos2] [] pos) (tTrv X.K te) := by
  refine ⟨fun pins s σ H Q I h => ?_⟩
  refine Call_ (ld_blt I hg hm boot_tuple (PyProof.Rows.callWith_type1 (args_cons (Call_ (ld_blt I hg2 hm2 PyProof.Rows.boot_reversed (PyProof.Rows.callWith_type1 (args_cons (thn (he.run pins s σ H _ I h) fun u s1 ⟨v, H1, I1, r1, q1⟩ => args_nil ?_) hs) hs rfl))) hs2) hs2 rfl))
  obtain ⟨a, xs, ev, hq, q⟩ := q1
  subst ev
  obtain rfl : u = Value.ref a := r1
  obtain ⟨f0, f1, f2, f3, f4, f5⟩ := I1.fpOk (H' := H1) (b := s1.heap.objs.size) (Nat.le_refl _) (I1.hok.fresh (Nat.le_refl _))
  rcases hq with hq | hq
  · obtain ⟨its, rv, p', hz⟩ := I1.list hq
    refine call_reversed_list p'.isList (args_nil ?_)
    have I2 : Inv X pins σ H1 { s1 with heap := s1.heap.push (revObj a ((its.toArray.size : Int) - 1)) } := I1.kept (t' := s1.toks) fun b o e => Heap.get?_push_of_some _ e
    have hl := p'.isList
    obtain ⟨ol, hol, _⟩ := id hl
    have hn : its.toArray.size ≤ sizeLine := by rw [List.size_toArray, ← rv.length]; exact hz
    refine call_tuple_rev (s := { s1 with heap := s1.heap.push (revObj a ((its.toArray.size : Int) - 1)) }) (I1.ok.hd hc) ⟨_, Heap.get?_push_size _ rfl, rfl, rfl⟩ (hl.push _) (Nat.ne_of_lt (Heap.lt_size hol)) hn fun h' tk acc hk hi => ?_
    have I3 : Inv X pins σ H1 { s1 with heap := h', toks := tk } := I2.turned (t' := tk) (fun b o hb e => hk b o hb e) f0 f1 f3 f4 f5
    refine ⟨.ref h'.objs.size, upd H1 h'.objs.size (.tup xs.reverse), I3.laid (t' := tk) (fun c o e => Heap.get?_push_of_some _ e) (Nat.le_refl _) (show ObjOk X.prog X.w _ _ _ (.tup xs.reverse) from ⟨by rw [List.length_reverse]; exact hz, acc.toList, vals_rev rv hi, ?_⟩), rfl, q _ (I3.hok.fresh (Nat.le_refl _))⟩
    rw [Array.toArray_toList]
    exact IsTup.new _ _
  · obtain ⟨its, rv, p', hz⟩ := I1.tuple hq
    have hn63 := line63
    refine call_reversed_tup p' (fun A E Q k => PyProof.Rows.len_tuple p' (by simp only [List.size_toArray]; have := rv.length; omega) k) (args_nil ?_)
    have I2 : Inv X pins σ H1 { s1 with heap := s1.heap.push (rtObj a ((its.toArray.size : Int) - 1)), toks := s1.toks + 1 + 1 } := I1.kept (t' := s1.toks + 1 + 1) fun b o e => Heap.get?_push_of_some _ e
    obtain ⟨ol, hol, rol⟩ := id p'
    have hn : its.toArray.size ≤ sizeLine := by rw [List.size_toArray, ← rv.length]; exact hz
    refine call_tup_rt (s := { s1 with heap := s1.heap.push (rtObj a ((its.toArray.size : Int) - 1)), toks := s1.toks + 1 + 1 }) (I1.ok.hd hc) ⟨_, Heap.get?_push_size _ rfl, rfl, rfl⟩ ⟨ol, Heap.get?_push_of_some _ hol, rol⟩ (Nat.ne_of_lt (Heap.lt_size hol)) hn fun h' tk acc hk hi => ?_
    have I3 : Inv X pins σ H1 { s1 with heap := h', toks := tk } := I2.turned (t' := tk) (fun b o hb e => hk b o hb e) f0 f1 f3 f4 f5
    refine ⟨.ref h'.objs.size, upd H1 h'.objs.size (.tup xs.reverse), I3.laid (t' := tk) (fun c o e => Heap.get?_push_of_some _ e) (Nat.le_refl _) (show ObjOk X.prog X.w _ _ _ (.tup xs.reverse) from ⟨by rw [List.length_reverse]; exact hz, acc.toList, vals_rev rv hi, ?_⟩), rfl, q _ (I3.hok.fresh (Nat.le_refl _))⟩
    rw [Array.toArray_toList]
    exact IsTup.new _ _
end
def g_trev (t : T) (h : List O) : Option T := match seqL h t with
  | some l => some (.v (.tup l.reverse))
  | none => match seqT t with
    | some l => some (.v (.tup l.reverse))
    | none => none
def evTrv (f : Ev) : Ev := fun r h => (f r h).bind fun t h1 => opt h1 (g_trev t h1)
section
variable {G : Gl} {X : Cx} {W : WX} {k : Nat}
theorem se_trv {e : Expr} {f : Ev} {p p2 pos pos2 : Pos} (z : Zx G X W k) (hg : L2.Gl X "tuple") (hm : X.mg "tuple" = none) (hg2 : L2.Gl X "reversed") (hm2 : X.mg "reversed" = none) (he : SE G X W f e) (hs : starEach [e] X.env = (false, eval e X.env) :: starEach [] X.env := by rfl)
    (hs2 : starEach [.Call (.Name "reversed" p2) [e] [] pos2] X.env = (false, eval (.Call (.Name "reversed" p2) [e] [] pos2) X.env) :: starEach [] X.env := by rfl) : SE G X W (evTrv f) (.Call (.Name "tuple" p) [.Call (.Name "reversed" p2) [e] [] pos2] [] pos) := by
  refine PE.imp (pe_trv z.hc hg hm hg2 hm2 he hs hs2) fun s H Q ⟨S, r, h, e, q, zz, p⟩ => ?_
  subst e
  refine ⟨S, r, h, rfl, q, zz, PO.step p fun S1 h1 t x e1 r1 z1 p1 => ?_⟩
  obtain ⟨o, ho, got⟩ := PO.opt p1
  unfold g_trev at ho
  split at ho
  · rename_i l hl
    cases ho
    obtain ⟨a, vs, rfl, s1, w⟩ := seqL_ok r1 z1 hl
    exact ⟨a, vs.reverse.reverse, rfl, .inl (by rw [z.K, List.reverse_reverse]; exact s1), by rw [List.reverse_reverse]; exact got.tup r1 w.rev⟩
  · split at ho
    · rename_i l hl
      cases ho
      obtain ⟨a, vs, rfl, s1, w, v⟩ := seqT_ok z1 hl
      exact ⟨a, vs, rfl, .inr (by rw [z.K]; exact s1), got.tup r1 w.rev⟩
    · cases ho
theorem ztold {x : Str} {l : List (Nat × Str)} {mt : Nat → Nat → Option Bool} {f : Ev} {params : Arguments} {body : Expr} {scope : Scope} {p lpos pos : Pos} (z : Zx G X W (k + 2)) (F : ToldAt G X.mg x l) (hm : ExM G mt) (tb : TbX G X "<lambda>") (L : LamX.LamS X.env.scope scope)
    (hbody : ∀ (X' : Cx) (A : Around) (outer : List Env) (s : Shared) (H : Hp) (E : XK) (f' c' : Addr), X' = LamX.lamCx X A outer s H E scope f' c' → Zx G X' (fun c d _ H => E c d H) k → SE G X' (fun c d _ H => E c d H) f body)
    (hdef : defaultsOf params X.env = ([], []) := by rfl) (hbind : ∀ (q : Str) (cl : List (Str × Addr)) (pm cv ctv : Value), bindArgs (PySem.W.kla_fn "<lambda>" q params body scope cl pm cv ctv) ⟨[], []⟩ = pure [] := by intros; rfl) (hg : L2.Gl X x := by rfl) (hdb : (x == ("__debug__" : Str)) = false := by decide) :
    SE G X W (evTold mt l f) (.Call (.Name x p) [.Lambda params body scope lpos] [] pos) := by
  obtain ⟨c, P, e, TB, h1, h2⟩ := tb.of
  exact se_told z F hm TB e h1 h2 L hbody hdef hbind hg hdb
end
end Bz
set_option Elab.async false
set_option linter.all false
set_option maxRecDepth 100000
set_option autoImplicit false
namespace Bz
open L2 PySem PySem.Spec PyProof.Rows

theorem one_of : ∀ {l : List (Addr × Str)}, (l.map (·.1)).Nodup → ∀ {P : Addr} {q : Str}, (P, q) ∈ l → ∀ p ∈ l, p.1 = P → p.2 = q
  | [], _, _, _, h, _, _, _ => by cases h
  | a :: l, nd, P, q, h, p, hp, e => by
    have nd' : a.1 ∉ l.map (·.1) ∧ (l.map (·.1)).Nodup := List.nodup_cons.mp nd
    rcases List.mem_cons.mp h with h | h
    · rcases List.mem_cons.mp hp with hp | hp
      · rw [hp, ← h]
      · exact absurd (List.mem_map.mpr ⟨p, hp, by rw [e, ← h]⟩) nd'.1
    · rcases List.mem_cons.mp hp with hp | hp
      · exact absurd (List.mem_map.mpr ⟨(P, q), h, by rw [← hp, e]⟩) nd'.1
      · exact one_of nd'.2 h p hp e
theorem code_of {K : PySem.W.Frag} {x qual : Str} {params : Arguments} {body : List Stmt} {scope : Scope} {dvs : List V} {kws : List (Str × V)} {p : Str × Option Str} {fd : FuncData} (F : FunD K x qual params body scope dvs kws (He.fAd K p) fd) : fd.code = .ref (He.codeOf K p) := by
  obtain ⟨oc, od, dV, kV, doc, pm, an, cdv, ct, osl, rfl, lk, hcd, _, _⟩ := F.ex
  obtain ⟨c, hc⟩ := He.codeIn_ref hcd
  have hc : cdv = .ref c := hc
  subst hc
  exact congrArg Value.ref (He.codeOf_eq lk rfl).symm
theorem tb_of {G : Gl} {mg : Str → Option Value} {base : Heap} {x qual q : Str} {params : Arguments} {body : List Stmt} {scope : Scope} {dvs : List V} {kws : List (Str × V)} {p : Str × Option Str} {fd : FuncData} (F : FunD G.K x qual params body scope dvs kws (He.fAd G.K p) fd) (TB : LamX.TabB base mg (He.cT G.K p).1 (He.cT G.K p).2) (nd : (G.T.map (·.1)).Nodup) (hm : ((He.cT G.K p).2, q) ∈ G.T) : TbAt G mg base q fd.code :=
  ⟨_, _, code_of F, TB, hm, one_of nd hm⟩
theorem xat_of {G : Gl} {h : Heap} {mg : Str → Option Value} {x : Str} {c : Nat} (X : G.K.In h) (N : h.Ns mainGlobals mg) (e : G.ca c = He.ga G.K x) (g : (He.Fa.glo x).ok G.K = true) (f : (He.Fa.exc x).ok G.K = true) : XAt G mg x c := by
  obtain ⟨h1, h2, h3, h4⟩ := He.exc_ok f
  exact ⟨by rw [e]; exact He.glo_ok X N g, by rw [e]; exact h1, by rw [e]; exact h2, by rw [e]; exact h3, by rw [e]; exact h4⟩
/-- the script at the start: a list that nobody names, or the heap's first object -/
inductive Start (l : List D) : List O → List D → Prop
  | fl : Start l [] [.fl l]
  | rf : Start l [.lst l] [.ref 0]
theorem rvs_ints {K : PySem.W.Frag} {S : Wd} : ∀ ns : List Int, RVs K S (ns.map D.int) (ns.map V.int)
  | [] => .nil
  | n :: ns => .cons (.int n) (rvs_ints ns)
theorem start_ok {G : Gl} {H : Hp} {a : Addr} {ns : List Int} {c : Cl} (hT : LamX.Tabs G.T H) (hS : SqL G.K H a (ns.map V.int)) (hc : ∀ h0 ds, Start (ns.map D.int) h0 ds → ∃ h', c ds h0 = .ok (.v (.bl true)) h') : spC G c 1 [.ref a] H (fun v _ => v = .bl true) (fun _ _ _ => False) := by
  have fin : ∀ {S : Wd} {h0 : List O} {ds : List D}, Start (ns.map D.int) h0 ds → PO G (rT G) (fun _ _ _ => False) S (fun v _ => v = .bl true) (c ds h0) := fun {S h0 ds} st => by
    obtain ⟨h', e⟩ := hc h0 ds st
    rw [e]
    intro S' x e' r z
    have z : RT G S.B S' (.v (.bl true)) x := z
    cases z with
    | v z => cases z; rfl
  have frozen : IQ G.K H a (ns.map V.int) → spC G c 1 [.ref a] H (fun v _ => v = .bl true) (fun _ _ _ => False) := fun q =>
    ⟨rfl, ⟨0, fun _ => 0, H⟩, [], [.fl (ns.map D.int)], rfl, ⟨rfl, fun i j hi => absurd hi (Nat.not_lt_zero i), fun i o e => (by cases e), hT⟩, .cons (.fl q (rvs_ints ns)) .nil, fin .fl⟩
  rcases hS with (q | q) | q
  · exact ⟨rfl, ⟨1, fun _ => a, H⟩, [.lst (ns.map D.int)], [.ref 0], rfl, ⟨rfl, fun i j hi hj _ => by have hi : i < 1 := hi; have hj : j < 1 := hj; omega, fun i o e => by
      have e0 : i = 0 := by
        have := (List.getElem?_eq_some_iff.mp e).1
        have : i < 1 := this
        omega
      subst e0
      cases e
      exact ⟨_, q, rvs_ints ns⟩, hT⟩, .cons (.ref (show 0 < 1 by decide)) .nil, fin .rf⟩
  · exact frozen (.inl q)
  · exact frozen (.inr q)
end Bz
set_option Elab.async false
set_option linter.all false
set_option maxRecDepth 100000
namespace Kx
open Bz L2 PySem PySem.Spec PyProof.Rows
local macro_rules | `(tactic| trivial) => `(tactic| first | exact .inl rfl | exact .inr (.inl rfl) | exact .inr (.inr rfl) | exact .inr rfl)
abbrev FUEL : Nat := 100000
def top (i : Nat) : Stmt := PySem.Challenge.pw_chimehall_k01_rows.main.body.getD i (.Pass ⟨0, 0, 0, 0⟩)
structure Fr (mg : Str → Option Value) : Prop where
  abs : mg "abs" = none
  all : mg "all" = none
  any : mg "any" = none
  dict : mg "dict" = none
  enumerate : mg "enumerate" = none
  int : mg "int" = none
  isinstance : mg "isinstance" = none
  len : mg "len" = none
  list : mg "list" = none
  max : mg "max" = none
  min : mg "min" = none
  range : mg "range" = none
  reversed : mg "reversed" = none
  sorted : mg "sorted" = none
  str : mg "str" = none
  sum : mg "sum" = none
  super : mg "super" = none
  tuple : mg "tuple" = none
  zip : mg "zip" = none
def mtK : Nat → Nat → Option Bool := fun c i => if c < 8 ∧ i < 8 then some (c == i || i == 0) else none
def l__law_told : List (Nat × Str) := [(1, "row"), (2, "change"), (3, "method"), (4, "not true"), (5, "no end"), (6, "large"), (7, "text")]
section
variable {P : Program} {w : World} {mg : Str → Option Value} {base : Heap} {G : Gl} {f : Addr} {fd : FuncData}
/-! rounds -/
abbrev s_rounds : Stmt := top 11
def b_rounds : Es := (esSeq (esIf (ecNot (ecB (evChn g_lt g_le (evC (.int 0)) (evVar 0) (evC (.int 12))))) (esRaise 1) esNil)
  (esRet (evTrg (er2 (evC (.int 1)) (ev2 g_add (evVar 0) (evC (.int 1)))))))
def c_rounds : Cl := fnC 1 b_rounds
theorem sc_rounds : FnScope ["stage"] ["stage"] (defScope s_rounds) := ⟨rfl, rfl, rfl, by decide +kernel, rfl, by decide +kernel, by decide +kernel⟩
theorem ok_rounds (fr : Fr mg) (x_BadRow : XAt G mg "BadRow" 1) (F : FunD G.K "rounds" "rounds" (defArgs s_rounds) (defBody s_rounds) (defScope s_rounds) [] [] f fd) (hm : mg "rounds" = some (.ref f)) : FnAt G P w mg base 2 "rounds" 1 c_rounds :=
  fn_bind F hm rfl (fun _ _ _ _ _ _ us hl => match us, hl with | [_], _ => rfl) (fn_at (k := 1) F sc_rounds rfl fun X cdv A outer s H E eX z own => by subst eX; exact
  (ss_cons (ss_if (sc_not (sc_chn (op2_cmpI op_lt) (op2_cmpI op_le) (se_int) (se_var (i := 0) rfl (by trivial) rfl rfl) (se_int) rfl)) (ss_one (ss_raise z x_BadRow)) ss_nil)
  (ss_one (ss_ret (se_trg z.hc rfl fr.tuple (sr_2 rfl fr.range (se_int) (se_bin (op2_add z.K) (se_var (i := 0) rfl (by trivial) rfl rfl) (se_int))))))))
/-! check_row -/
abbrev s_check_row : Stmt := top 12
def b_check_row : Es := (esIf ((ecOr (ecB (ev2 g_eq (evFn (g1 g_len) (eaCons (evVar 0) eaNil)) (evC (.int 0)))) (ecB (ev2 g_ne (evFn (g1 g_tuple) (eaCons (evFn (g1 g_sorted) (eaCons (evVar 0) eaNil)) eaNil)) (evCall c_rounds (eaCons (evFn (g1 g_len) (eaCons (evVar 0) eaNil)) eaNil)))))) (esRaise 1) esNil)
def c_check_row : Cl := fnC 1 b_check_row
theorem sc_check_row : FnScope ["row"] ["row"] (defScope s_check_row) := ⟨rfl, rfl, rfl, by decide +kernel, rfl, by decide +kernel, by decide +kernel⟩
theorem ok_check_row (fr : Fr mg) (x_BadRow : XAt G mg "BadRow" 1) (F_rounds : FnAt G P w mg base 2 "rounds" 1 c_rounds) (F : FunD G.K "check_row" "check_row" (defArgs s_check_row) (defBody s_check_row) (defScope s_check_row) [] [] f fd) (hm : mg "check_row" = some (.ref f)) : FnAt G P w mg base 4 "check_row" 1 c_check_row :=
  fn_bind F hm rfl (fun _ _ _ _ _ _ us hl => match us, hl with | [_], _ => rfl) (fn_at (k := 3) F sc_check_row rfl fun X cdv A outer s H E eX z own => by subst eX; exact
  (ss_one (ss_if (PW.pt (sc_or (sc_cmp (op2_eq z.K z.hu) (se_fnB (fn_len z.K) rfl fr.len (sa_cons (se_var (i := 0) rfl (by trivial) rfl rfl) sa_nil rfl) boot_len) (se_int) rfl) (sc_or1 (sc_cmp (op2_ne z.K z.hu) (se_fnT (fn_tuple z.K) rfl fr.tuple (sa_cons (se_fnB (fn_sorted z.K z.hc z.hu) rfl fr.sorted (sa_cons (se_var (i := 0) rfl (by trivial) rfl rfl) sa_nil rfl) PyProof.Rows.boot_sorted) sa_nil rfl) PyProof.Rows.boot_tuple) (zcall z F_rounds (sa_cons (se_fnB (fn_len z.K) rfl fr.len (sa_cons (se_var (i := 0) rfl (by trivial) rfl rfl) sa_nil rfl) boot_len) sa_nil rfl) (eaLen_cons eaLen_nil)) rfl)))) (ss_one (ss_raise z x_BadRow)) ss_nil)))
/-! told -/
abbrev s_told : Stmt := top 13
def b_told : Es := (esSeq (esE (evCall c_check_row (eaCons (evVar 0) eaNil)))
  (esRet (evMt .S (mf1 g_join) (evC (.str "")) (eaCons (evLc (eiT (evVar 0)) (.n 1) [1] eYes (ev2 g_ix (evC (.str "1234567890et")) (ev2 g_sub (evVar 1) (evC (.int 1))))) eaNil))))
def c_told : Cl := fnC 2 b_told
theorem sc_told : FnScope ["row", "bell"] ["row"] (defScope s_told) := ⟨rfl, rfl, rfl, by decide +kernel, rfl, by decide +kernel, by decide +kernel⟩
theorem ok_told (fr : Fr mg) (k_LETTERS : ∃ t, mg "LETTERS" = some (.str "1234567890et" t)) (F_check_row : FnAt G P w mg base 4 "check_row" 1 c_check_row) (F : FunD G.K "told" "told" (defArgs s_told) (defBody s_told) (defScope s_told) [] [] f fd) (hm : mg "told" = some (.ref f)) : FnAt G P w mg base 6 "told" 1 c_told :=
  fn_bind F hm rfl (fun _ _ _ _ _ _ us hl => match us, hl with | [_], _ => rfl) (fn_at (k := 5) F sc_told rfl fun X cdv A outer s H E eX z own => by subst eX; exact
  (ss_cons (ss_expr (zcall z F_check_row (sa_cons (se_var (i := 0) rfl (by trivial) rfl rfl) sa_nil rfl) (eaLen_cons eaLen_nil)))
  (ss_one (ss_ret (se_mt (k := .S) z.K PySem.F.plainAttrs_str PySem.F.slot_str_join PySem.F.type_str_join (mtd_join z.K) (se_str) (sa_cons (zlc (own := [("bell", 1)]) (t := (.n 1)) z (si_any z.K (se_var (i := 0) rfl (by trivial) rfl rfl)) (blkOk_by (by kernel_rfl)) (fun s H C cl fp z1 => (pg_name (i := 1) z1.nd rfl (by trivial) (by trivial))) (fun s H C cl fp z1 => sts_nil) (fun s H C cl fp z1 => (se_ix z1.K z1.hu (se_gs k_LETTERS) (se_bin op2_sub (se_var (i := 1) rfl (by trivial) rfl rfl) (se_int))))) sa_nil rfl))))))
/-! read -/
abbrev s_read : Stmt := top 14
def b_read : Es := (esSeq (esIf ((ecOr (ecT (evAny (eiT (evVar 0)) (.n 2) [2] eYes (ev2 g_nin (evVar 2) (evC (.str "1234567890et"))))) (ecB (ev2 g_eq (evVar 0) (evC (.str "")))))) (esRaise 1) esNil)
  (esSeq (esAsg (evFn (g1 g_tuple) (eaCons (evLc (eiT (evVar 0)) (.n 2) [2] eYes (ev2 g_add (evMt .S (mf1 g_sindex) (evC (.str "1234567890et")) (eaCons (evVar 2) eaNil)) (evC (.int 1)))) eaNil)) (egN 1))
  (esSeq (esE (evCall c_check_row (eaCons (evVar 1) eaNil)))
  (esRet (evVar 1)))))
def c_read : Cl := fnC 3 b_read
theorem sc_read : FnScope ["text", "row", "letter"] ["text"] (defScope s_read) := ⟨rfl, rfl, rfl, by decide +kernel, rfl, by decide +kernel, by decide +kernel⟩
theorem ok_read (fr : Fr mg) (x_BadRow : XAt G mg "BadRow" 1) (k_LETTERS : ∃ t, mg "LETTERS" = some (.str "1234567890et" t)) (F_check_row : FnAt G P w mg base 4 "check_row" 1 c_check_row) (tb : TbAt G mg base ((envOfC "read" (defScope s_read) 0 0 .none).qual ++ "<genexpr>") fd.code) (F : FunD G.K "read" "read" (defArgs s_read) (defBody s_read) (defScope s_read) [] [] f fd) (hm : mg "read" = some (.ref f)) : FnAt G P w mg base 6 "read" 1 c_read :=
  fn_bind F hm rfl (fun _ _ _ _ _ _ us hl => match us, hl with | [_], _ => rfl) (fn_atC (k := 5) F sc_read rfl fun X cdv A outer s H E eC eX z own => by subst eX; subst eC; exact
  (ss_cons (ss_if (PW.pt (sc_or (sc_truth z.K (zany (own := [("letter", 2)]) (t := (.n 2)) z tb fr.any (si_any z.K (se_var (i := 0) rfl (by trivial) rfl rfl)) (blkOk_by (by kernel_rfl)) (by kernel_rfl) (fun s H C fp a go zg => (pg_name (i := 2) zg.nd rfl (by trivial) (by trivial))) (fun s H C fp a go zg => sts_nil) (fun s H C fp a go zg => (se_cmp (op2_nin zg.K zg.hu) (se_var (i := 2) rfl (by trivial) rfl rfl) (se_gs k_LETTERS) rfl))) (by intro _; rfl)) (sc_or1 (sc_cmp (op2_eq z.K z.hu) (se_var (i := 0) rfl (by trivial) rfl rfl) (se_str) rfl)))) (ss_one (ss_raise z x_BadRow)) ss_nil)
  (ss_cons (ss_asg (se_fnT (fn_tuple z.K) rfl fr.tuple (sa_cons (zlc (own := [("letter", 2)]) (t := (.n 2)) z (si_any z.K (se_var (i := 0) rfl (by trivial) rfl rfl)) (blkOk_by (by kernel_rfl)) (fun s H C cl fp z1 => (pg_name (i := 2) z1.nd rfl (by trivial) (by trivial))) (fun s H C cl fp z1 => sts_nil) (fun s H C cl fp z1 => (se_bin (op2_add z1.K) (se_mt (k := .S) z1.K PySem.F.plainAttrs_str PySem.F.slot_str_index PySem.F.type_str_index mtd_sindex (se_gs k_LETTERS) (sa_cons (se_var (i := 2) rfl (by trivial) rfl rfl) sa_nil rfl)) (se_int)))) sa_nil rfl) PyProof.Rows.boot_tuple) (sg_name (i := 1) z.nd rfl (by trivial)))
  (ss_cons (ss_expr (zcall z F_check_row (sa_cons (se_var (i := 1) rfl (by trivial) rfl rfl) sa_nil rfl) (eaLen_cons eaLen_nil)))
  (ss_one (ss_ret (se_var (i := 1) rfl (by trivial) rfl rfl)))))))
/-! put -/
abbrev s_put : Stmt := top 15
def b_put : Es := (esSeq (esE (evCall c_check_row (eaCons (evVar 0) eaNil)))
  (esSeq (esE (evCall c_check_row (eaCons (evVar 1) eaNil)))
  (esSeq (esIf (ecB (ev2 g_ne (evFn (g1 g_len) (eaCons (evVar 0) eaNil)) (evFn (g1 g_len) (eaCons (evVar 1) eaNil)))) (esRaise 1) esNil)
  (esRet (evFn (g1 g_tuple) (eaCons (evLc (eiT (evVar 1)) (.n 2) [2] eYes (ev2 g_ix (evVar 0) (ev2 g_sub (evVar 2) (evC (.int 1))))) eaNil))))))
def c_put : Cl := fnC 3 b_put
theorem sc_put : FnScope ["row", "other", "bell"] ["row", "other"] (defScope s_put) := ⟨rfl, rfl, rfl, by decide +kernel, rfl, by decide +kernel, by decide +kernel⟩
theorem ok_put (fr : Fr mg) (x_BadRow : XAt G mg "BadRow" 1) (F_check_row : FnAt G P w mg base 4 "check_row" 1 c_check_row) (F : FunD G.K "put" "put" (defArgs s_put) (defBody s_put) (defScope s_put) [] [] f fd) (hm : mg "put" = some (.ref f)) : FnAt G P w mg base 6 "put" 2 c_put :=
  fn_bind F hm rfl (fun _ _ _ _ _ _ us hl => match us, hl with | [_, _], _ => rfl) (fn_at (k := 5) F sc_put rfl fun X cdv A outer s H E eX z own => by subst eX; exact
  (ss_cons (ss_expr (zcall z F_check_row (sa_cons (se_var (i := 0) rfl (by trivial) rfl rfl) sa_nil rfl) (eaLen_cons eaLen_nil)))
  (ss_cons (ss_expr (zcall z F_check_row (sa_cons (se_var (i := 1) rfl (by trivial) rfl rfl) sa_nil rfl) (eaLen_cons eaLen_nil)))
  (ss_cons (ss_if (sc_cmp (op2_ne z.K z.hu) (se_fnB (fn_len z.K) rfl fr.len (sa_cons (se_var (i := 0) rfl (by trivial) rfl rfl) sa_nil rfl) boot_len) (se_fnB (fn_len z.K) rfl fr.len (sa_cons (se_var (i := 1) rfl (by trivial) rfl rfl) sa_nil rfl) boot_len) rfl) (ss_one (ss_raise z x_BadRow)) ss_nil)
  (ss_one (ss_ret (se_fnT (fn_tuple z.K) rfl fr.tuple (sa_cons (zlc (own := [("bell", 2)]) (t := (.n 2)) z (si_any z.K (se_var (i := 1) rfl (by trivial) rfl rfl)) (blkOk_by (by kernel_rfl)) (fun s H C cl fp z1 => (pg_name (i := 2) z1.nd rfl (by trivial) (by trivial))) (fun s H C cl fp z1 => sts_nil) (fun s H C cl fp z1 => (se_ix z1.K z1.hu (se_var (i := 0) rfl (by trivial) rfl rfl) (se_bin op2_sub (se_var (i := 2) rfl (by trivial) rfl rfl) (se_int))))) sa_nil rfl) PyProof.Rows.boot_tuple)))))))
/-! undone -/
abbrev s_undone : Stmt := top 16
def b_undone : Es := (esSeq (esE (evCall c_check_row (eaCons (evVar 0) eaNil)))
  (esSeq (esAsg (ev2 g_mul (evLst (eaCons (evC (.int 0)) eaNil)) (evFn (g1 g_len) (eaCons (evVar 0) eaNil))) (egN 1))
  (esSeq (esFor (eiH ivE (eaCons (evVar 0) eaNil)) (egT 2 (egsCons (egN 2) (egsCons (egN 3) egsNil))) (esAsg (ev2 g_add (evVar 2) (evC (.int 1))) (egSub (evVar 1) (ev2 g_sub (evVar 3) (evC (.int 1))))))
  (esRet (evFn (g1 g_tuple) (eaCons (evVar 1) eaNil))))))
def c_undone : Cl := fnC 4 b_undone
theorem sc_undone : FnScope ["row", "found", "place", "bell"] ["row"] (defScope s_undone) := ⟨rfl, rfl, rfl, by decide +kernel, rfl, by decide +kernel, by decide +kernel⟩
theorem ok_undone (fr : Fr mg) (F_check_row : FnAt G P w mg base 4 "check_row" 1 c_check_row) (F : FunD G.K "undone" "undone" (defArgs s_undone) (defBody s_undone) (defScope s_undone) [] [] f fd) (hm : mg "undone" = some (.ref f)) : FnAt G P w mg base 6 "undone" 1 c_undone :=
  fn_bind F hm rfl (fun _ _ _ _ _ _ us hl => match us, hl with | [_], _ => rfl) (fn_at (k := 5) F sc_undone rfl fun X cdv A outer s H E eX z own => by subst eX; exact
  (ss_cons (ss_expr (zcall z F_check_row (sa_cons (se_var (i := 0) rfl (by trivial) rfl rfl) sa_nil rfl) (eaLen_cons eaLen_nil)))
  (ss_cons (ss_asg (se_bin op2_mul (se_lst (sa_cons (se_int) sa_nil rfl)) (se_fnB (fn_len z.K) rfl fr.len (sa_cons (se_var (i := 0) rfl (by trivial) rfl rfl) sa_nil rfl) boot_len)) (sg_name (i := 1) z.nd rfl (by trivial)))
  (ss_cons (ss_for own z.hc (si_enum z.K rfl fr.enumerate (sa_cons (se_var (i := 0) rfl (by trivial) rfl rfl) sa_nil rfl)) (sg_tup z.K z.hc (sgs_cons (sg_name (i := 2) z.nd rfl (by trivial)) (sgs_cons (sg_name (i := 3) z.nd rfl (by trivial)) sgs_nil))) (ss_one (ss_asg (se_bin (op2_add z.K) (se_var (i := 2) rfl (by trivial) rfl rfl) (se_int)) (sg_sub z.hu (se_var (i := 1) rfl (by trivial) rfl rfl) (se_bin op2_sub (se_var (i := 3) rfl (by trivial) rfl rfl) (se_int))))))
  (ss_one (ss_ret (se_fnT (fn_tuple z.K) rfl fr.tuple (sa_cons (se_var (i := 1) rfl (by trivial) rfl rfl) sa_nil rfl) PyProof.Rows.boot_tuple)))))))
/-! between -/
abbrev s_between : Stmt := top 17
def b_between : Es := (esRet (evCall c_put (eaCons (evCall c_undone (eaCons (evVar 0) eaNil)) (eaCons (evVar 1) eaNil))))
def c_between : Cl := fnC 2 b_between
theorem sc_between : FnScope ["one", "other"] ["one", "other"] (defScope s_between) := ⟨rfl, rfl, rfl, by decide +kernel, rfl, by decide +kernel, by decide +kernel⟩
theorem ok_between (fr : Fr mg) (F_put : FnAt G P w mg base 6 "put" 2 c_put) (F_undone : FnAt G P w mg base 6 "undone" 1 c_undone) (F : FunD G.K "between" "between" (defArgs s_between) (defBody s_between) (defScope s_between) [] [] f fd) (hm : mg "between" = some (.ref f)) : FnAt G P w mg base 8 "between" 2 c_between :=
  fn_bind F hm rfl (fun _ _ _ _ _ _ us hl => match us, hl with | [_, _], _ => rfl) (fn_at (k := 7) F sc_between rfl fun X cdv A outer s H E eX z own => by subst eX; exact
  (ss_one (ss_ret (zcall z F_put (sa_cons (zcall z F_undone (sa_cons (se_var (i := 0) rfl (by trivial) rfl rfl) sa_nil rfl) (eaLen_cons eaLen_nil)) (sa_cons (se_var (i := 1) rfl (by trivial) rfl rfl) sa_nil rfl) rfl) (eaLen_cons (eaLen_cons eaLen_nil))))))
/-! rings -/
abbrev s_rings : Stmt := top 18
def b_rings : Es := (esSeq (esE (evCall c_check_row (eaCons (evVar 0) eaNil)))
  (esSeq (esPar 1 2 (eaCons (evNewK) (eaCons (evLst eaNil) eaNil)))
  (esSeq (esFor (eiT (evCall c_rounds (eaCons (evFn (g1 g_len) (eaCons (evVar 0) eaNil)) eaNil))) (egN 3) (esIf (ecB (ev2 g_nin (evVar 3) (evVar 1))) (esSeq (esPar 4 5 (eaCons (evLst eaNil) (eaCons (evVar 3) eaNil)))
  (esSeq (esWh FUEL (ecB (ev2 g_nin (evVar 5) (evVar 1))) (esSeq (esAsg (evC (.bl true)) (egSub (evVar 1) (evVar 5)))
  (esSeq (esE (evMt .L m_append (evVar 4) (eaCons (evVar 5) eaNil)))
  (esAsg (ev2 g_ix (evVar 0) (ev2 g_sub (evVar 5) (evC (.int 1)))) (egN 5)))))
  (esE (evMt .L m_append (evVar 2) (eaCons (evFn (g1 g_tuple) (eaCons (evVar 4) eaNil)) eaNil))))) esNil))
  (esRet (evFn (g1 g_tuple) (eaCons (evVar 2) eaNil))))))
def c_rings : Cl := fnC 6 b_rings
theorem sc_rings : FnScope ["row", "seen", "found", "start", "mine", "here"] ["row"] (defScope s_rings) := ⟨rfl, rfl, rfl, by decide +kernel, rfl, by decide +kernel, by decide +kernel⟩
theorem ok_rings (fr : Fr mg) (F_check_row : FnAt G P w mg base 4 "check_row" 1 c_check_row) (F_rounds : FnAt G P w mg base 2 "rounds" 1 c_rounds) (F : FunD G.K "rings" "rings" (defArgs s_rings) (defBody s_rings) (defScope s_rings) [] [] f fd) (hm : mg "rings" = some (.ref f)) : FnAt G P w mg base 6 "rings" 1 c_rings :=
  fn_bind F hm rfl (fun _ _ _ _ _ _ us hl => match us, hl with | [_], _ => rfl) (fn_at (k := 5) F sc_rings rfl fun X cdv A outer s H E eX z own => by subst eX; exact
  (ss_cons (ss_expr (zcall z F_check_row (sa_cons (se_var (i := 0) rfl (by trivial) rfl rfl) sa_nil rfl) (eaLen_cons eaLen_nil)))
  (ss_cons (ss_par (i := 1) (j := 2) z.hc z.nd rfl rfl (by decide) rfl rfl (sa_cons (se_newK) (sa_cons (se_lst sa_nil) sa_nil rfl) rfl))
  (ss_cons (ss_for own z.hc (si_any z.K (zcall z F_rounds (sa_cons (se_fnB (fn_len z.K) rfl fr.len (sa_cons (se_var (i := 0) rfl (by trivial) rfl rfl) sa_nil rfl) boot_len) sa_nil rfl) (eaLen_cons eaLen_nil))) (sg_name (i := 3) z.nd rfl (by trivial)) (ss_one (ss_if (sc_cmp (op2_nin z.K z.hu) (se_var (i := 3) rfl (by trivial) rfl rfl) (se_var (i := 1) rfl (by trivial) rfl rfl) rfl) (ss_cons (ss_par (i := 4) (j := 5) z.hc z.nd rfl rfl (by decide) rfl rfl (sa_cons (se_lst sa_nil) (sa_cons (se_var (i := 3) rfl (by trivial) rfl rfl) sa_nil rfl) rfl))
  (ss_cons (ss_wh own (sc_cmp (op2_nin z.K z.hu) (se_var (i := 5) rfl (by trivial) rfl rfl) (se_var (i := 1) rfl (by trivial) rfl rfl) rfl) (ss_cons (ss_asg (se_bl) (sg_sub z.hu (se_var (i := 1) rfl (by trivial) rfl rfl) (se_var (i := 5) rfl (by trivial) rfl rfl)))
  (ss_cons (ss_expr (se_mt (k := .L) z.K PySem.F.plainAttrs_list PySem.F.slot_list_append PySem.F.type_list_append mtd_append (se_var (i := 4) rfl (by trivial) rfl rfl) (sa_cons (se_var (i := 5) rfl (by trivial) rfl rfl) sa_nil rfl)))
  (ss_one (ss_asg (se_ix z.K z.hu (se_var (i := 0) rfl (by trivial) rfl rfl) (se_bin op2_sub (se_var (i := 5) rfl (by trivial) rfl rfl) (se_int))) (sg_name (i := 5) z.nd rfl (by trivial)))))))
  (ss_one (ss_expr (se_mt (k := .L) z.K PySem.F.plainAttrs_list PySem.F.slot_list_append PySem.F.type_list_append mtd_append (se_var (i := 2) rfl (by trivial) rfl rfl) (sa_cons (se_fnT (fn_tuple z.K) rfl fr.tuple (sa_cons (se_var (i := 4) rfl (by trivial) rfl rfl) sa_nil rfl) PyProof.Rows.boot_tuple) sa_nil rfl)))))) ss_nil)))
  (ss_one (ss_ret (se_fnT (fn_tuple z.K) rfl fr.tuple (sa_cons (se_var (i := 2) rfl (by trivial) rfl rfl) sa_nil rfl) PyProof.Rows.boot_tuple)))))))
/-! sign -/
abbrev s_sign : Stmt := top 19
def b_sign : Es := (esRet (evIf (ecB (ev2 g_eq (ev2 g_mod (ev2 g_sub (evFn (g1 g_len) (eaCons (evVar 0) eaNil)) (evFn (g1 g_len) (eaCons (evCall c_rings (eaCons (evVar 0) eaNil)) eaNil))) (evC (.int 2))) (evC (.int 0)))) (evC (.int 1)) (evNeg (evC (.int 1)))))
def c_sign : Cl := fnC 1 b_sign
theorem sc_sign : FnScope ["row"] ["row"] (defScope s_sign) := ⟨rfl, rfl, rfl, by decide +kernel, rfl, by decide +kernel, by decide +kernel⟩
theorem ok_sign (fr : Fr mg) (F_rings : FnAt G P w mg base 6 "rings" 1 c_rings) (F : FunD G.K "sign" "sign" (defArgs s_sign) (defBody s_sign) (defScope s_sign) [] [] f fd) (hm : mg "sign" = some (.ref f)) : FnAt G P w mg base 8 "sign" 1 c_sign :=
  fn_bind F hm rfl (fun _ _ _ _ _ _ us hl => match us, hl with | [_], _ => rfl) (fn_at (k := 7) F sc_sign rfl fun X cdv A outer s H E eX z own => by subst eX; exact
  (ss_one (ss_ret (se_if (sc_cmp (op2_eq z.K z.hu) (se_bin op2_mod (se_bin op2_sub (se_fnB (fn_len z.K) rfl fr.len (sa_cons (se_var (i := 0) rfl (by trivial) rfl rfl) sa_nil rfl) boot_len) (se_fnB (fn_len z.K) rfl fr.len (sa_cons (zcall z F_rings (sa_cons (se_var (i := 0) rfl (by trivial) rfl rfl) sa_nil rfl) (eaLen_cons eaLen_nil)) sa_nil rfl) boot_len)) (se_int)) (se_int) rfl) (se_int) (se_neg (se_int))))))
/-! order -/
abbrev s_order : Stmt := top 20
def b_order : Es := (esSeq (esAsg (evC (.int 1)) (egN 1))
  (esSeq (esFor (eiT (evCall c_rings (eaCons (evVar 0) eaNil))) (egN 2) (esSeq (esPar 3 4 (eaCons (evVar 1) (eaCons (evFn (g1 g_len) (eaCons (evVar 2) eaNil)) eaNil)))
  (esSeq (esWh FUEL (ecB (ev2 g_ne (evVar 4) (evC (.int 0)))) (esPar 3 4 (eaCons (evVar 4) (eaCons (ev2 g_mod (evVar 3) (evVar 4)) eaNil))))
  (esAsg (ev2 g_fdiv (ev2 g_mul (evVar 1) (evFn (g1 g_len) (eaCons (evVar 2) eaNil))) (evVar 3)) (egN 1)))))
  (esRet (evVar 1))))
def c_order : Cl := fnC 5 b_order
theorem sc_order : FnScope ["row", "found", "ring", "a", "b"] ["row"] (defScope s_order) := ⟨rfl, rfl, rfl, by decide +kernel, rfl, by decide +kernel, by decide +kernel⟩
theorem ok_order (fr : Fr mg) (F_rings : FnAt G P w mg base 6 "rings" 1 c_rings) (F : FunD G.K "order" "order" (defArgs s_order) (defBody s_order) (defScope s_order) [] [] f fd) (hm : mg "order" = some (.ref f)) : FnAt G P w mg base 8 "order" 1 c_order :=
  fn_bind F hm rfl (fun _ _ _ _ _ _ us hl => match us, hl with | [_], _ => rfl) (fn_at (k := 7) F sc_order rfl fun X cdv A outer s H E eX z own => by subst eX; exact
  (ss_cons (ss_asg (se_int) (sg_name (i := 1) z.nd rfl (by trivial)))
  (ss_cons (ss_for own z.hc (si_any z.K (zcall z F_rings (sa_cons (se_var (i := 0) rfl (by trivial) rfl rfl) sa_nil rfl) (eaLen_cons eaLen_nil))) (sg_name (i := 2) z.nd rfl (by trivial)) (ss_cons (ss_par (i := 3) (j := 4) z.hc z.nd rfl rfl (by decide) rfl rfl (sa_cons (se_var (i := 1) rfl (by trivial) rfl rfl) (sa_cons (se_fnB (fn_len z.K) rfl fr.len (sa_cons (se_var (i := 2) rfl (by trivial) rfl rfl) sa_nil rfl) boot_len) sa_nil rfl) rfl))
  (ss_cons (ss_wh own (sc_cmp (op2_ne z.K z.hu) (se_var (i := 4) rfl (by trivial) rfl rfl) (se_int) rfl) (ss_one (ss_par (i := 3) (j := 4) z.hc z.nd rfl rfl (by decide) rfl rfl (sa_cons (se_var (i := 4) rfl (by trivial) rfl rfl) (sa_cons (se_bin op2_mod (se_var (i := 3) rfl (by trivial) rfl rfl) (se_var (i := 4) rfl (by trivial) rfl rfl)) sa_nil rfl) rfl))))
  (ss_one (ss_asg (se_bin op2_fdiv (se_bin op2_mul (se_var (i := 1) rfl (by trivial) rfl rfl) (se_fnB (fn_len z.K) rfl fr.len (sa_cons (se_var (i := 2) rfl (by trivial) rfl rfl) sa_nil rfl) boot_len)) (se_var (i := 3) rfl (by trivial) rfl rfl)) (sg_name (i := 1) z.nd rfl (by trivial)))))))
  (ss_one (ss_ret (se_var (i := 1) rfl (by trivial) rfl rfl))))))
/-! power -/
abbrev s_power : Stmt := top 21
def b_power : Es := (esSeq (esPar 2 3 (eaCons (evCall c_rounds (eaCons (evFn (g1 g_len) (eaCons (evVar 0) eaNil)) eaNil)) (eaCons (evIf (ecB (ev2 g_ge (evVar 1) (evC (.int 0)))) (evVar 0) (evCall c_undone (eaCons (evVar 0) eaNil))) eaNil)))
  (esSeq (esFor (eiA iv1 (eaCons (ev2 g_mod (evFn (g1 g_abs) (eaCons (evVar 1) eaNil)) (evCall c_order (eaCons (evVar 0) eaNil))) eaNil)) (egN 4) (esAsg (evCall c_put (eaCons (evVar 2) (eaCons (evVar 3) eaNil))) (egN 2)))
  (esRet (evVar 2))))
def c_power : Cl := fnC 5 b_power
theorem sc_power : FnScope ["row", "many", "found", "step", "k"] ["row", "many"] (defScope s_power) := ⟨rfl, rfl, rfl, by decide +kernel, rfl, by decide +kernel, by decide +kernel⟩
theorem ok_power (fr : Fr mg) (F_order : FnAt G P w mg base 8 "order" 1 c_order) (F_put : FnAt G P w mg base 6 "put" 2 c_put) (F_rounds : FnAt G P w mg base 2 "rounds" 1 c_rounds) (F_undone : FnAt G P w mg base 6 "undone" 1 c_undone) (F : FunD G.K "power" "power" (defArgs s_power) (defBody s_power) (defScope s_power) [] [] f fd) (hm : mg "power" = some (.ref f)) : FnAt G P w mg base 10 "power" 2 c_power :=
  fn_bind F hm rfl (fun _ _ _ _ _ _ us hl => match us, hl with | [_, _], _ => rfl) (fn_at (k := 9) F sc_power rfl fun X cdv A outer s H E eX z own => by subst eX; exact
  (ss_cons (ss_par (i := 2) (j := 3) z.hc z.nd rfl rfl (by decide) rfl rfl (sa_cons (zcall z F_rounds (sa_cons (se_fnB (fn_len z.K) rfl fr.len (sa_cons (se_var (i := 0) rfl (by trivial) rfl rfl) sa_nil rfl) boot_len) sa_nil rfl) (eaLen_cons eaLen_nil)) (sa_cons (se_if (sc_cmp (op2_cmpI op_ge) (se_var (i := 1) rfl (by trivial) rfl rfl) (se_int) rfl) (se_var (i := 0) rfl (by trivial) rfl rfl) (zcall z F_undone (sa_cons (se_var (i := 0) rfl (by trivial) rfl rfl) sa_nil rfl) (eaLen_cons eaLen_nil))) sa_nil rfl) rfl))
  (ss_cons (ss_for own z.hc (si_rg1 rfl fr.range (sa_cons (se_bin op2_mod (se_fnB fn_abs rfl fr.abs (sa_cons (se_var (i := 1) rfl (by trivial) rfl rfl) sa_nil rfl) PyProof.Rows.boot_abs) (zcall z F_order (sa_cons (se_var (i := 0) rfl (by trivial) rfl rfl) sa_nil rfl) (eaLen_cons eaLen_nil))) sa_nil rfl)) (sg_name (i := 4) z.nd rfl (by trivial)) (ss_one (ss_asg (zcall z F_put (sa_cons (se_var (i := 2) rfl (by trivial) rfl rfl) (sa_cons (se_var (i := 3) rfl (by trivial) rfl rfl) sa_nil rfl) rfl) (eaLen_cons (eaLen_cons eaLen_nil))) (sg_name (i := 2) z.nd rfl (by trivial)))))
  (ss_one (ss_ret (se_var (i := 2) rfl (by trivial) rfl rfl))))))
/-! wrong_pairs -/
abbrev s_wrong_pairs : Stmt := top 22
def b_wrong_pairs : Es := (esRet (evSum2 200 (eiA iv1 (eaCons (evFn (g1 g_len) (eaCons (evVar 0) eaNil)) eaNil)) (.n 1) [1, 2] eYes (eiA iv1 (eaCons (evVar 1) eaNil)) (.n 2) [2] (ecB (ev2 g_gt (ev2 g_ix (evVar 0) (evVar 2)) (ev2 g_ix (evVar 0) (evVar 1)))) (evC (.int 1))))
def c_wrong_pairs : Cl := fnC 3 b_wrong_pairs
theorem sc_wrong_pairs : FnScope ["row", "k", "j"] ["row"] (defScope s_wrong_pairs) := ⟨rfl, rfl, rfl, by decide +kernel, rfl, by decide +kernel, by decide +kernel⟩
theorem ok_wrong_pairs (fr : Fr mg) (tb : TbAt G mg base ((envOfC "wrong_pairs" (defScope s_wrong_pairs) 0 0 .none).qual ++ "<genexpr>") fd.code) (F : FunD G.K "wrong_pairs" "wrong_pairs" (defArgs s_wrong_pairs) (defBody s_wrong_pairs) (defScope s_wrong_pairs) [] [] f fd) (hm : mg "wrong_pairs" = some (.ref f)) : FnAt G P w mg base 3 "wrong_pairs" 1 c_wrong_pairs :=
  fn_bind F hm rfl (fun _ _ _ _ _ _ us hl => match us, hl with | [_], _ => rfl) (fn_atC (k := 2) F sc_wrong_pairs rfl fun X cdv A outer s H E eC eX z own => by subst eX; subst eC; exact
  (ss_one (ss_ret (zsum2 (B := 200) (own := [("k", 1), ("j", 2)]) (vs1 := [2]) (t := (.n 1)) (t1 := (.n 2)) z tb fr.sum (si_rg1 rfl fr.range (sa_cons (se_fnB (fn_len z.K) rfl fr.len (sa_cons (se_var (i := 0) rfl (by trivial) rfl rfl) sa_nil rfl) boot_len) sa_nil rfl)) (blkOk_by (by kernel_rfl)) (by kernel_rfl) rfl (fun s H C fp a go zg => (pg_name (i := 1) zg.nd rfl (by trivial) (by trivial))) (fun s H C fp a go zg => sts_nil) (fun s H C fp a go zg => (si_rg1 rfl fr.range (sa_cons (se_var (i := 1) rfl (by trivial) rfl rfl) sa_nil rfl))) (fun s H C fp a go zg => (pg_name (i := 2) zg.nd rfl (by trivial) (by trivial))) (fun s H C fp a go zg => (sts_one (sc_cmp (op2_cmpI op_gt) (se_ix zg.K zg.hu (se_var (i := 0) rfl (by trivial) rfl rfl) (se_var (i := 2) rfl (by trivial) rfl rfl)) (se_ix zg.K zg.hu (se_var (i := 0) rfl (by trivial) rfl rfl) (se_var (i := 1) rfl (by trivial) rfl rfl)) rfl))) (fun s H C fp a go zg => (se_int))))))
/-! extent -/
abbrev s_extent : Stmt := top 23
def b_extent : Es := (esSeq (esAsg (evC (.int 1)) (egN 1))
  (esSeq (esFor (eiT (evCall c_rounds (eaCons (evVar 0) eaNil))) (egN 2) (esAug 1 g_imul (evVar 2)))
  (esRet (evVar 1))))
def c_extent : Cl := fnC 3 b_extent
theorem sc_extent : FnScope ["stage", "found", "k"] ["stage"] (defScope s_extent) := ⟨rfl, rfl, rfl, by decide +kernel, rfl, by decide +kernel, by decide +kernel⟩
theorem ok_extent (fr : Fr mg) (F_rounds : FnAt G P w mg base 2 "rounds" 1 c_rounds) (F : FunD G.K "extent" "extent" (defArgs s_extent) (defBody s_extent) (defScope s_extent) [] [] f fd) (hm : mg "extent" = some (.ref f)) : FnAt G P w mg base 4 "extent" 1 c_extent :=
  fn_bind F hm rfl (fun _ _ _ _ _ _ us hl => match us, hl with | [_], _ => rfl) (fn_at (k := 3) F sc_extent rfl fun X cdv A outer s H E eX z own => by subst eX; exact
  (ss_cons (ss_asg (se_int) (sg_name (i := 1) z.nd rfl (by trivial)))
  (ss_cons (ss_for own z.hc (si_any z.K (zcall z F_rounds (sa_cons (se_var (i := 0) rfl (by trivial) rfl rfl) sa_nil rfl) (eaLen_cons eaLen_nil))) (sg_name (i := 2) z.nd rfl (by trivial)) (ss_one (ss_aug (i := 1) z.nd rfl (by trivial) (se_var (i := 2) rfl (by trivial) rfl rfl) ip2_mul)))
  (ss_one (ss_ret (se_var (i := 1) rfl (by trivial) rfl rfl))))))
/-! nth -/
abbrev s_nth : Stmt := top 24
def b_nth : Es := (esSeq (esAsg (evCall c_extent (eaCons (evVar 1) eaNil)) (egN 2))
  (esSeq (esIf (ecNot (ecB (evChn g_le g_lt (evC (.int 0)) (evVar 0) (evVar 2)))) (esRaise 1) esNil)
  (esSeq (esPar 3 4 (eaCons (evFn (g1 g_list) (eaCons (evCall c_rounds (eaCons (evVar 1) eaNil)) eaNil)) (eaCons (evLst eaNil) eaNil)))
  (esSeq (esFor (eiA iv3 (eaCons (evVar 1) (eaCons (evC (.int 0)) (eaCons (evNeg (evC (.int 1))) eaNil)))) (egN 5) (esSeq (esAug 2 g_fdiv (evVar 5))
  (esSeq (esE (evMt .L m_append (evVar 4) (eaCons (evMt .L m_popA (evVar 3) (eaCons (ev2 g_fdiv (evVar 0) (evVar 2)) eaNil)) eaNil)))
  (esAug 0 g_mod (evVar 2)))))
  (esRet (evFn (g1 g_tuple) (eaCons (evVar 4) eaNil)))))))
def c_nth : Cl := fnC 6 b_nth
theorem sc_nth : FnScope ["number", "stage", "whole", "left", "found", "k"] ["number", "stage"] (defScope s_nth) := ⟨rfl, rfl, rfl, by decide +kernel, rfl, by decide +kernel, by decide +kernel⟩
theorem ok_nth (fr : Fr mg) (x_BadRow : XAt G mg "BadRow" 1) (F_extent : FnAt G P w mg base 4 "extent" 1 c_extent) (F_rounds : FnAt G P w mg base 2 "rounds" 1 c_rounds) (F : FunD G.K "nth" "nth" (defArgs s_nth) (defBody s_nth) (defScope s_nth) [] [] f fd) (hm : mg "nth" = some (.ref f)) : FnAt G P w mg base 6 "nth" 2 c_nth :=
  fn_bind F hm rfl (fun _ _ _ _ _ _ us hl => match us, hl with | [_, _], _ => rfl) (fn_at (k := 5) F sc_nth rfl fun X cdv A outer s H E eX z own => by subst eX; exact
  (ss_cons (ss_asg (zcall z F_extent (sa_cons (se_var (i := 1) rfl (by trivial) rfl rfl) sa_nil rfl) (eaLen_cons eaLen_nil)) (sg_name (i := 2) z.nd rfl (by trivial)))
  (ss_cons (ss_if (sc_not (sc_chn (op2_cmpI op_le) (op2_cmpI op_lt) (se_int) (se_var (i := 0) rfl (by trivial) rfl rfl) (se_var (i := 2) rfl (by trivial) rfl rfl) rfl)) (ss_one (ss_raise z x_BadRow)) ss_nil)
  (ss_cons (ss_par (i := 3) (j := 4) z.hc z.nd rfl rfl (by decide) rfl rfl (sa_cons (se_fnT (fn_list z.K) rfl fr.list (sa_cons (zcall z F_rounds (sa_cons (se_var (i := 1) rfl (by trivial) rfl rfl) sa_nil rfl) (eaLen_cons eaLen_nil)) sa_nil rfl) PyProof.Rows.boot_list) (sa_cons (se_lst sa_nil) sa_nil rfl) rfl))
  (ss_cons (ss_for own z.hc (si_rg3 rfl fr.range (sa_cons (se_var (i := 1) rfl (by trivial) rfl rfl) (sa_cons (se_int) (sa_cons (se_neg (se_int)) sa_nil rfl) rfl) rfl)) (sg_name (i := 5) z.nd rfl (by trivial)) (ss_cons (ss_aug (i := 2) z.nd rfl (by trivial) (se_var (i := 5) rfl (by trivial) rfl rfl) ip2_fdiv)
  (ss_cons (ss_expr (se_mt (k := .L) z.K PySem.F.plainAttrs_list PySem.F.slot_list_append PySem.F.type_list_append mtd_append (se_var (i := 4) rfl (by trivial) rfl rfl) (sa_cons (se_mt (k := .L) z.K PySem.F.plainAttrs_list PySem.F.slot_list_pop PySem.F.type_list_pop mtd_pop (se_var (i := 3) rfl (by trivial) rfl rfl) (sa_cons (se_bin op2_fdiv (se_var (i := 0) rfl (by trivial) rfl rfl) (se_var (i := 2) rfl (by trivial) rfl rfl)) sa_nil rfl)) sa_nil rfl)))
  (ss_one (ss_aug (i := 0) z.nd rfl (by trivial) (se_var (i := 2) rfl (by trivial) rfl rfl) ip2_mod)))))
  (ss_one (ss_ret (se_fnT (fn_tuple z.K) rfl fr.tuple (sa_cons (se_var (i := 4) rfl (by trivial) rfl rfl) sa_nil rfl) PyProof.Rows.boot_tuple))))))))
/-! number_of -/
abbrev s_number_of : Stmt := top 25
def b_number_of : Es := (esSeq (esE (evCall c_check_row (eaCons (evVar 0) eaNil)))
  (esSeq (esPar 1 2 (eaCons (evC (.int 0)) (eaCons (evCall c_extent (eaCons (evFn (g1 g_len) (eaCons (evVar 0) eaNil)) eaNil)) eaNil)))
  (esSeq (esFor (eiH ivE (eaCons (evVar 0) eaNil)) (egT 2 (egsCons (egN 3) (egsCons (egN 4) egsNil))) (esSeq (esAug 2 g_fdiv (ev2 g_sub (evFn (g1 g_len) (eaCons (evVar 0) eaNil)) (evVar 3)))
  (esAug 1 g_iadd (ev2 g_mul (evVar 2) (evSum (eiT (evSl (evVar 0) (eoS (ev2 g_add (evVar 3) (evC (.int 1)))) eoN)) (.n 5) [5] (ecB (ev2 g_lt (evVar 5) (evVar 4))) (evC (.int 1)))))))
  (esRet (evVar 1)))))
def c_number_of : Cl := fnC 6 b_number_of
theorem sc_number_of : FnScope ["row", "found", "whole", "k", "bell", "other"] ["row"] (defScope s_number_of) := ⟨rfl, rfl, rfl, by decide +kernel, rfl, by decide +kernel, by decide +kernel⟩
theorem ok_number_of (fr : Fr mg) (F_check_row : FnAt G P w mg base 4 "check_row" 1 c_check_row) (F_extent : FnAt G P w mg base 4 "extent" 1 c_extent) (tb : TbAt G mg base ((envOfC "number_of" (defScope s_number_of) 0 0 .none).qual ++ "<genexpr>") fd.code) (F : FunD G.K "number_of" "number_of" (defArgs s_number_of) (defBody s_number_of) (defScope s_number_of) [] [] f fd) (hm : mg "number_of" = some (.ref f)) : FnAt G P w mg base 6 "number_of" 1 c_number_of :=
  fn_bind F hm rfl (fun _ _ _ _ _ _ us hl => match us, hl with | [_], _ => rfl) (fn_atC (k := 5) F sc_number_of rfl fun X cdv A outer s H E eC eX z own => by subst eX; subst eC; exact
  (ss_cons (ss_expr (zcall z F_check_row (sa_cons (se_var (i := 0) rfl (by trivial) rfl rfl) sa_nil rfl) (eaLen_cons eaLen_nil)))
  (ss_cons (ss_par (i := 1) (j := 2) z.hc z.nd rfl rfl (by decide) rfl rfl (sa_cons (se_int) (sa_cons (zcall z F_extent (sa_cons (se_fnB (fn_len z.K) rfl fr.len (sa_cons (se_var (i := 0) rfl (by trivial) rfl rfl) sa_nil rfl) boot_len) sa_nil rfl) (eaLen_cons eaLen_nil)) sa_nil rfl) rfl))
  (ss_cons (ss_for own z.hc (si_enum z.K rfl fr.enumerate (sa_cons (se_var (i := 0) rfl (by trivial) rfl rfl) sa_nil rfl)) (sg_tup z.K z.hc (sgs_cons (sg_name (i := 3) z.nd rfl (by trivial)) (sgs_cons (sg_name (i := 4) z.nd rfl (by trivial)) sgs_nil))) (ss_cons (ss_aug (i := 2) z.nd rfl (by trivial) (se_bin op2_sub (se_fnB (fn_len z.K) rfl fr.len (sa_cons (se_var (i := 0) rfl (by trivial) rfl rfl) sa_nil rfl) boot_len) (se_var (i := 3) rfl (by trivial) rfl rfl)) ip2_fdiv)
  (ss_one (ss_aug (i := 1) z.nd rfl (by trivial) (se_bin op2_mul (se_var (i := 2) rfl (by trivial) rfl rfl) (zsum (own := [("other", 5)]) (t := (.n 5)) z tb fr.sum (si_any z.K (se_sl z.K (se_var (i := 0) rfl (by trivial) rfl rfl) (so_some (se_bin (op2_add z.K) (se_var (i := 3) rfl (by trivial) rfl rfl) (se_int))) so_none)) (blkOk_by (by kernel_rfl)) (by kernel_rfl) (fun s H C fp a go zg => (pg_name (i := 5) zg.nd rfl (by trivial) (by trivial))) (fun s H C fp a go zg => (sts_one (sc_cmp (op2_cmpI op_lt) (se_var (i := 5) rfl (by trivial) rfl rfl) (se_var (i := 4) rfl (by trivial) rfl rfl) rfl))) (fun s H C fp a go zg => (se_int)))) ip2_add))))
  (ss_one (ss_ret (se_var (i := 1) rfl (by trivial) rfl rfl)))))))
/-! all_rows -/
abbrev s_all_rows : Stmt := top 26
def b_all_rows : Es := (esSeq (esIf (ecB (ev2 g_gt (evVar 0) (evC (.int 7)))) (esRaise 6) esNil)
  (esSeq (esAsg (evLst (eaCons (evTup eaNil) eaNil)) (egN 1))
  (esSeq (esFor (eiT (evCall c_rounds (eaCons (evVar 0) eaNil))) (egN 2) (esAsg (evLc2 (eiT (evVar 1)) (.n 3) [3, 4] eYes (eiA iv1 (eaCons (ev2 g_add (evFn (g1 g_len) (eaCons (evVar 3) eaNil)) (evC (.int 1))) eaNil)) (.n 4) [4] eYes (ev2 g_add (ev2 g_add (evSl (evVar 3) eoN (eoS (evVar 4))) (evTup (eaCons (evVar 2) eaNil))) (evSl (evVar 3) (eoS (evVar 4)) eoN))) (egN 1)))
  (esRet (evFn (g1 g_tuple) (eaCons (evFn (g1 g_sorted) (eaCons (evVar 1) eaNil)) eaNil))))))
def c_all_rows : Cl := fnC 5 b_all_rows
theorem sc_all_rows : FnScope ["stage", "found", "k", "row", "j"] ["stage"] (defScope s_all_rows) := ⟨rfl, rfl, rfl, by decide +kernel, rfl, by decide +kernel, by decide +kernel⟩
theorem ok_all_rows (fr : Fr mg) (x_TooLarge : XAt G mg "TooLarge" 6) (F_rounds : FnAt G P w mg base 2 "rounds" 1 c_rounds) (F : FunD G.K "all_rows" "all_rows" (defArgs s_all_rows) (defBody s_all_rows) (defScope s_all_rows) [] [] f fd) (hm : mg "all_rows" = some (.ref f)) : FnAt G P w mg base 4 "all_rows" 1 c_all_rows :=
  fn_bind F hm rfl (fun _ _ _ _ _ _ us hl => match us, hl with | [_], _ => rfl) (fn_at (k := 3) F sc_all_rows rfl fun X cdv A outer s H E eX z own => by subst eX; exact
  (ss_cons (ss_if (sc_cmp (op2_cmpI op_gt) (se_var (i := 0) rfl (by trivial) rfl rfl) (se_int) rfl) (ss_one (ss_raise z x_TooLarge)) ss_nil)
  (ss_cons (ss_asg (se_lst (sa_cons (se_tup sa_nil) sa_nil rfl)) (sg_name (i := 1) z.nd rfl (by trivial)))
  (ss_cons (ss_for own z.hc (si_any z.K (zcall z F_rounds (sa_cons (se_var (i := 0) rfl (by trivial) rfl rfl) sa_nil rfl) (eaLen_cons eaLen_nil))) (sg_name (i := 2) z.nd rfl (by trivial)) (ss_one (zsetLc2 (i := 1) (own := [("row", 3), ("j", 4)]) (vs1 := [4]) (t := (.n 3)) (t1 := (.n 4)) z rfl rfl (sw_true rfl rfl rfl rfl) (si_any z.K (se_var (i := 1) rfl (by trivial) rfl rfl)) (blkOk_by (by kernel_rfl)) rfl (fun s H C cl fp z1 => (pg_name (i := 3) z1.nd rfl (by trivial) (by trivial))) (fun s H C cl fp z1 => sts_nil) (fun s H C cl fp z1 => (si2_rg1 rfl fr.range (sa_cons (se_bin (op2_add z1.K) (se_fnB (fn_len z1.K) rfl fr.len (sa_cons (se_var (i := 3) rfl (by trivial) rfl rfl) sa_nil rfl) boot_len) (se_int)) sa_nil rfl))) (fun s H C cl fp z1 => (pg_name (i := 4) z1.nd rfl (by trivial) (by trivial))) (fun s H C cl fp z1 => sts_nil) (fun s H C cl fp z1 => (se_bin (op2_add z1.K) (se_bin (op2_add z1.K) (se_sl z1.K (se_var (i := 3) rfl (by trivial) rfl rfl) so_none (so_some (se_var (i := 4) rfl (by trivial) rfl rfl))) (se_tup (sa_cons (se_var (i := 2) rfl (by trivial) rfl rfl) sa_nil rfl))) (se_sl z1.K (se_var (i := 3) rfl (by trivial) rfl rfl) (so_some (se_var (i := 4) rfl (by trivial) rfl rfl)) so_none))))))
  (ss_one (ss_ret (se_fnT (fn_tuple z.K) rfl fr.tuple (sa_cons (se_fnB (fn_sorted z.K z.hc z.hu) rfl fr.sorted (sa_cons (se_var (i := 1) rfl (by trivial) rfl rfl) sa_nil rfl) PyProof.Rows.boot_sorted) sa_nil rfl) PyProof.Rows.boot_tuple)))))))
/-! made_by -/
abbrev s_made_by : Stmt := top 27
def b_made_by : Es := (esSeq (esIf ((ecOr (ecB (ev2 g_eq (evFn (g1 g_len) (eaCons (evVar 0) eaNil)) (evC (.int 0)))) (ecB (ev2 g_gt (evFn (g1 g_len) (eaCons (ev2 g_ix (evVar 0) (evC (.int 0))) eaNil)) (evC (.int 7)))))) (esRaise 6) esNil)
  (esSeq (esAsg (evCall c_rounds (eaCons (evFn (g1 g_len) (eaCons (ev2 g_ix (evVar 0) (evC (.int 0))) eaNil)) eaNil)) (egN 1))
  (esSeq (esPar 2 3 (eaCons (evDispT [((evVar 1), (evC (.bl true)))]) (eaCons (evLst (eaCons (evVar 1) eaNil)) eaNil)))
  (esSeq (esWh FUEL (ecB (ev2 g_ne (evVar 3) (evLst eaNil))) (esSeq (esAsg (evMt .L m_popA (evVar 3) eaNil) (egN 4))
  (esFor (eiT (evVar 0)) (egN 5) (esSeq (esAsg (evCall c_put (eaCons (evVar 4) (eaCons (evVar 5) eaNil))) (egN 6))
  (esIf (ecB (ev2 g_nin (evVar 6) (evVar 2))) (esSeq (esAsg (evC (.bl true)) (egSub (evVar 2) (evVar 6)))
  (esE (evMt .L m_append (evVar 3) (eaCons (evVar 6) eaNil)))) esNil)))))
  (esRet (evFn (g1 g_tuple) (eaCons (evFn (g1 g_sorted) (eaCons (evVar 2) eaNil)) eaNil)))))))
def c_made_by : Cl := fnC 7 b_made_by
theorem sc_made_by : FnScope ["seeds", "first", "found", "left", "here", "seed", "there"] ["seeds"] (defScope s_made_by) := ⟨rfl, rfl, rfl, by decide +kernel, rfl, by decide +kernel, by decide +kernel⟩
theorem ok_made_by (fr : Fr mg) (x_TooLarge : XAt G mg "TooLarge" 6) (F_put : FnAt G P w mg base 6 "put" 2 c_put) (F_rounds : FnAt G P w mg base 2 "rounds" 1 c_rounds) (F : FunD G.K "made_by" "made_by" (defArgs s_made_by) (defBody s_made_by) (defScope s_made_by) [] [] f fd) (hm : mg "made_by" = some (.ref f)) : FnAt G P w mg base 8 "made_by" 1 c_made_by :=
  fn_bind F hm rfl (fun _ _ _ _ _ _ us hl => match us, hl with | [_], _ => rfl) (fn_at (k := 7) F sc_made_by rfl fun X cdv A outer s H E eX z own => by subst eX; exact
  (ss_cons (ss_if (PW.pt (sc_or (sc_cmp (op2_eq z.K z.hu) (se_fnB (fn_len z.K) rfl fr.len (sa_cons (se_var (i := 0) rfl (by trivial) rfl rfl) sa_nil rfl) boot_len) (se_int) rfl) (sc_or1 (sc_cmp (op2_cmpI op_gt) (se_fnB (fn_len z.K) rfl fr.len (sa_cons (se_ix z.K z.hu (se_var (i := 0) rfl (by trivial) rfl rfl) (se_int)) sa_nil rfl) boot_len) (se_int) rfl)))) (ss_one (ss_raise z x_TooLarge)) ss_nil)
  (ss_cons (ss_asg (zcall z F_rounds (sa_cons (se_fnB (fn_len z.K) rfl fr.len (sa_cons (se_ix z.K z.hu (se_var (i := 0) rfl (by trivial) rfl rfl) (se_int)) sa_nil rfl) boot_len) sa_nil rfl) (eaLen_cons eaLen_nil)) (sg_name (i := 1) z.nd rfl (by trivial)))
  (ss_cons (ss_par (i := 2) (j := 3) z.hc z.nd rfl rfl (by decide) rfl rfl (sa_cons (se_dispT z.hu (l := [((evVar 1), (evC (.bl true)))]) (pps_cons (se_var (i := 1) rfl (by trivial) rfl rfl) (se_bl) pps_nil)) (sa_cons (se_lst (sa_cons (se_var (i := 1) rfl (by trivial) rfl rfl) sa_nil rfl)) sa_nil rfl) rfl))
  (ss_cons (ss_wh own (sc_cmp (op2_ne z.K z.hu) (se_var (i := 3) rfl (by trivial) rfl rfl) (se_lst sa_nil) rfl) (ss_cons (ss_asg (se_mt0 (k := .L) z.K PySem.F.plainAttrs_list PySem.F.slot_list_pop PySem.F.type_list_pop mtd_pop (se_var (i := 3) rfl (by trivial) rfl rfl)) (sg_name (i := 4) z.nd rfl (by trivial)))
  (ss_one (ss_for own z.hc (si_any z.K (se_var (i := 0) rfl (by trivial) rfl rfl)) (sg_name (i := 5) z.nd rfl (by trivial)) (ss_cons (ss_asg (zcall z F_put (sa_cons (se_var (i := 4) rfl (by trivial) rfl rfl) (sa_cons (se_var (i := 5) rfl (by trivial) rfl rfl) sa_nil rfl) rfl) (eaLen_cons (eaLen_cons eaLen_nil))) (sg_name (i := 6) z.nd rfl (by trivial)))
  (ss_one (ss_if (sc_cmp (op2_nin z.K z.hu) (se_var (i := 6) rfl (by trivial) rfl rfl) (se_var (i := 2) rfl (by trivial) rfl rfl) rfl) (ss_cons (ss_asg (se_bl) (sg_sub z.hu (se_var (i := 2) rfl (by trivial) rfl rfl) (se_var (i := 6) rfl (by trivial) rfl rfl)))
  (ss_one (ss_expr (se_mt (k := .L) z.K PySem.F.plainAttrs_list PySem.F.slot_list_append PySem.F.type_list_append mtd_append (se_var (i := 3) rfl (by trivial) rfl rfl) (sa_cons (se_var (i := 6) rfl (by trivial) rfl rfl) sa_nil rfl))))) ss_nil)))))))
  (ss_one (ss_ret (se_fnT (fn_tuple z.K) rfl fr.tuple (sa_cons (se_fnB (fn_sorted z.K z.hc z.hu) rfl fr.sorted (sa_cons (se_var (i := 2) rfl (by trivial) rfl rfl) sa_nil rfl) PyProof.Rows.boot_sorted) sa_nil rfl) PyProof.Rows.boot_tuple))))))))
/-! beside -/
abbrev s_beside : Stmt := top 28
def b_beside : Es := (esSeq (esPar 2 3 (eaCons (evNewT) (eaCons (evLst eaNil) eaNil)))
  (esSeq (esFor (eiT (evCall c_all_rows (eaCons (evVar 1) eaNil))) (egN 4) (esIf (ecB (ev2 g_nin (evVar 4) (evVar 2))) (esSeq (esE (evMt .L m_append (evVar 3) (eaCons (evVar 4) eaNil)))
  (esFor (eiT (evVar 0)) (egN 5) (esAsg (evC (.bl true)) (egSub (evVar 2) (evCall c_put (eaCons (evVar 5) (eaCons (evVar 4) eaNil))))))) esNil))
  (esRet (evFn (g1 g_tuple) (eaCons (evVar 3) eaNil)))))
def c_beside : Cl := fnC 6 b_beside
theorem sc_beside : FnScope ["group", "stage", "seen", "found", "row", "one"] ["group", "stage"] (defScope s_beside) := ⟨rfl, rfl, rfl, by decide +kernel, rfl, by decide +kernel, by decide +kernel⟩
theorem ok_beside (fr : Fr mg) (F_all_rows : FnAt G P w mg base 4 "all_rows" 1 c_all_rows) (F_put : FnAt G P w mg base 6 "put" 2 c_put) (F : FunD G.K "beside" "beside" (defArgs s_beside) (defBody s_beside) (defScope s_beside) [] [] f fd) (hm : mg "beside" = some (.ref f)) : FnAt G P w mg base 8 "beside" 2 c_beside :=
  fn_bind F hm rfl (fun _ _ _ _ _ _ us hl => match us, hl with | [_, _], _ => rfl) (fn_at (k := 7) F sc_beside rfl fun X cdv A outer s H E eX z own => by subst eX; exact
  (ss_cons (ss_par (i := 2) (j := 3) z.hc z.nd rfl rfl (by decide) rfl rfl (sa_cons (se_newT) (sa_cons (se_lst sa_nil) sa_nil rfl) rfl))
  (ss_cons (ss_for own z.hc (si_any z.K (zcall z F_all_rows (sa_cons (se_var (i := 1) rfl (by trivial) rfl rfl) sa_nil rfl) (eaLen_cons eaLen_nil))) (sg_name (i := 4) z.nd rfl (by trivial)) (ss_one (ss_if (sc_cmp (op2_nin z.K z.hu) (se_var (i := 4) rfl (by trivial) rfl rfl) (se_var (i := 2) rfl (by trivial) rfl rfl) rfl) (ss_cons (ss_expr (se_mt (k := .L) z.K PySem.F.plainAttrs_list PySem.F.slot_list_append PySem.F.type_list_append mtd_append (se_var (i := 3) rfl (by trivial) rfl rfl) (sa_cons (se_var (i := 4) rfl (by trivial) rfl rfl) sa_nil rfl)))
  (ss_one (ss_for own z.hc (si_any z.K (se_var (i := 0) rfl (by trivial) rfl rfl)) (sg_name (i := 5) z.nd rfl (by trivial)) (ss_one (ss_asg (se_bl) (sg_sub z.hu (se_var (i := 2) rfl (by trivial) rfl rfl) (zcall z F_put (sa_cons (se_var (i := 5) rfl (by trivial) rfl rfl) (sa_cons (se_var (i := 4) rfl (by trivial) rfl rfl) sa_nil rfl) rfl) (eaLen_cons (eaLen_cons eaLen_nil))))))))) ss_nil)))
  (ss_one (ss_ret (se_fnT (fn_tuple z.K) rfl fr.tuple (sa_cons (se_var (i := 3) rfl (by trivial) rfl rfl) sa_nil rfl) PyProof.Rows.boot_tuple))))))
/-! with_more -/
abbrev s_with_more : Stmt := top 29
def b_with_more : Es := (esSeq (esE (evCall c_check_row (eaCons (evVar 0) eaNil)))
  (esSeq (esIf (ecB (ev2 g_lt (evVar 1) (evFn (g1 g_len) (eaCons (evVar 0) eaNil)))) (esRaise 1) esNil)
  (esRet (ev2 g_add (evFn (g1 g_tuple) (eaCons (evVar 0) eaNil)) (evTrg (er2 (ev2 g_add (evFn (g1 g_len) (eaCons (evVar 0) eaNil)) (evC (.int 1))) (ev2 g_add (evVar 1) (evC (.int 1)))))))))
def c_with_more : Cl := fnC 2 b_with_more
theorem sc_with_more : FnScope ["row", "stage"] ["row", "stage"] (defScope s_with_more) := ⟨rfl, rfl, rfl, by decide +kernel, rfl, by decide +kernel, by decide +kernel⟩
theorem ok_with_more (fr : Fr mg) (x_BadRow : XAt G mg "BadRow" 1) (F_check_row : FnAt G P w mg base 4 "check_row" 1 c_check_row) (F : FunD G.K "with_more" "with_more" (defArgs s_with_more) (defBody s_with_more) (defScope s_with_more) [] [] f fd) (hm : mg "with_more" = some (.ref f)) : FnAt G P w mg base 6 "with_more" 2 c_with_more :=
  fn_bind F hm rfl (fun _ _ _ _ _ _ us hl => match us, hl with | [_, _], _ => rfl) (fn_at (k := 5) F sc_with_more rfl fun X cdv A outer s H E eX z own => by subst eX; exact
  (ss_cons (ss_expr (zcall z F_check_row (sa_cons (se_var (i := 0) rfl (by trivial) rfl rfl) sa_nil rfl) (eaLen_cons eaLen_nil)))
  (ss_cons (ss_if (sc_cmp (op2_cmpI op_lt) (se_var (i := 1) rfl (by trivial) rfl rfl) (se_fnB (fn_len z.K) rfl fr.len (sa_cons (se_var (i := 0) rfl (by trivial) rfl rfl) sa_nil rfl) boot_len) rfl) (ss_one (ss_raise z x_BadRow)) ss_nil)
  (ss_one (ss_ret (se_bin (op2_add z.K) (se_fnT (fn_tuple z.K) rfl fr.tuple (sa_cons (se_var (i := 0) rfl (by trivial) rfl rfl) sa_nil rfl) PyProof.Rows.boot_tuple) (se_trg z.hc rfl fr.tuple (sr_2 rfl fr.range (se_bin (op2_add z.K) (se_fnB (fn_len z.K) rfl fr.len (sa_cons (se_var (i := 0) rfl (by trivial) rfl rfl) sa_nil rfl) boot_len) (se_int)) (se_bin (op2_add z.K) (se_var (i := 1) rfl (by trivial) rfl rfl) (se_int))))))))))
/-! backwards -/
abbrev s_backwards : Stmt := top 30
def b_backwards : Es := (esRet (evTrv (evVar 0)))
def c_backwards : Cl := fnC 1 b_backwards
theorem sc_backwards : FnScope ["row"] ["row"] (defScope s_backwards) := ⟨rfl, rfl, rfl, by decide +kernel, rfl, by decide +kernel, by decide +kernel⟩
theorem ok_backwards (fr : Fr mg) (F : FunD G.K "backwards" "backwards" (defArgs s_backwards) (defBody s_backwards) (defScope s_backwards) [] [] f fd) (hm : mg "backwards" = some (.ref f)) : FnAt G P w mg base 2 "backwards" 1 c_backwards :=
  fn_bind F hm rfl (fun _ _ _ _ _ _ us hl => match us, hl with | [_], _ => rfl) (fn_at (k := 1) F sc_backwards rfl fun X cdv A outer s H E eX z own => by subst eX; exact
  (ss_one (ss_ret (se_trv z rfl fr.tuple rfl fr.reversed (se_var (i := 0) rfl (by trivial) rfl rfl)))))
/-! _law_flat -/
abbrev s__law_flat : Stmt := top 32
def b__law_flat : Es := (esSeq (esAsg (evLst eaNil) (egN 1))
  (esSeq (esFor (eiT (evVar 0)) (egN 2) (esAsg (ev2 g_add (evVar 1) (evVar 2)) (egN 1)))
  (esRet (evVar 1))))
def c__law_flat : Cl := fnC 3 b__law_flat
theorem sc__law_flat : FnScope ["rows", "found", "row"] ["rows"] (defScope s__law_flat) := ⟨rfl, rfl, rfl, by decide +kernel, rfl, by decide +kernel, by decide +kernel⟩
theorem ok__law_flat (fr : Fr mg) (F : FunD G.K "_law_flat" "_law_flat" (defArgs s__law_flat) (defBody s__law_flat) (defScope s__law_flat) [] [] f fd) (hm : mg "_law_flat" = some (.ref f)) : FnAt G P w mg base 2 "_law_flat" 1 c__law_flat :=
  fn_bind F hm rfl (fun _ _ _ _ _ _ us hl => match us, hl with | [_], _ => rfl) (fn_at (k := 1) F sc__law_flat rfl fun X cdv A outer s H E eX z own => by subst eX; exact
  (ss_cons (ss_asg (se_lst sa_nil) (sg_name (i := 1) z.nd rfl (by trivial)))
  (ss_cons (ss_for own z.hc (si_any z.K (se_var (i := 0) rfl (by trivial) rfl rfl)) (sg_name (i := 2) z.nd rfl (by trivial)) (ss_one (ss_asg (se_bin (op2_add z.K) (se_var (i := 1) rfl (by trivial) rfl rfl) (se_var (i := 2) rfl (by trivial) rfl rfl)) (sg_name (i := 1) z.nd rfl (by trivial)))))
  (ss_one (ss_ret (se_var (i := 1) rfl (by trivial) rfl rfl))))))
/-! _law_dice -/
abbrev s__law_dice : Stmt := top 33
def b__law_dice : Es := (esSeq (esIf (ecB (evChn g_lt g_lt (ev2 g_sub (evC (.int 0)) (evC (.int 10))) (evVar 0) (evC (.int 10)))) (esRet (evLst (eaCons (evFn (g1 g_abs) (eaCons (evVar 0) eaNil)) (eaCons (evC (.int 0)) (eaCons (evC (.int 2)) eaNil))))) esNil)
  (esRet (evLst (eaCons (evVar 0) (eaCons (ev2 g_add (evC (.int 1)) (ev2 g_mod (evFn (g1 g_toI) (eaCons (evVar 0) eaNil)) (evC (.int 1009)))) (eaCons (evFn (g1 g_toI) (eaCons (ev2 g_ge (evVar 0) (ev2 g_pow (evC (.int 10)) (evC (.int 18)))) eaNil)) eaNil))))))
def c__law_dice : Cl := fnC 1 b__law_dice
theorem sc__law_dice : FnScope ["cell"] ["cell"] (defScope s__law_dice) := ⟨rfl, rfl, rfl, by decide +kernel, rfl, by decide +kernel, by decide +kernel⟩
theorem ok__law_dice (fr : Fr mg) (F : FunD G.K "_law_dice" "_law_dice" (defArgs s__law_dice) (defBody s__law_dice) (defScope s__law_dice) [] [] f fd) (hm : mg "_law_dice" = some (.ref f)) : FnAt G P w mg base 2 "_law_dice" 1 c__law_dice :=
  fn_bind F hm rfl (fun _ _ _ _ _ _ us hl => match us, hl with | [_], _ => rfl) (fn_at (k := 1) F sc__law_dice rfl fun X cdv A outer s H E eX z own => by subst eX; exact
  (ss_cons (ss_if (sc_chn (op2_cmpI op_lt) (op2_cmpI op_lt) (se_bin op2_sub (se_int) (se_int)) (se_var (i := 0) rfl (by trivial) rfl rfl) (se_int) rfl) (ss_one (ss_ret (se_lst (sa_cons (se_fnB fn_abs rfl fr.abs (sa_cons (se_var (i := 0) rfl (by trivial) rfl rfl) sa_nil rfl) PyProof.Rows.boot_abs) (sa_cons (se_int) (sa_cons (se_int) sa_nil rfl) rfl) rfl)))) ss_nil)
  (ss_one (ss_ret (se_lst (sa_cons (se_var (i := 0) rfl (by trivial) rfl rfl) (sa_cons (se_bin (op2_add z.K) (se_int) (se_bin op2_mod (se_fnT fn_int rfl fr.int (sa_cons (se_var (i := 0) rfl (by trivial) rfl rfl) sa_nil rfl) PyProof.Rows.boot_int) (se_int))) (sa_cons (se_fnT fn_int rfl fr.int (sa_cons (se_cmp (op2_cmpI op_ge) (se_var (i := 0) rfl (by trivial) rfl rfl) (se_bin op2_pow (se_int) (se_int)) rfl) sa_nil rfl) PyProof.Rows.boot_int) sa_nil rfl) rfl) rfl))))))
/-! _law_roll -/
abbrev s__law_roll : Stmt := top 34
def b__law_roll : Es := (esSeq (esIf ((ecOr (ecB (ev2 g_eq (ev2 g_ix (evVar 0) (evC (.int 2))) (evC (.int 2)))) ((ecAnd (ecB (ev2 g_eq (ev2 g_ix (evVar 0) (evC (.int 2))) (evC (.int 1)))) (ecB (ev2 g_gt (ev2 g_ix (evVar 0) (evC (.int 0))) (evC (.int 0)))))))) (esSeq (esAsg (ev2 g_mod (evFn (g1 g_toI) (eaCons (ev2 g_ix (evVar 0) (evC (.int 0))) eaNil)) (evVar 1)) (egN 2))
  (esSeq (esAsg (ev2 g_fdiv (ev2 g_ix (evVar 0) (evC (.int 0))) (evVar 1)) (egSub (evVar 0) (evC (.int 0))))
  (esRet (evVar 2)))) esNil)
  (esSeq (esAsg (evC (.int 0)) (egSub (evVar 0) (evC (.int 2))))
  (esSeq (esAsg (ev2 g_mod (evFn (g1 g_toI) (eaCons (ev2 g_add (ev2 g_add (ev2 g_mul (ev2 g_ix (evVar 0) (evC (.int 0))) (evC (.int 48271))) (ev2 g_mul (ev2 g_ix (evVar 0) (evC (.int 1))) (evC (.int 69621)))) (evC (.int 11))) eaNil)) (evC (.int 2147483647))) (egSub (evVar 0) (evC (.int 0))))
  (esSeq (esAsg (ev2 g_add (ev2 g_ix (evVar 0) (evC (.int 1))) (evC (.int 1))) (egSub (evVar 0) (evC (.int 1))))
  (esRet (ev2 g_mod (evFn (g1 g_toI) (eaCons (ev2 g_add (ev2 g_fdiv (ev2 g_ix (evVar 0) (evC (.int 0))) (evC (.int 7))) (ev2 g_ix (evVar 0) (evC (.int 0)))) eaNil)) (evVar 1)))))))
def c__law_roll : Cl := fnC 3 b__law_roll
theorem sc__law_roll : FnScope ["dice", "many", "found"] ["dice", "many"] (defScope s__law_roll) := ⟨rfl, rfl, rfl, by decide +kernel, rfl, by decide +kernel, by decide +kernel⟩
theorem ok__law_roll (fr : Fr mg) (F : FunD G.K "_law_roll" "_law_roll" (defArgs s__law_roll) (defBody s__law_roll) (defScope s__law_roll) [] [] f fd) (hm : mg "_law_roll" = some (.ref f)) : FnAt G P w mg base 2 "_law_roll" 2 c__law_roll :=
  fn_bind F hm rfl (fun _ _ _ _ _ _ us hl => match us, hl with | [_, _], _ => rfl) (fn_at (k := 1) F sc__law_roll rfl fun X cdv A outer s H E eX z own => by subst eX; exact
  (ss_cons (ss_if (PW.pt (sc_or (sc_cmp (op2_eq z.K z.hu) (se_ix z.K z.hu (se_var (i := 0) rfl (by trivial) rfl rfl) (se_int)) (se_int) rfl) (sc_or1 (PW.pt (sc_and (sc_cmp (op2_eq z.K z.hu) (se_ix z.K z.hu (se_var (i := 0) rfl (by trivial) rfl rfl) (se_int)) (se_int) rfl) (sc_and1 (sc_cmp (op2_cmpI op_gt) (se_ix z.K z.hu (se_var (i := 0) rfl (by trivial) rfl rfl) (se_int)) (se_int) rfl))))))) (ss_cons (ss_asg (se_bin op2_mod (se_fnT fn_int rfl fr.int (sa_cons (se_ix z.K z.hu (se_var (i := 0) rfl (by trivial) rfl rfl) (se_int)) sa_nil rfl) PyProof.Rows.boot_int) (se_var (i := 1) rfl (by trivial) rfl rfl)) (sg_name (i := 2) z.nd rfl (by trivial)))
  (ss_cons (ss_asg (se_bin op2_fdiv (se_ix z.K z.hu (se_var (i := 0) rfl (by trivial) rfl rfl) (se_int)) (se_var (i := 1) rfl (by trivial) rfl rfl)) (sg_sub z.hu (se_var (i := 0) rfl (by trivial) rfl rfl) (se_int)))
  (ss_one (ss_ret (se_var (i := 2) rfl (by trivial) rfl rfl))))) ss_nil)
  (ss_cons (ss_asg (se_int) (sg_sub z.hu (se_var (i := 0) rfl (by trivial) rfl rfl) (se_int)))
  (ss_cons (ss_asg (se_bin op2_mod (se_fnT fn_int rfl fr.int (sa_cons (se_bin (op2_add z.K) (se_bin (op2_add z.K) (se_bin op2_mul (se_ix z.K z.hu (se_var (i := 0) rfl (by trivial) rfl rfl) (se_int)) (se_int)) (se_bin op2_mul (se_ix z.K z.hu (se_var (i := 0) rfl (by trivial) rfl rfl) (se_int)) (se_int))) (se_int)) sa_nil rfl) PyProof.Rows.boot_int) (se_int)) (sg_sub z.hu (se_var (i := 0) rfl (by trivial) rfl rfl) (se_int)))
  (ss_cons (ss_asg (se_bin (op2_add z.K) (se_ix z.K z.hu (se_var (i := 0) rfl (by trivial) rfl rfl) (se_int)) (se_int)) (sg_sub z.hu (se_var (i := 0) rfl (by trivial) rfl rfl) (se_int)))
  (ss_one (ss_ret (se_bin op2_mod (se_fnT fn_int rfl fr.int (sa_cons (se_bin (op2_add z.K) (se_bin op2_fdiv (se_ix z.K z.hu (se_var (i := 0) rfl (by trivial) rfl rfl) (se_int)) (se_int)) (se_ix z.K z.hu (se_var (i := 0) rfl (by trivial) rfl rfl) (se_int))) sa_nil rfl) PyProof.Rows.boot_int) (se_var (i := 1) rfl (by trivial) rfl rfl)))))))))
/-! _law_rounds -/
abbrev s__law_rounds : Stmt := top 35
def b__law_rounds : Es := (esSeq (esAsg (evSl (evVar 0) eoN (eoS (evVar 1))) (egN 2))
  (esSeq (esIf (ecB (ev2 g_eq (evVar 2) (evLst eaNil))) (esAsg (evLst (eaCons (evC (.int 0)) eaNil)) (egN 2)) esNil)
  (esRet (evLc (eiT (evVar 2)) (.n 3) [3] eYes (evCall c__law_dice (eaCons (evVar 3) eaNil))))))
def c__law_rounds : Cl := fnC 4 b__law_rounds
theorem sc__law_rounds : FnScope ["script", "most", "cells", "cell"] ["script", "most"] (defScope s__law_rounds) := ⟨rfl, rfl, rfl, by decide +kernel, rfl, by decide +kernel, by decide +kernel⟩
theorem ok__law_rounds (fr : Fr mg) (F__law_dice : FnAt G P w mg base 2 "_law_dice" 1 c__law_dice) (F : FunD G.K "_law_rounds" "_law_rounds" (defArgs s__law_rounds) (defBody s__law_rounds) (defScope s__law_rounds) [] [] f fd) (hm : mg "_law_rounds" = some (.ref f)) : FnAt G P w mg base 4 "_law_rounds" 2 c__law_rounds :=
  fn_bind F hm rfl (fun _ _ _ _ _ _ us hl => match us, hl with | [_, _], _ => rfl) (fn_at (k := 3) F sc__law_rounds rfl fun X cdv A outer s H E eX z own => by subst eX; exact
  (ss_cons (ss_asg (se_sl z.K (se_var (i := 0) rfl (by trivial) rfl rfl) so_none (so_some (se_var (i := 1) rfl (by trivial) rfl rfl))) (sg_name (i := 2) z.nd rfl (by trivial)))
  (ss_cons (ss_if (sc_cmp (op2_eq z.K z.hu) (se_var (i := 2) rfl (by trivial) rfl rfl) (se_lst sa_nil) rfl) (ss_one (ss_asg (se_lst (sa_cons (se_int) sa_nil rfl)) (sg_name (i := 2) z.nd rfl (by trivial)))) ss_nil)
  (ss_one (ss_ret (zlc (own := [("cell", 3)]) (t := (.n 3)) z (si_any z.K (se_var (i := 2) rfl (by trivial) rfl rfl)) (blkOk_by (by kernel_rfl)) (fun s H C cl fp z1 => (pg_name (i := 3) z1.nd rfl (by trivial) (by trivial))) (fun s H C cl fp z1 => sts_nil) (fun s H C cl fp z1 => (zcall z1 F__law_dice (sa_cons (se_var (i := 3) rfl (by trivial) rfl rfl) sa_nil rfl) (eaLen_cons eaLen_nil)))))))))
/-! _law_row -/
abbrev s__law_row : Stmt := top 37
def b__law_row : Es := (esSeq (esPar 2 3 (eaCons (evLrg (er2 (evC (.int 1)) (ev2 g_add (evVar 1) (evC (.int 1))))) (eaCons (evLst eaNil) eaNil)))
  (esSeq (esFor (eiA iv1 (eaCons (evVar 1) eaNil)) (egN 4) (esE (evMt .L m_append (evVar 3) (eaCons (evMt .L m_popA (evVar 2) (eaCons (evCall c__law_roll (eaCons (evVar 0) (eaCons (evFn (g1 g_len) (eaCons (evVar 2) eaNil)) eaNil))) eaNil)) eaNil))))
  (esRet (evFn (g1 g_tuple) (eaCons (evVar 3) eaNil)))))
def c__law_row : Cl := fnC 5 b__law_row
theorem sc__law_row : FnScope ["dice", "stage", "left", "found", "k"] ["dice", "stage"] (defScope s__law_row) := ⟨rfl, rfl, rfl, by decide +kernel, rfl, by decide +kernel, by decide +kernel⟩
theorem ok__law_row (fr : Fr mg) (F__law_roll : FnAt G P w mg base 2 "_law_roll" 2 c__law_roll) (F : FunD G.K "_law_row" "_law_row" (defArgs s__law_row) (defBody s__law_row) (defScope s__law_row) [] [] f fd) (hm : mg "_law_row" = some (.ref f)) : FnAt G P w mg base 4 "_law_row" 2 c__law_row :=
  fn_bind F hm rfl (fun _ _ _ _ _ _ us hl => match us, hl with | [_, _], _ => rfl) (fn_at (k := 3) F sc__law_row rfl fun X cdv A outer s H E eX z own => by subst eX; exact
  (ss_cons (ss_par (i := 2) (j := 3) z.hc z.nd rfl rfl (by decide) rfl rfl (sa_cons (se_lrg z.hc rfl fr.list (sr_2 rfl fr.range (se_int) (se_bin (op2_add z.K) (se_var (i := 1) rfl (by trivial) rfl rfl) (se_int)))) (sa_cons (se_lst sa_nil) sa_nil rfl) rfl))
  (ss_cons (ss_for own z.hc (si_rg1 rfl fr.range (sa_cons (se_var (i := 1) rfl (by trivial) rfl rfl) sa_nil rfl)) (sg_name (i := 4) z.nd rfl (by trivial)) (ss_one (ss_expr (se_mt (k := .L) z.K PySem.F.plainAttrs_list PySem.F.slot_list_append PySem.F.type_list_append mtd_append (se_var (i := 3) rfl (by trivial) rfl rfl) (sa_cons (se_mt (k := .L) z.K PySem.F.plainAttrs_list PySem.F.slot_list_pop PySem.F.type_list_pop mtd_pop (se_var (i := 2) rfl (by trivial) rfl rfl) (sa_cons (zcall z F__law_roll (sa_cons (se_var (i := 0) rfl (by trivial) rfl rfl) (sa_cons (se_fnB (fn_len z.K) rfl fr.len (sa_cons (se_var (i := 2) rfl (by trivial) rfl rfl) sa_nil rfl) boot_len) sa_nil rfl) rfl) (eaLen_cons (eaLen_cons eaLen_nil))) sa_nil rfl)) sa_nil rfl)))))
  (ss_one (ss_ret (se_fnT (fn_tuple z.K) rfl fr.tuple (sa_cons (se_var (i := 3) rfl (by trivial) rfl rfl) sa_nil rfl) PyProof.Rows.boot_tuple))))))
/-! _law_cases1 -/
abbrev s__law_cases1 : Stmt := top 38
def b__law_cases1 : Es := (esSeq (esIf (ecB (ev2 g_ne (evTold mtK l__law_told (evCall c_check_row (eaCons (evTup (eaCons (evC (.int 1)) (eaCons (evC (.int 1)) eaNil))) eaNil))) (evC (.str "row")))) (esRet (evC (.bl false))) esNil)
  (esSeq (esIf (ecB (ev2 g_ne (evTold mtK l__law_told (evCall c_put (eaCons (evTup (eaCons (evC (.int 1)) (eaCons (evC (.int 2)) eaNil))) (eaCons (evTup (eaCons (evC (.int 1)) (eaCons (evC (.int 2)) (eaCons (evC (.int 3)) eaNil)))) eaNil)))) (evC (.str "row")))) (esRet (evC (.bl false))) esNil)
  (esSeq (esIf (ecB (ev2 g_ne (evTold mtK l__law_told (evCall c_all_rows (eaCons (evC (.int 8)) eaNil))) (evC (.str "large")))) (esRet (evC (.bl false))) esNil)
  (esSeq (esIf (ecB (ev2 g_ne (evTold mtK l__law_told (evCall c_read (eaCons (evC (.str "13")) eaNil))) (evC (.str "row")))) (esRet (evC (.bl false))) esNil)
  (esRet (evC (.bl true)))))))
def c__law_cases1 : Cl := fnC 0 b__law_cases1
theorem sc__law_cases1 : FnScope [] [] (defScope s__law_cases1) := ⟨rfl, rfl, rfl, by decide +kernel, rfl, by decide +kernel, by decide +kernel⟩
theorem ok__law_cases1 (fr : Fr mg) (F_all_rows : FnAt G P w mg base 4 "all_rows" 1 c_all_rows) (F_check_row : FnAt G P w mg base 4 "check_row" 1 c_check_row) (F_put : FnAt G P w mg base 6 "put" 2 c_put) (F_read : FnAt G P w mg base 6 "read" 1 c_read) (tl : TbAt G mg base ((envOfC "_law_cases1" (defScope s__law_cases1) 0 0 .none).qual ++ "<lambda>") fd.code) (xm : ExM G mtK) (T__law_told : ToldAt G mg "_law_told" l__law_told) (F : FunD G.K "_law_cases1" "_law_cases1" (defArgs s__law_cases1) (defBody s__law_cases1) (defScope s__law_cases1) [] [] f fd) (hm : mg "_law_cases1" = some (.ref f)) : FnAt G P w mg base 11 "_law_cases1" 0 c__law_cases1 :=
  fn_bind F hm rfl (fun _ _ _ _ _ _ us hl => match us, hl with | [], _ => rfl) (fn_atC (k := 10) F sc__law_cases1 rfl fun X cdv A outer s H E eC eX z own => by subst eX; subst eC; exact
  (ss_cons (ss_if (sc_cmp (op2_ne z.K z.hu) (ztold (k := 8) z T__law_told xm tl (LamX.lamS_by (by kernel_rfl)) (fun X' A' o' s' H' E' f' c' e' z' => by subst e'; exact (zcall z' F_check_row (sa_cons (se_tup (sa_cons (se_int) (sa_cons (se_int) sa_nil rfl) rfl)) sa_nil rfl) (eaLen_cons eaLen_nil)))) (se_str) rfl) (ss_one (ss_ret (se_bl))) ss_nil)
  (ss_cons (ss_if (sc_cmp (op2_ne z.K z.hu) (ztold (k := 8) z T__law_told xm tl (LamX.lamS_by (by kernel_rfl)) (fun X' A' o' s' H' E' f' c' e' z' => by subst e'; exact (zcall z' F_put (sa_cons (se_tup (sa_cons (se_int) (sa_cons (se_int) sa_nil rfl) rfl)) (sa_cons (se_tup (sa_cons (se_int) (sa_cons (se_int) (sa_cons (se_int) sa_nil rfl) rfl) rfl)) sa_nil rfl) rfl) (eaLen_cons (eaLen_cons eaLen_nil))))) (se_str) rfl) (ss_one (ss_ret (se_bl))) ss_nil)
  (ss_cons (ss_if (sc_cmp (op2_ne z.K z.hu) (ztold (k := 8) z T__law_told xm tl (LamX.lamS_by (by kernel_rfl)) (fun X' A' o' s' H' E' f' c' e' z' => by subst e'; exact (zcall z' F_all_rows (sa_cons (se_int) sa_nil rfl) (eaLen_cons eaLen_nil)))) (se_str) rfl) (ss_one (ss_ret (se_bl))) ss_nil)
  (ss_cons (ss_if (sc_cmp (op2_ne z.K z.hu) (ztold (k := 8) z T__law_told xm tl (LamX.lamS_by (by kernel_rfl)) (fun X' A' o' s' H' E' f' c' e' z' => by subst e'; exact (zcall z' F_read (sa_cons (se_str) sa_nil rfl) (eaLen_cons eaLen_nil)))) (se_str) rfl) (ss_one (ss_ret (se_bl))) ss_nil)
  (ss_one (ss_ret (se_bl))))))))
/-! _law_rest1 -/
abbrev s__law_rest1 : Stmt := top 39
def b__law_rest1 : Es := (esSeq (esAsg (evCall c_all_rows (eaCons (evC (.int 4)) eaNil)) (egN 1))
  (esSeq (esAsg (evCall c_made_by (eaCons (evLst (eaCons (evTup (eaCons (evC (.int 2)) (eaCons (evC (.int 1)) (eaCons (evC (.int 3)) (eaCons (evC (.int 4)) eaNil))))) (eaCons (evTup (eaCons (evC (.int 1)) (eaCons (evC (.int 2)) (eaCons (evC (.int 4)) (eaCons (evC (.int 3)) eaNil))))) eaNil))) eaNil)) (egN 2))
  (esSeq (esAsg (evCall c_beside (eaCons (evVar 2) (eaCons (evC (.int 4)) eaNil))) (egN 3))
  (esSeq (esIf ((ecOr (ecB (ev2 g_ne (evFn (g1 g_len) (eaCons (evVar 1) eaNil)) (evC (.int 24)))) (ecOr (ecB (ev2 g_ne (evFn (g1 g_list) (eaCons (evVar 1) eaNil)) (evFn (g1 g_sorted) (eaCons (evVar 1) eaNil)))) (ecB (ev2 g_ne (evLc (eiA iv1 (eaCons (evC (.int 24)) eaNil)) (.n 4) [4] eYes (evCall c_nth (eaCons (evVar 4) (eaCons (evC (.int 4)) eaNil)))) (evFn (g1 g_list) (eaCons (evVar 1) eaNil))))))) (esRet (evC (.bl false))) esNil)
  (esSeq (esIf ((ecOr (ecB (ev2 g_ne (evFn (g1 g_len) (eaCons (evVar 2) eaNil)) (evC (.int 4)))) (ecB (ev2 g_ne (ev2 g_mul (evFn (g1 g_len) (eaCons (evVar 3) eaNil)) (evFn (g1 g_len) (eaCons (evVar 2) eaNil))) (evC (.int 24)))))) (esRet (evC (.bl false))) esNil)
  (esSeq (esIf (ecB (ev2 g_ne (evFn (g1 g_sorted) (eaCons (evCall c__law_flat (eaCons (evLc (eiT (evVar 2)) (.n 5) [5] eYes (evLc (eiT (evVar 3)) (.n 6) [6] eYes (evCall c_put (eaCons (evVar 5) (eaCons (evVar 6) eaNil))))) eaNil)) eaNil)) (evFn (g1 g_list) (eaCons (evVar 1) eaNil)))) (esRet (evC (.bl false))) esNil)
  (esSeq (esIf (ecNot (ecT (evCall c__law_cases1 eaNil))) (esRet (evC (.bl false))) esNil)
  (esSeq (esIf (ecB (ev2 g_ne (evTold mtK l__law_told (evCall c_nth (eaCons (evCall c_extent (eaCons (evVar 0) eaNil)) (eaCons (evVar 0) eaNil)))) (evC (.str "row")))) (esRet (evC (.bl false))) esNil)
  (esRet (evC (.bl true)))))))))))
def c__law_rest1 : Cl := fnC 7 b__law_rest1
theorem sc__law_rest1 : FnScope ["stage", "every", "group", "heads", "k", "a", "b"] ["stage"] (defScope s__law_rest1) := ⟨rfl, rfl, rfl, by decide +kernel, rfl, by decide +kernel, by decide +kernel⟩
theorem ok__law_rest1 (fr : Fr mg) (F__law_cases1 : FnAt G P w mg base 11 "_law_cases1" 0 c__law_cases1) (F__law_flat : FnAt G P w mg base 2 "_law_flat" 1 c__law_flat) (F_all_rows : FnAt G P w mg base 4 "all_rows" 1 c_all_rows) (F_beside : FnAt G P w mg base 8 "beside" 2 c_beside) (F_extent : FnAt G P w mg base 4 "extent" 1 c_extent) (F_made_by : FnAt G P w mg base 8 "made_by" 1 c_made_by) (F_nth : FnAt G P w mg base 6 "nth" 2 c_nth) (F_put : FnAt G P w mg base 6 "put" 2 c_put) (tl : TbAt G mg base ((envOfC "_law_rest1" (defScope s__law_rest1) 0 0 .none).qual ++ "<lambda>") fd.code) (xm : ExM G mtK) (T__law_told : ToldAt G mg "_law_told" l__law_told) (F : FunD G.K "_law_rest1" "_law_rest1" (defArgs s__law_rest1) (defBody s__law_rest1) (defScope s__law_rest1) [] [] f fd) (hm : mg "_law_rest1" = some (.ref f)) : FnAt G P w mg base 16 "_law_rest1" 1 c__law_rest1 :=
  fn_bind F hm rfl (fun _ _ _ _ _ _ us hl => match us, hl with | [_], _ => rfl) (fn_atC (k := 15) F sc__law_rest1 rfl fun X cdv A outer s H E eC eX z own => by subst eX; subst eC; exact
  (ss_cons (ss_asg (zcall z F_all_rows (sa_cons (se_int) sa_nil rfl) (eaLen_cons eaLen_nil)) (sg_name (i := 1) z.nd rfl (by trivial)))
  (ss_cons (ss_asg (zcall z F_made_by (sa_cons (se_lst (sa_cons (se_tup (sa_cons (se_int) (sa_cons (se_int) (sa_cons (se_int) (sa_cons (se_int) sa_nil rfl) rfl) rfl) rfl)) (sa_cons (se_tup (sa_cons (se_int) (sa_cons (se_int) (sa_cons (se_int) (sa_cons (se_int) sa_nil rfl) rfl) rfl) rfl)) sa_nil rfl) rfl)) sa_nil rfl) (eaLen_cons eaLen_nil)) (sg_name (i := 2) z.nd rfl (by trivial)))
  (ss_cons (ss_asg (zcall z F_beside (sa_cons (se_var (i := 2) rfl (by trivial) rfl rfl) (sa_cons (se_int) sa_nil rfl) rfl) (eaLen_cons (eaLen_cons eaLen_nil))) (sg_name (i := 3) z.nd rfl (by trivial)))
  (ss_cons (ss_if (PW.pt (sc_or (sc_cmp (op2_ne z.K z.hu) (se_fnB (fn_len z.K) rfl fr.len (sa_cons (se_var (i := 1) rfl (by trivial) rfl rfl) sa_nil rfl) boot_len) (se_int) rfl) (sc_or (sc_cmp (op2_ne z.K z.hu) (se_fnT (fn_list z.K) rfl fr.list (sa_cons (se_var (i := 1) rfl (by trivial) rfl rfl) sa_nil rfl) PyProof.Rows.boot_list) (se_fnB (fn_sorted z.K z.hc z.hu) rfl fr.sorted (sa_cons (se_var (i := 1) rfl (by trivial) rfl rfl) sa_nil rfl) PyProof.Rows.boot_sorted) rfl) (sc_or1 (sc_cmp (op2_ne z.K z.hu) (zlc (own := [("k", 4)]) (t := (.n 4)) z (si_rg1 rfl fr.range (sa_cons (se_int) sa_nil rfl)) (blkOk_by (by kernel_rfl)) (fun s H C cl fp z1 => (pg_name (i := 4) z1.nd rfl (by trivial) (by trivial))) (fun s H C cl fp z1 => sts_nil) (fun s H C cl fp z1 => (zcall z1 F_nth (sa_cons (se_var (i := 4) rfl (by trivial) rfl rfl) (sa_cons (se_int) sa_nil rfl) rfl) (eaLen_cons (eaLen_cons eaLen_nil))))) (se_fnT (fn_list z.K) rfl fr.list (sa_cons (se_var (i := 1) rfl (by trivial) rfl rfl) sa_nil rfl) PyProof.Rows.boot_list) rfl))))) (ss_one (ss_ret (se_bl))) ss_nil)
  (ss_cons (ss_if (PW.pt (sc_or (sc_cmp (op2_ne z.K z.hu) (se_fnB (fn_len z.K) rfl fr.len (sa_cons (se_var (i := 2) rfl (by trivial) rfl rfl) sa_nil rfl) boot_len) (se_int) rfl) (sc_or1 (sc_cmp (op2_ne z.K z.hu) (se_bin op2_mul (se_fnB (fn_len z.K) rfl fr.len (sa_cons (se_var (i := 3) rfl (by trivial) rfl rfl) sa_nil rfl) boot_len) (se_fnB (fn_len z.K) rfl fr.len (sa_cons (se_var (i := 2) rfl (by trivial) rfl rfl) sa_nil rfl) boot_len)) (se_int) rfl)))) (ss_one (ss_ret (se_bl))) ss_nil)
  (ss_cons (ss_if (sc_cmp (op2_ne z.K z.hu) (se_fnB (fn_sorted z.K z.hc z.hu) rfl fr.sorted (sa_cons (zcall z F__law_flat (sa_cons (zlc (own := [("a", 5)]) (t := (.n 5)) z (si_any z.K (se_var (i := 2) rfl (by trivial) rfl rfl)) (blkOk_by (by kernel_rfl)) (fun s H C cl fp z1 => (pg_name (i := 5) z1.nd rfl (by trivial) (by trivial))) (fun s H C cl fp z1 => sts_nil) (fun s H C cl fp z1 => (zlc (own := [("b", 6)]) (t := (.n 6)) z1 (si_any z1.K (se_var (i := 3) rfl (by trivial) rfl rfl)) (blkOk_by (by kernel_rfl)) (fun s H C cl fp z11 => (pg_name (i := 6) z11.nd rfl (by trivial) (by trivial))) (fun s H C cl fp z11 => sts_nil) (fun s H C cl fp z11 => (zcall z11 F_put (sa_cons (se_var (i := 5) rfl (by trivial) rfl rfl) (sa_cons (se_var (i := 6) rfl (by trivial) rfl rfl) sa_nil rfl) rfl) (eaLen_cons (eaLen_cons eaLen_nil))))))) sa_nil rfl) (eaLen_cons eaLen_nil)) sa_nil rfl) PyProof.Rows.boot_sorted) (se_fnT (fn_list z.K) rfl fr.list (sa_cons (se_var (i := 1) rfl (by trivial) rfl rfl) sa_nil rfl) PyProof.Rows.boot_list) rfl) (ss_one (ss_ret (se_bl))) ss_nil)
  (ss_cons (ss_if (sc_not (sc_truth z.K (zcall0 z F__law_cases1) (by intro _; rfl))) (ss_one (ss_ret (se_bl))) ss_nil)
  (ss_cons (ss_if (sc_cmp (op2_ne z.K z.hu) (ztold (k := 13) z T__law_told xm tl (LamX.lamS_by (by kernel_rfl)) (fun X' A' o' s' H' E' f' c' e' z' => by subst e'; exact (zcall z' F_nth (sa_cons (zcall z' F_extent (sa_cons (se_var (i := 0) rfl (by trivial) rfl rfl) sa_nil rfl) (eaLen_cons eaLen_nil)) (sa_cons (se_var (i := 0) rfl (by trivial) rfl rfl) sa_nil rfl) rfl) (eaLen_cons (eaLen_cons eaLen_nil))))) (se_str) rfl) (ss_one (ss_ret (se_bl))) ss_nil)
  (ss_one (ss_ret (se_bl))))))))))))
/-! law -/
abbrev s_law : Stmt := top 40
def b_law : Es := (esSeq (esFor (eiT (evCall c__law_rounds (eaCons (evVar 0) (eaCons (evC (.int 2)) eaNil)))) (egN 1) (esSeq (esAsg (ev2 g_add (evC (.int 3)) (evCall c__law_roll (eaCons (evVar 1) (eaCons (evC (.int 6)) eaNil)))) (egN 2))
  (esSeq (esAsg (evTup (eaCons (evCall c__law_row (eaCons (evVar 1) (eaCons (evVar 2) eaNil))) (eaCons (evCall c__law_row (eaCons (evVar 1) (eaCons (evVar 2) eaNil))) eaNil))) (egT 2 (egsCons (egN 3) (egsCons (egN 4) egsNil))))
  (esSeq (esAsg (evCall c_put (eaCons (evVar 3) (eaCons (evVar 4) eaNil))) (egN 5))
  (esSeq (esIf ((ecOr (ecB (ev2 g_ne (evVar 5) (evFn (g1 g_tuple) (eaCons (evLc (eiA iv1 (eaCons (evVar 2) eaNil)) (.n 10) [10] eYes (ev2 g_ix (evVar 3) (ev2 g_sub (ev2 g_ix (evVar 4) (evVar 10)) (evC (.int 1))))) eaNil)))) (ecB (ev2 g_ne (evCall c_put (eaCons (evVar 3) (eaCons (evCall c_undone (eaCons (evVar 3) eaNil)) eaNil))) (evCall c_rounds (eaCons (evVar 2) eaNil)))))) (esRet (evC (.bl false))) esNil)
  (esSeq (esIf ((ecOr (ecB (ev2 g_ne (evCall c_put (eaCons (evVar 3) (eaCons (evCall c_between (eaCons (evVar 3) (eaCons (evVar 4) eaNil))) eaNil))) (evVar 4))) (ecB (ev2 g_ne (evCall c_undone (eaCons (evVar 5) eaNil)) (evCall c_put (eaCons (evCall c_undone (eaCons (evVar 4) eaNil)) (eaCons (evCall c_undone (eaCons (evVar 3) eaNil)) eaNil))))))) (esRet (evC (.bl false))) esNil)
  (esSeq (esAsg (evFn (g1 g_len) (eaCons (evCall c__law_flat (eaCons (evLc (eiA iv1 (eaCons (evVar 2) eaNil)) (.n 10) [10] eYes (evLc (eiA iv1 (eaCons (evVar 10) eaNil)) (.n 11) [11] (ecB (ev2 g_gt (ev2 g_ix (evVar 3) (evVar 11)) (ev2 g_ix (evVar 3) (evVar 10)))) (evC (.int 1)))) eaNil)) eaNil)) (egN 6))
  (esSeq (esIf ((ecOr (ecB (ev2 g_ne (evCall c_wrong_pairs (eaCons (evVar 3) eaNil)) (evVar 6))) (ecB (ev2 g_ne (evCall c_sign (eaCons (evVar 3) eaNil)) (evIf (ecB (ev2 g_eq (ev2 g_mod (evVar 6) (evC (.int 2))) (evC (.int 0)))) (evC (.int 1)) (ev2 g_sub (evC (.int 0)) (evC (.int 1)))))))) (esRet (evC (.bl false))) esNil)
  (esSeq (esIf (ecB (ev2 g_ne (evCall c_sign (eaCons (evVar 5) eaNil)) (ev2 g_mul (evCall c_sign (eaCons (evVar 3) eaNil)) (evCall c_sign (eaCons (evVar 4) eaNil))))) (esRet (evC (.bl false))) esNil)
  (esSeq (esIf (ecB (ev2 g_ne (evFn (g1 g_sorted) (eaCons (evCall c__law_flat (eaCons (evLc (eiT (evCall c_rings (eaCons (evVar 3) eaNil))) (.n 12) [12] eYes (evLc (eiT (evVar 12)) (.n 13) [13] eYes (evVar 13))) eaNil)) eaNil)) (evLrg (er2 (evC (.int 1)) (ev2 g_add (evVar 2) (evC (.int 1))))))) (esRet (evC (.bl false))) esNil)
  (esSeq (esPar 7 8 (eaCons (evVar 3) (eaCons (evC (.int 1)) eaNil)))
  (esSeq (esWh FUEL (ecB (ev2 g_ne (evVar 7) (evCall c_rounds (eaCons (evVar 2) eaNil)))) (esPar 7 8 (eaCons (evCall c_put (eaCons (evVar 7) (eaCons (evVar 3) eaNil))) (eaCons (ev2 g_add (evVar 8) (evC (.int 1))) eaNil))))
  (esSeq (esIf ((ecOr (ecB (ev2 g_ne (evCall c_order (eaCons (evVar 3) eaNil)) (evVar 8))) (ecOr (ecB (ev2 g_ne (evCall c_power (eaCons (evVar 3) (eaCons (evVar 8) eaNil))) (evCall c_rounds (eaCons (evVar 2) eaNil)))) (ecB (ev2 g_ne (evCall c_power (eaCons (evVar 3) (eaCons (ev2 g_sub (evC (.int 0)) (evC (.int 1))) eaNil))) (evCall c_undone (eaCons (evVar 3) eaNil))))))) (esRet (evC (.bl false))) esNil)
  (esSeq (esIf (ecB (ev2 g_ne (evCall c_power (eaCons (evVar 3) (eaCons (evC (.int 2)) eaNil))) (evCall c_put (eaCons (evVar 3) (eaCons (evVar 3) eaNil))))) (esRet (evC (.bl false))) esNil)
  (esSeq (esAsg (evCall c__law_roll (eaCons (evVar 1) (eaCons (evCall c_extent (eaCons (evVar 2) eaNil)) eaNil))) (egN 9))
  (esSeq (esIf ((ecOr (ecB (ev2 g_ne (evCall c_number_of (eaCons (evCall c_nth (eaCons (evVar 9) (eaCons (evVar 2) eaNil))) eaNil)) (evVar 9))) (ecB (ev2 g_ne (evCall c_nth (eaCons (evCall c_number_of (eaCons (evVar 3) eaNil)) (eaCons (evVar 2) eaNil))) (evVar 3))))) (esRet (evC (.bl false))) esNil)
  (esSeq (esIf ((ecOr (ecB (ev2 g_ne (evCall c_read (eaCons (evCall c_told (eaCons (evVar 3) eaNil)) eaNil)) (evVar 3))) (ecB (ev2 g_ne (evCall c_backwards (eaCons (evCall c_backwards (eaCons (evVar 3) eaNil)) eaNil)) (evVar 3))))) (esRet (evC (.bl false))) esNil)
  (esSeq (esIf (ecB (ev2 g_ne (evCall c_with_more (eaCons (evVar 3) (eaCons (ev2 g_add (evVar 2) (evC (.int 1))) eaNil))) (ev2 g_add (evVar 3) (evTup (eaCons (ev2 g_add (evVar 2) (evC (.int 1))) eaNil))))) (esRet (evC (.bl false))) esNil)
  (esIf (ecNot (ecT (evCall c__law_rest1 (eaCons (evVar 2) eaNil)))) (esRet (evC (.bl false))) esNil)))))))))))))))))))
  (esRet (evC (.bl true))))
def c_law : Cl := fnC 14 b_law
theorem sc_law : FnScope ["script", "dice", "stage", "one", "other", "both", "wrong", "here", "count", "number", "k", "j", "ring", "place"] ["script"] (defScope s_law) := ⟨rfl, rfl, rfl, by decide +kernel, rfl, by decide +kernel, by decide +kernel⟩
theorem okF_law (fr : Fr mg) (F__law_flat : FnAt G P w mg base 2 "_law_flat" 1 c__law_flat) (F__law_rest1 : FnAt G P w mg base 16 "_law_rest1" 1 c__law_rest1) (F__law_roll : FnAt G P w mg base 2 "_law_roll" 2 c__law_roll) (F__law_rounds : FnAt G P w mg base 4 "_law_rounds" 2 c__law_rounds) (F__law_row : FnAt G P w mg base 4 "_law_row" 2 c__law_row) (F_backwards : FnAt G P w mg base 2 "backwards" 1 c_backwards) (F_between : FnAt G P w mg base 8 "between" 2 c_between) (F_extent : FnAt G P w mg base 4 "extent" 1 c_extent) (F_nth : FnAt G P w mg base 6 "nth" 2 c_nth) (F_number_of : FnAt G P w mg base 6 "number_of" 1 c_number_of) (F_order : FnAt G P w mg base 8 "order" 1 c_order) (F_power : FnAt G P w mg base 10 "power" 2 c_power) (F_put : FnAt G P w mg base 6 "put" 2 c_put) (F_read : FnAt G P w mg base 6 "read" 1 c_read) (F_rings : FnAt G P w mg base 6 "rings" 1 c_rings) (F_rounds : FnAt G P w mg base 2 "rounds" 1 c_rounds) (F_sign : FnAt G P w mg base 8 "sign" 1 c_sign) (F_told : FnAt G P w mg base 6 "told" 1 c_told) (F_undone : FnAt G P w mg base 6 "undone" 1 c_undone) (F_with_more : FnAt G P w mg base 6 "with_more" 2 c_with_more) (F_wrong_pairs : FnAt G P w mg base 3 "wrong_pairs" 1 c_wrong_pairs) (F : FunD G.K "law" "law" (defArgs s_law) (defBody s_law) (defScope s_law) [] [] f fd) : FnOk P w G.K mg base (L2.CX P w) 18 f fd ["script"] (spC G c_law 1) :=
  fn_at (k := 17) F sc_law rfl fun X cdv A outer s H E eX z own => by subst eX; exact
  (ss_cons (ss_for own z.hc (si_any z.K (zcall z F__law_rounds (sa_cons (se_var (i := 0) rfl (by trivial) rfl rfl) (sa_cons (se_int) sa_nil rfl) rfl) (eaLen_cons (eaLen_cons eaLen_nil)))) (sg_name (i := 1) z.nd rfl (by trivial)) (ss_cons (ss_asg (se_bin (op2_add z.K) (se_int) (zcall z F__law_roll (sa_cons (se_var (i := 1) rfl (by trivial) rfl rfl) (sa_cons (se_int) sa_nil rfl) rfl) (eaLen_cons (eaLen_cons eaLen_nil)))) (sg_name (i := 2) z.nd rfl (by trivial)))
  (ss_cons (ss_asg (se_tup (sa_cons (zcall z F__law_row (sa_cons (se_var (i := 1) rfl (by trivial) rfl rfl) (sa_cons (se_var (i := 2) rfl (by trivial) rfl rfl) sa_nil rfl) rfl) (eaLen_cons (eaLen_cons eaLen_nil))) (sa_cons (zcall z F__law_row (sa_cons (se_var (i := 1) rfl (by trivial) rfl rfl) (sa_cons (se_var (i := 2) rfl (by trivial) rfl rfl) sa_nil rfl) rfl) (eaLen_cons (eaLen_cons eaLen_nil))) sa_nil rfl) rfl)) (sg_tup z.K z.hc (sgs_cons (sg_name (i := 3) z.nd rfl (by trivial)) (sgs_cons (sg_name (i := 4) z.nd rfl (by trivial)) sgs_nil))))
  (ss_cons (ss_asg (zcall z F_put (sa_cons (se_var (i := 3) rfl (by trivial) rfl rfl) (sa_cons (se_var (i := 4) rfl (by trivial) rfl rfl) sa_nil rfl) rfl) (eaLen_cons (eaLen_cons eaLen_nil))) (sg_name (i := 5) z.nd rfl (by trivial)))
  (ss_cons (ss_if (PW.pt (sc_or (sc_cmp (op2_ne z.K z.hu) (se_var (i := 5) rfl (by trivial) rfl rfl) (se_fnT (fn_tuple z.K) rfl fr.tuple (sa_cons (zlc (own := [("k", 10)]) (t := (.n 10)) z (si_rg1 rfl fr.range (sa_cons (se_var (i := 2) rfl (by trivial) rfl rfl) sa_nil rfl)) (blkOk_by (by kernel_rfl)) (fun s H C cl fp z1 => (pg_name (i := 10) z1.nd rfl (by trivial) (by trivial))) (fun s H C cl fp z1 => sts_nil) (fun s H C cl fp z1 => (se_ix z1.K z1.hu (se_var (i := 3) rfl (by trivial) rfl rfl) (se_bin op2_sub (se_ix z1.K z1.hu (se_var (i := 4) rfl (by trivial) rfl rfl) (se_var (i := 10) rfl (by trivial) rfl rfl)) (se_int))))) sa_nil rfl) PyProof.Rows.boot_tuple) rfl) (sc_or1 (sc_cmp (op2_ne z.K z.hu) (zcall z F_put (sa_cons (se_var (i := 3) rfl (by trivial) rfl rfl) (sa_cons (zcall z F_undone (sa_cons (se_var (i := 3) rfl (by trivial) rfl rfl) sa_nil rfl) (eaLen_cons eaLen_nil)) sa_nil rfl) rfl) (eaLen_cons (eaLen_cons eaLen_nil))) (zcall z F_rounds (sa_cons (se_var (i := 2) rfl (by trivial) rfl rfl) sa_nil rfl) (eaLen_cons eaLen_nil)) rfl)))) (ss_one (ss_ret (se_bl))) ss_nil)
  (ss_cons (ss_if (PW.pt (sc_or (sc_cmp (op2_ne z.K z.hu) (zcall z F_put (sa_cons (se_var (i := 3) rfl (by trivial) rfl rfl) (sa_cons (zcall z F_between (sa_cons (se_var (i := 3) rfl (by trivial) rfl rfl) (sa_cons (se_var (i := 4) rfl (by trivial) rfl rfl) sa_nil rfl) rfl) (eaLen_cons (eaLen_cons eaLen_nil))) sa_nil rfl) rfl) (eaLen_cons (eaLen_cons eaLen_nil))) (se_var (i := 4) rfl (by trivial) rfl rfl) rfl) (sc_or1 (sc_cmp (op2_ne z.K z.hu) (zcall z F_undone (sa_cons (se_var (i := 5) rfl (by trivial) rfl rfl) sa_nil rfl) (eaLen_cons eaLen_nil)) (zcall z F_put (sa_cons (zcall z F_undone (sa_cons (se_var (i := 4) rfl (by trivial) rfl rfl) sa_nil rfl) (eaLen_cons eaLen_nil)) (sa_cons (zcall z F_undone (sa_cons (se_var (i := 3) rfl (by trivial) rfl rfl) sa_nil rfl) (eaLen_cons eaLen_nil)) sa_nil rfl) rfl) (eaLen_cons (eaLen_cons eaLen_nil))) rfl)))) (ss_one (ss_ret (se_bl))) ss_nil)
  (ss_cons (ss_asg (se_fnB (fn_len z.K) rfl fr.len (sa_cons (zcall z F__law_flat (sa_cons (zlc (own := [("k", 10)]) (t := (.n 10)) z (si_rg1 rfl fr.range (sa_cons (se_var (i := 2) rfl (by trivial) rfl rfl) sa_nil rfl)) (blkOk_by (by kernel_rfl)) (fun s H C cl fp z1 => (pg_name (i := 10) z1.nd rfl (by trivial) (by trivial))) (fun s H C cl fp z1 => sts_nil) (fun s H C cl fp z1 => (zlc (own := [("j", 11)]) (t := (.n 11)) z1 (si_rg1 rfl fr.range (sa_cons (se_var (i := 10) rfl (by trivial) rfl rfl) sa_nil rfl)) (blkOk_by (by kernel_rfl)) (fun s H C cl fp z11 => (pg_name (i := 11) z11.nd rfl (by trivial) (by trivial))) (fun s H C cl fp z11 => (sts_one (sc_cmp (op2_cmpI op_gt) (se_ix z11.K z11.hu (se_var (i := 3) rfl (by trivial) rfl rfl) (se_var (i := 11) rfl (by trivial) rfl rfl)) (se_ix z11.K z11.hu (se_var (i := 3) rfl (by trivial) rfl rfl) (se_var (i := 10) rfl (by trivial) rfl rfl)) rfl))) (fun s H C cl fp z11 => (se_int))))) sa_nil rfl) (eaLen_cons eaLen_nil)) sa_nil rfl) boot_len) (sg_name (i := 6) z.nd rfl (by trivial)))
  (ss_cons (ss_if (PW.pt (sc_or (sc_cmp (op2_ne z.K z.hu) (zcall z F_wrong_pairs (sa_cons (se_var (i := 3) rfl (by trivial) rfl rfl) sa_nil rfl) (eaLen_cons eaLen_nil)) (se_var (i := 6) rfl (by trivial) rfl rfl) rfl) (sc_or1 (sc_cmp (op2_ne z.K z.hu) (zcall z F_sign (sa_cons (se_var (i := 3) rfl (by trivial) rfl rfl) sa_nil rfl) (eaLen_cons eaLen_nil)) (se_if (sc_cmp (op2_eq z.K z.hu) (se_bin op2_mod (se_var (i := 6) rfl (by trivial) rfl rfl) (se_int)) (se_int) rfl) (se_int) (se_bin op2_sub (se_int) (se_int))) rfl)))) (ss_one (ss_ret (se_bl))) ss_nil)
  (ss_cons (ss_if (sc_cmp (op2_ne z.K z.hu) (zcall z F_sign (sa_cons (se_var (i := 5) rfl (by trivial) rfl rfl) sa_nil rfl) (eaLen_cons eaLen_nil)) (se_bin op2_mul (zcall z F_sign (sa_cons (se_var (i := 3) rfl (by trivial) rfl rfl) sa_nil rfl) (eaLen_cons eaLen_nil)) (zcall z F_sign (sa_cons (se_var (i := 4) rfl (by trivial) rfl rfl) sa_nil rfl) (eaLen_cons eaLen_nil))) rfl) (ss_one (ss_ret (se_bl))) ss_nil)
  (ss_cons (ss_if (sc_cmp (op2_ne z.K z.hu) (se_fnB (fn_sorted z.K z.hc z.hu) rfl fr.sorted (sa_cons (zcall z F__law_flat (sa_cons (zlc (own := [("ring", 12)]) (t := (.n 12)) z (si_any z.K (zcall z F_rings (sa_cons (se_var (i := 3) rfl (by trivial) rfl rfl) sa_nil rfl) (eaLen_cons eaLen_nil))) (blkOk_by (by kernel_rfl)) (fun s H C cl fp z1 => (pg_name (i := 12) z1.nd rfl (by trivial) (by trivial))) (fun s H C cl fp z1 => sts_nil) (fun s H C cl fp z1 => (zlc (own := [("place", 13)]) (t := (.n 13)) z1 (si_any z1.K (se_var (i := 12) rfl (by trivial) rfl rfl)) (blkOk_by (by kernel_rfl)) (fun s H C cl fp z11 => (pg_name (i := 13) z11.nd rfl (by trivial) (by trivial))) (fun s H C cl fp z11 => sts_nil) (fun s H C cl fp z11 => (se_var (i := 13) rfl (by trivial) rfl rfl))))) sa_nil rfl) (eaLen_cons eaLen_nil)) sa_nil rfl) PyProof.Rows.boot_sorted) (se_lrg z.hc rfl fr.list (sr_2 rfl fr.range (se_int) (se_bin (op2_add z.K) (se_var (i := 2) rfl (by trivial) rfl rfl) (se_int)))) rfl) (ss_one (ss_ret (se_bl))) ss_nil)
  (ss_cons (ss_par (i := 7) (j := 8) z.hc z.nd rfl rfl (by decide) rfl rfl (sa_cons (se_var (i := 3) rfl (by trivial) rfl rfl) (sa_cons (se_int) sa_nil rfl) rfl))
  (ss_cons (ss_wh own (sc_cmp (op2_ne z.K z.hu) (se_var (i := 7) rfl (by trivial) rfl rfl) (zcall z F_rounds (sa_cons (se_var (i := 2) rfl (by trivial) rfl rfl) sa_nil rfl) (eaLen_cons eaLen_nil)) rfl) (ss_one (ss_par (i := 7) (j := 8) z.hc z.nd rfl rfl (by decide) rfl rfl (sa_cons (zcall z F_put (sa_cons (se_var (i := 7) rfl (by trivial) rfl rfl) (sa_cons (se_var (i := 3) rfl (by trivial) rfl rfl) sa_nil rfl) rfl) (eaLen_cons (eaLen_cons eaLen_nil))) (sa_cons (se_bin (op2_add z.K) (se_var (i := 8) rfl (by trivial) rfl rfl) (se_int)) sa_nil rfl) rfl))))
  (ss_cons (ss_if (PW.pt (sc_or (sc_cmp (op2_ne z.K z.hu) (zcall z F_order (sa_cons (se_var (i := 3) rfl (by trivial) rfl rfl) sa_nil rfl) (eaLen_cons eaLen_nil)) (se_var (i := 8) rfl (by trivial) rfl rfl) rfl) (sc_or (sc_cmp (op2_ne z.K z.hu) (zcall z F_power (sa_cons (se_var (i := 3) rfl (by trivial) rfl rfl) (sa_cons (se_var (i := 8) rfl (by trivial) rfl rfl) sa_nil rfl) rfl) (eaLen_cons (eaLen_cons eaLen_nil))) (zcall z F_rounds (sa_cons (se_var (i := 2) rfl (by trivial) rfl rfl) sa_nil rfl) (eaLen_cons eaLen_nil)) rfl) (sc_or1 (sc_cmp (op2_ne z.K z.hu) (zcall z F_power (sa_cons (se_var (i := 3) rfl (by trivial) rfl rfl) (sa_cons (se_bin op2_sub (se_int) (se_int)) sa_nil rfl) rfl) (eaLen_cons (eaLen_cons eaLen_nil))) (zcall z F_undone (sa_cons (se_var (i := 3) rfl (by trivial) rfl rfl) sa_nil rfl) (eaLen_cons eaLen_nil)) rfl))))) (ss_one (ss_ret (se_bl))) ss_nil)
  (ss_cons (ss_if (sc_cmp (op2_ne z.K z.hu) (zcall z F_power (sa_cons (se_var (i := 3) rfl (by trivial) rfl rfl) (sa_cons (se_int) sa_nil rfl) rfl) (eaLen_cons (eaLen_cons eaLen_nil))) (zcall z F_put (sa_cons (se_var (i := 3) rfl (by trivial) rfl rfl) (sa_cons (se_var (i := 3) rfl (by trivial) rfl rfl) sa_nil rfl) rfl) (eaLen_cons (eaLen_cons eaLen_nil))) rfl) (ss_one (ss_ret (se_bl))) ss_nil)
  (ss_cons (ss_asg (zcall z F__law_roll (sa_cons (se_var (i := 1) rfl (by trivial) rfl rfl) (sa_cons (zcall z F_extent (sa_cons (se_var (i := 2) rfl (by trivial) rfl rfl) sa_nil rfl) (eaLen_cons eaLen_nil)) sa_nil rfl) rfl) (eaLen_cons (eaLen_cons eaLen_nil))) (sg_name (i := 9) z.nd rfl (by trivial)))
  (ss_cons (ss_if (PW.pt (sc_or (sc_cmp (op2_ne z.K z.hu) (zcall z F_number_of (sa_cons (zcall z F_nth (sa_cons (se_var (i := 9) rfl (by trivial) rfl rfl) (sa_cons (se_var (i := 2) rfl (by trivial) rfl rfl) sa_nil rfl) rfl) (eaLen_cons (eaLen_cons eaLen_nil))) sa_nil rfl) (eaLen_cons eaLen_nil)) (se_var (i := 9) rfl (by trivial) rfl rfl) rfl) (sc_or1 (sc_cmp (op2_ne z.K z.hu) (zcall z F_nth (sa_cons (zcall z F_number_of (sa_cons (se_var (i := 3) rfl (by trivial) rfl rfl) sa_nil rfl) (eaLen_cons eaLen_nil)) (sa_cons (se_var (i := 2) rfl (by trivial) rfl rfl) sa_nil rfl) rfl) (eaLen_cons (eaLen_cons eaLen_nil))) (se_var (i := 3) rfl (by trivial) rfl rfl) rfl)))) (ss_one (ss_ret (se_bl))) ss_nil)
  (ss_cons (ss_if (PW.pt (sc_or (sc_cmp (op2_ne z.K z.hu) (zcall z F_read (sa_cons (zcall z F_told (sa_cons (se_var (i := 3) rfl (by trivial) rfl rfl) sa_nil rfl) (eaLen_cons eaLen_nil)) sa_nil rfl) (eaLen_cons eaLen_nil)) (se_var (i := 3) rfl (by trivial) rfl rfl) rfl) (sc_or1 (sc_cmp (op2_ne z.K z.hu) (zcall z F_backwards (sa_cons (zcall z F_backwards (sa_cons (se_var (i := 3) rfl (by trivial) rfl rfl) sa_nil rfl) (eaLen_cons eaLen_nil)) sa_nil rfl) (eaLen_cons eaLen_nil)) (se_var (i := 3) rfl (by trivial) rfl rfl) rfl)))) (ss_one (ss_ret (se_bl))) ss_nil)
  (ss_cons (ss_if (sc_cmp (op2_ne z.K z.hu) (zcall z F_with_more (sa_cons (se_var (i := 3) rfl (by trivial) rfl rfl) (sa_cons (se_bin (op2_add z.K) (se_var (i := 2) rfl (by trivial) rfl rfl) (se_int)) sa_nil rfl) rfl) (eaLen_cons (eaLen_cons eaLen_nil))) (se_bin (op2_add z.K) (se_var (i := 3) rfl (by trivial) rfl rfl) (se_tup (sa_cons (se_bin (op2_add z.K) (se_var (i := 2) rfl (by trivial) rfl rfl) (se_int)) sa_nil rfl))) rfl) (ss_one (ss_ret (se_bl))) ss_nil)
  (ss_one (ss_if (sc_not (sc_truth z.K (zcall z F__law_rest1 (sa_cons (se_var (i := 2) rfl (by trivial) rfl rfl) sa_nil rfl) (eaLen_cons eaLen_nil)) (by intro _; rfl))) (ss_one (ss_ret (se_bl))) ss_nil))))))))))))))))))))
  (ss_one (ss_ret (se_bl))))
end
end Kx
set_option Elab.async false
set_option linter.all false
set_option maxRecDepth 100000
namespace Kx
open Bz L2 PySem PySem.Spec PyProof.Rows

def rg (n : Nat) : List Int := (List.range n).map fun (i : Nat) => (1 + (i : Nat) : Int)
/-- a list of ints as values -/
def dI (p : List Int) : List D := p.map D.int
def rw (p : List Int) : D := .tup (dI p)
structure Pm (n : Nat) (p : List Int) : Prop where
  pm : p.Perm (rg n)
  lo : 0 < n
  hi : n ≤ 12

theorem rg_length (n : Nat) : (rg n).length = n := by simp [rg]
theorem dI_length (p : List Int) : (dI p).length = p.length := by simp [dI]
theorem Pm.len {n : Nat} {p : List Int} (h : Pm n p) : p.length = n := by rw [h.pm.length_eq, rg_length]
theorem rg_mem {n : Nat} {x : Int} : x ∈ rg n ↔ 1 ≤ x ∧ x ≤ n := by
  unfold rg
  rw [List.mem_map]
  constructor
  · rintro ⟨i, hi, rfl⟩
    have := List.mem_range.mp hi
    omega
  · rintro ⟨h1, h2⟩
    exact ⟨(x - 1).toNat, List.mem_range.mpr (by omega), by omega⟩
theorem rg_nodup (n : Nat) : (rg n).Nodup := by
  unfold rg
  rw [List.nodup_iff_pairwise_ne, List.pairwise_map]
  exact List.Pairwise.imp (fun {a b} (h : a < b) => by omega) List.pairwise_lt_range
theorem rg_sorted (n : Nat) : (rg n).Pairwise (· ≤ ·) := by
  unfold rg
  rw [List.pairwise_map]
  exact List.Pairwise.imp (fun {a b} (h : a < b) => by omega) List.pairwise_lt_range
theorem Pm.nodup {n : Nat} {p : List Int} (h : Pm n p) : p.Nodup := h.pm.nodup_iff.mpr (rg_nodup n)
theorem Pm.mem {n : Nat} {p : List Int} (h : Pm n p) {x : Int} : x ∈ p ↔ 1 ≤ x ∧ x ≤ n := h.pm.mem_iff.trans rg_mem
theorem Pm.rg {n : Nat} (lo : 0 < n) (hi : n ≤ 12) : Pm n (rg n) := ⟨.refl _, lo, hi⟩

/-! ### leaves -/
theorem lowL_dI {n : Nat} : ∀ p : List Int, lowL n (dI p) = true
  | [] => rfl
  | a :: p => by show lowL n (D.int a :: dI p) = true; rw [lowL, lowL_dI p]; rfl
theorem low_rw {n : Nat} (p : List Int) : lowD n (rw p) = true := by rw [rw, lowD]; exact lowL_dI p
theorem callW_low {c : Cl} {ts : List T} {h h0 h' : List O} {t : T} {ds : List D} (hl : ts.all (lowT 0) = true) (e : alcs ts [] = some (ds, h0)) (r : c ds h0 = .ok t h') (ht : lowT 0 t = true) : callW c ts h = .ok t h := by
  unfold callW
  rw [if_pos hl, e]
  simp only [r, priv, if_pos ht]
theorem alcs_v (ds : List D) (h : List O) : alcs (ds.map T.v) h = some (ds, h) := by
  induction ds with
  | nil => rfl
  | cons d ds ih => simp only [List.map_cons, alcs, alc, ih]
theorem low_v : ∀ ds : List D, lowL 0 ds = true → (ds.map T.v).all (lowT 0) = true
  | [], _ => rfl
  | d :: ds, h => by
    rw [lowL, Bool.and_eq_true] at h
    rw [List.map_cons, List.all_cons, low_v ds h.2, Bool.and_true]
    exact h.1
theorem call_v {c : Cl} {ds : List D} {t : T} {h' : List O} (hl : lowL 0 ds = true) (r : c ds [] = .ok t h') (ht : lowT 0 t = true) (h : List O) : callW c (ds.map T.v) h = .ok t h :=
  callW_low (low_v ds hl) (alcs_v ds []) r ht
theorem omap_dI (h : List O) (n : Nat) : ∀ p : List Int, omap (datF h n) (dI p) = some (p.map PyData.int)
  | [] => rfl
  | a :: p => by
    show omap (datF h n) (D.int a :: dI p) = _
    rw [omap, omap_dI h n p]
    cases n <;> rfl
theorem datT_rw (h : List O) (p : List Int) : datT h (.v (rw p)) = some (.tuple (p.map .int)) := by
  show datF h 8 (.tup (dI p)) = _
  simp only [datF, omap_dI, Option.map_some]
theorem datT_tl (h : List O) (p : List Int) : datT h (.tl (dI p)) = some (.list (p.map .int)) := by
  show (omap (datF h 7) (dI p)).map _ = _
  rw [omap_dI]; rfl
theorem eqvAll_int : ∀ p q : List Int, PyData.eqvAll (p.map .int) (q.map .int) = decide (p = q)
  | [], [] => by simp [PyData.eqvAll]
  | [], _ :: _ => by simp [PyData.eqvAll]
  | _ :: _, [] => by simp [PyData.eqvAll]
  | a :: p, b :: q => by
    rw [List.map_cons, List.map_cons, PyData.eqvAll, eqvAll_int p q, PyData.eqv]
    by_cases e : a = b
    · subst e; simp
    · simp [e]
theorem eqv_rw (p q : List Int) : PyData.eqv (.tuple (p.map .int)) (.tuple (q.map .int)) = decide (p = q) := by rw [PyData.eqv, eqvAll_int]
theorem eqv_tl (p q : List Int) : PyData.eqv (.list (p.map .int)) (.list (q.map .int)) = decide (p = q) := by rw [PyData.eqv, eqvAll_int]
@[simp] theorem ne_rw (h : List O) (p q : List Int) : g_ne (.v (rw p)) (.v (rw q)) h = some (tB (!decide (p = q))) := by
  unfold g_ne; rw [datT_rw, datT_rw]; simp only [eqv_rw]
@[simp] theorem ne_tl (h : List O) (p q : List Int) : g_ne (.tl (dI p)) (.tl (dI q)) h = some (tB (!decide (p = q))) := by
  unfold g_ne; rw [datT_tl, datT_tl]; simp only [eqv_tl]
@[simp] theorem eq_int (h : List O) (a b : Int) : g_eq (tI a) (tI b) h = some (tB (decide (a = b))) := by
  show some (tB (PyData.eqv (.int a) (.int b))) = _
  rw [PyData.eqv]; rfl
@[simp] theorem ne_int (h : List O) (a b : Int) : g_ne (tI a) (tI b) h = some (tB (!decide (a = b))) := by
  show some (tB (!PyData.eqv (.int a) (.int b))) = _
  rw [PyData.eqv]; rfl
@[simp] theorem len_rw (h : List O) (p : List Int) : g_len (.v (rw p)) h = some (tI p.length) := by
  show some (tI (dI p).length) = _
  rw [dI_length]
@[simp] theorem tuple_tl (h : List O) (l : List D) : g_tuple (.tl l) h = some (.v (.tup l)) := by
  unfold g_tuple; simp [seqL]

/-! ### sorted -/
theorem le_int (h : List O) (a b : Int) : leD h (.int a) (.int b) = decide (a ≤ b) := by
  have e : leD h (.int a) (.int b) = PySem.W.dataLe (β := Int) false (fun i => .int i) a b := rfl
  rw [e, PySem.W.dataLe_int fun i : Int => i]
def insI (a : Int) : List Int → List Int
  | [] => [a]
  | b :: l => if a ≤ b then a :: b :: l else b :: insI a l
def sortI : List Int → List Int
  | [] => []
  | a :: l => insI a (sortI l)
theorem ins_dI (h : List O) (a : Int) : ∀ p : List Int, insD (leD h) (.int a) (dI p) = dI (insI a p)
  | [] => rfl
  | b :: p => by
    show insD (leD h) (.int a) (D.int b :: dI p) = _
    rw [insD, insI, le_int, ins_dI h a p]
    by_cases e : a ≤ b
    · simp only [e, decide_true, if_true]; rfl
    · simp only [e, decide_false, if_false]; rfl
theorem sort_dI (h : List O) : ∀ p : List Int, sortD (leD h) (dI p) = dI (sortI p)
  | [] => rfl
  | a :: p => by
    show sortD (leD h) (D.int a :: dI p) = _
    rw [sortD, sort_dI h p, ins_dI]; rfl
theorem insI_perm (a : Int) : ∀ p : List Int, (insI a p).Perm (a :: p)
  | [] => .refl _
  | b :: p => by
    rw [insI]
    split
    · exact .refl _
    · exact ((insI_perm a p).cons b).trans (.swap a b p)
theorem sortI_perm : ∀ p : List Int, (sortI p).Perm p
  | [] => .refl _
  | a :: p => (insI_perm a _).trans ((sortI_perm p).cons a)
theorem insI_sorted (a : Int) : ∀ {p : List Int}, p.Pairwise (· ≤ ·) → (insI a p).Pairwise (· ≤ ·)
  | [], _ => List.pairwise_singleton _ _
  | b :: p, s => by
    rw [insI]
    have s' := List.pairwise_cons.mp s
    split
    · rename_i e
      exact List.pairwise_cons.mpr ⟨fun c hc => by
        rcases List.mem_cons.mp hc with rfl | hc
        · exact e
        · exact Int.le_trans e (s'.1 c hc), s⟩
    · rename_i e
      refine List.pairwise_cons.mpr ⟨fun c hc => ?_, insI_sorted a s'.2⟩
      rcases List.mem_cons.mp ((insI_perm a p).mem_iff.mp hc) with rfl | hc
      · omega
      · exact s'.1 c hc
theorem sortI_sorted : ∀ p : List Int, (sortI p).Pairwise (· ≤ ·)
  | [] => .nil
  | a :: p => insI_sorted a (sortI_sorted p)
theorem sorted_unique : ∀ {p q : List Int}, p.Perm q → p.Pairwise (· ≤ ·) → q.Pairwise (· ≤ ·) → p = q
  | [], q, h, _, _ => (List.nil_perm.mp h).symm
  | a :: p, [], h, _, _ => absurd h.length_eq (by simp)
  | a :: p, b :: q, h, s, t => by
    have s' := List.pairwise_cons.mp s
    have t' := List.pairwise_cons.mp t
    have e : a = b := by
      have h1 : a ∈ b :: q := h.mem_iff.mp (List.mem_cons_self ..)
      have h2 : b ∈ a :: p := h.mem_iff.mpr (List.mem_cons_self ..)
      rcases List.mem_cons.mp h1 with h1 | h1
      · exact h1
      · rcases List.mem_cons.mp h2 with h2 | h2
        · exact h2.symm
        · have := t'.1 a h1; have := s'.1 b h2; omega
    subst e
    rw [sorted_unique (List.Perm.cons_inv h) s'.2 t'.2]
theorem sortI_rg {n : Nat} {p : List Int} (h : p.Perm (rg n)) : sortI p = rg n := sorted_unique ((sortI_perm p).trans h) (sortI_sorted p) (rg_sorted n)
theorem tie_dI (h : List O) : ∀ p : List Int, p.Pairwise (· ≤ ·) → tieOk (leD h) (dI p) = true
  | [], _ => rfl
  | [_], _ => rfl
  | a :: b :: p, s => by
    have s' := List.pairwise_cons.mp s
    show tieOk (leD h) (D.int a :: D.int b :: dI p) = true
    have ih : tieOk (leD h) (D.int b :: dI p) = true := tie_dI h (b :: p) s'.2
    rw [tieOk, le_int, ih, Bool.and_true]
    have ab : a ≤ b := s'.1 b (List.mem_cons_self ..)
    by_cases e : b ≤ a
    · have : a = b := by omega
      subst this
      simp [beqD]
    · simp [e]
theorem sortOk_dI (p : List Int) : sortOk (p.map PyData.int) = true := by
  have : (p.map PyData.int).all isI = true := by simp [List.all_map, isI]
  unfold sortOk
  rw [this]; rfl
theorem src_rw (h : List O) (p : List Int) : srcT h (.v (rw p)) = some (dI p) := rfl
theorem src_tl (h : List O) (l : List D) : srcT h (.tl l) = some l := rfl
theorem sorted_of {h : List O} {t : T} {p : List Int} (e : srcT h t = some (dI p)) (hz : p.length ≤ SZ) : g_sorted t h = some (.tl (dI (sortI p))) := by
  unfold g_sorted
  rw [e]
  simp only [omap_dI, sort_dI, sortOk_dI, tie_dI h _ (sortI_sorted p), dI_length, decide_eq_true hz, Bool.and_self, if_true]
end Kx
set_option Elab.async false
set_option linter.all false
set_option maxRecDepth 100000
namespace Kx
open Bz L2 PySem PySem.Spec PyProof.Rows

theorem opt_some (h : List O) (t : T) : opt h (some t) = .ok t h := rfl
theorem optB_some (h : List O) (b : Bool) : optB h (some b) = .ok b h := rfl
theorem optR_some {A : Type} (h : List O) (a : A) : optR h (some a) = .ok a h := rfl
theorem boT_b (b : Bool) : boT (tB b) = some b := rfl
theorem rounds_run (n : Nat) (lo : 0 < n) (hi : n ≤ 12) (h : List O) : c_rounds [.int (n : Nat)] h = .ok (.v (rw (rg n))) h := by
  have : n = 1 ∨ n = 2 ∨ n = 3 ∨ n = 4 ∨ n = 5 ∨ n = 6 ∨ n = 7 ∨ n = 8 ∨ n = 9 ∨ n = 10 ∨ n = 11 ∨ n = 12 := by omega
  rcases this with rfl | rfl | rfl | rfl | rfl | rfl | rfl | rfl | rfl | rfl | rfl | rfl <;> rfl
theorem call_rounds (n : Nat) (lo : 0 < n) (hi : n ≤ 12) (h : List O) : callW c_rounds [tI (n : Nat)] h = .ok (.v (rw (rg n))) h :=
  call_v (ds := [.int (n : Nat)]) rfl (rounds_run n lo hi []) (low_rw _) h
theorem check_run {n : Nat} {p : List Int} (hp : Pm n p) (h : List O) : c_check_row [rw p] h = .ok (.v .non) h := by
  have hl := hp.len
  have lo := hp.lo
  have hi := hp.hi
  have e0 : decide ((p.length : Int) = 0) = false := by rw [hl]; exact decide_eq_false (by omega)
  have es : g_sorted (.v (rw p)) h = some (.tl (dI (rg n))) := by
    rw [sorted_of (src_rw h p) (by rw [hl]; have : SZ = 16777216 := rfl; omega), sortI_rg hp.pm]
  have er : callW c_rounds [tI (p.length : Nat)] h = .ok (.v (rw (rg n))) h := by rw [hl]; exact call_rounds n lo hi h
  have et : T.v (.tup (dI (rg n))) = .v (rw (rg n)) := rfl
  simp only [c_check_row, b_check_row, len_rw, eq_int, ne_rw, tuple_tl, e0, es, er, et, fnC, esSeq, esIf, esAsg, esPar, esE, esRet, esRetN, esNil, esAug, esRaise, ecOr, ecAnd, ecNot, ecB, ecT, ev2, evFn, g1, g2, eaCons, eaNil, evVar, evC, evCall, evTup, evLst, evIf, evNeg, evChn, evMt, egN, egT, egsCons, egsNil, alc, alcs, opt_some, optB_some, optR_some, boT_b, R.bind_ok, R.to_ok, List.getElem?_cons_zero, List.getElem?_cons_succ, List.set_cons_zero, List.set_cons_succ, List.map_cons, List.map_nil, List.length_cons, List.length_nil, List.replicate_succ, List.replicate_zero, List.replicate, Option.map_some, Bool.not_true, Bool.not_false, if_true, if_false, reduceIte, Nat.reduceSub, Nat.reduceAdd, List.cons_append, List.nil_append, Bool.false_eq_true, decide_true, decide_false]
end Kx
set_option Elab.async false
set_option linter.all false
set_option maxRecDepth 100000
namespace Kx
open Bz L2 PySem PySem.Spec

theorem call_check {n : Nat} {p : List Int} (hp : Pm n p) (h : List O) : callW c_check_row [.v (rw p)] h = .ok (.v .non) h :=
  call_v (ds := [rw p]) (by rw [lowL, low_rw]; rfl) (check_run hp []) rfl h

/-! ### comprehensions -/
theorem lcL_fx {l : List D} {t : Tg} {r0 : Rho} {b : Eb} {h : List O} (f : D → Option D) (hs : ∀ d ∈ l, ∃ r1, setTg t d r0 = some r1 ∧ b r1 h = .ok (f d) h) :
    ∀ (m k : Nat) (acc : List D), k + m = l.length → acc.length + m ≤ SZ → lcL (.fx l) t r0 b (m + 1) k acc h = .ok (((l.drop k).filterMap f).reverse ++ acc) h
  | 0, k, acc, e, _ => by
    have e1 : l[k]? = none := List.getElem?_eq_none_iff.mpr (by omega)
    have e2 : l.drop k = [] := List.drop_eq_nil_iff.mpr (by omega)
    rw [lcL, itemAt, e1, e2]; rfl
  | m + 1, k, acc, e, hz => by
    have hk : k < l.length := by omega
    have e1 : l[k]? = some l[k] := List.getElem?_eq_getElem hk
    have e2 : l.drop k = l[k] :: l.drop (k + 1) := (List.drop_eq_getElem_cons hk)
    obtain ⟨r1, h1, h2⟩ := hs l[k] (List.getElem_mem hk)
    rw [lcL, itemAt, e1, e2]
    simp only [h1, h2, R.bind_ok]
    cases hf : f l[k] with
    | none =>
      simp only []
      rw [lcL_fx f hs m (k + 1) acc (by omega) (by omega), List.filterMap_cons_none hf]
    | some d =>
      simp only []
      rw [if_pos (by omega), lcL_fx f hs m (k + 1) (d :: acc) (by omega) (by rw [List.length_cons]; omega), List.filterMap_cons_some hf, List.reverse_cons, List.append_assoc]; rfl
theorem evLc_fx {f : Ei} {t : Tg} {vs : List Nat} {c : Ec} {g : Ev} {r : Rho} {h h1 : List O} {l : List D} (hf : f r h = .ok (.fx l) h1) (hl : l.length ≤ SZ) (e : D → Option D) (hs : ∀ d ∈ l, ∃ r1, setTg t d (wipeR r vs) = some r1 ∧ lcT c g r1 h1 = .ok (e d) h1) :
    evLc f t vs c g r h = .ok (.tl (l.filterMap e)) h1 := by
  unfold evLc
  rw [hf]
  simp only [R.bind_ok, fuelV]
  rw [lcL_fx e hs l.length 0 [] (by omega) (by simpa using hl)]
  simp
theorem evLc_ints {f : Ei} {i : Nat} {vs : List Nat} {g : Ev} {r : Rho} {h h1 : List O} {p : List Int} (hf : f r h = .ok (.fx (dI p)) h1) (hl : p.length ≤ SZ) (e : Int → D) (hs : ∀ x ∈ p, g ((wipeR r vs).set i (some (.int x))) h1 = .ok (.v (e x)) h1) :
    evLc f (.n i) vs eYes g r h = .ok (.tl (p.map e)) h1 := by
  let e' : D → Option D := fun d => match d with
    | .int x => some (e x)
    | _ => none
  rw [evLc_fx hf (by rw [dI_length]; exact hl) e' fun d hd => ?_]
  · have : (dI p).filterMap e' = p.map e := by
      unfold dI
      rw [List.filterMap_map, ← List.filterMap_eq_map]
      rfl
    rw [this]
  · obtain ⟨x, hx, rfl⟩ := List.mem_map.mp hd
    exact ⟨_, rfl, by simp only [lcT, eYes, R.bind_ok, R.no, hs x hx, if_true, alc]; rfl⟩

/-! ### items -/
def ap (p : List Int) (b : Int) : Int := p.getD (b - 1).toNat 0
def cmp (p q : List Int) : List Int := q.map (ap p)
theorem ix_dI {l : List D} {p : List Int} (e : l = dI p) {i : Int} (h0 : 0 ≤ i) (h1 : i < p.length) : atI l i = some (.int (p.getD i.toNat 0)) := by
  subst e
  unfold atI ixN
  rw [if_pos h0, dI_length, if_pos h1]
  show (dI p)[i.toNat]? = _
  have hl : i.toNat < p.length := by omega
  unfold dI
  rw [List.getElem?_map, List.getElem?_eq_getElem hl]
  simp [List.getD_eq_getElem?_getD, List.getElem?_eq_getElem hl]
theorem ix_rw {p : List Int} {i : Int} (h0 : 0 ≤ i) (h1 : i < p.length) (h : List O) : g_ix (.v (rw p)) (tI i) h = some (tI (p.getD i.toNat 0)) := by
  show (atI (dI p) i).map T.v = _
  rw [ix_dI rfl h0 h1]; rfl
theorem ix_ap {n : Nat} {p : List Int} (hp : Pm n p) {b : Int} (hb : 1 ≤ b ∧ b ≤ n) (h : List O) : g_ix (.v (rw p)) (tI (b - 1)) h = some (tI (ap p b)) :=
  ix_rw (by omega) (by rw [hp.len]; omega) h
theorem sub_int (a b : Int) (h : List O) : g_sub (tI a) (tI b) h = some (tI (a - b)) := rfl
theorem add_int (a b : Int) (h : List O) : g_add (tI a) (tI b) h = some (tI (a + b)) := rfl
theorem ivT_rw (h : List O) (p : List Int) : ivT h (.v (rw p)) = some (.fx (dI p)) := rfl
theorem sz12 {n : Nat} (h : n ≤ 12) : n ≤ SZ := by have : SZ = 16777216 := rfl; omega
/-- [f(x) for x in row] -/
theorem lc_row {i v : Nat} {vs : List Nat} {g : Ev} {r : Rho} {h : List O} {n : Nat} {p : List Int} (hp : Pm n p) (hr : r[v]? = some (some (rw p))) (e : Int → D) (hs : ∀ x ∈ p, g ((wipeR r vs).set i (some (.int x))) h = .ok (.v (e x)) h) :
    evLc (eiT (evVar v)) (.n i) vs eYes g r h = .ok (.tl (p.map e)) h :=
  evLc_ints (by unfold eiT evVar; rw [hr]; simp only [R.bind_ok, ivT_rw, optR_some]) (by rw [hp.len]; exact sz12 hp.hi) e hs

theorem put_run {n : Nat} {p q : List Int} (hp : Pm n p) (hq : Pm n q) (h : List O) : c_put [rw p, rw q] h = .ok (.v (rw (cmp p q))) h := by
  have el : decide ((p.length : Int) = (q.length : Int)) = true := by rw [hp.len, hq.len]; exact decide_eq_true rfl
  have lc : evLc (eiT (evVar 1)) (.n 2) [2] eYes (ev2 g_ix (evVar 0) (ev2 g_sub (evVar 2) (evC (.int 1)))) [some (rw p), some (rw q), none] h = .ok (.tl (q.map fun x => .int (ap p x))) h :=
    lc_row hq rfl _ fun x hx => by
      have := ix_ap hp (hq.mem.mp hx) h
      simp only [wipeR, sub_int, this, fnC, esSeq, esIf, esAsg, esPar, esE, esRet, esRetN, esNil, esAug, esRaise, ecOr, ecAnd, ecNot, ecB, ecT, ev2, evFn, g1, g2, eaCons, eaNil, evVar, evC, evCall, evTup, evLst, evIf, evNeg, evChn, evMt, egN, egT, egsCons, egsNil, alc, alcs, opt_some, optB_some, optR_some, boT_b, R.bind_ok, R.to_ok, List.getElem?_cons_zero, List.getElem?_cons_succ, List.set_cons_zero, List.set_cons_succ, List.map_cons, List.map_nil, List.length_cons, List.length_nil, List.replicate_succ, List.replicate_zero, List.replicate, Option.map_some, Bool.not_true, Bool.not_false, if_true, if_false, reduceIte, Nat.reduceSub, Nat.reduceAdd, List.cons_append, List.nil_append, Bool.false_eq_true, decide_true, decide_false]
  have et : T.v (.tup (q.map fun x => D.int (ap p x))) = .v (rw (cmp p q)) := by unfold rw cmp dI; rw [List.map_map]; rfl
  simp only [c_put, b_put, call_check hp, call_check hq, len_rw, ne_int, el, lc, tuple_tl, et, fnC, esSeq, esIf, esAsg, esPar, esE, esRet, esRetN, esNil, esAug, esRaise, ecOr, ecAnd, ecNot, ecB, ecT, ev2, evFn, g1, g2, eaCons, eaNil, evVar, evC, evCall, evTup, evLst, evIf, evNeg, evChn, evMt, egN, egT, egsCons, egsNil, alc, alcs, opt_some, optB_some, optR_some, boT_b, R.bind_ok, R.to_ok, List.getElem?_cons_zero, List.getElem?_cons_succ, List.set_cons_zero, List.set_cons_succ, List.map_cons, List.map_nil, List.length_cons, List.length_nil, List.replicate_succ, List.replicate_zero, List.replicate, Option.map_some, Bool.not_true, Bool.not_false, if_true, if_false, reduceIte, Nat.reduceSub, Nat.reduceAdd, List.cons_append, List.nil_append, Bool.false_eq_true, decide_true, decide_false]
theorem call_put {n : Nat} {p q : List Int} (hp : Pm n p) (hq : Pm n q) (h : List O) : callW c_put [.v (rw p), .v (rw q)] h = .ok (.v (rw (cmp p q))) h :=
  call_v (ds := [rw p, rw q]) (by rw [lowL, low_rw, lowL, low_rw]; rfl) (put_run hp hq []) (low_rw _) h

/-! ### for -/
theorem forL_run {v : IV} {g : Eg} {b : Es} {n : Nat} (it : Nat → D) (hv : ∀ k h, k < n → itemAt v k h = some (some (it k))) (he : ∀ h, itemAt v n h = some none) (I : Nat → Rho → List O → Prop)
    (hs : ∀ k r h, k < n → I k r h → ∃ r1 h1 r2 h2, g (it k) r h = .nx r1 h1 ∧ b r1 h1 = .nx r2 h2 ∧ I (k + 1) r2 h2) :
    ∀ (m k : Nat) (r : Rho) (h : List O), k + m = n → I k r h → ∃ r2 h2, forL v g b (m + 1) k r h = .nx r2 h2 ∧ I n r2 h2
  | 0, k, r, h, e, i => by
    have e : k = n := by omega
    subst e
    exact ⟨r, h, by rw [forL, he], i⟩
  | m + 1, k, r, h, e, i => by
    have hk : k < n := by omega
    obtain ⟨r1, h1, r2, h2, e1, e2, i2⟩ := hs k r h hk i
    obtain ⟨r3, h3, e3, i3⟩ := forL_run it hv he I hs m (k + 1) r2 h2 (by omega) i2
    exact ⟨r3, h3, by rw [forL, hv k h hk]; simp only [e1, e2, e3], i3⟩
theorem itemAt_dI {p : List Int} {k : Nat} (h : List O) (hk : k < p.length) : itemAt (.fx (dI p)) k h = some (some (.int (p.getD k 0))) := by
  unfold itemAt dI
  rw [List.getElem?_map, List.getElem?_eq_getElem hk]
  simp [List.getD_eq_getElem?_getD, List.getElem?_eq_getElem hk]
theorem itemAt_dI_end {p : List Int} {k : Nat} (h : List O) (hk : p.length ≤ k) : itemAt (.fx (dI p)) k h = some none := by
  unfold itemAt dI
  rw [List.getElem?_map, List.getElem?_eq_none_iff.mpr hk]; rfl
end Kx
set_option Elab.async false
set_option linter.all false
set_option maxRecDepth 100000
namespace Kx
open Bz L2 PySem PySem.Spec

/-! ### rows as permutations -/
theorem pm_of {n : Nat} {q : List Int} (lo : 0 < n) (hi : n ≤ 12) (nd : q.Nodup) (len : q.length = n) (sub : ∀ x ∈ q, 1 ≤ x ∧ x ≤ n) : Pm n q := by
  refine ⟨(List.perm_ext_iff_of_nodup nd (rg_nodup n)).mpr fun x => ⟨fun h => rg_mem.mpr (sub x h), fun h => ?_⟩, lo, hi⟩
  by_cases hx : x ∈ q
  · exact hx
  · have nd' : (x :: q).Nodup := List.nodup_cons.mpr ⟨hx, nd⟩
    have := List.Nodup.length_le_of_subset nd' (l₂ := rg n) fun y hy => by
      rcases List.mem_cons.mp hy with rfl | hy
      · exact h
      · exact rg_mem.mpr (sub y hy)
    rw [List.length_cons, rg_length, len] at this
    omega
theorem ap_eq {p : List Int} {b : Int} (h1 : 1 ≤ b) (h2 : b ≤ p.length) : ∃ h : (b - 1).toNat < p.length, ap p b = p[(b - 1).toNat] := by
  refine ⟨by omega, ?_⟩
  unfold ap
  rw [List.getD_eq_getElem?_getD, List.getElem?_eq_getElem (by omega : (b - 1).toNat < p.length)]; rfl
section
variable {n : Nat} {p q : List Int}
theorem Pm.ap_mem (hp : Pm n p) {b : Int} (hb : 1 ≤ b ∧ b ≤ n) : ap p b ∈ p := by
  obtain ⟨h, e⟩ := ap_eq hb.1 (by rw [hp.len]; exact hb.2)
  rw [e]; exact List.getElem_mem h
theorem Pm.ap_rg (hp : Pm n p) {b : Int} (hb : 1 ≤ b ∧ b ≤ n) : 1 ≤ ap p b ∧ ap p b ≤ n := hp.mem.mp (hp.ap_mem hb)
theorem Pm.ap_inj (hp : Pm n p) {a b : Int} (ha : 1 ≤ a ∧ a ≤ n) (hb : 1 ≤ b ∧ b ≤ n) (e : ap p a = ap p b) : a = b := by
  obtain ⟨h1, e1⟩ := ap_eq ha.1 (by rw [hp.len]; exact ha.2)
  obtain ⟨h2, e2⟩ := ap_eq hb.1 (by rw [hp.len]; exact hb.2)
  rw [e1, e2] at e
  have := (List.getElem_inj hp.nodup).mp e
  omega
theorem getD_ap (p : List Int) (k : Nat) : p.getD k 0 = ap p (1 + (k : Nat)) := by
  unfold ap
  rw [show (1 + (k : Int) - 1).toNat = k by omega]
theorem rg_get {n i : Nat} (h : i < (rg n).length) : (rg n)[i] = 1 + (i : Nat) := by
  simp [rg]
theorem map_ap (p : List Int) : (rg p.length).map (ap p) = p := by
  apply List.ext_getElem
  · rw [List.length_map, rg_length]
  · intro i h1 h2
    rw [List.getElem_map, rg_get]
    rw [← getD_ap, List.getD_eq_getElem?_getD, List.getElem?_eq_getElem h2]; rfl
theorem Pm.map_ap (hp : Pm n p) : (Kx.rg n).map (ap p) = p := by have := Kx.map_ap p; rw [hp.len] at this; exact this
theorem map_nodup {f : Int → Int} : ∀ {l : List Int}, (∀ a ∈ l, ∀ b ∈ l, f a = f b → a = b) → l.Nodup → (l.map f).Nodup
  | [], _, _ => List.nodup_nil
  | a :: l, hf, nd => by
    have nd := List.nodup_cons.mp nd
    rw [List.map_cons]
    refine List.nodup_cons.mpr ⟨fun h => ?_, map_nodup (fun x hx y hy => hf x (List.mem_cons_of_mem _ hx) y (List.mem_cons_of_mem _ hy)) nd.2⟩
    obtain ⟨b, hb, e⟩ := List.mem_map.mp h
    have := hf b (List.mem_cons_of_mem _ hb) a (List.mem_cons_self ..) e
    subst this
    exact nd.1 hb
theorem Pm.cmp (hp : Pm n p) (hq : Pm n q) : Pm n (cmp p q) := by
  refine pm_of hp.lo hp.hi (map_nodup (fun a ha b hb e => hp.ap_inj (hq.mem.mp ha) (hq.mem.mp hb) e) hq.nodup) (by unfold Kx.cmp; rw [List.length_map, hq.len]) fun x hx => ?_
  obtain ⟨b, hb, rfl⟩ := List.mem_map.mp hx
  exact hp.ap_rg (hq.mem.mp hb)
theorem ap_map {f : Int → Int} {q : List Int} {b : Int} (h1 : 1 ≤ b) (h2 : b ≤ q.length) : ap (q.map f) b = f (ap q b) := by
  obtain ⟨h, e⟩ := ap_eq h1 h2
  obtain ⟨h', e'⟩ := ap_eq (p := q.map f) h1 (by rw [List.length_map]; exact h2)
  rw [e, e', List.getElem_map]
theorem Pm.ap_cmp (hq : Pm n q) {b : Int} (hb : 1 ≤ b ∧ b ≤ n) : ap (Kx.cmp p q) b = ap p (ap q b) := ap_map hb.1 (by rw [hq.len]; exact hb.2)
theorem ap_rgn {b : Int} (hb : 1 ≤ b ∧ b ≤ n) : ap (rg n) b = b := by
  obtain ⟨h, e⟩ := ap_eq (p := rg n) hb.1 (by rw [rg_length]; exact hb.2)
  rw [e, rg_get]
  omega
theorem Pm.ext (hp : Pm n p) (hq : Pm n q) (h : ∀ b : Int, 1 ≤ b → b ≤ n → ap p b = ap q b) : p = q := by
  rw [← hp.map_ap, ← hq.map_ap]
  exact List.map_congr_left fun b hb => h b (rg_mem.mp hb).1 (rg_mem.mp hb).2
theorem cmp_rg (hp : Pm n p) : cmp p (rg n) = p := hp.map_ap
theorem rg_cmp (hp : Pm n p) : cmp (rg n) p = p := by
  refine ((Pm.rg hp.lo hp.hi).cmp hp).ext hp fun b h1 h2 => ?_
  rw [hp.ap_cmp ⟨h1, h2⟩, ap_rgn (hp.ap_rg ⟨h1, h2⟩)]
theorem cmp_assoc {r : List Int} (hp : Pm n p) (hq : Pm n q) (hr : Pm n r) : cmp (cmp p q) r = cmp p (cmp q r) := by
  refine ((hp.cmp hq).cmp hr).ext (hp.cmp (hq.cmp hr)) fun b h1 h2 => ?_
  rw [hr.ap_cmp ⟨h1, h2⟩, hq.ap_cmp (hr.ap_rg ⟨h1, h2⟩), (hq.cmp hr).ap_cmp ⟨h1, h2⟩, hr.ap_cmp ⟨h1, h2⟩]
/-- the row undone -/
def inv (n : Nat) (p : List Int) : List Int := (rg n).map fun b => 1 + (p.idxOf b : Nat)
theorem Pm.inv (hp : Pm n p) : Pm n (inv n p) := by
  refine pm_of hp.lo hp.hi (map_nodup (fun a ha b hb e => ?_) (rg_nodup n)) (by unfold Kx.inv; rw [List.length_map, rg_length]) fun x hx => ?_
  · have e : p.idxOf a = p.idxOf b := by omega
    have ha' := List.idxOf_lt_length_of_mem (hp.mem.mpr (rg_mem.mp ha))
    have hb' := List.idxOf_lt_length_of_mem (hp.mem.mpr (rg_mem.mp hb))
    have e1 : p[p.idxOf a] = a := List.getElem_idxOf ha'
    have e2 : p[p.idxOf b] = b := List.getElem_idxOf hb'
    rw [← e1, ← e2]
    simp only [e]
  · obtain ⟨b, hb, rfl⟩ := List.mem_map.mp hx
    have hb' := List.idxOf_lt_length_of_mem (hp.mem.mpr (rg_mem.mp hb))
    rw [hp.len] at hb'
    omega
theorem Pm.ap_inv (hp : Pm n p) {b : Int} (hb : 1 ≤ b ∧ b ≤ n) : ap p (ap (Kx.inv n p) b) = b := by
  unfold Kx.inv
  rw [ap_map hb.1 (by rw [rg_length]; exact hb.2), ap_rgn hb, ← getD_ap]
  have hb' := List.idxOf_lt_length_of_mem (hp.mem.mpr hb)
  rw [List.getD_eq_getElem?_getD, List.getElem?_eq_getElem hb']
  exact List.getElem_idxOf hb'
theorem cmp_inv (hp : Pm n p) : cmp p (inv n p) = rg n := by
  refine (hp.cmp hp.inv).ext (Pm.rg hp.lo hp.hi) fun b h1 h2 => ?_
  rw [hp.inv.ap_cmp ⟨h1, h2⟩, hp.ap_inv ⟨h1, h2⟩, ap_rgn ⟨h1, h2⟩]
theorem Pm.inv_ap (hp : Pm n p) {b : Int} (hb : 1 ≤ b ∧ b ≤ n) : ap (Kx.inv n p) (ap p b) = b :=
  hp.ap_inj (hp.inv.ap_rg (hp.ap_rg hb)) hb (hp.ap_inv (hp.ap_rg hb))
theorem inv_cmp (hp : Pm n p) : cmp (inv n p) p = rg n := by
  refine (hp.inv.cmp hp).ext (Pm.rg hp.lo hp.hi) fun b h1 h2 => ?_
  rw [hp.ap_cmp ⟨h1, h2⟩, hp.inv_ap ⟨h1, h2⟩, ap_rgn ⟨h1, h2⟩]
theorem inv_of (hp : Pm n p) (hq : Pm n q) : inv n (cmp p q) = cmp (inv n q) (inv n p) := by
  have hc := hp.cmp hq
  refine hc.inv.ext (hq.inv.cmp hp.inv) fun b h1 h2 => ?_
  refine hc.ap_inj (hc.inv.ap_rg ⟨h1, h2⟩) ((hq.inv.cmp hp.inv).ap_rg ⟨h1, h2⟩) ?_
  have hb := hp.inv.ap_rg ⟨h1, h2⟩
  rw [hc.ap_inv ⟨h1, h2⟩, hp.inv.ap_cmp ⟨h1, h2⟩, hq.ap_cmp (hq.inv.ap_rg hb), hq.ap_inv hb, hp.ap_inv ⟨h1, h2⟩]
end
end Kx
set_option Elab.async false
set_option linter.all false
set_option maxRecDepth 100000
namespace Kx
open Bz L2 PySem PySem.Spec

theorem szl0 : (0 ≤ SZ) = True := eq_true (by decide)
theorem szl1 : (1 ≤ SZ) = True := eq_true (by decide)
theorem szl2 : (2 ≤ SZ) = True := eq_true (by decide)
theorem szl3 : (3 ≤ SZ) = True := eq_true (by decide)
theorem szl4 : (0 < SZ) = True := eq_true (by decide)
theorem szl5 : (1 < SZ) = True := eq_true (by decide)
theorem szl6 : (2 < SZ) = True := eq_true (by decide)
theorem szl7 : (3 < SZ) = True := eq_true (by decide)
theorem low_trw {n : Nat} (p : List Int) : lowT n (.v (rw p)) = true := low_rw p
theorem itE {p : List Int} {k : Nat} (h : List O) (hk : k < p.length) : itemAt (.en (.fx (dI p))) k h = some (some (.tup [.int (k : Nat), .int (p.getD k 0)])) := by
  rw [itemAt, itemAt_dI h hk]
theorem itE_end {p : List Int} {k : Nat} (h : List O) (hk : p.length ≤ k) : itemAt (.en (.fx (dI p))) k h = some none := by
  rw [itemAt, itemAt_dI_end h hk]
def undL (n : Nat) (p : List Int) (k : Nat) : List Int := (rg n).map fun b => if p.idxOf b < k then (1 + (p.idxOf b : Nat) : Int) else (0 : Int)
theorem undL_len (n : Nat) (p : List Int) (k : Nat) : (undL n p k).length = n := by unfold undL; rw [List.length_map, rg_length]
theorem idx_at {n : Nat} {p : List Int} (hp : Pm n p) {k : Nat} (hk : k < n) : p.idxOf (p.getD k 0) = k := by
  have h : k < p.length := by rw [hp.len]; exact hk
  rw [List.getD_eq_getElem?_getD, List.getElem?_eq_getElem h]
  exact List.Nodup.idxOf_getElem hp.nodup k h
theorem at_mem {n : Nat} {p : List Int} (hp : Pm n p) {k : Nat} (hk : k < n) : 1 ≤ p.getD k 0 ∧ p.getD k 0 ≤ n := by
  rw [getD_ap]; exact hp.ap_rg ⟨by omega, by omega⟩
theorem undL_step {n : Nat} {p : List Int} (hp : Pm n p) {k : Nat} (hk : k < n) : (undL n p k).set (p.getD k 0 - 1).toNat (1 + (k : Nat)) = undL n p (k + 1) := by
  have hm := at_mem hp hk
  apply List.ext_getElem
  · rw [List.length_set, undL_len, undL_len]
  · intro i h1 h2
    have hi : i < n := by rw [undL_len] at h2; exact h2
    have hib : (1 + (i : Nat) : Int) ∈ p := hp.mem.mpr ⟨by omega, by omega⟩
    rw [List.getElem_set]
    have e1 : ∀ k h, (undL n p k)[i]'h = if p.idxOf (1 + (i : Nat) : Int) < k then (1 + (p.idxOf (1 + (i : Nat) : Int) : Nat) : Int) else (0 : Int) := fun k h => by
      simp [undL, rg]
    rw [e1, e1]
    by_cases e : (p.getD k 0 - 1).toNat = i
    · have eb : (1 + (i : Nat) : Int) = p.getD k 0 := by omega
      rw [if_pos e, eb, idx_at hp hk, if_pos (by omega)]
    · have ne : p.idxOf (1 + (i : Nat) : Int) ≠ k := fun z => by
        have hb' := List.idxOf_lt_length_of_mem hib
        have := List.getElem_idxOf hb'
        have e2 : p.getD k 0 = 1 + (i : Nat) := by
          rw [List.getD_eq_getElem?_getD, ← z, List.getElem?_eq_getElem hb']; exact this
        omega
      rw [if_neg e]
      by_cases h3 : p.idxOf (1 + (i : Nat) : Int) < k
      · rw [if_pos h3, if_pos (by omega)]
      · rw [if_neg h3, if_neg (by omega)]
theorem undL_end {n : Nat} {p : List Int} (hp : Pm n p) : undL n p n = inv n p := by
  refine List.map_congr_left fun b hb => ?_
  have := List.idxOf_lt_length_of_mem (hp.mem.mpr (rg_mem.mp hb))
  rw [hp.len] at this
  rw [if_pos this]
theorem undL_zero (n : Nat) (p : List Int) : dI (undL n p 0) = (List.replicate n [D.int 0]).flatten := by
  have : undL n p 0 = List.replicate n 0 := by
    unfold undL
    rw [List.eq_replicate_iff]
    refine ⟨by rw [List.length_map, rg_length], fun b hb => ?_⟩
    obtain ⟨c, _, rfl⟩ := List.mem_map.mp hb
    rw [if_neg (by omega)]
  rw [this]
  unfold dI
  rw [List.map_replicate]
  clear this
  induction n with
  | zero => rfl
  | succ n ih => rw [List.replicate_succ, List.replicate_succ, List.flatten_cons, ih]; rfl
theorem ixN_in {n : Nat} {i : Int} (h0 : 0 ≤ i) (h1 : i < n) : ixN n i = some i.toNat := by unfold ixN; rw [if_pos h0, if_pos h1]
theorem dI_set (p : List Int) (i : Nat) (x : Int) : (dI p).set i (.int x) = dI (p.set i x) := by unfold dI; rw [List.map_set]
theorem fuel_dI (h : List O) (p : List Int) : fuelV h (.fx (dI p)) = p.length := by rw [fuelV, dI_length]
theorem fuel_en (h : List O) (p : List Int) : fuelV h (.en (.fx (dI p))) = p.length := by rw [fuelV, fuel_dI]
theorem undone_run {n : Nat} {p : List Int} (hp : Pm n p) : ∃ h', c_undone [rw p] [] = .ok (.v (rw (inv n p))) h' := by
  have hz : g_mul (.tl [.int 0]) (tI (p.length : Nat)) [] = some (.tl (dI (undL n p 0))) := by
    have := sz12 hp.hi
    have hi := hp.hi
    unfold g_mul
    simp only [seqM, undL_zero, hp.len]
    rw [if_pos ⟨by omega, by simpa using this⟩]
    simp
  obtain ⟨r2, h2, e, hr, hh⟩ := forL_run (v := .en (.fx (dI p))) (g := egT 2 (egsCons (egN 2) (egsCons (egN 3) egsNil))) (b := esAsg (ev2 g_add (evVar 2) (evC (.int 1))) (egSub (evVar 1) (ev2 g_sub (evVar 3) (evC (.int 1))))) (n := n)
    (fun k => .tup [.int (k : Nat), .int (p.getD k 0)]) (fun k h hk => itE h (by rw [hp.len]; exact hk)) (fun h => itE_end h (by rw [hp.len]; exact Nat.le_refl _))
    (fun k r h => (∃ x y, r = [some (rw p), some (.ref 0), x, y]) ∧ h = [.lst (dI (undL n p k))])
    (fun k r h hk ⟨⟨x, y, er⟩, eh⟩ => by
      subst er eh
      have hm := at_mem hp hk
      have hx : setT (.v (.ref 0)) (tI (p.getD k 0 - 1)) (.int ((k : Nat) + 1)) [.lst (dI (undL n p k))] = some [.lst (dI (undL n p (k + 1)))] := by
        have e0 : ((k : Nat) + 1 : Int) = 1 + (k : Nat) := by omega
        unfold setT
        simp only [List.getElem?_cons_zero, dI_length, undL_len, ixN_in (show 0 ≤ p.getD k 0 - 1 by omega) (show p.getD k 0 - 1 < n by omega), Option.map_some, List.set_cons_zero, dI_set, e0, undL_step hp hk]
      refine ⟨_, _, _, _, rfl, by simp only [esAsg, egSub, sub_int, add_int, hx, fnC, esSeq, esIf, esAsg, esPar, esE, esRet, esRetN, esNil, esAug, esRaise, ecOr, ecAnd, ecNot, ecB, ecT, ev2, evFn, g1, g2, eaCons, eaNil, evVar, evC, evCall, evTup, evLst, evIf, evNeg, evChn, evMt, egN, egT, egsCons, egsNil, alc, alcs, opt_some, optB_some, optR_some, boT_b, R.bind_ok, R.to_ok, List.getElem?_cons_zero, List.getElem?_cons_succ, List.set_cons_zero, List.set_cons_succ, List.map_cons, List.map_nil, List.length_cons, List.length_nil, List.replicate_succ, List.replicate_zero, List.replicate, Option.map_some, Bool.not_true, Bool.not_false, if_true, if_false, reduceIte, Nat.reduceSub, Nat.reduceAdd, List.cons_append, List.nil_append, Bool.false_eq_true, decide_true, decide_false]; rfl, ⟨_, _, rfl⟩, rfl⟩)
    n 0 [some (rw p), some (.ref 0), none, none] [.lst (dI (undL n p 0))] (by omega) ⟨⟨_, _, rfl⟩, rfl⟩
  obtain ⟨x, y, rfl⟩ := hr
  subst hh
  refine ⟨[.lst (dI (inv n p))], ?_⟩
  have ef : esFor (eiH ivE (eaCons (evVar 0) eaNil)) (egT 2 (egsCons (egN 2) (egsCons (egN 3) egsNil))) (esAsg (ev2 g_add (evVar 2) (evC (.int 1))) (egSub (evVar 1) (ev2 g_sub (evVar 3) (evC (.int 1))))) [some (rw p), some (.ref 0), none, none] [.lst (dI (undL n p 0))] = .nx [some (rw p), some (.ref 0), x, y] [.lst (dI (undL n p n))] := by
    unfold esFor eiH
    simp only [fnC, esSeq, esIf, esAsg, esPar, esE, esRet, esRetN, esNil, esAug, esRaise, ecOr, ecAnd, ecNot, ecB, ecT, ev2, evFn, g1, g2, eaCons, eaNil, evVar, evC, evCall, evTup, evLst, evIf, evNeg, evChn, evMt, egN, egT, egsCons, egsNil, alc, alcs, opt_some, optB_some, optR_some, boT_b, R.bind_ok, R.to_ok, List.getElem?_cons_zero, List.getElem?_cons_succ, List.set_cons_zero, List.set_cons_succ, List.map_cons, List.map_nil, List.length_cons, List.length_nil, List.replicate_succ, List.replicate_zero, List.replicate, Option.map_some, Bool.not_true, Bool.not_false, if_true, if_false, reduceIte, Nat.reduceSub, Nat.reduceAdd, List.cons_append, List.nil_append, Bool.false_eq_true, decide_true, decide_false]
    show forL _ _ _ (fuelV _ (.en (.fx (dI p))) + 1) 0 _ _ = _
    rw [fuel_en, hp.len]; exact e
  have et : g_tuple (.v (.ref 0)) [.lst (dI (undL n p n))] = some (.v (rw (inv n p))) := by rw [undL_end hp]; rfl
  simp only [c_undone, b_undone, call_check hp, len_rw, hz, ef, et, szl1, fnC, esSeq, esIf, esAsg, esPar, esE, esRet, esRetN, esNil, esAug, esRaise, ecOr, ecAnd, ecNot, ecB, ecT, ev2, evFn, g1, g2, eaCons, eaNil, evVar, evC, evCall, evTup, evLst, evIf, evNeg, evChn, evMt, egN, egT, egsCons, egsNil, alc, alcs, opt_some, optB_some, optR_some, boT_b, R.bind_ok, R.to_ok, List.getElem?_cons_zero, List.getElem?_cons_succ, List.set_cons_zero, List.set_cons_succ, List.map_cons, List.map_nil, List.length_cons, List.length_nil, List.replicate_succ, List.replicate_zero, List.replicate, Option.map_some, Bool.not_true, Bool.not_false, if_true, if_false, reduceIte, Nat.reduceSub, Nat.reduceAdd, List.cons_append, List.nil_append, Bool.false_eq_true, decide_true, decide_false]
  rw [undL_end hp]
theorem call_undone {n : Nat} {p : List Int} (hp : Pm n p) (h : List O) : callW c_undone [.v (rw p)] h = .ok (.v (rw (inv n p))) h := by
  obtain ⟨h', e⟩ := undone_run hp
  exact call_v (ds := [rw p]) (by rw [lowL, low_rw]; rfl) e (low_trw _) h
theorem call_between {n : Nat} {p q : List Int} (hp : Pm n p) (hq : Pm n q) (h : List O) : callW c_between [.v (rw p), .v (rw q)] h = .ok (.v (rw (cmp (inv n p) q))) h := by
  refine call_v (ds := [rw p, rw q]) (h' := []) (by rw [lowL, low_rw, lowL, low_rw]; rfl) ?_ (low_trw _) h
  simp only [c_between, b_between, call_undone hp, call_put hp.inv hq, fnC, esSeq, esIf, esAsg, esPar, esE, esRet, esRetN, esNil, esAug, esRaise, ecOr, ecAnd, ecNot, ecB, ecT, ev2, evFn, g1, g2, eaCons, eaNil, evVar, evC, evCall, evTup, evLst, evIf, evNeg, evChn, evMt, egN, egT, egsCons, egsNil, alc, alcs, opt_some, optB_some, optR_some, boT_b, R.bind_ok, R.to_ok, List.getElem?_cons_zero, List.getElem?_cons_succ, List.set_cons_zero, List.set_cons_succ, List.map_cons, List.map_nil, List.length_cons, List.length_nil, List.replicate_succ, List.replicate_zero, List.replicate, Option.map_some, Bool.not_true, Bool.not_false, if_true, if_false, reduceIte, Nat.reduceSub, Nat.reduceAdd, List.cons_append, List.nil_append, Bool.false_eq_true, decide_true, decide_false]
theorem call_backwards {p : List Int} (h : List O) : callW c_backwards [.v (rw p)] h = .ok (.v (rw p.reverse)) h := by
  refine call_v (ds := [rw p]) (h' := []) (by rw [lowL, low_rw]; rfl) ?_ (low_trw _) h
  have : g_trev (.v (rw p)) [] = some (.v (rw p.reverse)) := by
    unfold g_trev rw dI
    simp [seqL, seqT]
  simp only [c_backwards, b_backwards, evTrv, this, fnC, esSeq, esIf, esAsg, esPar, esE, esRet, esRetN, esNil, esAug, esRaise, ecOr, ecAnd, ecNot, ecB, ecT, ev2, evFn, g1, g2, eaCons, eaNil, evVar, evC, evCall, evTup, evLst, evIf, evNeg, evChn, evMt, egN, egT, egsCons, egsNil, alc, alcs, opt_some, optB_some, optR_some, boT_b, R.bind_ok, R.to_ok, List.getElem?_cons_zero, List.getElem?_cons_succ, List.set_cons_zero, List.set_cons_succ, List.map_cons, List.map_nil, List.length_cons, List.length_nil, List.replicate_succ, List.replicate_zero, List.replicate, Option.map_some, Bool.not_true, Bool.not_false, if_true, if_false, reduceIte, Nat.reduceSub, Nat.reduceAdd, List.cons_append, List.nil_append, Bool.false_eq_true, decide_true, decide_false]
end Kx
set_option Elab.async false
set_option linter.all false
set_option maxRecDepth 100000
namespace Kx
open Bz L2 PySem PySem.Spec

theorem whL_run {c : Ec} {b : Es} {Q : Rho → List O → Prop} (I : Nat → Rho → List O → Prop)
    (hs : ∀ m r h, I m r h → (∃ h1, c r h = .ok false h1 ∧ Q r h1) ∨ ∃ h1 r2 h2 m', c r h = .ok true h1 ∧ b r h1 = .nx r2 h2 ∧ m' < m ∧ I m' r2 h2) :
    ∀ (N m : Nat) (r : Rho) (h : List O), m < N → I m r h → ∃ r2 h2, whL c b N r h = .nx r2 h2 ∧ Q r2 h2
  | 0, _, _, _, hm, _ => absurd hm (Nat.not_lt_zero _)
  | N + 1, m, r, h, hm, i => by
    rcases hs m r h i with ⟨h1, e, q⟩ | ⟨h1, r2, h2, m', e1, e2, lt, i2⟩
    · exact ⟨r, h1, by rw [whL, e]; rfl, q⟩
    · obtain ⟨r3, h3, e3, q3⟩ := whL_run I hs N m' r2 h2 (by omega) i2
      exact ⟨r3, h3, by rw [whL, e1]; simp only [R.to_ok, if_true, e2, e3], q3⟩

/-! ### rings -/
structure Ring (p m : List Int) : Prop where
  rot : ∃ a t, m = a :: t ∧ m.map (ap p) = t ++ [a]
structure Rings (n : Nat) (p : List Int) (F : List (List Int)) : Prop where
  ring : ∀ m ∈ F, Ring p m
  all : F.flatten.Perm (rg n)
structure Seen (n : Nat) (p s : List Int) : Prop where
  nd : s.Nodup
  rg : ∀ x ∈ s, 1 ≤ x ∧ x ≤ n
  cl : ∀ x ∈ s, ap p x ∈ s
/-- what is closed holds what leads into it -/
theorem Seen.back {n : Nat} {p s : List Int} (hp : Pm n p) (z : Seen n p s) {x : Int} (hx : 1 ≤ x ∧ x ≤ n) (h : ap p x ∈ s) : x ∈ s := by
  have nd : (s.map (ap p)).Nodup := map_nodup (fun a ha b hb e => hp.ap_inj (z.rg a ha) (z.rg b hb) e) z.nd
  by_cases e : ap p x ∈ s.map (ap p)
  · obtain ⟨y, hy, e⟩ := List.mem_map.mp e
    rw [← hp.ap_inj (z.rg y hy) hx e]; exact hy
  · have := List.Nodup.length_le_of_subset (List.nodup_cons.mpr ⟨e, nd⟩) (l₂ := s) fun y hy => by
      rcases List.mem_cons.mp hy with rfl | hy
      · exact h
      · obtain ⟨w, hw, rfl⟩ := List.mem_map.mp hy
        exact z.cl w hw
    rw [List.length_cons, List.length_map] at this
    omega
/-- the turn of the inner while: m: what was passed, x: where it stands -/
structure Way (n : Nat) (p s m : List Int) (x0 x : Int) : Prop where
  nd : (s ++ m).Nodup
  rg : ∀ y ∈ m, 1 ≤ y ∧ y ≤ n
  at_ : (m = [] ∧ x = x0) ∨ ∃ t, m = x0 :: t ∧ m.map (ap p) = t ++ [x]
  xr : 1 ≤ x ∧ x ≤ n
theorem Way.step {n : Nat} {p s m : List Int} {x0 x : Int} (hp : Pm n p) (w : Way n p s m x0 x) (hx : x ∉ s ++ m) : Way n p s (m ++ [x]) x0 (ap p x) where
  nd := by
    rw [← List.append_assoc]
    refine List.nodup_append.mpr ⟨w.nd, List.nodup_cons.mpr ⟨List.not_mem_nil, List.nodup_nil⟩, fun a ha b hb e => ?_⟩
    rcases List.mem_cons.mp hb with rfl | hb
    · subst e; exact hx ha
    · cases hb
  rg := fun y hy => by
    rcases List.mem_append.mp hy with hy | hy
    · exact w.rg y hy
    · rcases List.mem_cons.mp hy with rfl | hy
      · exact w.xr
      · cases hy
  at_ := by
    right
    rcases w.at_ with ⟨rfl, rfl⟩ | ⟨t, rfl, e⟩
    · exact ⟨[], rfl, rfl⟩
    · exact ⟨t ++ [x], rfl, by rw [List.map_append, e]; rfl⟩
  xr := hp.ap_rg w.xr
theorem Way.stop {n : Nat} {p s m : List Int} {x0 x : Int} (hp : Pm n p) (z : Seen n p s) (w : Way n p s m x0 x) (h0 : x0 ∉ s) (hx : x ∈ s ++ m) : Ring p m ∧ Seen n p (s ++ m) ∧ x0 ∈ m := by
  rcases w.at_ with ⟨rfl, rfl⟩ | ⟨t, rfl, e⟩
  · rw [List.append_nil] at hx; exact absurd hx h0
  · have nda := List.nodup_append.mp w.nd
    have ndm : ((x0 :: t).map (ap p)).Nodup := map_nodup (fun a ha b hb e => hp.ap_inj (w.rg a ha) (w.rg b hb) e) nda.2.1
    have hx1 : x ∈ (x0 :: t).map (ap p) := by rw [e]; exact List.mem_append_right _ (List.mem_cons_self ..)
    have e0 : x = x0 := by
      rcases List.mem_append.mp hx with hs | hm
      · obtain ⟨y, hy, ey⟩ := List.mem_map.mp hx1
        have : y ∈ s := z.back hp (w.rg y hy) (by rw [ey]; exact hs)
        exact absurd rfl (nda.2.2 y this y hy)
      · rcases List.mem_cons.mp hm with h | h
        · exact h
        · rw [e] at ndm
          exact absurd rfl ((List.nodup_append.mp ndm).2.2 x h x (List.mem_cons_self ..))
    subst e0
    refine ⟨⟨x, t, rfl, e⟩, ⟨w.nd, fun y hy => (List.mem_append.mp hy).elim (z.rg y) (w.rg y), fun y hy => ?_⟩, List.mem_cons_self ..⟩
    rcases List.mem_append.mp hy with hy | hy
    · exact List.mem_append_left _ (z.cl y hy)
    · have : ap p y ∈ (x :: t).map (ap p) := List.mem_map.mpr ⟨y, hy, rfl⟩
      rw [e] at this
      refine List.mem_append_right _ ?_
      rcases List.mem_append.mp this with h | h
      · exact List.mem_cons_of_mem _ h
      · rcases List.mem_cons.mp h with h | h
        · rw [h]; exact List.mem_cons_self ..
        · cases h
theorem Way.small {n : Nat} {p s m : List Int} {x0 x : Int} (z : Seen n p s) (w : Way n p s m x0 x) : (s ++ m).length ≤ n := by
  have := List.Nodup.length_le_of_subset w.nd (l₂ := Kx.rg n) fun y hy => rg_mem.mpr ((List.mem_append.mp hy).elim (z.rg y) (w.rg y))
  rwa [rg_length] at this

/-! the dict of what was seen -/
def sk (s : List Int) : List (Key × D) := s.map fun x => (.inl x, .bl true)
theorem lk_sk (x : Int) : ∀ s : List Int, (lkup (sk s) (.inl x)).isSome = decide (x ∈ s)
  | [] => rfl
  | y :: s => by
    show (lkup ((Sum.inl y, D.bl true) :: sk s) (.inl x)).isSome = _
    rw [lkup]
    by_cases e : y = x
    · subst e; simp
    · rw [if_neg (fun z => e (Sum.inl.inj z)), lk_sk x s]
      have : x ≠ y := fun z => e z.symm
      simp [this]
theorem sk_len (s : List Int) : (sk s).length = s.length := by unfold sk; rw [List.length_map]
theorem put_sk {s : List Int} {x : Int} (hx : x ∉ s) : putD (sk s) (.inl x) (.bl true) = sk (s ++ [x]) := by
  unfold putD
  have : ((sk s).any fun p => decide (p.1 = (Sum.inl x : Key))) = false := by
    rw [List.any_eq_false]
    intro q hq
    obtain ⟨y, hy, rfl⟩ := List.mem_map.mp hq
    have : y ≠ x := fun z => hx (z ▸ hy)
    exact fun z => this (by simpa using z)
  rw [this]
  simp [sk]
theorem nin_sk {s : List Int} {x : Int} (h : List O) (J : List O) : g_nin (tI x) (.v (.ref 0)) (.dk (sk s) :: J) = some (tB (!decide (x ∈ s))) := by
  show ((memT (tI x) (.v (.ref 0)) (.dk (sk s) :: J)).map fun k => tB (!k)) = _
  have : memT (tI x) (.v (.ref 0)) (.dk (sk s) :: J) = some (decide (x ∈ s)) := by
    unfold memT
    simp only [seqL, List.getElem?_cons_zero, dicG, dicK, keyT, keyD, Option.map_some, lk_sk]
  rw [this]; rfl
theorem setK_sk {s : List Int} {x : Int} (J : List O) (hx : x ∉ s) (hz : s.length < SZ) : setT (.v (.ref 0)) (tI x) (.bl true) (.dk (sk s) :: J) = some (.dk (sk (s ++ [x])) :: J) := by
  unfold setT
  simp only [List.getElem?_cons_zero, sk_len, if_pos hz, keyT, keyD, Option.map_some, put_sk hx, List.set_cons_zero]
theorem last_get (a b o : O) (J : List O) : (a :: b :: (J ++ [o]))[J.length + 1 + 1]? = some o := by
  rw [List.getElem?_cons_succ, List.getElem?_cons_succ, List.getElem?_append_right (Nat.le_refl _), Nat.sub_self]; rfl
theorem last_set (a b o o' : O) (J : List O) : (a :: b :: (J ++ [o])).set (J.length + 1 + 1) o' = a :: b :: (J ++ [o']) := by
  rw [List.set_cons_succ, List.set_cons_succ, List.set_append_right _ _ (Nat.le_refl _), Nat.sub_self]; rfl
theorem app_last {a b : O} {J : List O} {m : List D} {x : D} (hz : m.length < SZ) : m_append (.v (.ref (J.length + 1 + 1))) [.v x] (a :: b :: (J ++ [.lst m])) = some (.v .non, a :: b :: (J ++ [.lst (m ++ [x])])) := by
  unfold m_append
  simp only [ownL, last_get, alc, if_pos hz, last_set]
theorem app_one {a : O} {J : List O} {m : List D} {x : D} (hz : m.length < SZ) : m_append (.v (.ref 1)) [.v x] (a :: .lst m :: J) = some (.v .non, a :: .lst (m ++ [x]) :: J) := by
  unfold m_append
  simp only [ownL, List.getElem?_cons_zero, List.getElem?_cons_succ, alc, if_pos hz, List.set_cons_succ, List.set_cons_zero]
theorem ty_last {a b : O} {J : List O} {m : List D} : tyOk (a :: b :: (J ++ [.lst m])) .L (.v (.ref (J.length + 1 + 1))) = true := by
  unfold tyOk
  simp only [seqL, last_get]; rfl
theorem ty_one {a : O} {J : List O} {m : List D} : tyOk (a :: .lst m :: J) .L (.v (.ref 1)) = true := by
  unfold tyOk
  simp only [seqL, List.getElem?_cons_succ, List.getElem?_cons_zero]; rfl
theorem optH_some (t : T) (h : List O) : optH (some (t, h)) = .ok t h := rfl
abbrev rin (p : List Int) (st mi he : Option D) : Rho := [some (rw p), some (.ref 0), some (.ref 1), st, mi, he]
theorem ring_while {n : Nat} {p s : List Int} {x0 : Int} {fo : O} {J : List O} {st : Option D} (hp : Pm n p) (z : Seen n p s) (h0 : x0 ∉ s) (hx0 : 1 ≤ x0 ∧ x0 ≤ n) :
    ∃ m x, Ring p m ∧ Seen n p (s ++ m) ∧ x0 ∈ m ∧ esWh FUEL (ecB (ev2 g_nin (evVar 5) (evVar 1))) (esSeq (esAsg (evC (.bl true)) (egSub (evVar 1) (evVar 5)))
      (esSeq (esE (evMt .L m_append (evVar 4) (eaCons (evVar 5) eaNil)))
      (esAsg (ev2 g_ix (evVar 0) (ev2 g_sub (evVar 5) (evC (.int 1)))) (egN 5)))) (rin p st (some (.ref (J.length + 1 + 1))) (some (.int x0))) (.dk (sk s) :: fo :: (J ++ [.lst []])) =
      .nx (rin p st (some (.ref (J.length + 1 + 1))) (some (.int x))) (.dk (sk (s ++ m)) :: fo :: (J ++ [.lst (dI m)])) := by
  obtain ⟨r2, h2, e, m, x, q1, q2, q3, rfl, rfl⟩ := whL_run (c := ecB (ev2 g_nin (evVar 5) (evVar 1))) (b := esSeq (esAsg (evC (.bl true)) (egSub (evVar 1) (evVar 5)))
      (esSeq (esE (evMt .L m_append (evVar 4) (eaCons (evVar 5) eaNil)))
      (esAsg (ev2 g_ix (evVar 0) (ev2 g_sub (evVar 5) (evC (.int 1)))) (egN 5))))
    (Q := fun r h => ∃ m x, Ring p m ∧ Seen n p (s ++ m) ∧ x0 ∈ m ∧ r = rin p st (some (.ref (J.length + 1 + 1))) (some (.int x)) ∧ h = .dk (sk (s ++ m)) :: fo :: (J ++ [.lst (dI m)]))
    (fun k r h => ∃ m x, Way n p s m x0 x ∧ k + (s ++ m).length = n ∧ r = rin p st (some (.ref (J.length + 1 + 1))) (some (.int x)) ∧ h = .dk (sk (s ++ m)) :: fo :: (J ++ [.lst (dI m)]))
    (fun k r h ⟨m, x, w, ek, er, eh⟩ => by
      subst er eh
      by_cases hx : x ∈ s ++ m
      · left
        obtain ⟨q1, q2, q3⟩ := w.stop hp z h0 hx
        refine ⟨_, ?_, m, x, q1, q2, q3, rfl, rfl⟩
        simp only [rin, nin_sk [], decide_eq_true hx, fnC, esSeq, esIf, esAsg, esPar, esE, esRet, esRetN, esNil, esAug, esRaise, ecOr, ecAnd, ecNot, ecB, ecT, ev2, evFn, g1, g2, eaCons, eaNil, evVar, evC, evCall, evTup, evLst, evIf, evNeg, evChn, evMt, egN, egT, egsCons, egsNil, alc, alcs, opt_some, optB_some, optR_some, boT_b, R.bind_ok, R.to_ok, List.getElem?_cons_zero, List.getElem?_cons_succ, List.set_cons_zero, List.set_cons_succ, List.map_cons, List.map_nil, List.length_cons, List.length_nil, List.replicate_succ, List.replicate_zero, List.replicate, Option.map_some, Bool.not_true, Bool.not_false, if_true, if_false, reduceIte, Nat.reduceSub, Nat.reduceAdd, List.cons_append, List.nil_append, Bool.false_eq_true, decide_true, decide_false]
      · right
        have w' := w.step hp hx
        have sm := w'.small z
        have hn := hp.hi
        rw [← List.append_assoc, List.length_append, List.length_cons, List.length_nil] at sm
        have hz : (s ++ m).length < SZ := by have : SZ = 16777216 := rfl; omega
        have hz2 : (dI m).length < SZ := by rw [dI_length]; rw [List.length_append] at hz; omega
        have hix := ix_ap hp w.xr
        refine ⟨.dk (sk (s ++ m)) :: fo :: (J ++ [.lst (dI m)]), _, _, k - 1, by simp only [rin, nin_sk [], decide_eq_false hx, fnC, esSeq, esIf, esAsg, esPar, esE, esRet, esRetN, esNil, esAug, esRaise, ecOr, ecAnd, ecNot, ecB, ecT, ev2, evFn, g1, g2, eaCons, eaNil, evVar, evC, evCall, evTup, evLst, evIf, evNeg, evChn, evMt, egN, egT, egsCons, egsNil, alc, alcs, opt_some, optB_some, optR_some, boT_b, R.bind_ok, R.to_ok, List.getElem?_cons_zero, List.getElem?_cons_succ, List.set_cons_zero, List.set_cons_succ, List.map_cons, List.map_nil, List.length_cons, List.length_nil, List.replicate_succ, List.replicate_zero, List.replicate, Option.map_some, Bool.not_true, Bool.not_false, if_true, if_false, reduceIte, Nat.reduceSub, Nat.reduceAdd, List.cons_append, List.nil_append, Bool.false_eq_true, decide_true, decide_false], ?_, by omega, m ++ [x], ap p x, w', ?_, rfl, rfl⟩
        · simp only [rin, egSub, setK_sk _ hx hz, ty_last, app_last hz2, optH_some, sub_int, hix, fnC, esSeq, esIf, esAsg, esPar, esE, esRet, esRetN, esNil, esAug, esRaise, ecOr, ecAnd, ecNot, ecB, ecT, ev2, evFn, g1, g2, eaCons, eaNil, evVar, evC, evCall, evTup, evLst, evIf, evNeg, evChn, evMt, egN, egT, egsCons, egsNil, alc, alcs, opt_some, optB_some, optR_some, boT_b, R.bind_ok, R.to_ok, List.getElem?_cons_zero, List.getElem?_cons_succ, List.set_cons_zero, List.set_cons_succ, List.map_cons, List.map_nil, List.length_cons, List.length_nil, List.replicate_succ, List.replicate_zero, List.replicate, Option.map_some, Bool.not_true, Bool.not_false, if_true, if_false, reduceIte, Nat.reduceSub, Nat.reduceAdd, List.cons_append, List.nil_append, Bool.false_eq_true, decide_true, decide_false]
          rw [List.append_assoc]; unfold dI; rw [List.map_append]; rfl
        · rw [← List.append_assoc, List.length_append, List.length_cons, List.length_nil]; omega)
    FUEL (n - s.length) (rin p st (some (.ref (J.length + 1 + 1))) (some (.int x0))) (.dk (sk s) :: fo :: (J ++ [.lst []])) (by have := hp.hi; have : FUEL = 100000 := rfl; omega)
    ⟨[], x0, ⟨by rw [List.append_nil]; exact z.nd, fun y hy => (by cases hy), .inl ⟨rfl, rfl⟩, hx0⟩, by
      have := List.Nodup.length_le_of_subset z.nd (l₂ := Kx.rg n) fun y hy => rg_mem.mpr (z.rg y hy)
      rw [rg_length] at this
      rw [List.append_nil]; omega, rfl, by rw [List.append_nil]; rfl⟩
  exact ⟨m, x, q1, q2, q3, e⟩
end Kx
set_option Elab.async false
set_option linter.all false
set_option maxRecDepth 100000
namespace Kx
open Bz L2 PySem PySem.Spec

theorem rings_len {n : Nat} {p : List Int} {F : List (List Int)} (hr : ∀ m ∈ F, Ring p m) (z : Seen n p F.flatten) : F.length ≤ n := by
  have h1 := List.Nodup.length_le_of_subset z.nd (l₂ := rg n) fun y hy => rg_mem.mpr (z.rg y hy)
  rw [rg_length] at h1
  have : ∀ F : List (List Int), (∀ m ∈ F, Ring p m) → F.length ≤ F.flatten.length := fun F => by
    induction F with
    | nil => intro _; exact Nat.le_refl _
    | cons m F ih =>
      intro h
      obtain ⟨a, t, e, _⟩ := (h m (List.mem_cons_self ..)).rot
      have := ih fun m hm => h m (List.mem_cons_of_mem _ hm)
      rw [List.flatten_cons, List.length_append, e, List.length_cons, List.length_cons]
      omega
  exact Nat.le_trans (this F hr) h1
theorem rings_run {n : Nat} {p : List Int} (hp : Pm n p) : ∃ F h', Rings n p F ∧ c_rings [rw p] [] = .ok (.v (.tup (F.map rw))) h' := by
  let body : Es := (esIf (ecB (ev2 g_nin (evVar 3) (evVar 1))) (esSeq (esPar 4 5 (eaCons (evLst eaNil) (eaCons (evVar 3) eaNil)))
  (esSeq (esWh FUEL (ecB (ev2 g_nin (evVar 5) (evVar 1))) (esSeq (esAsg (evC (.bl true)) (egSub (evVar 1) (evVar 5)))
  (esSeq (esE (evMt .L m_append (evVar 4) (eaCons (evVar 5) eaNil)))
  (esAsg (ev2 g_ix (evVar 0) (ev2 g_sub (evVar 5) (evC (.int 1)))) (egN 5)))))
  (esE (evMt .L m_append (evVar 2) (eaCons (evFn (g1 g_tuple) (eaCons (evVar 4) eaNil)) eaNil))))) esNil)
  obtain ⟨r2, h2, e, F, J, st, mi, he, hr, hs, ha, er, eh⟩ := forL_run (v := .fx (dI (rg n))) (g := egN 3) (b := body) (n := n)
    (fun k => .int ((rg n).getD k 0)) (fun k h hk => itemAt_dI h (by rw [rg_length]; exact hk)) (fun h => itemAt_dI_end h (by rw [rg_length]; exact Nat.le_refl _))
    (fun k r h => ∃ F J st mi he, (∀ m ∈ F, Ring p m) ∧ Seen n p F.flatten ∧ (∀ b : Int, 1 ≤ b → b ≤ (k : Nat) → b ∈ F.flatten) ∧ r = rin p st mi he ∧ h = .dk (sk F.flatten) :: .lst (F.map rw) :: J)
    (fun k r h hk ⟨F, J, st, mi, he, hr, hs, ha, er, eh⟩ => by
      subst er eh
      have ek : (rg n).getD k 0 = 1 + (k : Nat) := by rw [getD_ap, ap_rgn ⟨by omega, by omega⟩]
      rw [ek]
      by_cases hx : (1 + (k : Nat) : Int) ∈ F.flatten
      · refine ⟨rin p (some (.int (1 + (k : Nat)))) mi he, .dk (sk F.flatten) :: .lst (F.map rw) :: J, rin p (some (.int (1 + (k : Nat)))) mi he, .dk (sk F.flatten) :: .lst (F.map rw) :: J, rfl, by simp only [body, rin, nin_sk [], decide_eq_true hx, fnC, esSeq, esIf, esAsg, esPar, esE, esRet, esRetN, esNil, esAug, esRaise, ecOr, ecAnd, ecNot, ecB, ecT, ev2, evFn, g1, g2, eaCons, eaNil, evVar, evC, evCall, evTup, evLst, evIf, evNeg, evChn, evMt, egN, egT, egsCons, egsNil, alc, alcs, opt_some, optB_some, optR_some, boT_b, R.bind_ok, R.to_ok, List.getElem?_cons_zero, List.getElem?_cons_succ, List.set_cons_zero, List.set_cons_succ, List.map_cons, List.map_nil, List.length_cons, List.length_nil, List.replicate_succ, List.replicate_zero, List.replicate, Option.map_some, Bool.not_true, Bool.not_false, if_true, if_false, reduceIte, Nat.reduceSub, Nat.reduceAdd, List.cons_append, List.nil_append, Bool.false_eq_true, decide_true, decide_false], F, J, _, mi, he, hr, hs, fun b h1 h2 => ?_, rfl, rfl⟩
        by_cases eb : b = 1 + (k : Nat)
        · rw [eb]; exact hx
        · exact ha b h1 (by omega)
      · obtain ⟨m, x, q1, q2, q3, e⟩ := ring_while (fo := .lst (F.map rw)) (J := J) (st := some (.int (1 + (k : Nat)))) hp hs hx ⟨by omega, by omega⟩
        have fl := rings_len hr hs
        have hn := hp.hi
        have hz : (F.map rw).length < SZ := by rw [List.length_map]; have : SZ = 16777216 := rfl; omega
        have tup : g_tuple (.v (.ref (J.length + 1 + 1))) (.dk (sk (F.flatten ++ m)) :: .lst (F.map rw) :: (J ++ [.lst (dI m)])) = some (.v (rw m)) := by
          unfold g_tuple
          simp only [seqL, last_get]; rfl
        refine ⟨rin p (some (.int (1 + (k : Nat)))) mi he, .dk (sk F.flatten) :: .lst (F.map rw) :: J, rin p (some (.int (1 + (k : Nat)))) (some (.ref (J.length + 1 + 1))) (some (.int x)), .dk (sk (F.flatten ++ m)) :: .lst (F.map rw ++ [rw m]) :: (J ++ [.lst (dI m)]), rfl, ?_, F ++ [m], J ++ [.lst (dI m)], some (.int (1 + (k : Nat))), some (.ref (J.length + 1 + 1)), some (.int x), ?_, ?_, ?_, rfl, ?_⟩
        rotate_left 1
        · intro m' hm'
          rcases List.mem_append.mp hm' with h | h
          · exact hr m' h
          · rcases List.mem_cons.mp h with rfl | h
            · exact q1
            · cases h
        · rw [List.flatten_append]; simpa using q2
        · intro b h1 h2
          rw [List.flatten_append, List.flatten_cons, List.flatten_nil, List.append_nil]
          by_cases eb : b = 1 + (k : Nat)
          · rw [eb]; exact List.mem_append_right _ q3
          · exact List.mem_append_left _ (ha b h1 (by omega))
        · simp [List.flatten_append]
        · simp only [rin] at e
          simp only [body, rin, nin_sk [], decide_eq_false hx, e, tup, app_one hz, ty_one, optH_some, szl0, szl1, szl2, szl3, szl4, szl5, szl6, szl7, fnC, esSeq, esIf, esAsg, esPar, esE, esRet, esRetN, esNil, esAug, esRaise, ecOr, ecAnd, ecNot, ecB, ecT, ev2, evFn, g1, g2, eaCons, eaNil, evVar, evC, evCall, evTup, evLst, evIf, evNeg, evChn, evMt, egN, egT, egsCons, egsNil, alc, alcs, opt_some, optB_some, optR_some, boT_b, R.bind_ok, R.to_ok, List.getElem?_cons_zero, List.getElem?_cons_succ, List.set_cons_zero, List.set_cons_succ, List.map_cons, List.map_nil, List.length_cons, List.length_nil, List.replicate_succ, List.replicate_zero, List.replicate, Option.map_some, Bool.not_true, Bool.not_false, if_true, if_false, reduceIte, Nat.reduceSub, Nat.reduceAdd, List.cons_append, List.nil_append, Bool.false_eq_true, decide_true, decide_false])
    n 0 (rin p none none none) [.dk [], .lst []] (by omega) ⟨[], [], none, none, none, fun m hm => (by cases hm), ⟨List.nodup_nil, fun x hx => (by cases hx), fun x hx => (by cases hx)⟩, fun b h1 h2 => (by omega), rfl, rfl⟩
  subst er eh
  have ef : esFor (eiT (evCall c_rounds (eaCons (evFn (g1 g_len) (eaCons (evVar 0) eaNil)) eaNil))) (egN 3) body (rin p none none none) [.dk [], .lst []] = .nx (rin p st mi he) (.dk (sk F.flatten) :: .lst (F.map rw) :: J) := by
    unfold esFor eiT
    simp only [rin, len_rw, hp.len, call_rounds n hp.lo hp.hi, ivT_rw, fnC, esSeq, esIf, esAsg, esPar, esE, esRet, esRetN, esNil, esAug, esRaise, ecOr, ecAnd, ecNot, ecB, ecT, ev2, evFn, g1, g2, eaCons, eaNil, evVar, evC, evCall, evTup, evLst, evIf, evNeg, evChn, evMt, egN, egT, egsCons, egsNil, alc, alcs, opt_some, optB_some, optR_some, boT_b, R.bind_ok, R.to_ok, List.getElem?_cons_zero, List.getElem?_cons_succ, List.set_cons_zero, List.set_cons_succ, List.map_cons, List.map_nil, List.length_cons, List.length_nil, List.replicate_succ, List.replicate_zero, List.replicate, Option.map_some, Bool.not_true, Bool.not_false, if_true, if_false, reduceIte, Nat.reduceSub, Nat.reduceAdd, List.cons_append, List.nil_append, Bool.false_eq_true, decide_true, decide_false]
    rw [fuel_dI, rg_length]; exact e
  refine ⟨F, .dk (sk F.flatten) :: .lst (F.map rw) :: J, ⟨hr, (List.perm_ext_iff_of_nodup hs.nd (rg_nodup n)).mpr fun x => ⟨fun h => rg_mem.mpr (hs.rg x h), fun h => ha x (rg_mem.mp h).1 (rg_mem.mp h).2⟩⟩, ?_⟩
  have et : g_tuple (.v (.ref 1)) (.dk (sk F.flatten) :: .lst (F.map rw) :: J) = some (.v (.tup (F.map rw))) := rfl
  simp only [body, rin] at ef
  simp only [c_rings, b_rings, call_check hp, evNewK, ef, et, szl0, fnC, esSeq, esIf, esAsg, esPar, esE, esRet, esRetN, esNil, esAug, esRaise, ecOr, ecAnd, ecNot, ecB, ecT, ev2, evFn, g1, g2, eaCons, eaNil, evVar, evC, evCall, evTup, evLst, evIf, evNeg, evChn, evMt, egN, egT, egsCons, egsNil, alc, alcs, opt_some, optB_some, optR_some, boT_b, R.bind_ok, R.to_ok, List.getElem?_cons_zero, List.getElem?_cons_succ, List.set_cons_zero, List.set_cons_succ, List.map_cons, List.map_nil, List.length_cons, List.length_nil, List.replicate_succ, List.replicate_zero, List.replicate, Option.map_some, Bool.not_true, Bool.not_false, if_true, if_false, reduceIte, Nat.reduceSub, Nat.reduceAdd, List.cons_append, List.nil_append, Bool.false_eq_true, decide_true, decide_false]
end Kx
set_option Elab.async false
set_option linter.all false
set_option maxRecDepth 100000
namespace Kx
open Bz L2 PySem PySem.Spec

/-! ### pairs that stand wrong -/
def cn (a : Int) (l : List Int) : Nat := l.countP fun b => decide (b < a)
def ivn : List Int → Nat
  | [] => 0
  | a :: l => cn a l + ivn l
def crs (x y : List Int) : Nat := (x.map fun a => cn a y).sum
theorem cn_perm {a : Int} {l l' : List Int} (h : l.Perm l') : cn a l = cn a l' := h.countP_eq _
theorem crs_perm {x x' y y' : List Int} (hx : x.Perm x') (hy : y.Perm y') : crs x y = crs x' y' := by
  unfold crs
  rw [show (fun a => cn a y) = fun a => cn a y' from funext fun a => cn_perm hy]
  exact (hx.map _).sum_nat
theorem ivn_app : ∀ x y : List Int, ivn (x ++ y) = ivn x + ivn y + crs x y
  | [], y => by simp [ivn, crs]
  | a :: x, y => by
    rw [List.cons_append, ivn, ivn_app x y, ivn]
    unfold crs cn
    rw [List.map_cons, List.sum_cons, List.countP_append]
    omega
theorem one_less {x y : Int} (h : x ≠ y) : cn x [y] + cn y [x] = 1 := by
  unfold cn
  by_cases h1 : x < y
  · have h2 : ¬ y < x := by omega
    simp [h1, h2]
  · have h2 : y < x := by omega
    simp [h1, h2]
theorem cn_cons (a b : Int) (l : List Int) : cn a (b :: l) = cn a [b] + cn a l := by
  unfold cn
  rw [List.countP_cons, List.countP_cons, List.countP_nil]
  omega
theorem ivn_perm (f : Int → Int) {l l' : List Int} (h : l.Perm l') : l.Nodup → (∀ a ∈ l, ∀ b ∈ l, f a = f b → a = b) → (ivn l + ivn l' + ivn (l.map f) + ivn (l'.map f)) % 2 = 0 := by
  induction h with
  | nil => intro _ _; rfl
  | @cons x l l' p ih =>
    intro nd hf
    have := ih (List.nodup_cons.mp nd).2 fun a ha b hb => hf a (List.mem_cons_of_mem _ ha) b (List.mem_cons_of_mem _ hb)
    rw [List.map_cons, List.map_cons, ivn, ivn, ivn, ivn, cn_perm p, cn_perm (p.map f)]
    omega
  | swap x y l =>
    intro nd hf
    have ne : x ≠ y := fun e => by
      subst e
      exact (List.nodup_cons.mp nd).1 (List.mem_cons_self ..)
    have nf : f x ≠ f y := fun e => ne (hf x (List.mem_cons_of_mem _ (List.mem_cons_self ..)) y (List.mem_cons_self ..) e)
    simp only [List.map_cons, ivn]
    rw [cn_cons y x, cn_cons x y, cn_cons (f y) (f x), cn_cons (f x) (f y)]
    have := one_less ne
    have := one_less nf
    omega
  | @trans l1 l2 l3 p1 p2 ih1 ih2 =>
    intro nd hf
    have := ih1 nd hf
    have := ih2 (p1.nodup_iff.mp nd) fun a ha b hb => hf a (p1.mem_iff.mpr ha) b (p1.mem_iff.mpr hb)
    omega
theorem ivn_sorted : ∀ {l : List Int}, l.Pairwise (· ≤ ·) → ivn l = 0
  | [], _ => rfl
  | a :: l, s => by
    have s := List.pairwise_cons.mp s
    rw [ivn, ivn_sorted s.2]
    unfold cn
    rw [List.countP_eq_zero.mpr]
    intro b hb
    have := s.1 b hb
    simpa using this
theorem ivn_cmp {n : Nat} {p q : List Int} (hp : Pm n p) (hq : Pm n q) : (ivn p + ivn q + ivn (cmp p q)) % 2 = 0 := by
  have := ivn_perm (ap p) hq.pm.symm (rg_nodup n) fun a ha b hb e => hp.ap_inj (rg_mem.mp ha) (rg_mem.mp hb) e
  rw [hp.map_ap, ivn_sorted (rg_sorted n)] at this
  unfold cmp
  omega
theorem ivn_rot {a : Int} {t : List Int} (h : a ∉ t) : ivn (a :: t) + ivn (t ++ [a]) = 2 * ivn t + t.length := by
  rw [ivn_app, ivn]
  have e : ivn [a] = 0 := rfl
  rw [e]
  have : cn a t + crs t [a] = t.length := by
    clear e
    induction t with
    | nil => rfl
    | cons b t ih =>
      have h1 := ih fun z => h (List.mem_cons_of_mem _ z)
      have ne : a ≠ b := fun z => h (z ▸ List.mem_cons_self ..)
      have := one_less ne
      rw [cn_cons, List.length_cons]
      unfold crs at h1 ⊢
      rw [List.map_cons, List.sum_cons]
      omega
  omega
theorem ivn_rots {f : Int → Int} : ∀ {F : List (List Int)}, (∀ m ∈ F, ∃ a t, m = a :: t ∧ m.map f = t ++ [a]) → F.flatten.Nodup → (ivn F.flatten + ivn (F.flatten.map f) + F.flatten.length + F.length) % 2 = 0 ∧ (F.flatten.map f).Perm F.flatten
  | [], _, _ => ⟨rfl, .refl _⟩
  | m :: F, hm, nd => by
    obtain ⟨a, t, rfl, e⟩ := hm m (List.mem_cons_self ..)
    rw [List.flatten_cons] at nd
    have nd' := List.nodup_append.mp nd
    obtain ⟨h1, h2⟩ := ivn_rots (fun m h => hm m (List.mem_cons_of_mem _ h)) nd'.2.1
    have pr : (t ++ [a]).Perm (a :: t) := List.perm_append_singleton a t
    have hr := ivn_rot (List.nodup_cons.mp nd'.1).1
    rw [List.flatten_cons, List.map_append, e]
    refine ⟨?_, pr.append h2⟩
    rw [ivn_app, ivn_app, crs_perm pr h2, List.length_append, List.length_cons, List.length_cons]
    omega
theorem ivn_rings {n : Nat} {p : List Int} {F : List (List Int)} (hp : Pm n p) (hF : Rings n p F) : (ivn p + n + F.length) % 2 = 0 ∧ F.length ≤ n := by
  have nd := hF.all.nodup_iff.mpr (rg_nodup n)
  have h1 := ivn_perm (ap p) hF.all.symm (rg_nodup n) fun a ha b hb e => hp.ap_inj (rg_mem.mp ha) (rg_mem.mp hb) e
  have h2 := (ivn_rots (fun m h => (hF.ring m h).rot) nd).1
  have h3 := hF.all.length_eq
  rw [rg_length] at h3
  rw [hp.map_ap, ivn_sorted (rg_sorted n)] at h1
  rw [h3] at h2
  refine ⟨by omega, ?_⟩
  have : ∀ F : List (List Int), (∀ m ∈ F, Ring p m) → F.length ≤ F.flatten.length := fun F => by
    induction F with
    | nil => intro _; exact Nat.le_refl _
    | cons m F ih =>
      intro h
      obtain ⟨a, t, e, _⟩ := (h m (List.mem_cons_self ..)).rot
      have := ih fun m hm => h m (List.mem_cons_of_mem _ hm)
      rw [List.flatten_cons, List.length_append, e, List.length_cons, List.length_cons]
      omega
  have := this F hF.ring
  omega
def sgn (p : List Int) : Int := if ivn p % 2 = 0 then 1 else -1
theorem sgn_cmp {n : Nat} {p q : List Int} (hp : Pm n p) (hq : Pm n q) : sgn (cmp p q) = sgn p * sgn q := by
  have := ivn_cmp hp hq
  unfold sgn
  by_cases h1 : ivn p % 2 = 0 <;> by_cases h2 : ivn q % 2 = 0
  · rw [if_pos h1, if_pos h2, if_pos (by omega)]; rfl
  · rw [if_pos h1, if_neg h2, if_neg (by omega)]; rfl
  · rw [if_neg h1, if_pos h2, if_neg (by omega)]; rfl
  · rw [if_neg h1, if_neg h2, if_pos (by omega)]; rfl
end Kx
set_option Elab.async false
set_option linter.all false
set_option maxRecDepth 100000
namespace Kx
open Bz L2 PySem PySem.Spec

/-! ### powers, orders -/
def pw (n : Nat) (p : List Int) : Nat → List Int
  | 0 => rg n
  | k + 1 => cmp (pw n p k) p
def itr (f : Int → Int) : Nat → Int → Int
  | 0, x => x
  | k + 1, x => itr f k (f x)
theorem itr_succ (f : Int → Int) : ∀ (k : Nat) (x : Int), itr f (k + 1) x = f (itr f k x)
  | 0, x => rfl
  | k + 1, x => by rw [itr, itr_succ f k (f x)]; rfl
theorem Pm.pw {n : Nat} {p : List Int} (hp : Pm n p) : ∀ k, Pm n (pw n p k)
  | 0 => Pm.rg hp.lo hp.hi
  | k + 1 => (hp.pw k).cmp hp
theorem ap_pw {n : Nat} {p : List Int} (hp : Pm n p) : ∀ (k : Nat) {b : Int}, 1 ≤ b ∧ b ≤ n → ap (pw n p k) b = itr (ap p) k b
  | 0, b, hb => ap_rgn hb
  | k + 1, b, hb => by
    rw [pw, hp.ap_cmp hb, ap_pw hp k (hp.ap_rg hb)]; rfl
theorem rot_at {f : Int → Int} {a : Int} {t : List Int} (e : (a :: t).map f = t ++ [a]) {i : Nat} (hi : i < (a :: t).length) : ∃ h : (i + 1) % (a :: t).length < (a :: t).length, f (a :: t)[i] = (a :: t)[(i + 1) % (a :: t).length] := by
  have hpos : 0 < (a :: t).length := by simp
  refine ⟨Nat.mod_lt _ hpos, ?_⟩
  have h1 : ((a :: t).map f)[i]? = (t ++ [a])[i]? := by rw [e]
  rw [List.getElem?_map, List.getElem?_eq_getElem hi] at h1
  rw [List.length_cons] at hi
  by_cases hl : i < t.length
  · rw [List.getElem?_append_left hl, List.getElem?_eq_getElem hl] at h1
    have em : (i + 1) % (a :: t).length = i + 1 := Nat.mod_eq_of_lt (by rw [List.length_cons]; omega)
    simp only [em, List.getElem_cons_succ]
    exact Option.some.inj h1
  · have el : i = t.length := by omega
    subst el
    rw [List.getElem?_append_right (Nat.le_refl _), Nat.sub_self] at h1
    have em : (t.length + 1) % (a :: t).length = 0 := by rw [List.length_cons, Nat.mod_self]
    simp only [em, List.getElem_cons_zero]
    exact Option.some.inj h1
theorem rot_itr {f : Int → Int} {a : Int} {t : List Int} (e : (a :: t).map f = t ++ [a]) : ∀ (k : Nat) {i : Nat} (hi : i < (a :: t).length), ∃ h : (i + k) % (a :: t).length < (a :: t).length, itr f k (a :: t)[i] = (a :: t)[(i + k) % (a :: t).length]
  | 0, i, hi => by
    have em : (i + 0) % (a :: t).length = i := Nat.mod_eq_of_lt hi
    exact ⟨by rw [em]; exact hi, by simp only [em, itr]⟩
  | k + 1, i, hi => by
    obtain ⟨h1, e1⟩ := rot_at e hi
    obtain ⟨h2, e2⟩ := rot_itr e k h1
    have em : ((i + 1) % (a :: t).length + k) % (a :: t).length = (i + (k + 1)) % (a :: t).length := by
      rw [Nat.mod_add_mod]; congr 1; omega
    refine ⟨by rw [← em]; exact h2, ?_⟩
    rw [itr, e1, e2]
    simp only [em]
theorem ring_back {p m : List Int} (hr : Ring p m) (nd : m.Nodup) (k : Nat) : (∀ b ∈ m, itr (ap p) k b = b) ↔ m.length ∣ k := by
  obtain ⟨a, t, rfl, e⟩ := hr.rot
  constructor
  · intro h
    have hpos : 0 < (a :: t).length := by simp
    obtain ⟨h1, e1⟩ := rot_itr e k hpos
    have := h a (List.mem_cons_self ..)
    have e2 : itr (ap p) k a = (a :: t)[(0 + k) % (a :: t).length] := e1
    rw [this] at e2
    have e3 : (a :: t)[0] = (a :: t)[(0 + k) % (a :: t).length] := e2
    have := (List.getElem_inj nd).mp e3
    rw [Nat.zero_add] at this
    exact Nat.dvd_of_mod_eq_zero this.symm
  · rintro ⟨c, rfl⟩ b hb
    obtain ⟨i, hi, rfl⟩ := List.getElem_of_mem hb
    obtain ⟨h1, e1⟩ := rot_itr e ((a :: t).length * c) hi
    rw [e1]
    have em : (i + (a :: t).length * c) % (a :: t).length = i := by rw [Nat.add_mul_mod_self_left]; exact Nat.mod_eq_of_lt hi
    simp only [em]
/-- the least number that all lengths divide -/
def lc (F : List (List Int)) : Nat := F.foldl (fun a m => Nat.lcm a m.length) 1
theorem lc_dvd (F : List (List Int)) : ∀ (a k : Nat), F.foldl (fun a m => Nat.lcm a m.length) a ∣ k ↔ a ∣ k ∧ ∀ m ∈ F, m.length ∣ k := by
  induction F with
  | nil => intro a k; simp
  | cons m F ih =>
    intro a k
    rw [List.foldl_cons, ih, Nat.lcm_dvd_iff]
    constructor
    · rintro ⟨⟨h1, h2⟩, h3⟩
      exact ⟨h1, fun x hx => (List.mem_cons.mp hx).elim (fun z => z ▸ h2) (h3 x)⟩
    · rintro ⟨h1, h2⟩
      exact ⟨⟨h1, h2 m (List.mem_cons_self ..)⟩, fun x hx => h2 x (List.mem_cons_of_mem _ hx)⟩
theorem pw_home {n : Nat} {p : List Int} {F : List (List Int)} (hp : Pm n p) (hF : Rings n p F) (k : Nat) : pw n p k = rg n ↔ lc F ∣ k := by
  have nd := hF.all.nodup_iff.mpr (rg_nodup n)
  have h1 : lc F ∣ k ↔ ∀ m ∈ F, m.length ∣ k := by
    unfold lc; rw [lc_dvd]; simp
  rw [h1]
  have h2 : pw n p k = rg n ↔ ∀ b ∈ rg n, itr (ap p) k b = b := by
    constructor
    · intro e b hb
      rw [← ap_pw hp k (rg_mem.mp hb), e, ap_rgn (rg_mem.mp hb)]
    · intro h
      refine (hp.pw k).ext (Pm.rg hp.lo hp.hi) fun b b1 b2 => ?_
      rw [ap_pw hp k ⟨b1, b2⟩, h b (rg_mem.mpr ⟨b1, b2⟩), ap_rgn ⟨b1, b2⟩]
  rw [h2]
  constructor
  · intro h m hm
    have sub : m.Sublist F.flatten := List.sublist_flatten_of_mem hm
    exact (ring_back (hF.ring m hm) (sub.nodup nd) k).mp fun b hb => h b (hF.all.mem_iff.mp (sub.subset hb))
  · intro h b hb
    obtain ⟨m, hm, hb⟩ := List.mem_flatten.mp (hF.all.mem_iff.mpr hb)
    have sub : m.Sublist F.flatten := List.sublist_flatten_of_mem hm
    exact (ring_back (hF.ring m hm) (sub.nodup nd) k).mpr (h m hm) b hb
theorem ring_pos {p m : List Int} (h : Ring p m) : 0 < m.length := by obtain ⟨a, t, rfl, _⟩ := h.rot; simp
theorem lc_pos : ∀ (F : List (List Int)) (a : Nat), 0 < a → (∀ m ∈ F, 0 < m.length) → 0 < F.foldl (fun a m => Nat.lcm a m.length) a
  | [], a, h, _ => h
  | m :: F, a, h, hm => by
    rw [List.foldl_cons]
    exact lc_pos F _ (Nat.lcm_pos h (hm m (List.mem_cons_self ..))) fun x hx => hm x (List.mem_cons_of_mem _ hx)
theorem lc_le : ∀ (F : List (List Int)) (a s : Nat), a ≤ 2 ^ s → F.foldl (fun a m => Nat.lcm a m.length) a ≤ 2 ^ (s + F.flatten.length)
  | [], a, s, h => by simpa using h
  | m :: F, a, s, h => by
    rw [List.foldl_cons, List.flatten_cons, List.length_append, ← Nat.add_assoc]
    refine lc_le F _ (s + m.length) ?_
    have h1 : Nat.lcm a m.length ≤ a * m.length := Nat.div_le_self _ _
    have h2 : m.length < 2 ^ m.length := Nat.lt_two_pow_self
    rw [Nat.pow_add]
    exact Nat.le_trans h1 (Nat.mul_le_mul h (Nat.le_of_lt h2))
theorem Rings.lc_pos {n : Nat} {p : List Int} {F : List (List Int)} (hF : Rings n p F) : 0 < lc F := Kx.lc_pos F 1 (by decide) fun m hm => ring_pos (hF.ring m hm)
theorem Rings.lc_le {n : Nat} {p : List Int} {F : List (List Int)} (hF : Rings n p F) : lc F ≤ 2 ^ n := by
  have := Kx.lc_le F 1 0 (by decide)
  rw [hF.all.length_eq, rg_length, Nat.zero_add] at this
  exact this
/-- the least power that is rounds -/
structure IsOrd (n : Nat) (p : List Int) (o : Nat) : Prop where
  pos : 0 < o
  le : o ≤ 2 ^ n
  home : ∀ k, pw n p k = rg n ↔ o ∣ k
theorem Rings.ord {n : Nat} {p : List Int} {F : List (List Int)} (hp : Pm n p) (hF : Rings n p F) : IsOrd n p (lc F) := ⟨hF.lc_pos, hF.lc_le, pw_home hp hF⟩
theorem IsOrd.uniq {n : Nat} {p : List Int} {o o' : Nat} (h : IsOrd n p o) (h' : IsOrd n p o') : o = o' :=
  Nat.dvd_antisymm ((h.home o').mp ((h'.home o').mpr (Nat.dvd_refl _))) ((h'.home o).mp ((h.home o).mpr (Nat.dvd_refl _)))
end Kx
set_option Elab.async false
set_option linter.all false
set_option maxRecDepth 100000
namespace Kx
open Bz L2 PySem PySem.Spec

theorem low_rows : ∀ F : List (List Int), lowL 0 (F.map rw) = true
  | [] => rfl
  | m :: F => by rw [List.map_cons, lowL, low_rw, low_rows F]; rfl
theorem call_rings {n : Nat} {p : List Int} (hp : Pm n p) : ∃ F, Rings n p F ∧ ∀ h, callW c_rings [.v (rw p)] h = .ok (.v (.tup (F.map rw))) h := by
  obtain ⟨F, h', hF, e⟩ := rings_run hp
  exact ⟨F, hF, call_v (ds := [rw p]) (by rw [lowL, low_rw]; rfl) e (show lowD 0 (.tup (F.map rw)) = true by rw [lowD]; exact low_rows F)⟩
theorem len_tup (h : List O) (l : List D) : g_len (.v (.tup l)) h = some (tI l.length) := rfl
theorem mod_int {a b : Int} (hb : 0 < b) (h : List O) : g_mod (tI a) (tI b) h = some (tI (a % b)) := by unfold g_mod; simp only [if_pos hb]
theorem fdiv_int {a b : Int} (h1 : 0 < b) (h2 : b < 1073741824) (h : List O) : g_fdiv (tI a) (tI b) h = some (tI (a / b)) := by unfold g_fdiv; simp only [if_pos (And.intro h1 h2)]
theorem mul_int {a b : Int} (hb : b.natAbs < 18446744073709551616) (h : List O) : g_mul (tI a) (tI b) h = some (tI (a * b)) := by unfold g_mul; simp only [if_pos (Or.inr (a := a.natAbs < 18446744073709551616) hb)]
theorem call_sign {n : Nat} {p : List Int} (hp : Pm n p) (h : List O) : callW c_sign [.v (rw p)] h = .ok (tI (sgn p)) h := by
  obtain ⟨F, hF, e⟩ := call_rings hp
  obtain ⟨h1, h2⟩ := ivn_rings hp hF
  refine call_v (ds := [rw p]) (h' := []) (by rw [lowL, low_rw]; rfl) ?_ rfl h
  have hm : ∀ a h, g_mod (tI a) (tI 2) h = some (tI (a % 2)) := fun a h => mod_int (by decide) h
  have hl : (F.map rw).length = F.length := List.length_map ..
  by_cases hv : ivn p % 2 = 0
  · have : decide (((p.length : Int) - ((F.map rw).length : Int)) % 2 = 0) = true := by rw [hl, hp.len]; exact decide_eq_true (by omega)
    have hs : sgn p = 1 := if_pos hv
    simp only [c_sign, b_sign, len_rw, e, len_tup, sub_int, hm, eq_int, this, hs, fnC, esSeq, esIf, esAsg, esPar, esE, esRet, esRetN, esNil, esAug, esRaise, ecOr, ecAnd, ecNot, ecB, ecT, ev2, evFn, g1, g2, eaCons, eaNil, evVar, evC, evCall, evTup, evLst, evIf, evNeg, evChn, evMt, egN, egT, egsCons, egsNil, alc, alcs, opt_some, optB_some, optR_some, boT_b, R.bind_ok, R.to_ok, List.getElem?_cons_zero, List.getElem?_cons_succ, List.set_cons_zero, List.set_cons_succ, List.map_cons, List.map_nil, List.length_cons, List.length_nil, List.replicate_succ, List.replicate_zero, List.replicate, Option.map_some, Bool.not_true, Bool.not_false, if_true, if_false, reduceIte, Nat.reduceSub, Nat.reduceAdd, List.cons_append, List.nil_append, Bool.false_eq_true, decide_true, decide_false]
  · have : decide (((p.length : Int) - ((F.map rw).length : Int)) % 2 = 0) = false := by rw [hl, hp.len]; exact decide_eq_false (by omega)
    have hs : sgn p = -1 := if_neg hv
    simp only [c_sign, b_sign, len_rw, e, len_tup, sub_int, hm, eq_int, this, hs, fnC, esSeq, esIf, esAsg, esPar, esE, esRet, esRetN, esNil, esAug, esRaise, ecOr, ecAnd, ecNot, ecB, ecT, ev2, evFn, g1, g2, eaCons, eaNil, evVar, evC, evCall, evTup, evLst, evIf, evNeg, evChn, evMt, egN, egT, egsCons, egsNil, alc, alcs, opt_some, optB_some, optR_some, boT_b, R.bind_ok, R.to_ok, List.getElem?_cons_zero, List.getElem?_cons_succ, List.set_cons_zero, List.set_cons_succ, List.map_cons, List.map_nil, List.length_cons, List.length_nil, List.replicate_succ, List.replicate_zero, List.replicate, Option.map_some, Bool.not_true, Bool.not_false, if_true, if_false, reduceIte, Nat.reduceSub, Nat.reduceAdd, List.cons_append, List.nil_append, Bool.false_eq_true, decide_true, decide_false]

/-! ### order -/
theorem gcd_while {a0 b0 : Nat} {r0 r1 r2 : Option D} (hb : b0 ≤ 12) (h : List O) : ∃ x, esWh FUEL (ecB (ev2 g_ne (evVar 4) (evC (.int 0)))) (esPar 3 4 (eaCons (evVar 4) (eaCons (ev2 g_mod (evVar 3) (evVar 4)) eaNil))) [r0, r1, r2, some (.int (a0 : Nat)), some (.int (b0 : Nat))] h =
    .nx [r0, r1, r2, some (.int (Nat.gcd a0 b0 : Nat)), x] h := by
  obtain ⟨r2', h2, e, x, rfl, rfl⟩ := whL_run (c := ecB (ev2 g_ne (evVar 4) (evC (.int 0)))) (b := esPar 3 4 (eaCons (evVar 4) (eaCons (ev2 g_mod (evVar 3) (evVar 4)) eaNil)))
    (Q := fun r h' => ∃ x, r = [r0, r1, r2, some (.int (Nat.gcd a0 b0 : Nat)), x] ∧ h' = h)
    (fun m r h' => ∃ a b : Nat, m = b ∧ Nat.gcd a b = Nat.gcd a0 b0 ∧ r = [r0, r1, r2, some (.int (a : Nat)), some (.int (b : Nat))] ∧ h' = h)
    (fun m r h' ⟨a, b, em, eg, er, eh⟩ => by
      subst er eh em
      by_cases hb : m = 0
      · subst hb
        left
        refine ⟨_, by simp only [ne_int, decide_eq_true (show ((0 : Nat) : Int) = 0 from rfl), fnC, esSeq, esIf, esAsg, esPar, esE, esRet, esRetN, esNil, esAug, esRaise, ecOr, ecAnd, ecNot, ecB, ecT, ev2, evFn, g1, g2, eaCons, eaNil, evVar, evC, evCall, evTup, evLst, evIf, evNeg, evChn, evMt, egN, egT, egsCons, egsNil, alc, alcs, opt_some, optB_some, optR_some, boT_b, R.bind_ok, R.to_ok, List.getElem?_cons_zero, List.getElem?_cons_succ, List.set_cons_zero, List.set_cons_succ, List.map_cons, List.map_nil, List.length_cons, List.length_nil, List.replicate_succ, List.replicate_zero, List.replicate, Option.map_some, Bool.not_true, Bool.not_false, if_true, if_false, reduceIte, Nat.reduceSub, Nat.reduceAdd, List.cons_append, List.nil_append, Bool.false_eq_true, decide_true, decide_false], some (.int (0 : Nat)), ?_, rfl⟩
        rw [← eg, Nat.gcd_zero_right]
      · right
        have hne : decide ((m : Int) = 0) = false := decide_eq_false (by omega)
        have hmod := mod_int (a := (a : Int)) (b := (m : Int)) (by omega) h'
        refine ⟨h', [r0, r1, r2, some (.int (m : Nat)), some (.int ((a % m : Nat) : Int))], h', a % m, by simp only [ne_int, hne, fnC, esSeq, esIf, esAsg, esPar, esE, esRet, esRetN, esNil, esAug, esRaise, ecOr, ecAnd, ecNot, ecB, ecT, ev2, evFn, g1, g2, eaCons, eaNil, evVar, evC, evCall, evTup, evLst, evIf, evNeg, evChn, evMt, egN, egT, egsCons, egsNil, alc, alcs, opt_some, optB_some, optR_some, boT_b, R.bind_ok, R.to_ok, List.getElem?_cons_zero, List.getElem?_cons_succ, List.set_cons_zero, List.set_cons_succ, List.map_cons, List.map_nil, List.length_cons, List.length_nil, List.replicate_succ, List.replicate_zero, List.replicate, Option.map_some, Bool.not_true, Bool.not_false, if_true, if_false, reduceIte, Nat.reduceSub, Nat.reduceAdd, List.cons_append, List.nil_append, Bool.false_eq_true, decide_true, decide_false], by simp only [hmod, Int.natCast_emod, fnC, esSeq, esIf, esAsg, esPar, esE, esRet, esRetN, esNil, esAug, esRaise, ecOr, ecAnd, ecNot, ecB, ecT, ev2, evFn, g1, g2, eaCons, eaNil, evVar, evC, evCall, evTup, evLst, evIf, evNeg, evChn, evMt, egN, egT, egsCons, egsNil, alc, alcs, opt_some, optB_some, optR_some, boT_b, R.bind_ok, R.to_ok, List.getElem?_cons_zero, List.getElem?_cons_succ, List.set_cons_zero, List.set_cons_succ, List.map_cons, List.map_nil, List.length_cons, List.length_nil, List.replicate_succ, List.replicate_zero, List.replicate, Option.map_some, Bool.not_true, Bool.not_false, if_true, if_false, reduceIte, Nat.reduceSub, Nat.reduceAdd, List.cons_append, List.nil_append, Bool.false_eq_true, decide_true, decide_false], Nat.mod_lt _ (Nat.pos_of_ne_zero hb), m, a % m, rfl, ?_, rfl, rfl⟩
        rw [← eg, Nat.gcd_comm a m, Nat.gcd_rec m a, Nat.gcd_comm])
    FUEL b0 [r0, r1, r2, some (.int (a0 : Nat)), some (.int (b0 : Nat))] h (by have : FUEL = 100000 := rfl; omega) ⟨a0, b0, rfl, rfl, rfl, rfl⟩
  exact ⟨x, e⟩
theorem order_run {n : Nat} {p : List Int} (hp : Pm n p) : ∃ o h', IsOrd n p o ∧ c_order [rw p] [] = .ok (tI (o : Nat)) h' := by
  obtain ⟨F, hF, e⟩ := call_rings hp
  refine ⟨lc F, [], hF.ord hp, ?_⟩
  have hn := hp.hi
  have small : ∀ (k : Nat) (m : List Int), F[k]? = some m → 0 < m.length ∧ m.length ≤ 12 := fun k m hk => by
    have hm := List.mem_of_getElem? hk
    refine ⟨ring_pos (hF.ring m hm), ?_⟩
    have := (List.sublist_flatten_of_mem hm).length_le
    rw [hF.all.length_eq, rg_length] at this
    omega
  let body : Es := (esSeq (esPar 3 4 (eaCons (evVar 1) (eaCons (evFn (g1 g_len) (eaCons (evVar 2) eaNil)) eaNil)))
  (esSeq (esWh FUEL (ecB (ev2 g_ne (evVar 4) (evC (.int 0)))) (esPar 3 4 (eaCons (evVar 4) (eaCons (ev2 g_mod (evVar 3) (evVar 4)) eaNil))))
  (esAsg (ev2 g_fdiv (ev2 g_mul (evVar 1) (evFn (g1 g_len) (eaCons (evVar 2) eaNil))) (evVar 3)) (egN 1))))
  have hit : ∀ k h, k < F.length → itemAt (.fx (F.map rw)) k h = some (some (rw (F.getD k []))) := fun k h hk => by
    show some ((F.map rw)[k]?) = _
    rw [List.getElem?_map, List.getElem?_eq_getElem hk]
    simp [List.getD_eq_getElem?_getD, List.getElem?_eq_getElem hk]
  obtain ⟨r2, h2, e2, x, y, z, er, eh⟩ := forL_run (v := .fx (F.map rw)) (g := egN 2) (b := body) (n := F.length) (fun k => rw (F.getD k [])) hit (fun h => by show some ((F.map rw)[F.length]?) = _; rw [List.getElem?_eq_none_iff.mpr (by rw [List.length_map]; exact Nat.le_refl _)])
    (fun k r h => ∃ x y z, r = [some (rw p), some (.int (lc (F.take k) : Nat)), x, y, z] ∧ h = [])
    (fun k r h hk ⟨x, y, z, er, eh⟩ => by
      subst er eh
      have hg : F[k]? = some (F.getD k []) := by simp [List.getD_eq_getElem?_getD, List.getElem?_eq_getElem hk]
      obtain ⟨s1, s2⟩ := small k _ hg
      have el : lc (F.take (k + 1)) = Nat.lcm (lc (F.take k)) (F.getD k []).length := by
        rw [List.take_add_one, hg]
        unfold lc
        rw [List.foldl_append]; rfl
      obtain ⟨w, ew⟩ := gcd_while (a0 := lc (F.take k)) (b0 := (F.getD k []).length) (r0 := some (rw p)) (r1 := some (.int (lc (F.take k) : Nat))) (r2 := some (rw (F.getD k []))) s2 []
      have gp : 0 < Nat.gcd (lc (F.take k)) (F.getD k []).length := Nat.gcd_pos_of_pos_right _ s1
      have gl : Nat.gcd (lc (F.take k)) (F.getD k []).length ≤ (F.getD k []).length := Nat.gcd_le_right _ s1
      have hm := mul_int (a := (lc (F.take k) : Nat)) (b := ((F.getD k []).length : Nat)) (by omega) []
      have hd := fdiv_int (a := (lc (F.take k) : Nat) * ((F.getD k []).length : Nat)) (b := (Nat.gcd (lc (F.take k)) (F.getD k []).length : Nat)) (by omega) (by omega) []
      refine ⟨[some (rw p), some (.int (lc (F.take k) : Nat)), some (rw (F.getD k [])), y, z], [], [some (rw p), some (.int (lc (F.take (k + 1)) : Nat)), some (rw (F.getD k [])), some (.int (Nat.gcd (lc (F.take k)) (F.getD k []).length : Nat)), w], [], rfl, ?_, some (rw (F.getD k [])), some (.int (Nat.gcd (lc (F.take k)) (F.getD k []).length : Nat)), w, rfl, rfl⟩
      simp only [body, len_rw, ew, hm, hd, fnC, esSeq, esIf, esAsg, esPar, esE, esRet, esRetN, esNil, esAug, esRaise, ecOr, ecAnd, ecNot, ecB, ecT, ev2, evFn, g1, g2, eaCons, eaNil, evVar, evC, evCall, evTup, evLst, evIf, evNeg, evChn, evMt, egN, egT, egsCons, egsNil, alc, alcs, opt_some, optB_some, optR_some, boT_b, R.bind_ok, R.to_ok, List.getElem?_cons_zero, List.getElem?_cons_succ, List.set_cons_zero, List.set_cons_succ, List.map_cons, List.map_nil, List.length_cons, List.length_nil, List.replicate_succ, List.replicate_zero, List.replicate, Option.map_some, Bool.not_true, Bool.not_false, if_true, if_false, reduceIte, Nat.reduceSub, Nat.reduceAdd, List.cons_append, List.nil_append, Bool.false_eq_true, decide_true, decide_false]
      rw [el]; rfl)
    F.length 0 [some (rw p), some (.int (1 : Nat)), none, none, none] [] (by omega) ⟨none, none, none, rfl, rfl⟩
  subst er eh
  rw [List.take_length] at e2
  have ef : esFor (eiT (evCall c_rings (eaCons (evVar 0) eaNil))) (egN 2) body [some (rw p), some (.int 1), none, none, none] [] = .nx [some (rw p), some (.int (lc F : Nat)), x, y, z] [] := by
    unfold esFor eiT
    simp only [e, ivT, fnC, esSeq, esIf, esAsg, esPar, esE, esRet, esRetN, esNil, esAug, esRaise, ecOr, ecAnd, ecNot, ecB, ecT, ev2, evFn, g1, g2, eaCons, eaNil, evVar, evC, evCall, evTup, evLst, evIf, evNeg, evChn, evMt, egN, egT, egsCons, egsNil, alc, alcs, opt_some, optB_some, optR_some, boT_b, R.bind_ok, R.to_ok, List.getElem?_cons_zero, List.getElem?_cons_succ, List.set_cons_zero, List.set_cons_succ, List.map_cons, List.map_nil, List.length_cons, List.length_nil, List.replicate_succ, List.replicate_zero, List.replicate, Option.map_some, Bool.not_true, Bool.not_false, if_true, if_false, reduceIte, Nat.reduceSub, Nat.reduceAdd, List.cons_append, List.nil_append, Bool.false_eq_true, decide_true, decide_false]
    show forL _ _ _ (fuelV _ (.fx (F.map rw)) + 1) 0 _ _ = _
    rw [fuelV, List.length_map]; exact e2
  simp only [body] at ef
  simp only [c_order, b_order, ef, fnC, esSeq, esIf, esAsg, esPar, esE, esRet, esRetN, esNil, esAug, esRaise, ecOr, ecAnd, ecNot, ecB, ecT, ev2, evFn, g1, g2, eaCons, eaNil, evVar, evC, evCall, evTup, evLst, evIf, evNeg, evChn, evMt, egN, egT, egsCons, egsNil, alc, alcs, opt_some, optB_some, optR_some, boT_b, R.bind_ok, R.to_ok, List.getElem?_cons_zero, List.getElem?_cons_succ, List.set_cons_zero, List.set_cons_succ, List.map_cons, List.map_nil, List.length_cons, List.length_nil, List.replicate_succ, List.replicate_zero, List.replicate, Option.map_some, Bool.not_true, Bool.not_false, if_true, if_false, reduceIte, Nat.reduceSub, Nat.reduceAdd, List.cons_append, List.nil_append, Bool.false_eq_true, decide_true, decide_false]
theorem call_order {n : Nat} {p : List Int} (hp : Pm n p) : ∃ o, IsOrd n p o ∧ ∀ h, callW c_order [.v (rw p)] h = .ok (tI (o : Nat)) h := by
  obtain ⟨o, h', ho, e⟩ := order_run hp
  exact ⟨o, ho, call_v (ds := [rw p]) (by rw [lowL, low_rw]; rfl) e rfl⟩
theorem call_order' {n o : Nat} {p : List Int} (hp : Pm n p) (ho : IsOrd n p o) (h : List O) : callW c_order [.v (rw p)] h = .ok (tI (o : Nat)) h := by
  obtain ⟨o', ho', e⟩ := call_order hp
  rw [ho.uniq ho']; exact e h
end Kx
set_option Elab.async false
set_option linter.all false
set_option maxRecDepth 100000
namespace Kx
open Bz L2 PySem PySem.Spec

theorem p62 : (2 : Int) ^ 62 = 4611686018427387904 := by decide
theorem p63 : (2 : Int) ^ 63 = 9223372036854775808 := by decide
theorem rgB_ok {j : Int} (h0 : 0 ≤ j) (h1 : j < 1073741824) : rgB 0 j = true := by
  unfold rgB
  rw [p62]
  simp only [Bool.and_eq_true, decide_eq_true_eq]
  omega
theorem iv1_ok {j : Nat} (h1 : j < 1073741824) : iv1 [tI (j : Nat)] = some (.fx (rgD 0 j)) := by
  unfold iv1
  simp only [rgB_ok (j := (j : Nat)) (by omega) (by omega), if_true]
theorem rgD_len (j : Nat) : (rgD 0 (j : Nat)).length = j := by unfold rgD; simp
theorem itR {j k : Nat} (h : List O) (hk : k < j) : itemAt (.fx (rgD 0 (j : Nat))) k h = some (some (.int (k : Nat))) := by
  unfold itemAt rgD
  rw [List.getElem?_map, List.getElem?_range (by omega)]
  simp
theorem itR_end {j : Nat} (h : List O) : itemAt (.fx (rgD 0 (j : Nat))) j h = some none := by
  unfold itemAt
  rw [List.getElem?_eq_none_iff.mpr (by rw [rgD_len]; exact Nat.le_refl _)]
theorem fuelR (j : Nat) (h : List O) : fuelV h (.fx (rgD 0 (j : Nat))) = j := by rw [fuelV, rgD_len]
/-- for k in range(j) -/
theorem forR {f : Ei} {g : Eg} {b : Es} {r : Rho} {h h1 : List O} {j : Nat} (hf : f r h = .ok (.fx (rgD 0 (j : Nat))) h1) (I : Nat → Rho → List O → Prop) (h0 : I 0 r h1)
    (hs : ∀ k r h, k < j → I k r h → ∃ r1 h1 r2 h2, g (.int (k : Nat)) r h = .nx r1 h1 ∧ b r1 h1 = .nx r2 h2 ∧ I (k + 1) r2 h2) : ∃ r2 h2, esFor f g b r h = .nx r2 h2 ∧ I j r2 h2 := by
  obtain ⟨r2, h2, e, i⟩ := forL_run (v := .fx (rgD 0 (j : Nat))) (g := g) (b := b) (n := j) (fun k => .int (k : Nat)) (fun k h hk => itR h hk) (fun h => itR_end h) I hs j 0 r h1 (by omega) h0
  refine ⟨r2, h2, ?_, i⟩
  unfold esFor
  rw [hf]
  simp only [R.to_ok]
  rw [fuelR]; exact e
theorem mod_nat {a b : Nat} (hb : 0 < b) (h : List O) : g_mod (tI (a : Nat)) (tI (b : Nat)) h = some (tI ((a % b : Nat) : Int)) := by
  rw [mod_int (by omega), Int.natCast_emod]
theorem small_ord {n o : Nat} {p : List Int} (ho : IsOrd n p o) (hn : n ≤ 12) : o ≤ 4096 := by
  have h1 := ho.le
  have h2 : 2 ^ n ≤ 2 ^ 12 := Nat.pow_le_pow_right (by decide) hn
  have h3 : 2 ^ 12 = 4096 := by decide
  omega
theorem power_run {n o : Nat} {p q : List Int} {m : Int} (hp : Pm n p) (hq : Pm n q) (ho : IsOrd n p o) (hs : q = if 0 ≤ m then p else inv n p) : c_power [rw p, .int m] [] = .ok (.v (rw (pw n q (m.natAbs % o)))) [] := by
  have ol := ho.le
  have op := ho.pos
  have hn := hp.hi
  have o2 : o ≤ 4096 := small_ord ho hn
  have jl : m.natAbs % o < o := Nat.mod_lt _ op
  have hab : g_abs (tI m) [] = some (tI (m.natAbs : Nat)) := by
    unfold g_abs
    simp only []
    by_cases h : m < 0
    · rw [if_pos h, show -m = (m.natAbs : Nat) by omega]
    · rw [if_neg h, show m = (m.natAbs : Nat) by omega]; simp
  have hge : g_ge (tI m) (tI 0) [] = some (tB (decide (0 ≤ m))) := rfl
  have hit : eiA iv1 (eaCons (ev2 g_mod (evFn (g1 g_abs) (eaCons (evVar 1) eaNil)) (evCall c_order (eaCons (evVar 0) eaNil))) eaNil) [some (rw p), some (.int m), some (rw (rg n)), some (rw q), none] [] = .ok (.fx (rgD 0 ((m.natAbs % o : Nat) : Nat))) [] := by
    have hmod := mod_nat (a := m.natAbs) (b := o) op []
    have e := iv1_ok (j := m.natAbs % o) (by omega)
    have h1 : eaCons (ev2 g_mod (evFn (g1 g_abs) (eaCons (evVar 1) eaNil)) (evCall c_order (eaCons (evVar 0) eaNil))) eaNil [some (rw p), some (.int m), some (rw (rg n)), some (rw q), none] [] = .ok [tI ((m.natAbs % o : Nat) : Int)] [] := by
      simp only [hab, call_order' hp ho, hmod, szl0, szl1, szl2, szl3, szl4, szl5, szl6, szl7, fnC, esSeq, esIf, esAsg, esPar, esE, esRet, esRetN, esNil, esAug, esRaise, ecOr, ecAnd, ecNot, ecB, ecT, ev2, evFn, g1, g2, eaCons, eaNil, evVar, evC, evCall, evTup, evLst, evIf, evNeg, evChn, evMt, egN, egT, egsCons, egsNil, alc, alcs, opt_some, optB_some, optR_some, boT_b, R.bind_ok, R.to_ok, List.getElem?_cons_zero, List.getElem?_cons_succ, List.set_cons_zero, List.set_cons_succ, List.map_cons, List.map_nil, List.length_cons, List.length_nil, List.replicate_succ, List.replicate_zero, List.replicate, Option.map_some, Bool.not_true, Bool.not_false, if_true, if_false, reduceIte, Nat.reduceSub, Nat.reduceAdd, List.cons_append, List.nil_append, Bool.false_eq_true, decide_true, decide_false]
    unfold eiA
    rw [h1, R.bind_ok, e, optR_some]
  obtain ⟨r2, h2, ef, x, er, eh⟩ := forR (g := egN 4) (b := esAsg (evCall c_put (eaCons (evVar 2) (eaCons (evVar 3) eaNil))) (egN 2)) hit (fun k r h => ∃ x, r = [some (rw p), some (.int m), some (rw (pw n q k)), some (rw q), x] ∧ h = []) ⟨none, rfl, rfl⟩
    fun k r h hk ⟨x, er, eh⟩ => by
      subst er eh
      exact ⟨[some (rw p), some (.int m), some (rw (pw n q k)), some (rw q), some (.int (k : Nat))], [], [some (rw p), some (.int m), some (rw (pw n q (k + 1))), some (rw q), some (.int (k : Nat))], [], rfl, by simp only [call_put (hq.pw k) hq, szl0, szl1, szl2, szl3, szl4, szl5, szl6, szl7, fnC, esSeq, esIf, esAsg, esPar, esE, esRet, esRetN, esNil, esAug, esRaise, ecOr, ecAnd, ecNot, ecB, ecT, ev2, evFn, g1, g2, eaCons, eaNil, evVar, evC, evCall, evTup, evLst, evIf, evNeg, evChn, evMt, egN, egT, egsCons, egsNil, alc, alcs, opt_some, optB_some, optR_some, boT_b, R.bind_ok, R.to_ok, List.getElem?_cons_zero, List.getElem?_cons_succ, List.set_cons_zero, List.set_cons_succ, List.map_cons, List.map_nil, List.length_cons, List.length_nil, List.replicate_succ, List.replicate_zero, List.replicate, Option.map_some, Bool.not_true, Bool.not_false, if_true, if_false, reduceIte, Nat.reduceSub, Nat.reduceAdd, List.cons_append, List.nil_append, Bool.false_eq_true, decide_true, decide_false]; rfl, some (.int (k : Nat)), rfl, rfl⟩
  subst er eh
  have er : callW c_rounds [tI (p.length : Nat)] [] = .ok (.v (rw (rg n))) [] := by rw [hp.len]; exact call_rounds n hp.lo hp.hi []
  have hpar : esPar 2 3 (eaCons (evCall c_rounds (eaCons (evFn (g1 g_len) (eaCons (evVar 0) eaNil)) eaNil)) (eaCons (evIf (ecB (ev2 g_ge (evVar 1) (evC (.int 0)))) (evVar 0) (evCall c_undone (eaCons (evVar 0) eaNil))) eaNil)) [some (rw p), some (.int m), none, none, none] [] = .nx [some (rw p), some (.int m), some (rw (rg n)), some (rw q), none] [] := by
    subst hs
    by_cases h : 0 ≤ m
    · simp only [hge, decide_eq_true h, if_pos h, len_rw, er, szl0, szl1, szl2, szl3, szl4, szl5, szl6, szl7, fnC, esSeq, esIf, esAsg, esPar, esE, esRet, esRetN, esNil, esAug, esRaise, ecOr, ecAnd, ecNot, ecB, ecT, ev2, evFn, g1, g2, eaCons, eaNil, evVar, evC, evCall, evTup, evLst, evIf, evNeg, evChn, evMt, egN, egT, egsCons, egsNil, alc, alcs, opt_some, optB_some, optR_some, boT_b, R.bind_ok, R.to_ok, List.getElem?_cons_zero, List.getElem?_cons_succ, List.set_cons_zero, List.set_cons_succ, List.map_cons, List.map_nil, List.length_cons, List.length_nil, List.replicate_succ, List.replicate_zero, List.replicate, Option.map_some, Bool.not_true, Bool.not_false, if_true, if_false, reduceIte, Nat.reduceSub, Nat.reduceAdd, List.cons_append, List.nil_append, Bool.false_eq_true, decide_true, decide_false]
    · simp only [hge, decide_eq_false h, if_neg h, call_undone hp, len_rw, er, szl0, szl1, szl2, szl3, szl4, szl5, szl6, szl7, fnC, esSeq, esIf, esAsg, esPar, esE, esRet, esRetN, esNil, esAug, esRaise, ecOr, ecAnd, ecNot, ecB, ecT, ev2, evFn, g1, g2, eaCons, eaNil, evVar, evC, evCall, evTup, evLst, evIf, evNeg, evChn, evMt, egN, egT, egsCons, egsNil, alc, alcs, opt_some, optB_some, optR_some, boT_b, R.bind_ok, R.to_ok, List.getElem?_cons_zero, List.getElem?_cons_succ, List.set_cons_zero, List.set_cons_succ, List.map_cons, List.map_nil, List.length_cons, List.length_nil, List.replicate_succ, List.replicate_zero, List.replicate, Option.map_some, Bool.not_true, Bool.not_false, if_true, if_false, reduceIte, Nat.reduceSub, Nat.reduceAdd, List.cons_append, List.nil_append, Bool.false_eq_true, decide_true, decide_false]
  simp only [c_power, b_power, hpar, ef, szl0, szl1, szl2, szl3, szl4, szl5, szl6, szl7, fnC, esSeq, esIf, esAsg, esE, esRet, esRetN, esNil, esAug, esRaise, ecOr, ecAnd, ecNot, ecB, ecT, ev2, evFn, g1, g2, eaCons, eaNil, evVar, evC, evCall, evTup, evLst, evIf, evNeg, evChn, evMt, egN, egT, egsCons, egsNil, alc, alcs, opt_some, optB_some, optR_some, boT_b, R.bind_ok, R.to_ok, List.getElem?_cons_zero, List.getElem?_cons_succ, List.set_cons_zero, List.set_cons_succ, List.map_cons, List.map_nil, List.length_cons, List.length_nil, List.replicate_succ, List.replicate_zero, List.replicate, Option.map_some, Bool.not_true, Bool.not_false, if_true, if_false, reduceIte, Nat.reduceSub, Nat.reduceAdd, List.cons_append, List.nil_append, Bool.false_eq_true, decide_true, decide_false]
theorem call_power {n o : Nat} {p q : List Int} {m : Int} (hp : Pm n p) (hq : Pm n q) (ho : IsOrd n p o) (hs : q = if 0 ≤ m then p else inv n p) (h : List O) : callW c_power [.v (rw p), tI m] h = .ok (.v (rw (pw n q (m.natAbs % o)))) h :=
  call_v (ds := [rw p, .int m]) (by rw [lowL, low_rw]; rfl) (power_run hp hq ho hs) (low_trw _) h
/-! what the law asks of powers -/
theorem call_power_count {n o : Nat} {p : List Int} (hp : Pm n p) (ho : IsOrd n p o) (h : List O) : callW c_power [.v (rw p), tI (o : Nat)] h = .ok (.v (rw (rg n))) h := by
  have := call_power (m := (o : Nat)) hp hp ho (by rw [if_pos (by omega)]) h
  rw [Int.natAbs_natCast, Nat.mod_self] at this
  exact this
theorem pw_one {n : Nat} {p : List Int} (hp : Pm n p) : pw n p 1 = p := rg_cmp hp
theorem call_power_back {n o : Nat} {p : List Int} (hp : Pm n p) (ho : IsOrd n p o) (h : List O) : callW c_power [.v (rw p), tI (0 - 1)] h = .ok (.v (rw (inv n p))) h := by
  have := call_power (m := 0 - 1) hp hp.inv ho (by rw [if_neg (by decide)]) h
  rw [this]
  have e : ((0 : Int) - 1).natAbs = 1 := rfl
  rw [e]
  by_cases h1 : o = 1
  · subst h1
    have p1 := (ho.home 1).mpr (Nat.dvd_refl _)
    rw [pw_one hp] at p1
    subst p1
    have := cmp_inv hp
    rw [rg_cmp hp.inv] at this
    rw [this]; rfl
  · have op := ho.pos
    rw [Nat.mod_eq_of_lt (by omega), pw_one hp.inv]
theorem call_power_two {n o : Nat} {p : List Int} (hp : Pm n p) (ho : IsOrd n p o) (h : List O) : callW c_power [.v (rw p), tI 2] h = .ok (.v (rw (cmp p p))) h := by
  have := call_power (m := 2) hp hp ho (by rw [if_pos (by decide)]) h
  rw [this]
  have e : (2 : Int).natAbs = 2 := rfl
  rw [e]
  have e2 : pw n p 2 = cmp p p := by rw [pw, pw_one hp]
  have op := ho.pos
  by_cases hd : o ∣ 2
  · have := (ho.home 2).mpr hd
    rw [Nat.mod_eq_zero_of_dvd hd, ← e2, this]; rfl
  · have : 2 < o := by
      by_cases h1 : o = 1
      · exact absurd (h1 ▸ Nat.one_dvd 2) hd
      · by_cases h2 : o = 2
        · exact absurd (h2 ▸ Nat.dvd_refl 2) hd
        · omega
    rw [Nat.mod_eq_of_lt this, e2]
end Kx
set_option Elab.async false
set_option linter.all false
set_option maxRecDepth 100000
namespace Kx
open Bz L2 PySem PySem.Spec

theorem eiA1 {f : Ea} {r : Rho} {h h1 : List O} {j : Nat} (hf : f r h = .ok [tI (j : Nat)] h1) (hj : j < 1073741824) : eiA iv1 f r h = .ok (.fx (rgD 0 (j : Nat))) h1 := by
  unfold eiA
  rw [hf, R.bind_ok, iv1_ok hj, optR_some]
/-! ### extent -/
def fac : Nat → Nat
  | 0 => 1
  | n + 1 => (n + 1) * fac n
theorem fac_pos : ∀ n, 0 < fac n
  | 0 => by decide
  | n + 1 => Nat.mul_pos (Nat.succ_pos n) (fac_pos n)
theorem extent_run (n : Nat) (lo : 0 < n) (hi : n ≤ 8) : c_extent [.int (n : Nat)] [] = .ok (tI (fac n : Nat)) [] := by
  have : n = 1 ∨ n = 2 ∨ n = 3 ∨ n = 4 ∨ n = 5 ∨ n = 6 ∨ n = 7 ∨ n = 8 := by omega
  rcases this with rfl | rfl | rfl | rfl | rfl | rfl | rfl | rfl <;> rfl
theorem call_extent {n : Nat} (lo : 0 < n) (hi : n ≤ 8) (h : List O) : callW c_extent [tI (n : Nat)] h = .ok (tI (fac n : Nat)) h :=
  call_v (ds := [.int (n : Nat)]) rfl (extent_run n lo hi) rfl h
theorem fac_small {n : Nat} (hi : n ≤ 8) : fac n ≤ 40320 := by
  have : n = 0 ∨ n = 1 ∨ n = 2 ∨ n = 3 ∨ n = 4 ∨ n = 5 ∨ n = 6 ∨ n = 7 ∨ n = 8 := by omega
  rcases this with rfl | rfl | rfl | rfl | rfl | rfl | rfl | rfl | rfl <;> decide

/-! ### sums of a generator expression -/
theorem inLong_ok {n : Int} (h0 : 0 ≤ n) (h1 : n < 1073741824) : inLongB n = true := by
  unfold inLongB
  rw [p63]
  simp only [Bool.and_eq_true, decide_eq_true_eq]
  omega
theorem sumS_int (n j : Int) : sumS n (.int j) = if inLongB j && inLongB (n + j) then some (.inl (n + j)) else none := by
  rw [sumS]
theorem sumS_one (c : Nat) (hc : c < 1000000) : sumS (c : Nat) (.int 1) = some (.inl ((c + 1 : Nat) : Int)) := by
  have a1 := inLong_ok (n := 1) (by decide) (by decide)
  have a2 := inLong_ok (n := (c : Nat) + 1) (by omega) (by omega)
  rw [sumS_int, a1, a2, Bool.and_self, if_pos rfl, Int.natCast_succ]
theorem gxL_gen {κ : Type} {stp : κ → D → Option (κ ⊕ D)} {l : List D} {t : Tg} {r0 : Rho} {b : Rho → List O → R (Option D)} {h : List O} (st : Nat → κ)
    (hs : ∀ k (hk : k < l.length), ∃ r1, setTg t l[k] r0 = some r1 ∧ ((b r1 h = .ok none h ∧ st (k + 1) = st k) ∨ ∃ y, b r1 h = .ok (some y) h ∧ stp (st k) y = some (.inl (st (k + 1)))))
    (m : Nat) : ∀ (k N : Nat), k + m = l.length → m < N → gxL stp (.fx l) t r0 b N k (st k) h = .ok (.inl (st l.length)) h := by
  induction m with
  | zero =>
    intro k N e hN
    cases N with
    | zero => exact absurd hN (Nat.not_lt_zero _)
    | succ N =>
      have e0 : k = l.length := by omega
      subst e0
      have e1 : l[l.length]? = none := List.getElem?_eq_none_iff.mpr (Nat.le_refl _)
      rw [gxL, itemAt, e1]
  | succ m ih =>
    intro k N e hN
    cases N with
    | zero => exact absurd hN (Nat.not_lt_zero _)
    | succ N =>
      have hk : k < l.length := by omega
      have e1 : l[k]? = some l[k] := List.getElem?_eq_getElem hk
      obtain ⟨r1, h1, h2⟩ := hs k hk
      have ih := ih (k + 1) N (by omega) (by omega)
      rw [gxL, itemAt, e1]
      rcases h2 with ⟨h2, h3⟩ | ⟨y, h2, h3⟩
      · simp only [h1, h2, R.bind_ok]
        rw [← h3]; exact ih
      · simp only [h1, h2, R.bind_ok, h3]
        exact ih
/-- ones counted over known items -/
theorem gxL_ones {l : List D} {t : Tg} {r0 : Rho} {b : Rho → List O → R (Option D)} {h : List O} (f : D → Bool) (hs : ∀ d ∈ l, ∃ r1, setTg t d r0 = some r1 ∧ b r1 h = .ok (if f d then some (.int 1) else none) h)
    (N c : Nat) (hN : l.length < N) (hz : c + l.length < 1000000) : gxL sumS (.fx l) t r0 b N 0 (c : Nat) h = .ok (.inl ((c + l.countP f : Nat) : Int)) h := by
  have := gxL_gen (stp := sumS) (l := l) (t := t) (r0 := r0) (b := b) (h := h) (fun k => ((c + (l.take k).countP f : Nat) : Int)) (fun k hk => by
    obtain ⟨r1, h1, h2⟩ := hs l[k] (List.getElem_mem hk)
    have ht : l.take (k + 1) = l.take k ++ [l[k]] := by rw [List.take_add_one, List.getElem?_eq_getElem hk]; rfl
    have hl := List.countP_le_length (p := f) (l := l.take k)
    rw [List.length_take] at hl
    refine ⟨r1, h1, ?_⟩
    cases hf : f l[k] with
    | false =>
      left
      rw [hf] at h2
      exact ⟨h2, by rw [ht, List.countP_append, List.countP_cons_of_neg (by rw [hf]; decide), List.countP_nil, Nat.add_zero]⟩
    | true =>
      right
      rw [hf] at h2
      refine ⟨.int 1, h2, ?_⟩
      rw [ht, List.countP_append, List.countP_cons_of_pos hf, List.countP_nil, Nat.zero_add, ← Nat.add_assoc]
      exact sumS_one _ (by omega)) l.length 0 N (by omega) hN
  rw [List.take_length, List.take_zero, List.countP_nil, Nat.add_zero] at this
  exact this
theorem rgD_mem {j : Nat} {d : D} (h : d ∈ rgD 0 (j : Nat)) : ∃ k : Nat, k < j ∧ d = .int (k : Nat) := by
  unfold rgD at h
  obtain ⟨k, hk, rfl⟩ := List.mem_map.mp h
  have := List.mem_range.mp hk
  exact ⟨k, by omega, by simp⟩
theorem rgD_map (j : Nat) : rgD 0 (j : Nat) = (List.range j).map fun (k : Nat) => D.int (k : Nat) := by
  unfold rgD
  simp
/-- pairs that stand wrong, by the later -/
def wr (p : List Int) (k : Nat) : Nat := (List.range k).countP fun j => decide (p.getD k 0 < p.getD j 0)
def wrs (p : List Int) (n : Nat) : Nat := ((List.range n).map (wr p)).sum
theorem wr_app (l : List Int) (a : Int) {k : Nat} (hk : k < l.length) : wr (l ++ [a]) k = wr l k := by
  have hg : ∀ j, j < l.length → (l ++ [a]).getD j 0 = l.getD j 0 := fun j hj => by
    rw [List.getD_eq_getElem?_getD, List.getD_eq_getElem?_getD, List.getElem?_append_left hj]
  unfold wr
  refine List.countP_congr fun j hj => ?_
  have := List.mem_range.mp hj
  rw [hg k hk, hg j (by omega)]
theorem getD_app (l : List Int) (a : Int) : (l ++ [a]).getD l.length 0 = a := by
  rw [List.getD_eq_getElem?_getD, List.getElem?_append_right (Nat.le_refl _), Nat.sub_self]; rfl
theorem wr_last (l : List Int) (a : Int) : wr (l ++ [a]) l.length = crs l [a] := by
  have : ∀ j, j < l.length → (l ++ [a]).getD j 0 = l.getD j 0 := fun j hj => by
    rw [List.getD_eq_getElem?_getD, List.getD_eq_getElem?_getD, List.getElem?_append_left hj]
  unfold wr
  rw [getD_app]
  have e1 : ((List.range l.length).countP fun j => decide (a < (l ++ [a]).getD j 0)) = (List.range l.length).countP fun j => decide (a < l.getD j 0) :=
    List.countP_congr fun j hj => by rw [this j (List.mem_range.mp hj)]
  rw [e1]
  have e2 : (List.range l.length).map (fun j => l.getD j 0) = l := by
    apply List.ext_getElem
    · simp
    · intro i h1 h2
      simp [List.getD_eq_getElem?_getD, List.getElem?_eq_getElem h2]
  have e3 : ((List.range l.length).countP fun j => decide (a < l.getD j 0)) = l.countP fun b => decide (a < b) := by
    have := List.countP_map (p := fun b : Int => decide (a < b)) (f := fun j => l.getD j 0) (l := List.range l.length)
    rw [e2] at this
    rw [this]; rfl
  rw [e3]
  clear e1 e2 e3 this
  induction l with
  | nil => rfl
  | cons b l ih =>
    unfold crs at ih ⊢
    rw [List.map_cons, List.sum_cons, List.countP_cons, ih]
    unfold cn
    simp only [List.countP_cons, List.countP_nil]
    omega
theorem wrs_rev : ∀ l : List Int, wrs l.reverse l.length = ivn l.reverse
  | [] => rfl
  | a :: l => by
    have ih := wrs_rev l
    have hl : l.reverse.length = l.length := List.length_reverse
    rw [List.reverse_cons, List.length_cons, ivn_app, ← ih]
    unfold wrs
    rw [List.range_succ, List.map_append, List.sum_append, List.map_cons, List.map_nil, List.sum_cons, List.sum_nil]
    have e1 : (List.range l.length).map (wr (l.reverse ++ [a])) = (List.range l.length).map (wr l.reverse) := List.map_congr_left fun k hk => wr_app _ _ (by rw [hl]; exact List.mem_range.mp hk)
    have e2 := wr_last l.reverse a
    rw [hl] at e2
    rw [e1, e2]
    have : ivn [a] = 0 := rfl
    omega
theorem wrs_eq (p : List Int) : wrs p p.length = ivn p := by
  have := wrs_rev p.reverse
  rw [List.reverse_reverse, List.length_reverse] at this
  exact this
theorem ix_nat {n : Nat} {p : List Int} (hp : Pm n p) {k : Nat} (hk : k < n) (h : List O) : g_ix (.v (rw p)) (tI (k : Nat)) h = some (tI (p.getD k 0)) := by
  have := ix_rw (p := p) (i := (k : Nat)) (by omega) (by rw [hp.len]; omega) h
  rw [Int.toNat_natCast] at this
  exact this
theorem gt_int (a b : Int) (h : List O) : g_gt (tI a) (tI b) h = some (tB (decide (b < a))) := rfl
theorem lt_int (a b : Int) (h : List O) : g_lt (tI a) (tI b) h = some (tB (decide (a < b))) := rfl
theorem wr_le (p : List Int) (k : Nat) : wr p k ≤ k := by
  unfold wr
  have := List.countP_le_length (p := fun j => decide (p.getD k 0 < p.getD j 0)) (l := List.range k)
  rwa [List.length_range] at this
theorem wrs_le (p : List Int) (n : Nat) (hn : n ≤ 12) : ∀ k, k ≤ n → wrs p k ≤ 12 * k
  | 0, _ => Nat.le_refl _
  | k + 1, hk => by
    have := wrs_le p n hn k (by omega)
    have h2 := wr_le p k
    unfold wrs at this ⊢
    rw [List.range_succ, List.map_append, List.sum_append, List.map_cons, List.map_nil, List.sum_cons, List.sum_nil]
    omega
theorem gxB_of {κ : Type} {stp : κ → D → Option (κ ⊕ D)} {B : Nat} {c : Ec} {f1 : Ei} {t1 : Tg} {vs1 : List Nat} {c1 : Ec} {g : Ev} {k : κ} {r : Rho} {h : List O} {v1 : IV} {o : κ ⊕ D} (hc : c r h = .ok true h) (hf : f1 r h = .ok v1 h) (hl : gxL stp v1 t1 (wipeR r vs1) (gxT c1 g) B 0 k h = .ok o h) : gxB stp B c f1 t1 vs1 c1 g k r h = .ok o h := by
  unfold gxB
  rw [hc]
  show (R.no (f1 r h)).bind _ = _
  rw [hf]
  exact hl
theorem wrong_inner {n : Nat} {p : List Int} (hp : Pm n p) {k : Nat} (hk : k < n) (c : Nat) (hc : c < 10000) (x1 x2 : Option D) (h : List O) :
    gxB sumS 200 eYes (eiA iv1 (eaCons (evVar 1) eaNil)) (.n 2) [2] (ecB (ev2 g_gt (ev2 g_ix (evVar 0) (evVar 2)) (ev2 g_ix (evVar 0) (evVar 1)))) (evC (.int 1)) (c : Nat) [some (rw p), some (.int (k : Nat)), x2] h = .ok (.inl ((c + wr p k : Nat) : Int)) h := by
  have hn := hp.hi
  have e0 : eiA iv1 (eaCons (evVar 1) eaNil) [some (rw p), some (.int (k : Nat)), x2] h = .ok (.fx (rgD 0 (k : Nat))) h := eiA1 (by simp only [szl0, szl1, szl2, szl3, szl4, szl5, szl6, szl7, fnC, esSeq, esIf, esAsg, esPar, esE, esRet, esRetN, esNil, esAug, esRaise, ecOr, ecAnd, ecNot, ecB, ecT, ev2, evFn, g1, g2, eaCons, eaNil, evVar, evC, evCall, evTup, evLst, evIf, evNeg, evChn, evMt, egN, egT, egsCons, egsNil, alc, alcs, opt_some, optB_some, optR_some, boT_b, R.bind_ok, R.to_ok, List.getElem?_cons_zero, List.getElem?_cons_succ, List.set_cons_zero, List.set_cons_succ, List.map_cons, List.map_nil, List.length_cons, List.length_nil, List.replicate_succ, List.replicate_zero, List.replicate, Option.map_some, Bool.not_true, Bool.not_false, if_true, if_false, reduceIte, Nat.reduceSub, Nat.reduceAdd, List.cons_append, List.nil_append, Bool.false_eq_true, decide_true, decide_false]) (by omega)
  have e1 := gxL_ones (l := rgD 0 (k : Nat)) (t := .n 2) (r0 := [some (rw p), some (.int (k : Nat)), none]) (b := gxT (ecB (ev2 g_gt (ev2 g_ix (evVar 0) (evVar 2)) (ev2 g_ix (evVar 0) (evVar 1)))) (evC (.int 1))) (h := h)
    (fun d => match d with
      | .int i => decide (p.getD k 0 < p.getD i.toNat 0)
      | _ => false) (fun d hd => by
        obtain ⟨j, hj, rfl⟩ := rgD_mem hd
        refine ⟨_, rfl, ?_⟩
        have i1 := ix_nat hp (k := j) (by omega) h
        have i2 := ix_nat hp hk h
        simp only [Int.toNat_natCast]
        by_cases hd : p.getD k 0 < p.getD j 0
        · simp only [gxT, R.no, i1, i2, gt_int, decide_eq_true hd, szl0, szl1, szl2, szl3, szl4, szl5, szl6, szl7, fnC, esSeq, esIf, esAsg, esPar, esE, esRet, esRetN, esNil, esAug, esRaise, ecOr, ecAnd, ecNot, ecB, ecT, ev2, evFn, g1, g2, eaCons, eaNil, evVar, evC, evCall, evTup, evLst, evIf, evNeg, evChn, evMt, egN, egT, egsCons, egsNil, alc, alcs, opt_some, optB_some, optR_some, boT_b, R.bind_ok, R.to_ok, List.getElem?_cons_zero, List.getElem?_cons_succ, List.set_cons_zero, List.set_cons_succ, List.map_cons, List.map_nil, List.length_cons, List.length_nil, List.replicate_succ, List.replicate_zero, List.replicate, Option.map_some, Bool.not_true, Bool.not_false, if_true, if_false, reduceIte, Nat.reduceSub, Nat.reduceAdd, List.cons_append, List.nil_append, Bool.false_eq_true, decide_true, decide_false]
        · simp only [gxT, R.no, i1, i2, gt_int, decide_eq_false hd, szl0, szl1, szl2, szl3, szl4, szl5, szl6, szl7, fnC, esSeq, esIf, esAsg, esPar, esE, esRet, esRetN, esNil, esAug, esRaise, ecOr, ecAnd, ecNot, ecB, ecT, ev2, evFn, g1, g2, eaCons, eaNil, evVar, evC, evCall, evTup, evLst, evIf, evNeg, evChn, evMt, egN, egT, egsCons, egsNil, alc, alcs, opt_some, optB_some, optR_some, boT_b, R.bind_ok, R.to_ok, List.getElem?_cons_zero, List.getElem?_cons_succ, List.set_cons_zero, List.set_cons_succ, List.map_cons, List.map_nil, List.length_cons, List.length_nil, List.replicate_succ, List.replicate_zero, List.replicate, Option.map_some, Bool.not_true, Bool.not_false, if_true, if_false, reduceIte, Nat.reduceSub, Nat.reduceAdd, List.cons_append, List.nil_append, Bool.false_eq_true, decide_true, decide_false]) 200 c (by rw [rgD_len]; omega) (by rw [rgD_len]; omega)
  have ec : (rgD 0 (k : Nat)).countP (fun d => match d with
      | .int i => decide (p.getD k 0 < p.getD i.toNat 0)
      | _ => false) = wr p k := by
    rw [rgD_map, List.countP_map]; rfl
  rw [ec] at e1
  exact gxB_of rfl e0 e1
end Kx
set_option Elab.async false
set_option linter.all false
set_option maxRecDepth 100000
namespace Kx
open Bz L2 PySem PySem.Spec

theorem gxA_gen {κ : Type} {l : List D} {t : Tg} {r0 : Rho} {b : κ → Rho → List O → R (κ ⊕ D)} {h : List O} (st : Nat → κ)
    (hs : ∀ k (hk : k < l.length), ∃ r1, setTg t l[k] r0 = some r1 ∧ b (st k) r1 h = .ok (.inl (st (k + 1))) h)
    (m : Nat) : ∀ (k N : Nat), k + m = l.length → m < N → gxA (.fx l) t r0 b N k (st k) h = .ok (.inl (st l.length)) h := by
  induction m with
  | zero =>
    intro k N e hN
    cases N with
    | zero => exact absurd hN (Nat.not_lt_zero _)
    | succ N =>
      have e0 : k = l.length := by omega
      subst e0
      have e1 : l[l.length]? = none := List.getElem?_eq_none_iff.mpr (Nat.le_refl _)
      rw [gxA, itemAt, e1]
  | succ m ih =>
    intro k N e hN
    cases N with
    | zero => exact absurd hN (Nat.not_lt_zero _)
    | succ N =>
      have hk : k < l.length := by omega
      have e1 : l[k]? = some l[k] := List.getElem?_eq_getElem hk
      obtain ⟨r1, h1, h2⟩ := hs k hk
      have ih := ih (k + 1) N (by omega) (by omega)
      rw [gxA, itemAt, e1]
      simp only [h1, h2, R.bind_ok]
      exact ih
theorem evGx2_of {κ : Type} {stp : κ → D → Option (κ ⊕ D)} {fin : κ → D} {c0 : κ} {B : Nat} {f : Ei} {t : Tg} {vs : List Nat} {c : Ec} {f1 : Ei} {t1 : Tg} {vs1 : List Nat} {c1 : Ec} {g : Ev} {r : Rho} {h h1 : List O} {l : List D} {o : κ ⊕ D} (hf : f r h = .ok (.fx l) h1)
    (hl : gxA (.fx l) t (wipeR r vs) (gxB stp B c f1 t1 vs1 c1 g) (l.length + 1) 0 c0 h1 = .ok o h1) : evGx2 stp fin c0 B f t vs c f1 t1 vs1 c1 g r h = .ok (gxE fin o) h1 := by
  unfold evGx2
  rw [hf]
  show (gxA (.fx l) t (wipeR r vs) (gxB stp B c f1 t1 vs1 c1 g) (l.length + 1) 0 c0 h1).bind _ = _
  rw [hl]; rfl
theorem esRet_of {F : Ev} {r : Rho} {h h1 : List O} {t : T} (e : F r h = .ok t h1) : esRet F r h = .rt t h1 := by
  unfold esRet; rw [e]; rfl
theorem fnC_rt {n : Nat} {f : Es} {ds : List D} {h h1 : List O} {t : T} (e : f (ds.map some ++ List.replicate (n - ds.length) none) h = .rt t h1) : fnC n f ds h = .ok t h1 := by
  unfold fnC; rw [e]
theorem lcT_tl {g : Ev} {r : Rho} {h : List O} {l : List D} (e : g r h = .ok (.tl l) h) : lcT eYes g r h = .ok (some (.ref h.length)) (h ++ [.lst l]) := by
  unfold lcT
  show (R.no (R.ok true h)).bind _ = _
  simp only [R.no, R.bind_ok, if_true, e, alc]
theorem call_wrong {n : Nat} {p : List Int} (hp : Pm n p) (h : List O) : callW c_wrong_pairs [.v (rw p)] h = .ok (tI (ivn p : Nat)) h := by
  have hn := hp.hi
  have hl : (rgD 0 (n : Nat)).length = n := rgD_len n
  have e0 : eiA iv1 (eaCons (evFn (g1 g_len) (eaCons (evVar 0) eaNil)) eaNil) [some (rw p), none, none] [] = .ok (.fx (rgD 0 (n : Nat))) [] := eiA1 (by simp only [len_rw, hp.len, szl0, szl1, szl2, szl3, szl4, szl5, szl6, szl7, fnC, esSeq, esIf, esAsg, esPar, esE, esRet, esRetN, esNil, esAug, esRaise, ecOr, ecAnd, ecNot, ecB, ecT, ev2, evFn, g1, g2, eaCons, eaNil, evVar, evC, evCall, evTup, evLst, evIf, evNeg, evChn, evMt, egN, egT, egsCons, egsNil, alc, alcs, opt_some, optB_some, optR_some, boT_b, R.bind_ok, R.to_ok, List.getElem?_cons_zero, List.getElem?_cons_succ, List.set_cons_zero, List.set_cons_succ, List.map_cons, List.map_nil, List.length_cons, List.length_nil, List.replicate_succ, List.replicate_zero, List.replicate, Option.map_some, Bool.not_true, Bool.not_false, if_true, if_false, reduceIte, Nat.reduceSub, Nat.reduceAdd, List.cons_append, List.nil_append, Bool.false_eq_true, decide_true, decide_false]) (by omega)
  have e1 := gxA_gen (l := rgD 0 (n : Nat)) (t := .n 1) (r0 := [some (rw p), none, none]) (b := gxB sumS 200 eYes (eiA iv1 (eaCons (evVar 1) eaNil)) (.n 2) [2] (ecB (ev2 g_gt (ev2 g_ix (evVar 0) (evVar 2)) (ev2 g_ix (evVar 0) (evVar 1)))) (evC (.int 1))) (h := [])
    (fun k => ((wrs p k : Nat) : Int)) (fun k hk => by
      rw [hl] at hk
      have ek : (rgD 0 (n : Nat))[k]'(by rw [hl]; exact hk) = .int (k : Nat) := by simp only [rgD_map, List.getElem_map, List.getElem_range]
      rw [ek]
      refine ⟨_, rfl, ?_⟩
      have hw := wrs_le p n hn k (by omega)
      have := wrong_inner hp hk (wrs p k) (by omega) none none []
      have es : wrs p (k + 1) = wrs p k + wr p k := by
        unfold wrs
        rw [List.range_succ, List.map_append, List.sum_append, List.map_cons, List.map_nil, List.sum_cons, List.sum_nil, Nat.add_zero]
      rw [es]
      exact this) n 0 (n + 1) (by omega) (by omega)
  rw [hl] at e1
  have ew : wrs p n = ivn p := by have := wrs_eq p; rw [hp.len] at this; exact this
  rw [ew] at e1
  have e2 := evGx2_of (stp := sumS) (fin := fun n => .int n) (t := .n 1) (vs := [1, 2]) (c := eYes) e0 (by rw [hl]; exact e1)
  refine call_v (ds := [rw p]) (h' := []) (by rw [lowL, low_rw]; rfl) ?_ rfl h
  exact fnC_rt (esRet_of e2)

/-! ### lists of lists, joined -/
theorem lcL_lists {l : List D} {t : Tg} {r0 : Rho} {b : Eb} {h : List O} (e : Nat → List D) (hs : ∀ k (hk : k < l.length) (J : List O), ∃ r1, setTg t l[k] r0 = some r1 ∧ b r1 (h ++ J) = .ok (some (.ref (h ++ J).length)) ((h ++ J) ++ [.lst (e k)])) (hz : l.length ≤ SZ)
    (m : Nat) : ∀ (k N : Nat), k + m = l.length → m < N →
      lcL (.fx l) t r0 b N k ((List.range k).map fun j => D.ref (h.length + j)).reverse (h ++ (List.range k).map fun j => O.lst (e j)) = .ok ((List.range l.length).map fun j => D.ref (h.length + j)).reverse (h ++ (List.range l.length).map fun j => O.lst (e j)) := by
  induction m with
  | zero =>
    intro k N ek hN
    cases N with
    | zero => exact absurd hN (Nat.not_lt_zero _)
    | succ N =>
      have e0 : k = l.length := by omega
      subst e0
      have e1 : l[l.length]? = none := List.getElem?_eq_none_iff.mpr (Nat.le_refl _)
      rw [lcL, itemAt, e1]
  | succ m ih =>
    intro k N ek hN
    cases N with
    | zero => exact absurd hN (Nat.not_lt_zero _)
    | succ N =>
      have hk : k < l.length := by omega
      have e1 : l[k]? = some l[k] := List.getElem?_eq_getElem hk
      obtain ⟨r1, h1, h2⟩ := hs k hk ((List.range k).map fun j => O.lst (e j))
      have ih := ih (k + 1) N (by omega) (by omega)
      rw [lcL, itemAt, e1]
      simp only [h1, h2, R.bind_ok]
      rw [if_pos (by rw [List.length_reverse, List.length_map, List.length_range]; omega)]
      have a1 : ((List.range (k + 1)).map fun j => D.ref (h.length + j)).reverse = .ref (h ++ (List.range k).map fun j => O.lst (e j)).length :: ((List.range k).map fun j => D.ref (h.length + j)).reverse := by
        rw [List.range_succ, List.map_append, List.reverse_append, List.length_append, List.length_map, List.length_range]; rfl
      have a2 : (h ++ (List.range (k + 1)).map fun j => O.lst (e j)) = (h ++ (List.range k).map fun j => O.lst (e j)) ++ [.lst (e k)] := by
        rw [List.range_succ, List.map_append, List.append_assoc]; rfl
      rw [a1, a2] at ih
      exact ih
/-- [[..] for x in ..] -/
theorem evLc_lists {f : Ei} {t : Tg} {vs : List Nat} {g : Ev} {r : Rho} {h : List O} {l : List D} (e : Nat → List D) (hf : f r h = .ok (.fx l) h) (hz : l.length ≤ SZ)
    (hs : ∀ k (hk : k < l.length) (J : List O), ∃ r1, setTg t l[k] (wipeR r vs) = some r1 ∧ g r1 (h ++ J) = .ok (.tl (e k)) (h ++ J)) :
    evLc f t vs eYes g r h = .ok (.tl ((List.range l.length).map fun j => D.ref (h.length + j))) (h ++ (List.range l.length).map fun j => O.lst (e j)) := by
  have := lcL_lists (h := h) (t := t) (r0 := wipeR r vs) (b := lcT eYes g) e (fun k hk J => by
    obtain ⟨r1, h1, h2⟩ := hs k hk J
    exact ⟨r1, h1, lcT_tl h2⟩) hz l.length 0 (l.length + 1) (by omega) (by omega)
  have e0 : h ++ (List.range 0).map (fun j => O.lst (e j)) = h := by simp
  have e00 : ((List.range 0).map fun j => D.ref (h.length + j)).reverse = [] := rfl
  rw [e0, e00] at this
  unfold evLc
  rw [hf, R.bind_ok]
  show (lcL (.fx l) t (wipeR r vs) (lcT eYes g) (l.length + 1) 0 [] h).bind _ = _
  rw [this, R.bind_ok, List.reverse_reverse]
theorem forL_runs {v : IV} {g : Eg} {b : Es} {n : Nat} (it : Nat → D) (I : Nat → Rho → List O → Prop) (he : ∀ r h, I n r h → itemAt v n h = some none)
    (hs : ∀ k r h, k < n → I k r h → itemAt v k h = some (some (it k)) ∧ ∃ r1 h1 r2 h2, g (it k) r h = .nx r1 h1 ∧ b r1 h1 = .nx r2 h2 ∧ I (k + 1) r2 h2) :
    ∀ (m k : Nat) (r : Rho) (h : List O), k + m = n → I k r h → ∃ r2 h2, forL v g b (m + 1) k r h = .nx r2 h2 ∧ I n r2 h2
  | 0, k, r, h, e, i => by
    have e : k = n := by omega
    subst e
    exact ⟨r, h, by rw [forL, he r h i], i⟩
  | m + 1, k, r, h, e, i => by
    have hk : k < n := by omega
    obtain ⟨ei, r1, h1, r2, h2, e1, e2, i2⟩ := hs k r h hk i
    obtain ⟨r3, h3, e3, i3⟩ := forL_runs it I he hs m (k + 1) r2 h2 (by omega) i2
    exact ⟨r3, h3, by rw [forL, ei]; simp only [e1, e2, e3], i3⟩
theorem get_app {H J : List O} {i : Nat} {o : O} (e : H[i]? = some o) : (H ++ J)[i]? = some o := by
  rw [List.getElem?_append_left (List.getElem?_eq_some_iff.mp e).1]; exact e
theorem add_lists {h : List O} {i j : Nat} {a b : List D} (ha : h[i]? = some (.lst a)) (hb : h[j]? = some (.lst b)) (hz : a.length + b.length ≤ SZ) : g_add (.v (.ref i)) (.v (.ref j)) h = some (.tl (a ++ b)) := by
  unfold g_add
  simp only [seqM, ha, hb, if_pos hz]
theorem flat_run {H : List O} {L n : Nat} (base : Nat) (q : Nat → List Int) (hL : H[L]? = some (.lst ((List.range n).map fun j => D.ref (base + j)))) (hq : ∀ j, j < n → H[base + j]? = some (.lst (dI (q j)))) (hz : ∀ j, j ≤ n → (((List.range j).map q).flatten).length ≤ 1000) (hq1 : ∀ j, j < n → (q j).length ≤ 1000) :
    ∃ J i, c__law_flat [.ref L] H = .ok (.v (.ref i)) (H ++ J) ∧ H.length ≤ i ∧ (H ++ J)[i]? = some (.lst (dI (((List.range n).map q).flatten))) := by
  obtain ⟨r2, h2, e, J, i, x, er, eh, hi, hg⟩ := forL_runs (v := .lv L) (g := egN 2) (b := esAsg (ev2 g_add (evVar 1) (evVar 2)) (egN 1)) (n := n) (fun k => .ref (base + k))
    (fun k r h => ∃ J i x, r = [some (.ref L), some (.ref i), x] ∧ h = H ++ J ∧ H.length ≤ i ∧ h[i]? = some (.lst (dI (((List.range k).map q).flatten))))
    (fun r h ⟨J, i, x, er, eh, hi, hg⟩ => by
      subst er eh
      rw [itemAt, get_app hL]
      simp only []
      rw [List.getElem?_eq_none_iff.mpr (by rw [List.length_map, List.length_range]; exact Nat.le_refl _)])
    (fun k r h hk ⟨J, i, x, er, eh, hi, hg⟩ => by
      subst er eh
      refine ⟨?_, [some (.ref L), some (.ref i), some (.ref (base + k))], H ++ J, [some (.ref L), some (.ref (H ++ J).length), some (.ref (base + k))], (H ++ J) ++ [.lst (dI (((List.range (k + 1)).map q).flatten))], rfl, ?_, J ++ [.lst (dI (((List.range (k + 1)).map q).flatten))], (H ++ J).length, some (.ref (base + k)), rfl, by rw [List.append_assoc], by rw [List.length_append]; omega, ?_⟩
      · rw [itemAt, get_app hL]
        simp only []
        rw [List.getElem?_map, List.getElem?_range hk]; rfl
      · have z1 := hz k (by omega)
        have z2 := hq1 k hk
        have ha := add_lists hg (get_app (J := J) (hq k hk)) (by rw [dI_length, dI_length]; have : SZ = 16777216 := rfl; omega)
        have es : dI (((List.range (k + 1)).map q).flatten) = dI (((List.range k).map q).flatten) ++ dI (q k) := by
          rw [List.range_succ, List.map_append, List.flatten_append]
          unfold dI
          rw [List.map_append]
          simp
        rw [es]
        simp only [ha, szl0, szl1, szl2, szl3, szl4, szl5, szl6, szl7, fnC, esSeq, esIf, esAsg, esPar, esE, esRet, esRetN, esNil, esAug, esRaise, ecOr, ecAnd, ecNot, ecB, ecT, ev2, evFn, g1, g2, eaCons, eaNil, evVar, evC, evCall, evTup, evLst, evIf, evNeg, evChn, evMt, egN, egT, egsCons, egsNil, alc, alcs, opt_some, optB_some, optR_some, boT_b, R.bind_ok, R.to_ok, List.getElem?_cons_zero, List.getElem?_cons_succ, List.set_cons_zero, List.set_cons_succ, List.map_cons, List.map_nil, List.length_cons, List.length_nil, List.replicate_succ, List.replicate_zero, List.replicate, Option.map_some, Bool.not_true, Bool.not_false, if_true, if_false, reduceIte, Nat.reduceSub, Nat.reduceAdd, List.cons_append, List.nil_append, Bool.false_eq_true, decide_true, decide_false]
      · rw [List.getElem?_append_right (Nat.le_refl _), Nat.sub_self]; rfl)
    n 0 [some (.ref L), some (.ref H.length), none] (H ++ [.lst []]) (by omega) ⟨[.lst []], H.length, none, rfl, rfl, Nat.le_refl _, by rw [List.getElem?_append_right (Nat.le_refl _), Nat.sub_self]; rfl⟩
  subst er eh
  refine ⟨J, i, ?_, hi, hg⟩
  have ef : esFor (eiT (evVar 0)) (egN 2) (esAsg (ev2 g_add (evVar 1) (evVar 2)) (egN 1)) [some (.ref L), some (.ref H.length), none] (H ++ [.lst []]) = .nx [some (.ref L), some (.ref i), x] (H ++ J) := by
    unfold esFor eiT
    have : ivT (H ++ [.lst []]) (.v (.ref L)) = some (.lv L) := by
      unfold ivT
      simp only [get_app (J := [.lst []]) hL]
    simp only [this, szl0, szl1, szl2, szl3, szl4, szl5, szl6, szl7, fnC, esSeq, esIf, esAsg, esPar, esE, esRet, esRetN, esNil, esAug, esRaise, ecOr, ecAnd, ecNot, ecB, ecT, ev2, evFn, g1, g2, eaCons, eaNil, evVar, evC, evCall, evTup, evLst, evIf, evNeg, evChn, evMt, egN, egT, egsCons, egsNil, alc, alcs, opt_some, optB_some, optR_some, boT_b, R.bind_ok, R.to_ok, List.getElem?_cons_zero, List.getElem?_cons_succ, List.set_cons_zero, List.set_cons_succ, List.map_cons, List.map_nil, List.length_cons, List.length_nil, List.replicate_succ, List.replicate_zero, List.replicate, Option.map_some, Bool.not_true, Bool.not_false, if_true, if_false, reduceIte, Nat.reduceSub, Nat.reduceAdd, List.cons_append, List.nil_append, Bool.false_eq_true, decide_true, decide_false]
    rw [fuelV, get_app hL]
    simp only [List.length_map, List.length_range]
    exact e
  simp only [c__law_flat, b__law_flat, ef, szl0, szl1, szl2, szl3, szl4, szl5, szl6, szl7, fnC, esSeq, esIf, esAsg, esPar, esE, esRet, esRetN, esNil, esAug, esRaise, ecOr, ecAnd, ecNot, ecB, ecT, ev2, evFn, g1, g2, eaCons, eaNil, evVar, evC, evCall, evTup, evLst, evIf, evNeg, evChn, evMt, egN, egT, egsCons, egsNil, alc, alcs, opt_some, optB_some, optR_some, boT_b, R.bind_ok, R.to_ok, List.getElem?_cons_zero, List.getElem?_cons_succ, List.set_cons_zero, List.set_cons_succ, List.map_cons, List.map_nil, List.length_cons, List.length_nil, List.replicate_succ, List.replicate_zero, List.replicate, Option.map_some, Bool.not_true, Bool.not_false, if_true, if_false, reduceIte, Nat.reduceSub, Nat.reduceAdd, List.cons_append, List.nil_append, Bool.false_eq_true, decide_true, decide_false]
theorem call_flat {h : List O} {n : Nat} (base : Nat) (q : Nat → List Int) (hn : 0 < n) (hq : ∀ j, j < n → h[base + j]? = some (.lst (dI (q j)))) (hz : ∀ j, j ≤ n → (((List.range j).map q).flatten).length ≤ 1000) (hq1 : ∀ j, j < n → (q j).length ≤ 1000) :
    callW c__law_flat [.tl ((List.range n).map fun j => D.ref (base + j))] h = .ok (.tl (dI (((List.range n).map q).flatten))) h := by
  have hlow : [T.tl ((List.range n).map fun j => D.ref (base + j))].all (lowT 0) = false := by
    cases n with
    | zero => omega
    | succ n =>
      rw [List.range_succ_eq_map, List.map_cons]
      rfl
  obtain ⟨J, i, e, hi, hg⟩ := flat_run (H := h ++ [.lst ((List.range n).map fun j => D.ref (base + j))]) (L := h.length) base q (by rw [List.getElem?_append_right (Nat.le_refl _), Nat.sub_self]; rfl) (fun j hj => get_app (hq j hj)) hz hq1
  unfold callW
  rw [hlow]
  simp only [alcs, alc, Bool.false_eq_true, if_false, e]
  rw [List.length_append, List.length_cons, List.length_nil] at hi
  rw [List.append_assoc] at hg ⊢
  have lf : Nat.blt i h.length = false := by
    cases hb : Nat.blt i h.length with
    | false => rfl
    | true => have := (Nat.blt_eq).mp hb; omega
  have lb : Nat.ble h.length i = true := Nat.ble_eq.mpr (by omega)
  simp only [inpl, preO_self, if_true, lowT, lowD, lf, Bool.false_eq_true, if_false, unT, hg, lb, lowL_dI, Bool.and_self]
end Kx
set_option Elab.async false
set_option linter.all false
set_option maxRecDepth 100000
namespace Kx
open Bz L2 PySem PySem.Spec

/-! ### rows by number -/
def unr : Nat → List Int → Nat → List Int
  | 0, _, _ => []
  | m + 1, L, N => L.getD (N / fac m) 0 :: unr m (L.eraseIdx (N / fac m)) (N % fac m)
def num : List Int → Nat
  | [] => 0
  | a :: t => fac t.length * cn a t + num t
theorem cn_at {L : List Int} (s : L.Pairwise (· < ·)) {i : Nat} (hi : i < L.length) : cn L[i] (L.eraseIdx i) = i := by
  have e1 : L = L.take i ++ L[i] :: L.drop (i + 1) := by rw [← List.drop_eq_getElem_cons hi, List.take_append_drop]
  have s2 := s
  rw [e1] at s2
  obtain ⟨_, s4, s5⟩ := List.pairwise_append.mp s2
  have s6 := (List.pairwise_cons.mp s4).1
  rw [List.eraseIdx_eq_take_drop_succ]
  unfold cn
  rw [List.countP_append]
  have h1 : (L.take i).countP (fun b => decide (b < L[i])) = (L.take i).length := List.countP_eq_length.mpr fun b hb => decide_eq_true (s5 b hb L[i] (List.mem_cons_self ..))
  have h2 : (L.drop (i + 1)).countP (fun b => decide (b < L[i])) = 0 := List.countP_eq_zero.mpr fun b hb => by
    have := s6 b hb
    simp only [decide_eq_true_eq]; omega
  rw [h1, h2, List.length_take]
  omega
theorem erase_sorted {L : List Int} (s : L.Pairwise (· < ·)) (i : Nat) : (L.eraseIdx i).Pairwise (· < ·) := s.sublist (List.eraseIdx_sublist _ _)
theorem erase_perm {L : List Int} {i : Nat} (hi : i < L.length) : (L[i] :: L.eraseIdx i).Perm L := by
  rw [List.eraseIdx_eq_take_drop_succ]
  have e1 : L = L.take i ++ L[i] :: L.drop (i + 1) := by rw [← List.drop_eq_getElem_cons hi, List.take_append_drop]
  have := (List.perm_middle (a := L[i]) (l₁ := L.take i) (l₂ := L.drop (i + 1))).symm
  rw [← e1] at this
  exact this
theorem getD_at {L : List Int} {i : Nat} (hi : i < L.length) : L.getD i 0 = L[i] := by
  rw [List.getD_eq_getElem?_getD, List.getElem?_eq_getElem hi]; rfl
theorem unr_num : ∀ (m : Nat) (L : List Int) (N : Nat), L.Pairwise (· < ·) → L.length = m → N < fac m → num (unr m L N) = N ∧ (unr m L N).Perm L
  | 0, L, N, s, hl, hN => by
    have : L = [] := List.length_eq_zero_iff.mp hl
    subst this
    have : N < 1 := hN
    exact ⟨by show 0 = N; omega, .refl _⟩
  | m + 1, L, N, s, hl, hN => by
    have hf := fac_pos m
    have hi : N / fac m < L.length := by
      rw [hl, Nat.div_lt_iff_lt_mul hf]; exact hN
    obtain ⟨h1, h2⟩ := unr_num m (L.eraseIdx (N / fac m)) (N % fac m) (erase_sorted s _) (by rw [List.length_eraseIdx_of_lt hi]; omega) (Nat.mod_lt _ hf)
    rw [unr, num, h1, h2.length_eq, List.length_eraseIdx_of_lt hi, getD_at hi, cn_perm h2, cn_at s hi, hl]
    refine ⟨by rw [Nat.add_sub_cancel]; exact Nat.div_add_mod N (fac m), (h2.cons _).trans (erase_perm hi)⟩
theorem num_unr : ∀ (m : Nat) (L t : List Int), L.Pairwise (· < ·) → L.length = m → t.Perm L → unr m L (num t) = t ∧ num t < fac m
  | 0, L, t, s, hl, p => by
    have : L = [] := List.length_eq_zero_iff.mp hl
    subst this
    have := List.perm_nil.mp p
    subst this
    exact ⟨rfl, by decide⟩
  | m + 1, L, [], s, hl, p => by
    have := p.length_eq
    rw [hl] at this
    cases this
  | m + 1, L, a :: t, s, hl, p => by
    have ha : a ∈ L := p.mem_iff.mp (List.mem_cons_self ..)
    have hi := List.idxOf_lt_length_of_mem ha
    have ea : L[L.idxOf a] = a := List.getElem_idxOf hi
    have pt : t.Perm (L.eraseIdx (L.idxOf a)) := by
      have := erase_perm hi
      rw [ea] at this
      exact List.Perm.cons_inv (p.trans this.symm)
    obtain ⟨h1, h2⟩ := num_unr m (L.eraseIdx (L.idxOf a)) t (erase_sorted s _) (by rw [List.length_eraseIdx_of_lt hi]; omega) pt
    have hlt : t.length = m := by rw [pt.length_eq, List.length_eraseIdx_of_lt hi]; omega
    have hc : cn a t = L.idxOf a := by
      have := cn_at s hi
      rw [ea] at this
      rw [cn_perm pt, this]
    have hf := fac_pos m
    have ed : (fac m * L.idxOf a + num t) / fac m = L.idxOf a := by
      rw [Nat.mul_add_div hf, Nat.div_eq_of_lt h2, Nat.add_zero]
    have em : (fac m * L.idxOf a + num t) % fac m = num t := by
      rw [Nat.mul_add_mod, Nat.mod_eq_of_lt h2]
    rw [num, unr, hc, hlt, ed, em, h1, getD_at hi, ea]
    refine ⟨rfl, ?_⟩
    rw [fac]
    have : L.idxOf a ≤ m := by omega
    have h3 : fac m * L.idxOf a ≤ fac m * m := Nat.mul_le_mul_left _ this
    have h4 : (m + 1) * fac m = fac m * m + fac m := by rw [Nat.succ_mul, Nat.mul_comm m]
    omega
theorem rg_lt (n : Nat) : (rg n).Pairwise (· < ·) := by
  unfold rg
  rw [List.pairwise_map]
  exact List.Pairwise.imp (fun {a b} (h : a < b) => by omega) List.pairwise_lt_range
theorem unr_row {n N : Nat} (lo : 0 < n) (hi : n ≤ 12) (hN : N < fac n) : Pm n (unr n (rg n) N) ∧ num (unr n (rg n) N) = N := by
  obtain ⟨h1, h2⟩ := unr_num n (rg n) N (rg_lt n) (rg_length n) hN
  exact ⟨⟨h2, lo, hi⟩, h1⟩
theorem num_row {n : Nat} {p : List Int} (hp : Pm n p) : unr n (rg n) (num p) = p ∧ num p < fac n := num_unr n (rg n) p (rg_lt n) (rg_length n) hp.pm
end Kx
set_option Elab.async false
set_option linter.all false
set_option maxRecDepth 100000
namespace Kx
open Bz L2 PySem PySem.Spec

theorem seq_nx {f g : Es} {r r1 : Rho} {h h1 : List O} (e : f r h = .nx r1 h1) : esSeq f g r h = g r1 h1 := by
  unfold esSeq; rw [e]
theorem iv3_down (n : Nat) (lo : 0 < n) (hi : n ≤ 8) : iv3 [tI (n : Nat), tI 0, tI (-1)] = some (.fx (rgC (n : Nat) (-1) n)) := by
  have : n = 1 ∨ n = 2 ∨ n = 3 ∨ n = 4 ∨ n = 5 ∨ n = 6 ∨ n = 7 ∨ n = 8 := by omega
  rcases this with rfl | rfl | rfl | rfl | rfl | rfl | rfl | rfl <;> rfl
theorem itC {n k : Nat} (h : List O) (hk : k < n) : itemAt (.fx (rgC (n : Nat) (-1) n)) k h = some (some (.int ((n - k : Nat) : Int))) := by
  unfold itemAt rgC
  rw [List.getElem?_map, List.getElem?_range hk]
  show some (some (D.int ((n : Int) + (k : Nat) * (-1)))) = _
  rw [show (n : Int) + (k : Nat) * (-1) = ((n - k : Nat) : Int) by omega]
theorem itC_end {n : Nat} (h : List O) : itemAt (.fx (rgC (n : Nat) (-1) n)) n h = some none := by
  unfold itemAt rgC
  rw [List.getElem?_eq_none_iff.mpr (by rw [List.length_map, List.length_range]; exact Nat.le_refl _)]
theorem fdiv_nat {a b : Nat} (h1 : 0 < b) (h2 : b < 1000000) (h : List O) : g_fdiv (tI (a : Nat)) (tI (b : Nat)) h = some (tI ((a / b : Nat) : Int)) := by
  rw [fdiv_int (by omega) (by omega), Int.natCast_ediv]
theorem fac_div {k : Nat} : fac (k + 1) / (k + 1) = fac k := by rw [fac, Nat.mul_div_cancel_left _ (Nat.succ_pos k)]
theorem eraseIdx_dI : ∀ (p : List Int) (i : Nat), (dI p).eraseIdx i = dI (p.eraseIdx i)
  | [], _ => rfl
  | _ :: _, 0 => rfl
  | a :: p, i + 1 => by
    show D.int a :: (dI p).eraseIdx i = D.int a :: dI (p.eraseIdx i)
    rw [eraseIdx_dI p i]
theorem pop_zero {L : List Int} {o : O} {i : Nat} (hi : i < L.length) (hz : L.length ≤ 12) : m_popA (.v (.ref 0)) [tI (i : Nat)] [.lst (dI L), o] = some (.v (.int (L.getD i 0)), [.lst (dI (L.eraseIdx i)), o]) := by
  have hl : lenOk (dI L) = true := by unfold lenOk; rw [dI_length]; exact decide_eq_true (by have : SZ = 16777216 := rfl; omega)
  have hg : (dI L)[i]? = some (.int (L.getD i 0)) := by
    unfold dI
    rw [List.getElem?_map, List.getElem?_eq_getElem hi, getD_at hi]; rfl
  have he := eraseIdx_dI L i
  have hx : ixN (dI L).length (i : Nat) = some i := by rw [dI_length, ixN_in (by omega) (by omega), Int.toNat_natCast]
  unfold m_popA
  simp only [ownL, List.getElem?_cons_zero, hl, if_true, m_pop, hx, hg, he, List.set_cons_zero]
theorem ty_zero {a : List D} {J : List O} : tyOk (.lst a :: J) .L (.v (.ref 0)) = true := by
  unfold tyOk
  simp only [seqL, List.getElem?_cons_zero]; rfl
theorem nth_run {n N : Nat} (lo : 0 < n) (hi : n ≤ 8) (hN : N < fac n) : ∃ h', c_nth [.int (N : Nat), .int (n : Nat)] [] = .ok (.v (rw (unr n (rg n) N))) h' := by
  have f8 := fac_small hi
  let body : Es := (esSeq (esAug 2 g_fdiv (evVar 5))
  (esSeq (esE (evMt .L m_append (evVar 4) (eaCons (evMt .L m_popA (evVar 3) (eaCons (ev2 g_fdiv (evVar 0) (evVar 2)) eaNil)) eaNil)))
  (esAug 0 g_mod (evVar 2))))
  obtain ⟨r2, h2, e, N', L', F', x, eN, eL, eF, eU, er, eh⟩ := forL_run (v := .fx (rgC (n : Nat) (-1) n)) (g := egN 5) (b := body) (n := n) (fun k => .int ((n - k : Nat) : Int)) (fun k h hk => itC h hk) (fun h => itC_end h)
    (fun j r h => ∃ N' L' F' x, N' < fac (n - j) ∧ L'.length = n - j ∧ F'.length = j ∧ F' ++ unr (n - j) L' N' = unr n (rg n) N ∧ r = [some (.int (N' : Nat)), some (.int (n : Nat)), some (.int (fac (n - j) : Nat)), some (.ref 0), some (.ref 1), x] ∧ h = [.lst (dI L'), .lst (dI F')])
    (fun j r h hj ⟨N', L', F', x, eN, eL, eF, eU, er, eh⟩ => by
      subst er eh
      obtain ⟨m, em⟩ : ∃ m, n - j = m + 1 := ⟨n - j - 1, by omega⟩
      have em2 : n - (j + 1) = m := by omega
      rw [em] at eN eL eU ⊢
      have hf := fac_pos m
      have f8' := fac_small (n := m) (by omega)
      have f8'' := fac_small (n := m + 1) (by omega)
      have hidx : N' / fac m < L'.length := by rw [eL, Nat.div_lt_iff_lt_mul hf]; exact eN
      have hd : ∀ h, g_fdiv (tI (fac (m + 1) : Nat)) (tI ((m + 1 : Nat) : Int)) h = some (tI (fac m : Nat)) := fun h => by
        rw [fdiv_nat (Nat.succ_pos m) (by omega), fac_div]
      have hd2 : ∀ h, g_fdiv (tI (N' : Nat)) (tI (fac m : Nat)) h = some (tI ((N' / fac m : Nat) : Int)) := fun h => fdiv_nat hf (by omega) h
      have hm : ∀ h, g_mod (tI (N' : Nat)) (tI (fac m : Nat)) h = some (tI ((N' % fac m : Nat) : Int)) := fun h => mod_nat hf h
      have hp := pop_zero (o := .lst (dI F')) hidx (by omega)
      have hz : (dI F').length < SZ := by rw [dI_length, eF]; have : SZ = 16777216 := rfl; omega
      have ha := app_one (a := .lst (dI (L'.eraseIdx (N' / fac m)))) (J := []) (x := .int (L'.getD (N' / fac m) 0)) hz
      have ed : dI F' ++ [D.int (L'.getD (N' / fac m) 0)] = dI (F' ++ [L'.getD (N' / fac m) 0]) := by unfold dI; rw [List.map_append]; rfl
      refine ⟨[some (.int (N' : Nat)), some (.int (n : Nat)), some (.int (fac (m + 1) : Nat)), some (.ref 0), some (.ref 1), some (.int ((m + 1 : Nat) : Int))], [.lst (dI L'), .lst (dI F')],
        [some (.int ((N' % fac m : Nat) : Int)), some (.int (n : Nat)), some (.int (fac m : Nat)), some (.ref 0), some (.ref 1), some (.int ((m + 1 : Nat) : Int))], [.lst (dI (L'.eraseIdx (N' / fac m))), .lst (dI (F' ++ [L'.getD (N' / fac m) 0]))], rfl, ?_,
        N' % fac m, L'.eraseIdx (N' / fac m), F' ++ [L'.getD (N' / fac m) 0], some (.int ((m + 1 : Nat) : Int)), ?_, ?_, ?_, ?_, ?_, rfl⟩
      · simp only [body, hd, hd2, hm, hp, ha, ty_zero, ty_one, optH_some, ed, szl0, szl1, szl2, szl3, szl4, szl5, szl6, szl7, fnC, esSeq, esIf, esAsg, esPar, esE, esRet, esRetN, esNil, esAug, esRaise, ecOr, ecAnd, ecNot, ecB, ecT, ev2, evFn, g1, g2, eaCons, eaNil, evVar, evC, evCall, evTup, evLst, evIf, evNeg, evChn, evMt, egN, egT, egsCons, egsNil, alc, alcs, opt_some, optB_some, optR_some, boT_b, R.bind_ok, R.to_ok, List.getElem?_cons_zero, List.getElem?_cons_succ, List.set_cons_zero, List.set_cons_succ, List.map_cons, List.map_nil, List.length_cons, List.length_nil, List.replicate_succ, List.replicate_zero, List.replicate, Option.map_some, Bool.not_true, Bool.not_false, if_true, if_false, reduceIte, Nat.reduceSub, Nat.reduceAdd, List.cons_append, List.nil_append, Bool.false_eq_true, decide_true, decide_false]
      · rw [em2]; exact Nat.mod_lt _ hf
      · rw [List.length_eraseIdx_of_lt hidx, em2]; omega
      · rw [List.length_append, eF]; rfl
      · rw [em2, ← eU, List.append_assoc]; rfl
      · rw [em2])
    n 0 [some (.int (N : Nat)), some (.int (n : Nat)), some (.int (fac n : Nat)), some (.ref 0), some (.ref 1), none] [.lst (dI (rg n)), .lst []] (by omega) ⟨N, rg n, [], none, hN, rg_length n, rfl, rfl, rfl, rfl⟩
  subst er eh
  rw [Nat.sub_self] at eU
  rw [show unr 0 L' N' = [] from rfl, List.append_nil] at eU
  subst eU
  refine ⟨[.lst (dI L'), .lst (dI (unr n (rg n) N))], ?_⟩
  have hit : eiA iv3 (eaCons (evVar 1) (eaCons (evC (.int 0)) (eaCons (evNeg (evC (.int 1))) eaNil))) [some (.int (N : Nat)), some (.int (n : Nat)), some (.int (fac n : Nat)), some (.ref 0), some (.ref 1), none] [.lst (dI (rg n)), .lst []] = .ok (.fx (rgC (n : Nat) (-1) n)) [.lst (dI (rg n)), .lst []] := by
    have e1 : eaCons (evVar 1) (eaCons (evC (.int 0)) (eaCons (evNeg (evC (.int 1))) eaNil)) [some (.int (N : Nat)), some (.int (n : Nat)), some (.int (fac n : Nat)), some (.ref 0), some (.ref 1), none] [.lst (dI (rg n)), .lst []] = .ok [tI (n : Nat), tI 0, tI (-1)] [.lst (dI (rg n)), .lst []] := rfl
    unfold eiA
    rw [e1, R.bind_ok, iv3_down n lo hi, optR_some]
  have hl : (rgC (n : Nat) (-1) n).length = n := by unfold rgC; rw [List.length_map, List.length_range]
  have ef : esFor (eiA iv3 (eaCons (evVar 1) (eaCons (evC (.int 0)) (eaCons (evNeg (evC (.int 1))) eaNil)))) (egN 5) body [some (.int (N : Nat)), some (.int (n : Nat)), some (.int (fac n : Nat)), some (.ref 0), some (.ref 1), none] [.lst (dI (rg n)), .lst []] = .nx [some (.int (N' : Nat)), some (.int (n : Nat)), some (.int (fac (n - n) : Nat)), some (.ref 0), some (.ref 1), x] [.lst (dI L'), .lst (dI (unr n (rg n) N))] := by
    unfold esFor
    rw [hit, R.to_ok, fuelV, hl]
    exact e
  have hch : ecB (evChn g_le g_lt (evC (.int 0)) (evVar 0) (evVar 2)) [some (.int (N : Nat)), some (.int (n : Nat)), some (.int (fac n : Nat)), none, none, none] [] = .ok true [] := by
    have h1 : decide ((0 : Int) ≤ (N : Nat)) = true := decide_eq_true (by omega)
    have h2 : decide (((N : Nat) : Int) < (fac n : Nat)) = true := decide_eq_true (by omega)
    simp only [g_int, h1, h2, szl0, szl1, szl2, szl3, szl4, szl5, szl6, szl7, fnC, esSeq, esIf, esAsg, esPar, esE, esRet, esRetN, esNil, esAug, esRaise, ecOr, ecAnd, ecNot, ecB, ecT, ev2, evFn, g1, g2, eaCons, eaNil, evVar, evC, evCall, evTup, evLst, evIf, evNeg, evChn, evMt, egN, egT, egsCons, egsNil, alc, alcs, opt_some, optB_some, optR_some, boT_b, R.bind_ok, R.to_ok, List.getElem?_cons_zero, List.getElem?_cons_succ, List.set_cons_zero, List.set_cons_succ, List.map_cons, List.map_nil, List.length_cons, List.length_nil, List.replicate_succ, List.replicate_zero, List.replicate, Option.map_some, Bool.not_true, Bool.not_false, if_true, if_false, reduceIte, Nat.reduceSub, Nat.reduceAdd, List.cons_append, List.nil_append, Bool.false_eq_true, decide_true, decide_false]
  have hls : g_list (.v (rw (rg n))) [] = some (.tl (dI (rg n))) := rfl
  have et : g_tuple (.v (.ref 1)) [.lst (dI L'), .lst (dI (unr n (rg n) N))] = some (.v (rw (unr n (rg n) N))) := rfl
  simp only [body] at ef
  refine fnC_rt (f := b_nth) ?_
  unfold b_nth
  rw [seq_nx (r1 := [some (.int (N : Nat)), some (.int (n : Nat)), some (.int (fac n : Nat)), none, none, none]) (h1 := []) (by simp only [call_extent lo hi, szl0, szl1, szl2, szl3, szl4, szl5, szl6, szl7, fnC, esSeq, esIf, esAsg, esPar, esE, esRet, esRetN, esNil, esAug, esRaise, ecOr, ecAnd, ecNot, ecB, ecT, ev2, evFn, g1, g2, eaCons, eaNil, evVar, evC, evCall, evTup, evLst, evIf, evNeg, evChn, evMt, egN, egT, egsCons, egsNil, alc, alcs, opt_some, optB_some, optR_some, boT_b, R.bind_ok, R.to_ok, List.getElem?_cons_zero, List.getElem?_cons_succ, List.set_cons_zero, List.set_cons_succ, List.map_cons, List.map_nil, List.length_cons, List.length_nil, List.replicate_succ, List.replicate_zero, List.replicate, Option.map_some, Bool.not_true, Bool.not_false, if_true, if_false, reduceIte, Nat.reduceSub, Nat.reduceAdd, List.cons_append, List.nil_append, Bool.false_eq_true, decide_true, decide_false])]
  rw [seq_nx (r1 := [some (.int (N : Nat)), some (.int (n : Nat)), some (.int (fac n : Nat)), none, none, none]) (h1 := []) (by simp only [hch, szl0, szl1, szl2, szl3, szl4, szl5, szl6, szl7, fnC, esSeq, esIf, esAsg, esPar, esE, esRet, esRetN, esNil, esAug, esRaise, ecOr, ecAnd, ecNot, ecT, ev2, evFn, g1, g2, eaCons, eaNil, evVar, evC, evCall, evTup, evLst, evIf, evNeg, evMt, egN, egT, egsCons, egsNil, alc, alcs, opt_some, optB_some, optR_some, boT_b, R.bind_ok, R.to_ok, List.getElem?_cons_zero, List.getElem?_cons_succ, List.set_cons_zero, List.set_cons_succ, List.map_cons, List.map_nil, List.length_cons, List.length_nil, List.replicate_succ, List.replicate_zero, List.replicate, Option.map_some, Bool.not_true, Bool.not_false, if_true, if_false, reduceIte, Nat.reduceSub, Nat.reduceAdd, List.cons_append, List.nil_append, Bool.false_eq_true, decide_true, decide_false])]
  rw [seq_nx (r1 := [some (.int (N : Nat)), some (.int (n : Nat)), some (.int (fac n : Nat)), some (.ref 0), some (.ref 1), none]) (h1 := [.lst (dI (rg n)), .lst []]) (by simp only [call_rounds n lo (Nat.le_trans hi (by decide)), hls, szl0, szl1, szl2, szl3, szl4, szl5, szl6, szl7, fnC, esSeq, esIf, esAsg, esPar, esE, esRet, esRetN, esNil, esAug, esRaise, ecOr, ecAnd, ecNot, ecB, ecT, ev2, evFn, g1, g2, eaCons, eaNil, evVar, evC, evCall, evTup, evLst, evIf, evNeg, evChn, evMt, egN, egT, egsCons, egsNil, alc, alcs, opt_some, optB_some, optR_some, boT_b, R.bind_ok, R.to_ok, List.getElem?_cons_zero, List.getElem?_cons_succ, List.set_cons_zero, List.set_cons_succ, List.map_cons, List.map_nil, List.length_cons, List.length_nil, List.replicate_succ, List.replicate_zero, List.replicate, Option.map_some, Bool.not_true, Bool.not_false, if_true, if_false, reduceIte, Nat.reduceSub, Nat.reduceAdd, List.cons_append, List.nil_append, Bool.false_eq_true, decide_true, decide_false])]
  rw [seq_nx ef]
  exact esRet_of (by simp only [et, szl0, szl1, szl2, szl3, szl4, szl5, szl6, szl7, fnC, esSeq, esIf, esAsg, esPar, esE, esRet, esRetN, esNil, esAug, esRaise, ecOr, ecAnd, ecNot, ecB, ecT, ev2, evFn, g1, g2, eaCons, eaNil, evVar, evC, evCall, evTup, evLst, evIf, evNeg, evChn, evMt, egN, egT, egsCons, egsNil, alc, alcs, opt_some, optB_some, optR_some, boT_b, R.bind_ok, R.to_ok, List.getElem?_cons_zero, List.getElem?_cons_succ, List.set_cons_zero, List.set_cons_succ, List.map_cons, List.map_nil, List.length_cons, List.length_nil, List.replicate_succ, List.replicate_zero, List.replicate, Option.map_some, Bool.not_true, Bool.not_false, if_true, if_false, reduceIte, Nat.reduceSub, Nat.reduceAdd, List.cons_append, List.nil_append, Bool.false_eq_true, decide_true, decide_false])
theorem call_nth {n N : Nat} (lo : 0 < n) (hi : n ≤ 8) (hN : N < fac n) (h : List O) : callW c_nth [tI (N : Nat), tI (n : Nat)] h = .ok (.v (rw (unr n (rg n) N))) h := by
  obtain ⟨h', e⟩ := nth_run lo hi hN
  exact call_v (ds := [.int (N : Nat), .int (n : Nat)]) rfl e (low_trw _) h
end Kx
set_option Elab.async false
set_option linter.all false
set_option maxRecDepth 100000
namespace Kx
open Bz L2 PySem PySem.Spec

theorem evGx_of {κ : Type} {stp : κ → D → Option (κ ⊕ D)} {fin : κ → D} {c0 : κ} {f : Ei} {t : Tg} {vs : List Nat} {c : Ec} {g : Ev} {r : Rho} {h h1 : List O} {l : List D} {o : κ ⊕ D} (hf : f r h = .ok (.fx l) h1)
    (hl : gxL stp (.fx l) t (wipeR r vs) (gxT c g) (l.length + 1) 0 c0 h1 = .ok o h1) : evGx stp fin c0 f t vs c g r h = .ok (gxE fin o) h1 := by
  unfold evGx
  rw [hf]
  show (gxL stp (.fx l) t (wipeR r vs) (gxT c g) (l.length + 1) 0 c0 h1).bind _ = _
  rw [hl]; rfl
theorem cut_from {l : List D} {k : Nat} (hk : k ≤ l.length) : cutD l (some (k : Nat)) none = l.drop k := by
  unfold cutD
  rw [HT.sIx_nat, Nat.min_eq_left hk, HT.sIx_none]
  rw [List.take_of_length_le]
  rw [List.length_drop]; exact Nat.le_refl _
theorem num_step {p : List Int} {k : Nat} (hk : k < p.length) : num (p.drop k) = fac (p.length - (k + 1)) * cn (p.getD k 0) (p.drop (k + 1)) + num (p.drop (k + 1)) := by
  rw [List.drop_eq_getElem_cons hk, num, List.length_drop, getD_at hk]
theorem less_sum {n : Nat} {p : List Int} (hp : Pm n p) {k : Nat} (hk : k < n) (x1 x2 x5 : Option D) (h : List O) :
    evSum (eiT (evSl (evVar 0) (eoS (ev2 g_add (evVar 3) (evC (.int 1)))) eoN)) (.n 5) [5] (ecB (ev2 g_lt (evVar 5) (evVar 4))) (evC (.int 1)) [some (rw p), x1, x2, some (.int (k : Nat)), some (.int (p.getD k 0)), x5] h = .ok (tI (cn (p.getD k 0) (p.drop (k + 1)) : Nat)) h := by
  have hl := hp.len
  have hn := hp.hi
  have ed : (dI p).drop (k + 1) = dI (p.drop (k + 1)) := by unfold dI; rw [List.map_drop]
  have es : g_sl (.v (rw p)) (some ((k : Nat) + 1)) none h = some (.v (rw (p.drop (k + 1)))) := by
    have e1 : ((k : Nat) + 1 : Int) = ((k + 1 : Nat) : Int) := by omega
    show some (tU (cutD (dI p) (some ((k : Nat) + 1)) none)) = _
    rw [e1, cut_from (by rw [dI_length]; omega), ed]; rfl
  have hf : eiT (evSl (evVar 0) (eoS (ev2 g_add (evVar 3) (evC (.int 1)))) eoN) [some (rw p), x1, x2, some (.int (k : Nat)), some (.int (p.getD k 0)), x5] h = .ok (.fx (dI (p.drop (k + 1)))) h := by
    simp only [eiT, evSl, eoS, eoN, add_int, intT, es, ivT_rw, szl0, szl1, szl2, szl3, szl4, szl5, szl6, szl7, fnC, esSeq, esIf, esAsg, esPar, esE, esRet, esRetN, esNil, esAug, esRaise, ecOr, ecAnd, ecNot, ecB, ecT, ev2, evFn, g1, g2, eaCons, eaNil, evVar, evC, evCall, evTup, evLst, evIf, evNeg, evChn, evMt, egN, egT, egsCons, egsNil, alc, alcs, opt_some, optB_some, optR_some, boT_b, R.bind_ok, R.to_ok, List.getElem?_cons_zero, List.getElem?_cons_succ, List.set_cons_zero, List.set_cons_succ, List.map_cons, List.map_nil, List.length_cons, List.length_nil, List.replicate_succ, List.replicate_zero, List.replicate, Option.map_some, Bool.not_true, Bool.not_false, if_true, if_false, reduceIte, Nat.reduceSub, Nat.reduceAdd, List.cons_append, List.nil_append, Bool.false_eq_true, decide_true, decide_false]
  have hs := gxL_ones (l := dI (p.drop (k + 1))) (t := .n 5) (r0 := [some (rw p), x1, x2, some (.int (k : Nat)), some (.int (p.getD k 0)), none]) (b := gxT (ecB (ev2 g_lt (evVar 5) (evVar 4))) (evC (.int 1))) (h := h)
    (fun d => match d with
      | .int i => decide (i < p.getD k 0)
      | _ => false) (fun d hd => by
        obtain ⟨i, hi, rfl⟩ := List.mem_map.mp hd
        refine ⟨_, rfl, ?_⟩
        by_cases hd : i < p.getD k 0
        · simp only [gxT, R.no, lt_int, decide_eq_true hd, szl0, szl1, szl2, szl3, szl4, szl5, szl6, szl7, fnC, esSeq, esIf, esAsg, esPar, esE, esRet, esRetN, esNil, esAug, esRaise, ecOr, ecAnd, ecNot, ecB, ecT, ev2, evFn, g1, g2, eaCons, eaNil, evVar, evC, evCall, evTup, evLst, evIf, evNeg, evChn, evMt, egN, egT, egsCons, egsNil, alc, alcs, opt_some, optB_some, optR_some, boT_b, R.bind_ok, R.to_ok, List.getElem?_cons_zero, List.getElem?_cons_succ, List.set_cons_zero, List.set_cons_succ, List.map_cons, List.map_nil, List.length_cons, List.length_nil, List.replicate_succ, List.replicate_zero, List.replicate, Option.map_some, Bool.not_true, Bool.not_false, if_true, if_false, reduceIte, Nat.reduceSub, Nat.reduceAdd, List.cons_append, List.nil_append, Bool.false_eq_true, decide_true, decide_false]
        · simp only [gxT, R.no, lt_int, decide_eq_false hd, szl0, szl1, szl2, szl3, szl4, szl5, szl6, szl7, fnC, esSeq, esIf, esAsg, esPar, esE, esRet, esRetN, esNil, esAug, esRaise, ecOr, ecAnd, ecNot, ecB, ecT, ev2, evFn, g1, g2, eaCons, eaNil, evVar, evC, evCall, evTup, evLst, evIf, evNeg, evChn, evMt, egN, egT, egsCons, egsNil, alc, alcs, opt_some, optB_some, optR_some, boT_b, R.bind_ok, R.to_ok, List.getElem?_cons_zero, List.getElem?_cons_succ, List.set_cons_zero, List.set_cons_succ, List.map_cons, List.map_nil, List.length_cons, List.length_nil, List.replicate_succ, List.replicate_zero, List.replicate, Option.map_some, Bool.not_true, Bool.not_false, if_true, if_false, reduceIte, Nat.reduceSub, Nat.reduceAdd, List.cons_append, List.nil_append, Bool.false_eq_true, decide_true, decide_false]) ((dI (p.drop (k + 1))).length + 1) 0 (Nat.lt_succ_self _) (by rw [dI_length, List.length_drop]; omega)
  have ec : (dI (p.drop (k + 1))).countP (fun d => match d with
      | .int i => decide (i < p.getD k 0)
      | _ => false) = cn (p.getD k 0) (p.drop (k + 1)) := by
    unfold dI
    rw [List.countP_map]; rfl
  rw [ec, Nat.zero_add] at hs
  exact evGx_of (stp := sumS) (fin := fun n => .int n) (c0 := 0) (vs := [5]) hf hs
theorem iadd_int (a b : Int) (h : List O) : g_iadd (tI a) (tI b) h = some (tI (a + b)) := rfl
theorem number_run {n : Nat} {p : List Int} (hp : Pm n p) (hi : n ≤ 8) : ∃ h', c_number_of [rw p] [] = .ok (tI (num p : Nat)) h' := by
  have hl := hp.len
  have lo := hp.lo
  let body : Es := (esSeq (esAug 2 g_fdiv (ev2 g_sub (evFn (g1 g_len) (eaCons (evVar 0) eaNil)) (evVar 3)))
  (esAug 1 g_iadd (ev2 g_mul (evVar 2) (evSum (eiT (evSl (evVar 0) (eoS (ev2 g_add (evVar 3) (evC (.int 1)))) eoN)) (.n 5) [5] (ecB (ev2 g_lt (evVar 5) (evVar 4))) (evC (.int 1))))))
  obtain ⟨r2, h2, e, A, x, y, z, hA, er, eh⟩ := forL_run (v := .en (.fx (dI p))) (g := egT 2 (egsCons (egN 3) (egsCons (egN 4) egsNil))) (b := body) (n := n)
    (fun k => .tup [.int (k : Nat), .int (p.getD k 0)]) (fun k h hk => itE h (by rw [hl]; exact hk)) (fun h => itE_end h (by rw [hl]; exact Nat.le_refl _))
    (fun k r h => ∃ (A : Nat) (x y z : Option D), A + num (p.drop k) = num p ∧ r = [some (rw p), some (.int (A : Nat)), some (.int (fac (n - k) : Nat)), x, y, z] ∧ h = [])
    (fun k r h hk ⟨A, x, y, z, hA, er, eh⟩ => by
      subst er eh
      obtain ⟨m, em⟩ : ∃ m, n - k = m + 1 := ⟨n - k - 1, by omega⟩
      have em2 : n - (k + 1) = m := by omega
      have hs := num_step (p := p) (k := k) (by omega)
      rw [hl, em2] at hs
      rw [em, em2]
      have f8 := fac_small (n := m) (by omega)
      have hd : ∀ h, g_fdiv (tI (fac (m + 1) : Nat)) (tI ((p.length : Nat) - (k : Nat))) h = some (tI (fac m : Nat)) := fun h => by
        rw [show ((p.length : Nat) : Int) - (k : Nat) = ((m + 1 : Nat) : Int) by omega, fdiv_nat (Nat.succ_pos m) (by omega), fac_div]
      have hc : cn (p.getD k 0) (p.drop (k + 1)) ≤ 12 := by
        have := List.countP_le_length (p := fun b => decide (b < p.getD k 0)) (l := p.drop (k + 1))
        rw [List.length_drop] at this
        unfold cn
        omega
      have hm : ∀ h, g_mul (tI (fac m : Nat)) (tI (cn (p.getD k 0) (p.drop (k + 1)) : Nat)) h = some (tI ((fac m : Nat) * (cn (p.getD k 0) (p.drop (k + 1)) : Nat))) := fun h => mul_int (by omega) h
      have hls := less_sum hp hk (some (.int (A : Nat))) (some (.int (fac m : Nat))) z []
      have eA : ((A : Nat) : Int) + (fac m : Nat) * (cn (p.getD k 0) (p.drop (k + 1)) : Nat) = ((A + fac m * cn (p.getD k 0) (p.drop (k + 1)) : Nat) : Int) := by rw [Int.natCast_add, Int.natCast_mul]
      refine ⟨[some (rw p), some (.int (A : Nat)), some (.int (fac (m + 1) : Nat)), some (.int (k : Nat)), some (.int (p.getD k 0)), z], [], [some (rw p), some (.int ((A + fac m * cn (p.getD k 0) (p.drop (k + 1)) : Nat) : Int)), some (.int (fac m : Nat)), some (.int (k : Nat)), some (.int (p.getD k 0)), z], [], rfl, ?_,
        A + fac m * cn (p.getD k 0) (p.drop (k + 1)), some (.int (k : Nat)), some (.int (p.getD k 0)), z, by omega, rfl, rfl⟩
      show body _ _ = _
      simp only [body]
      rw [seq_nx (r1 := [some (rw p), some (.int (A : Nat)), some (.int (fac m : Nat)), some (.int (k : Nat)), some (.int (p.getD k 0)), z]) (h1 := []) (by simp only [len_rw, sub_int, hd, szl0, szl1, szl2, szl3, szl4, szl5, szl6, szl7, fnC, esSeq, esIf, esAsg, esPar, esE, esRet, esRetN, esNil, esAug, esRaise, ecOr, ecAnd, ecNot, ecB, ecT, ev2, evFn, g1, g2, eaCons, eaNil, evVar, evC, evCall, evTup, evLst, evIf, evNeg, evChn, evMt, egN, egT, egsCons, egsNil, alc, alcs, opt_some, optB_some, optR_some, boT_b, R.bind_ok, R.to_ok, List.getElem?_cons_zero, List.getElem?_cons_succ, List.set_cons_zero, List.set_cons_succ, List.map_cons, List.map_nil, List.length_cons, List.length_nil, List.replicate_succ, List.replicate_zero, List.replicate, Option.map_some, Bool.not_true, Bool.not_false, if_true, if_false, reduceIte, Nat.reduceSub, Nat.reduceAdd, List.cons_append, List.nil_append, Bool.false_eq_true, decide_true, decide_false])]
      simp only [hls, hm, iadd_int, eA, szl0, szl1, szl2, szl3, szl4, szl5, szl6, szl7, fnC, esSeq, esIf, esAsg, esPar, esE, esRet, esRetN, esNil, esAug, esRaise, ecOr, ecAnd, ecNot, ecB, ecT, ev2, evFn, g1, g2, eaCons, eaNil, evVar, evC, evCall, evTup, evLst, evIf, evNeg, evChn, evMt, egN, egT, egsCons, egsNil, alc, alcs, opt_some, optB_some, optR_some, boT_b, R.bind_ok, R.to_ok, List.getElem?_cons_zero, List.getElem?_cons_succ, List.set_cons_zero, List.set_cons_succ, List.map_cons, List.map_nil, List.length_cons, List.length_nil, List.replicate_succ, List.replicate_zero, List.replicate, Option.map_some, Bool.not_true, Bool.not_false, if_true, if_false, reduceIte, Nat.reduceSub, Nat.reduceAdd, List.cons_append, List.nil_append, Bool.false_eq_true, decide_true, decide_false])
    n 0 [some (rw p), some (.int (0 : Nat)), some (.int (fac n : Nat)), none, none, none] [] (by omega) ⟨0, none, none, none, by rw [Nat.zero_add, List.drop_zero], rfl, rfl⟩
  subst er eh
  have e0 : num (p.drop n) = 0 := by rw [List.drop_eq_nil_iff.mpr (by omega)]; rfl
  have eA : A = num p := by omega
  subst eA
  refine ⟨[], ?_⟩
  have ef : esFor (eiH ivE (eaCons (evVar 0) eaNil)) (egT 2 (egsCons (egN 3) (egsCons (egN 4) egsNil))) body [some (rw p), some (.int 0), some (.int (fac n : Nat)), none, none, none] [] = .nx [some (rw p), some (.int (num p : Nat)), some (.int (fac (n - n) : Nat)), x, y, z] [] := by
    unfold esFor eiH
    simp only [szl0, szl1, szl2, szl3, szl4, szl5, szl6, szl7, fnC, esSeq, esIf, esAsg, esPar, esE, esRet, esRetN, esNil, esAug, esRaise, ecOr, ecAnd, ecNot, ecB, ecT, ev2, evFn, g1, g2, eaCons, eaNil, evVar, evC, evCall, evTup, evLst, evIf, evNeg, evChn, evMt, egN, egT, egsCons, egsNil, alc, alcs, opt_some, optB_some, optR_some, boT_b, R.bind_ok, R.to_ok, List.getElem?_cons_zero, List.getElem?_cons_succ, List.set_cons_zero, List.set_cons_succ, List.map_cons, List.map_nil, List.length_cons, List.length_nil, List.replicate_succ, List.replicate_zero, List.replicate, Option.map_some, Bool.not_true, Bool.not_false, if_true, if_false, reduceIte, Nat.reduceSub, Nat.reduceAdd, List.cons_append, List.nil_append, Bool.false_eq_true, decide_true, decide_false]
    show forL _ _ _ (fuelV _ (.en (.fx (dI p))) + 1) 0 _ _ = _
    rw [fuel_en, hp.len]; exact e
  refine fnC_rt (f := b_number_of) ?_
  unfold b_number_of
  rw [seq_nx (r1 := [some (rw p), none, none, none, none, none]) (h1 := []) (by simp only [call_check hp, szl0, szl1, szl2, szl3, szl4, szl5, szl6, szl7, fnC, esSeq, esIf, esAsg, esPar, esE, esRet, esRetN, esNil, esAug, esRaise, ecOr, ecAnd, ecNot, ecB, ecT, ev2, evFn, g1, g2, eaCons, eaNil, evVar, evC, evCall, evTup, evLst, evIf, evNeg, evChn, evMt, egN, egT, egsCons, egsNil, alc, alcs, opt_some, optB_some, optR_some, boT_b, R.bind_ok, R.to_ok, List.getElem?_cons_zero, List.getElem?_cons_succ, List.set_cons_zero, List.set_cons_succ, List.map_cons, List.map_nil, List.length_cons, List.length_nil, List.replicate_succ, List.replicate_zero, List.replicate, Option.map_some, Bool.not_true, Bool.not_false, if_true, if_false, reduceIte, Nat.reduceSub, Nat.reduceAdd, List.cons_append, List.nil_append, Bool.false_eq_true, decide_true, decide_false])]
  rw [seq_nx (r1 := [some (rw p), some (.int 0), some (.int (fac n : Nat)), none, none, none]) (h1 := []) (by simp only [len_rw, hl, call_extent lo hi, szl0, szl1, szl2, szl3, szl4, szl5, szl6, szl7, fnC, esSeq, esIf, esAsg, esPar, esE, esRet, esRetN, esNil, esAug, esRaise, ecOr, ecAnd, ecNot, ecB, ecT, ev2, evFn, g1, g2, eaCons, eaNil, evVar, evC, evCall, evTup, evLst, evIf, evNeg, evChn, evMt, egN, egT, egsCons, egsNil, alc, alcs, opt_some, optB_some, optR_some, boT_b, R.bind_ok, R.to_ok, List.getElem?_cons_zero, List.getElem?_cons_succ, List.set_cons_zero, List.set_cons_succ, List.map_cons, List.map_nil, List.length_cons, List.length_nil, List.replicate_succ, List.replicate_zero, List.replicate, Option.map_some, Bool.not_true, Bool.not_false, if_true, if_false, reduceIte, Nat.reduceSub, Nat.reduceAdd, List.cons_append, List.nil_append, Bool.false_eq_true, decide_true, decide_false])]
  rw [seq_nx ef]
  exact esRet_of (by simp only [szl0, szl1, szl2, szl3, szl4, szl5, szl6, szl7, fnC, esSeq, esIf, esAsg, esPar, esE, esRet, esRetN, esNil, esAug, esRaise, ecOr, ecAnd, ecNot, ecB, ecT, ev2, evFn, g1, g2, eaCons, eaNil, evVar, evC, evCall, evTup, evLst, evIf, evNeg, evChn, evMt, egN, egT, egsCons, egsNil, alc, alcs, opt_some, optB_some, optR_some, boT_b, R.bind_ok, R.to_ok, List.getElem?_cons_zero, List.getElem?_cons_succ, List.set_cons_zero, List.set_cons_succ, List.map_cons, List.map_nil, List.length_cons, List.length_nil, List.replicate_succ, List.replicate_zero, List.replicate, Option.map_some, Bool.not_true, Bool.not_false, if_true, if_false, reduceIte, Nat.reduceSub, Nat.reduceAdd, List.cons_append, List.nil_append, Bool.false_eq_true, decide_true, decide_false])
theorem call_number {n : Nat} {p : List Int} (hp : Pm n p) (hi : n ≤ 8) (h : List O) : callW c_number_of [.v (rw p)] h = .ok (tI (num p : Nat)) h := by
  obtain ⟨h', e⟩ := number_run hp hi
  exact call_v (ds := [rw p]) (by rw [lowL, low_rw]; rfl) e rfl h

/-! ### with_more -/
theorem rgD_one (a b : Int) (k : Nat) (e : b - a = (k : Nat)) : rgD a b = (List.range k).map fun (i : Nat) => D.int (a + (i : Nat)) := by
  unfold rgD
  rw [e, Int.toNat_natCast]
theorem rgOk_ok {a b : Int} (h0 : 0 ≤ a) (h1 : a < 1000) (h2 : 0 ≤ b) (h3 : b < 1000) : rgOk a b = true := by
  unfold rgOk
  rw [p62]
  simp only [Bool.and_eq_true, decide_eq_true_eq]
  refine ⟨⟨⟨⟨by omega, by omega⟩, by omega⟩, by omega⟩, ?_⟩
  have : (2 : Nat) ^ 24 = 16777216 := by decide
  rw [this]
  omega
theorem evTrg_of {f : Er} {r : Rho} {h h1 : List O} {a b : Int} (hf : f r h = .ok (a, b) h1) (hk : rgOk a b = true) : evTrg f r h = .ok (tU (rgD a b)) h1 := by
  unfold evTrg
  rw [hf, R.bind_ok, if_pos hk]
theorem evLrg_of {f : Er} {r : Rho} {h h1 : List O} {a b : Int} (hf : f r h = .ok (a, b) h1) (hk : rgOk a b = true) : evLrg f r h = .ok (.tl (rgD a b)) h1 := by
  unfold evLrg
  rw [hf, R.bind_ok, if_pos hk]
theorem more_run {n : Nat} {p : List Int} (hp : Pm n p) : c_with_more [rw p, .int ((n : Nat) + 1)] [] = .ok (.v (rw (p ++ [((n : Nat) : Int) + 1]))) [] := by
  have hl := hp.len
  have hn := hp.hi
  have e1 : er2 (ev2 g_add (evFn (g1 g_len) (eaCons (evVar 0) eaNil)) (evC (.int 1))) (ev2 g_add (evVar 1) (evC (.int 1))) [some (rw p), some (.int ((n : Nat) + 1))] [] = .ok ((n : Nat) + 1, (n : Nat) + 1 + 1) [] := by
    simp only [er2, len_rw, hl, add_int, intT, szl0, szl1, szl2, szl3, szl4, szl5, szl6, szl7, fnC, esSeq, esIf, esAsg, esPar, esE, esRet, esRetN, esNil, esAug, esRaise, ecOr, ecAnd, ecNot, ecB, ecT, ev2, evFn, g1, g2, eaCons, eaNil, evVar, evC, evCall, evTup, evLst, evIf, evNeg, evChn, evMt, egN, egT, egsCons, egsNil, alc, alcs, opt_some, optB_some, optR_some, boT_b, R.bind_ok, R.to_ok, List.getElem?_cons_zero, List.getElem?_cons_succ, List.set_cons_zero, List.set_cons_succ, List.map_cons, List.map_nil, List.length_cons, List.length_nil, List.replicate_succ, List.replicate_zero, List.replicate, Option.map_some, Bool.not_true, Bool.not_false, if_true, if_false, reduceIte, Nat.reduceSub, Nat.reduceAdd, List.cons_append, List.nil_append, Bool.false_eq_true, decide_true, decide_false]
  have e2 := evTrg_of e1 (rgOk_ok (by omega) (by omega) (by omega) (by omega))
  rw [rgD_one _ _ 1 (by omega)] at e2
  have e3 : (List.range 1).map (fun (i : Nat) => D.int ((n : Nat) + 1 + (i : Nat))) = [.int ((n : Nat) + 1)] := by
    show [D.int ((n : Nat) + 1 + ((0 : Nat) : Int))] = _
    rw [show ((n : Nat) : Int) + 1 + ((0 : Nat) : Int) = (n : Nat) + 1 by omega]
  rw [e3] at e2
  have e4 : decide (((n : Nat) : Int) + 1 < (p.length : Nat)) = false := decide_eq_false (by omega)
  have e5 : g_tuple (.v (rw p)) [] = some (.v (rw p)) := rfl
  have e6 : g_add (.v (rw p)) (tU [.int ((n : Nat) + 1)]) [] = some (.v (rw (p ++ [((n : Nat) : Int) + 1]))) := by
    show (if (dI p).length + 1 ≤ SZ then some (tU (dI p ++ [D.int ((n : Nat) + 1)])) else none) = _
    rw [if_pos (by rw [dI_length]; have : SZ = 16777216 := rfl; omega)]
    unfold rw dI
    rw [List.map_append]; rfl
  refine fnC_rt (f := b_with_more) ?_
  unfold b_with_more
  rw [seq_nx (r1 := [some (rw p), some (.int ((n : Nat) + 1))]) (h1 := []) (by simp only [call_check hp, szl0, szl1, szl2, szl3, szl4, szl5, szl6, szl7, fnC, esSeq, esIf, esAsg, esPar, esE, esRet, esRetN, esNil, esAug, esRaise, ecOr, ecAnd, ecNot, ecB, ecT, ev2, evFn, g1, g2, eaCons, eaNil, evVar, evC, evCall, evTup, evLst, evIf, evNeg, evChn, evMt, egN, egT, egsCons, egsNil, alc, alcs, opt_some, optB_some, optR_some, boT_b, R.bind_ok, R.to_ok, List.getElem?_cons_zero, List.getElem?_cons_succ, List.set_cons_zero, List.set_cons_succ, List.map_cons, List.map_nil, List.length_cons, List.length_nil, List.replicate_succ, List.replicate_zero, List.replicate, Option.map_some, Bool.not_true, Bool.not_false, if_true, if_false, reduceIte, Nat.reduceSub, Nat.reduceAdd, List.cons_append, List.nil_append, Bool.false_eq_true, decide_true, decide_false])]
  rw [seq_nx (r1 := [some (rw p), some (.int ((n : Nat) + 1))]) (h1 := []) (by simp only [len_rw, lt_int, e4, szl0, szl1, szl2, szl3, szl4, szl5, szl6, szl7, fnC, esSeq, esIf, esAsg, esPar, esE, esRet, esRetN, esNil, esAug, esRaise, ecOr, ecAnd, ecNot, ecB, ecT, ev2, evFn, g1, g2, eaCons, eaNil, evVar, evC, evCall, evTup, evLst, evIf, evNeg, evChn, evMt, egN, egT, egsCons, egsNil, alc, alcs, opt_some, optB_some, optR_some, boT_b, R.bind_ok, R.to_ok, List.getElem?_cons_zero, List.getElem?_cons_succ, List.set_cons_zero, List.set_cons_succ, List.map_cons, List.map_nil, List.length_cons, List.length_nil, List.replicate_succ, List.replicate_zero, List.replicate, Option.map_some, Bool.not_true, Bool.not_false, if_true, if_false, reduceIte, Nat.reduceSub, Nat.reduceAdd, List.cons_append, List.nil_append, Bool.false_eq_true, decide_true, decide_false])]
  refine esRet_of ?_
  have a1 : evFn (g1 g_tuple) (eaCons (evVar 0) eaNil) [some (rw p), some (.int ((n : Nat) + 1))] [] = .ok (.v (rw p)) [] := by simp only [e5, szl0, szl1, szl2, szl3, szl4, szl5, szl6, szl7, fnC, esSeq, esIf, esAsg, esPar, esE, esRet, esRetN, esNil, esAug, esRaise, ecOr, ecAnd, ecNot, ecB, ecT, ev2, evFn, g1, g2, eaCons, eaNil, evVar, evC, evCall, evTup, evLst, evIf, evNeg, evChn, evMt, egN, egT, egsCons, egsNil, alc, alcs, opt_some, optB_some, optR_some, boT_b, R.bind_ok, R.to_ok, List.getElem?_cons_zero, List.getElem?_cons_succ, List.set_cons_zero, List.set_cons_succ, List.map_cons, List.map_nil, List.length_cons, List.length_nil, List.replicate_succ, List.replicate_zero, List.replicate, Option.map_some, Bool.not_true, Bool.not_false, if_true, if_false, reduceIte, Nat.reduceSub, Nat.reduceAdd, List.cons_append, List.nil_append, Bool.false_eq_true, decide_true, decide_false]
  unfold ev2
  unfold ev2 at e2
  rw [a1, R.bind_ok, e2, R.bind_ok, e6]; rfl
theorem call_more {n : Nat} {p : List Int} (hp : Pm n p) (h : List O) : callW c_with_more [.v (rw p), tI ((n : Nat) + 1)] h = .ok (.v (rw (p ++ [((n : Nat) : Int) + 1]))) h :=
  call_v (ds := [rw p, .int ((n : Nat) + 1)]) (by rw [lowL, low_rw]; rfl) (more_run hp) (low_trw _) h
end Kx
set_option Elab.async false
set_option linter.all false
set_option maxRecDepth 100000
namespace Kx
open Bz L2 PySem PySem.Spec

def ch (b : Int) : Nat := 48 + b.toNat
def tx (p : List Int) : Str := ⟨(p.map ch).toArray⟩
theorem eight {n : Nat} {p : List Int} (hp : Pm n p) (hi : n ≤ 8) {b : Int} (hb : b ∈ p) : b = 1 ∨ b = 2 ∨ b = 3 ∨ b = 4 ∨ b = 5 ∨ b = 6 ∨ b = 7 ∨ b = 8 := by
  have := hp.mem.mp hb
  omega
theorem letter_at {b : Int} (hb : b = 1 ∨ b = 2 ∨ b = 3 ∨ b = 4 ∨ b = 5 ∨ b = 6 ∨ b = 7 ∨ b = 8) (h : List O) : g_ix (.v (.str "1234567890et")) (tI (b - 1)) h = some (tS ⟨#[ch b]⟩) := by
  rcases hb with rfl | rfl | rfl | rfl | rfl | rfl | rfl | rfl <;> kernel_rfl
theorem letter_in {b : Int} (hb : b = 1 ∨ b = 2 ∨ b = 3 ∨ b = 4 ∨ b = 5 ∨ b = 6 ∨ b = 7 ∨ b = 8) (h : List O) : g_nin (tS ⟨#[ch b]⟩) (.v (.str "1234567890et")) h = some (tB false) := by
  rcases hb with rfl | rfl | rfl | rfl | rfl | rfl | rfl | rfl <;> kernel_rfl
theorem letter_index {b : Int} (hb : b = 1 ∨ b = 2 ∨ b = 3 ∨ b = 4 ∨ b = 5 ∨ b = 6 ∨ b = 7 ∨ b = 8) (h : List O) : g_sindex (.v (.str "1234567890et")) (tS ⟨#[ch b]⟩) h = some (tI (b - 1)) := by
  rcases hb with rfl | rfl | rfl | rfl | rfl | rfl | rfl | rfl <;> kernel_rfl
theorem joinL_one : ∀ l : List Nat, TL.joinL [] (l.map fun c => [c]) = l
  | [] => rfl
  | [c] => rfl
  | c :: d :: l => by
    have ih := joinL_one (d :: l)
    show [c] ++ ([] ++ TL.joinL [] ((d :: l).map fun c => [c])) = _
    rw [ih]; rfl
theorem strs_of : ∀ p : List Int, strsD (p.map fun b => D.str ⟨#[ch b]⟩) = some (p.map fun b => (⟨#[ch b]⟩ : Str))
  | [] => rfl
  | a :: p => by
    rw [List.map_cons, strsD, strs_of p]; rfl
theorem join_tx (p : List Int) : Txt.join "" (p.map fun b => (⟨#[ch b]⟩ : Str)) = tx p := by
  have := SX.join_S [] (p.map fun b => [ch b])
  rw [List.map_map] at this
  have e := joinL_one (p.map ch)
  rw [List.map_map] at e
  have e2 : (p.map fun b => [ch b]) = p.map ((fun c => [c]) ∘ ch) := rfl
  rw [e2, e] at this
  exact this
theorem sum_ones : ∀ p : List Int, ((p.map fun b => (⟨#[ch b]⟩ : Str)).map (·.length)).sum = p.length
  | [] => rfl
  | a :: p => by
    rw [List.map_cons, List.map_cons, List.sum_cons, sum_ones p, List.length_cons]
    show 1 + p.length = _
    omega
theorem call_told {n : Nat} {p : List Int} (hp : Pm n p) (hi : n ≤ 8) (h : List O) : callW c_told [.v (rw p)] h = .ok (tS (tx p)) h := by
  refine call_v (ds := [rw p]) (h' := []) (by rw [lowL, low_rw]; rfl) ?_ rfl h
  have lc : evLc (eiT (evVar 0)) (.n 1) [1] eYes (ev2 g_ix (evC (.str "1234567890et")) (ev2 g_sub (evVar 1) (evC (.int 1)))) [some (rw p), none] [] = .ok (.tl (p.map fun b => .str ⟨#[ch b]⟩)) [] :=
    lc_row hp rfl _ fun x hx => by
      have := letter_at (eight hp hi hx) []
      simp only [wipeR, sub_int, this, szl0, szl1, szl2, szl3, szl4, szl5, szl6, szl7, fnC, esSeq, esIf, esAsg, esPar, esE, esRet, esRetN, esNil, esAug, esRaise, ecOr, ecAnd, ecNot, ecB, ecT, ev2, evFn, g1, g2, eaCons, eaNil, evVar, evC, evCall, evTup, evLst, evIf, evNeg, evChn, evMt, egN, egT, egsCons, egsNil, alc, alcs, opt_some, optB_some, optR_some, boT_b, R.bind_ok, R.to_ok, List.getElem?_cons_zero, List.getElem?_cons_succ, List.set_cons_zero, List.set_cons_succ, List.map_cons, List.map_nil, List.length_cons, List.length_nil, List.replicate_succ, List.replicate_zero, List.replicate, Option.map_some, Bool.not_true, Bool.not_false, if_true, if_false, reduceIte, Nat.reduceSub, Nat.reduceAdd, List.cons_append, List.nil_append, Bool.false_eq_true, decide_true, decide_false]
  have ej : g_join (.v (.str "")) (.tl (p.map fun b => D.str ⟨#[ch b]⟩)) [] = some (tS (tx p)) := by
    unfold g_join
    simp only [strT, seqL, strs_of, sum_ones, join_tx]
    rw [if_pos]
    have := hp.len
    have e0 : ("" : Str).length = 0 := rfl
    rw [e0, Nat.mul_zero]
    have : SZ = 16777216 := rfl
    omega
  have em : evMt .S (mf1 g_join) (evC (.str "")) (eaCons (evLc (eiT (evVar 0)) (.n 1) [1] eYes (ev2 g_ix (evC (.str "1234567890et")) (ev2 g_sub (evVar 1) (evC (.int 1))))) eaNil) [some (rw p), none] [] = .ok (tS (tx p)) [] := by
    have et : tyOk [] .S (tS "") = true := rfl
    simp only [lc, et, mf1, ej, optH_some, szl0, szl1, szl2, szl3, szl4, szl5, szl6, szl7, fnC, esSeq, esIf, esAsg, esPar, esE, esRet, esRetN, esNil, esAug, esRaise, ecOr, ecAnd, ecNot, ecB, ecT, ev2, evFn, g1, g2, eaCons, eaNil, evVar, evC, evCall, evTup, evLst, evIf, evNeg, evChn, evMt, egN, egT, egsCons, egsNil, alc, alcs, opt_some, optB_some, optR_some, boT_b, R.bind_ok, R.to_ok, List.getElem?_cons_zero, List.getElem?_cons_succ, List.set_cons_zero, List.set_cons_succ, List.map_cons, List.map_nil, List.length_cons, List.length_nil, List.replicate_succ, List.replicate_zero, List.replicate, Option.map_some, Bool.not_true, Bool.not_false, if_true, if_false, reduceIte, Nat.reduceSub, Nat.reduceAdd, List.cons_append, List.nil_append, Bool.false_eq_true, decide_true, decide_false]
  refine fnC_rt (f := b_told) ?_
  unfold b_told
  rw [seq_nx (r1 := [some (rw p), none]) (h1 := []) (by simp only [call_check hp, szl0, szl1, szl2, szl3, szl4, szl5, szl6, szl7, fnC, esSeq, esIf, esAsg, esPar, esE, esRet, esRetN, esNil, esAug, esRaise, ecOr, ecAnd, ecNot, ecB, ecT, ev2, evFn, g1, g2, eaCons, eaNil, evVar, evC, evCall, evTup, evLst, evIf, evNeg, evChn, evMt, egN, egT, egsCons, egsNil, alc, alcs, opt_some, optB_some, optR_some, boT_b, R.bind_ok, R.to_ok, List.getElem?_cons_zero, List.getElem?_cons_succ, List.set_cons_zero, List.set_cons_succ, List.map_cons, List.map_nil, List.length_cons, List.length_nil, List.replicate_succ, List.replicate_zero, List.replicate, Option.map_some, Bool.not_true, Bool.not_false, if_true, if_false, reduceIte, Nat.reduceSub, Nat.reduceAdd, List.cons_append, List.nil_append, Bool.false_eq_true, decide_true, decide_false])]
  exact esRet_of em
theorem tx_items (p : List Int) (h : List O) : ivT h (tS (tx p)) = some (.fx (p.map fun b => .str ⟨#[ch b]⟩)) := by
  show some (IV.fx ((tx p).cps.toList.map fun c => D.str ⟨#[c]⟩)) = _
  unfold tx
  rw [List.toList_toArray, List.map_map]; rfl
theorem call_read {n : Nat} {p : List Int} (hp : Pm n p) (hi : n ≤ 8) (h : List O) : callW c_read [tS (tx p)] h = .ok (.v (rw p)) h := by
  refine call_v (ds := [.str (tx p)]) (h' := []) rfl ?_ (low_trw _) h
  have hl := hp.len
  have lo := hp.lo
  have hi' : eiT (evVar 0) [some (.str (tx p)), none, none] [] = .ok (.fx (p.map fun b => .str ⟨#[ch b]⟩)) [] := by simp only [eiT, tx_items, szl0, szl1, szl2, szl3, szl4, szl5, szl6, szl7, fnC, esSeq, esIf, esAsg, esPar, esE, esRet, esRetN, esNil, esAug, esRaise, ecOr, ecAnd, ecNot, ecB, ecT, ev2, evFn, g1, g2, eaCons, eaNil, evVar, evC, evCall, evTup, evLst, evIf, evNeg, evChn, evMt, egN, egT, egsCons, egsNil, alc, alcs, opt_some, optB_some, optR_some, boT_b, R.bind_ok, R.to_ok, List.getElem?_cons_zero, List.getElem?_cons_succ, List.set_cons_zero, List.set_cons_succ, List.map_cons, List.map_nil, List.length_cons, List.length_nil, List.replicate_succ, List.replicate_zero, List.replicate, Option.map_some, Bool.not_true, Bool.not_false, if_true, if_false, reduceIte, Nat.reduceSub, Nat.reduceAdd, List.cons_append, List.nil_append, Bool.false_eq_true, decide_true, decide_false]
  have ha : evAny (eiT (evVar 0)) (.n 2) [2] eYes (ev2 g_nin (evVar 2) (evC (.str "1234567890et"))) [some (.str (tx p)), none, none] [] = .ok (tB false) [] := by
    have := gxL_gen (stp := anyS) (l := p.map fun b => D.str ⟨#[ch b]⟩) (t := .n 2) (r0 := [some (.str (tx p)), none, none]) (b := gxT eYes (ev2 g_nin (evVar 2) (evC (.str "1234567890et")))) (h := []) (fun _ => ()) (fun k hk => by
      refine ⟨_, rfl, .inr ⟨.bl false, ?_, rfl⟩⟩
      rw [List.length_map] at hk
      rw [List.getElem_map]
      have := letter_in (eight hp hi (List.getElem_mem hk)) []
      simp only [gxT, eYes, R.no, this, szl0, szl1, szl2, szl3, szl4, szl5, szl6, szl7, fnC, esSeq, esIf, esAsg, esPar, esE, esRet, esRetN, esNil, esAug, esRaise, ecOr, ecAnd, ecNot, ecB, ecT, ev2, evFn, g1, g2, eaCons, eaNil, evVar, evC, evCall, evTup, evLst, evIf, evNeg, evChn, evMt, egN, egT, egsCons, egsNil, alc, alcs, opt_some, optB_some, optR_some, boT_b, R.bind_ok, R.to_ok, List.getElem?_cons_zero, List.getElem?_cons_succ, List.set_cons_zero, List.set_cons_succ, List.map_cons, List.map_nil, List.length_cons, List.length_nil, List.replicate_succ, List.replicate_zero, List.replicate, Option.map_some, Bool.not_true, Bool.not_false, if_true, if_false, reduceIte, Nat.reduceSub, Nat.reduceAdd, List.cons_append, List.nil_append, Bool.false_eq_true, decide_true, decide_false]) (p.map fun b => D.str ⟨#[ch b]⟩).length 0 ((p.map fun b => D.str ⟨#[ch b]⟩).length + 1) (by omega) (by omega)
    exact evGx_of (stp := anyS) (fin := fun _ => .bl false) (c0 := ()) (vs := [2]) hi' this
  have he : g_eq (tS (tx p)) (.v (.str "")) [] = some (tB false) := by
    show some (tB (PyData.eqv (.str (tx p)) (.str ""))) = _
    rw [PyData.eqv]
    have : (tx p == ("" : Str)) = false := by
      rw [beq_eq_false_iff_ne]
      intro z
      have := congrArg (fun s : Str => s.cps.toList.length) z
      unfold tx at this
      have e2 : ("" : Str).cps.toList.length = 0 := rfl
      simp only [List.toList_toArray, List.length_map, e2] at this
      omega
    rw [this]
  have lc : evLc (eiT (evVar 0)) (.n 2) [2] eYes (ev2 g_add (evMt .S (mf1 g_sindex) (evC (.str "1234567890et")) (eaCons (evVar 2) eaNil)) (evC (.int 1))) [some (.str (tx p)), none, none] [] = .ok (.tl (dI p)) [] := by
    have := evLc_fx (t := .n 2) (vs := [2]) (c := eYes) (g := ev2 g_add (evMt .S (mf1 g_sindex) (evC (.str "1234567890et")) (eaCons (evVar 2) eaNil)) (evC (.int 1))) hi' (by rw [List.length_map, hl]; exact sz12 hp.hi)
      (fun d => match d with
        | .str s => some (.int ((s.cps.toList.getD 0 0 - 48 : Nat) : Int))
        | _ => none) (fun d hd => by
        obtain ⟨b, hb, rfl⟩ := List.mem_map.mp hd
        have h1 := letter_index (eight hp hi hb) []
        have et : tyOk [] .S (tS "1234567890et") = true := rfl
        have hb' := hp.mem.mp hb
        refine ⟨_, rfl, ?_⟩
        have e1 : ((ch b - 48 : Nat) : Int) = b - 1 + 1 := by unfold ch; omega
        simp only [List.getD_cons_zero, e1, lcT, eYes, R.no, wipeR, et, mf1, h1, optH_some, add_int, szl0, szl1, szl2, szl3, szl4, szl5, szl6, szl7, fnC, esSeq, esIf, esAsg, esPar, esE, esRet, esRetN, esNil, esAug, esRaise, ecOr, ecAnd, ecNot, ecB, ecT, ev2, evFn, g1, g2, eaCons, eaNil, evVar, evC, evCall, evTup, evLst, evIf, evNeg, evChn, evMt, egN, egT, egsCons, egsNil, alc, alcs, opt_some, optB_some, optR_some, boT_b, R.bind_ok, R.to_ok, List.getElem?_cons_zero, List.getElem?_cons_succ, List.set_cons_zero, List.set_cons_succ, List.map_cons, List.map_nil, List.length_cons, List.length_nil, List.replicate_succ, List.replicate_zero, List.replicate, Option.map_some, Bool.not_true, Bool.not_false, if_true, if_false, reduceIte, Nat.reduceSub, Nat.reduceAdd, List.cons_append, List.nil_append, Bool.false_eq_true, decide_true, decide_false])
    rw [this]
    have : ∀ q : List Int, (∀ b ∈ q, 1 ≤ b) → (q.map fun b => D.str ⟨#[ch b]⟩).filterMap (fun d => match d with
        | .str s => some (.int ((s.cps.toList.getD 0 0 - 48 : Nat) : Int))
        | _ => none) = dI q := fun q => by
      induction q with
      | nil => intro _; rfl
      | cons a q ih =>
        intro hq
        have h1 := hq a (List.mem_cons_self ..)
        rw [List.map_cons, List.filterMap_cons, ih fun b hb => hq b (List.mem_cons_of_mem _ hb)]
        show D.int ((ch a - 48 : Nat) : Int) :: dI q = D.int a :: dI q
        have e1 : ((ch a - 48 : Nat) : Int) = a := by unfold ch; omega
        rw [e1]
    rw [this p fun b hb => (hp.mem.mp hb).1]
  have et : T.v (.tup (dI p)) = .v (rw p) := rfl
  refine fnC_rt (f := b_read) ?_
  unfold b_read
  have s1 : ecT (evAny (eiT (evVar 0)) (.n 2) [2] eYes (ev2 g_nin (evVar 2) (evC (.str "1234567890et")))) [some (.str (tx p)), none, none] [] = .ok false [] := by
    unfold ecT
    rw [ha]; rfl
  rw [seq_nx (r1 := [some (.str (tx p)), none, none]) (h1 := []) (by simp only [s1, he, szl0, szl1, szl2, szl3, szl4, szl5, szl6, szl7, fnC, esSeq, esIf, esAsg, esPar, esE, esRet, esRetN, esNil, esAug, esRaise, ecOr, ecAnd, ecNot, ecB, ev2, evFn, g1, g2, eaCons, eaNil, evVar, evC, evCall, evTup, evLst, evIf, evNeg, evChn, evMt, egN, egT, egsCons, egsNil, alc, alcs, opt_some, optB_some, optR_some, boT_b, R.bind_ok, R.to_ok, List.getElem?_cons_zero, List.getElem?_cons_succ, List.set_cons_zero, List.set_cons_succ, List.map_cons, List.map_nil, List.length_cons, List.length_nil, List.replicate_succ, List.replicate_zero, List.replicate, Option.map_some, Bool.not_true, Bool.not_false, if_true, if_false, reduceIte, Nat.reduceSub, Nat.reduceAdd, List.cons_append, List.nil_append, Bool.false_eq_true, decide_true, decide_false])]
  rw [seq_nx (r1 := [some (.str (tx p)), some (rw p), none]) (h1 := []) (by simp only [lc, tuple_tl, et, szl0, szl1, szl2, szl3, szl4, szl5, szl6, szl7, fnC, esSeq, esIf, esAsg, esPar, esE, esRet, esRetN, esNil, esAug, esRaise, ecOr, ecAnd, ecNot, ecB, ecT, ev2, evFn, g1, g2, eaCons, eaNil, evVar, evC, evCall, evTup, evLst, evIf, evNeg, evChn, evMt, egN, egT, egsCons, egsNil, alc, alcs, opt_some, optB_some, optR_some, boT_b, R.bind_ok, R.to_ok, List.getElem?_cons_zero, List.getElem?_cons_succ, List.set_cons_zero, List.set_cons_succ, List.map_cons, List.map_nil, List.length_cons, List.length_nil, List.replicate_succ, List.replicate_zero, List.replicate, Option.map_some, Bool.not_true, Bool.not_false, if_true, if_false, reduceIte, Nat.reduceSub, Nat.reduceAdd, List.cons_append, List.nil_append, Bool.false_eq_true, decide_true, decide_false])]
  rw [seq_nx (r1 := [some (.str (tx p)), some (rw p), none]) (h1 := []) (by simp only [call_check hp, szl0, szl1, szl2, szl3, szl4, szl5, szl6, szl7, fnC, esSeq, esIf, esAsg, esPar, esE, esRet, esRetN, esNil, esAug, esRaise, ecOr, ecAnd, ecNot, ecB, ecT, ev2, evFn, g1, g2, eaCons, eaNil, evVar, evC, evCall, evTup, evLst, evIf, evNeg, evChn, evMt, egN, egT, egsCons, egsNil, alc, alcs, opt_some, optB_some, optR_some, boT_b, R.bind_ok, R.to_ok, List.getElem?_cons_zero, List.getElem?_cons_succ, List.set_cons_zero, List.set_cons_succ, List.map_cons, List.map_nil, List.length_cons, List.length_nil, List.replicate_succ, List.replicate_zero, List.replicate, Option.map_some, Bool.not_true, Bool.not_false, if_true, if_false, reduceIte, Nat.reduceSub, Nat.reduceAdd, List.cons_append, List.nil_append, Bool.false_eq_true, decide_true, decide_false])]
  exact esRet_of (by simp only [szl0, szl1, szl2, szl3, szl4, szl5, szl6, szl7, fnC, esSeq, esIf, esAsg, esPar, esE, esRet, esRetN, esNil, esAug, esRaise, ecOr, ecAnd, ecNot, ecB, ecT, ev2, evFn, g1, g2, eaCons, eaNil, evVar, evC, evCall, evTup, evLst, evIf, evNeg, evChn, evMt, egN, egT, egsCons, egsNil, alc, alcs, opt_some, optB_some, optR_some, boT_b, R.bind_ok, R.to_ok, List.getElem?_cons_zero, List.getElem?_cons_succ, List.set_cons_zero, List.set_cons_succ, List.map_cons, List.map_nil, List.length_cons, List.length_nil, List.replicate_succ, List.replicate_zero, List.replicate, Option.map_some, Bool.not_true, Bool.not_false, if_true, if_false, reduceIte, Nat.reduceSub, Nat.reduceAdd, List.cons_append, List.nil_append, Bool.false_eq_true, decide_true, decide_false])
end Kx
set_option Elab.async false
set_option linter.all false
set_option maxRecDepth 100000
namespace Kx
open Bz L2 PySem PySem.Spec

def IsD (h : List O) (i : Nat) : Prop := ∃ x y z : Int, h[i]? = some (.lst [.int x, .int y, .int z])
theorem ix_list {h : List O} {i : Nat} {l : List D} (e : h[i]? = some (.lst l)) (j : Int) : g_ix (.v (.ref i)) (tI j) h = (atI l j).map .v := by
  unfold g_ix
  simp only [seqL, e]
theorem set_list {h : List O} {i : Nat} {l : List D} (e : h[i]? = some (.lst l)) (k : Int) (d : D) : setT (.v (.ref i)) (tI k) d h = (ixN l.length k).map fun m => h.set i (.lst (l.set m d)) := by
  unfold setT
  simp only [e]
theorem get_set {h : List O} {i : Nat} {o : O} (hi : i < h.length) : (h.set i o)[i]? = some o := by rw [List.getElem?_set_self hi]
section
variable {h : List O} {i : Nat} {x y z : Int} (e : h[i]? = some (.lst [.int x, .int y, .int z]))
include e
theorem d0 : g_ix (.v (.ref i)) (tI 0) h = some (tI x) := by rw [ix_list e]; rfl
theorem d1 : g_ix (.v (.ref i)) (tI 1) h = some (tI y) := by rw [ix_list e]; rfl
theorem d2 : g_ix (.v (.ref i)) (tI 2) h = some (tI z) := by rw [ix_list e]; rfl
theorem s0 (d : D) : setT (.v (.ref i)) (tI 0) d h = some (h.set i (.lst [d, .int y, .int z])) := by rw [set_list e]; rfl
theorem s1 (d : D) : setT (.v (.ref i)) (tI 1) d h = some (h.set i (.lst [.int x, d, .int z])) := by rw [set_list e]; rfl
theorem s2 (d : D) : setT (.v (.ref i)) (tI 2) d h = some (h.set i (.lst [.int x, .int y, d])) := by rw [set_list e]; rfl
end
theorem toI_int (a : Int) (h : List O) : g_toI (tI a) h = some (tI a) := rfl
theorem emod_in {a m : Int} (hm : 0 < m) : 0 ≤ a % m ∧ a % m < m := ⟨Int.emod_nonneg _ (by omega), Int.emod_lt_of_pos _ hm⟩
theorem nx_ret {f g : Es} {r : Rho} {h h1 : List O} {t : T} (e : f r h = .rt t h1) : esSeq f g r h = .rt t h1 := by
  unfold esSeq; rw [e]
theorem if_tt {c : Ec} {f g : Es} {r : Rho} {h h1 : List O} (e : c r h = .ok true h1) : esIf c f g r h = f r h1 := by
  unfold esIf; rw [e]; rfl
theorem if_ff {c : Ec} {f g : Es} {r : Rho} {h h1 : List O} (e : c r h = .ok false h1) : esIf c f g r h = g r h1 := by
  unfold esIf; rw [e]; rfl
theorem roll_run {h : List O} {i : Nat} {m : Int} (hd : IsD h i) (hm : 0 < m) (hm2 : m < 1073741824) : ∃ v x' y' z' : Int, c__law_roll [.ref i, .int m] h = .ok (tI v) (h.set i (.lst [.int x', .int y', .int z'])) ∧ 0 ≤ v ∧ v < m := by
  obtain ⟨x, y, z, e⟩ := hd
  have hi : i < h.length := (List.getElem?_eq_some_iff.mp e).1
  have D0 := d0 e
  have D1 := d1 e
  have D2 := d2 e
  by_cases hc : z = 2 ∨ (z = 1 ∧ 0 < x)
  · refine ⟨x % m, x / m, y, z, ?_, emod_in hm⟩
    refine fnC_rt (f := b__law_roll) ?_
    unfold b__law_roll
    have hcond : ecOr (ecB (ev2 g_eq (ev2 g_ix (evVar 0) (evC (.int 2))) (evC (.int 2)))) (ecAnd (ecB (ev2 g_eq (ev2 g_ix (evVar 0) (evC (.int 2))) (evC (.int 1)))) (ecB (ev2 g_gt (ev2 g_ix (evVar 0) (evC (.int 0))) (evC (.int 0))))) [some (.ref i), some (.int m), none] h = .ok true h := by
      by_cases h2 : z = 2
      · simp only [D0, D2, eq_int, gt_int, decide_eq_true h2, szl0, szl1, szl2, szl3, szl4, szl5, szl6, szl7, fnC, esSeq, esIf, esAsg, esPar, esE, esRet, esRetN, esNil, esAug, esRaise, ecOr, ecAnd, ecNot, ecB, ecT, ev2, evFn, g1, g2, eaCons, eaNil, evVar, evC, evCall, evTup, evLst, evIf, evNeg, evChn, evMt, egN, egT, egsCons, egsNil, alc, alcs, opt_some, optB_some, optR_some, boT_b, R.bind_ok, R.to_ok, List.getElem?_cons_zero, List.getElem?_cons_succ, List.set_cons_zero, List.set_cons_succ, List.map_cons, List.map_nil, List.length_cons, List.length_nil, List.replicate_succ, List.replicate_zero, List.replicate, Option.map_some, Bool.not_true, Bool.not_false, if_true, if_false, reduceIte, Nat.reduceSub, Nat.reduceAdd, List.cons_append, List.nil_append, Bool.false_eq_true, decide_true, decide_false]
      · have h1 : z = 1 ∧ 0 < x := by omega
        simp only [D0, D2, eq_int, gt_int, decide_eq_false h2, decide_eq_true h1.1, decide_eq_true h1.2, szl0, szl1, szl2, szl3, szl4, szl5, szl6, szl7, fnC, esSeq, esIf, esAsg, esPar, esE, esRet, esRetN, esNil, esAug, esRaise, ecOr, ecAnd, ecNot, ecB, ecT, ev2, evFn, g1, g2, eaCons, eaNil, evVar, evC, evCall, evTup, evLst, evIf, evNeg, evChn, evMt, egN, egT, egsCons, egsNil, alc, alcs, opt_some, optB_some, optR_some, boT_b, R.bind_ok, R.to_ok, List.getElem?_cons_zero, List.getElem?_cons_succ, List.set_cons_zero, List.set_cons_succ, List.map_cons, List.map_nil, List.length_cons, List.length_nil, List.replicate_succ, List.replicate_zero, List.replicate, Option.map_some, Bool.not_true, Bool.not_false, if_true, if_false, reduceIte, Nat.reduceSub, Nat.reduceAdd, List.cons_append, List.nil_append, Bool.false_eq_true, decide_true, decide_false]
    have M := mod_int (a := x) hm h
    have Q := fdiv_int (a := x) hm hm2 h
    have S := s0 e (.int (x / m))
    refine nx_ret ?_
    show esIf _ _ _ [some (.ref i), some (.int m), none] h = _
    rw [if_tt hcond]
    rw [seq_nx (r1 := [some (.ref i), some (.int m), some (.int (x % m))]) (h1 := h) (by simp only [D0, toI_int, M, szl0, szl1, szl2, szl3, szl4, szl5, szl6, szl7, fnC, esSeq, esIf, esAsg, esPar, esE, esRet, esRetN, esNil, esAug, esRaise, ecOr, ecAnd, ecNot, ecB, ecT, ev2, evFn, g1, g2, eaCons, eaNil, evVar, evC, evCall, evTup, evLst, evIf, evNeg, evChn, evMt, egN, egT, egsCons, egsNil, alc, alcs, opt_some, optB_some, optR_some, boT_b, R.bind_ok, R.to_ok, List.getElem?_cons_zero, List.getElem?_cons_succ, List.set_cons_zero, List.set_cons_succ, List.map_cons, List.map_nil, List.length_cons, List.length_nil, List.replicate_succ, List.replicate_zero, List.replicate, Option.map_some, Bool.not_true, Bool.not_false, if_true, if_false, reduceIte, Nat.reduceSub, Nat.reduceAdd, List.cons_append, List.nil_append, Bool.false_eq_true, decide_true, decide_false])]
    rw [seq_nx (r1 := [some (.ref i), some (.int m), some (.int (x % m))]) (h1 := h.set i (.lst [.int (x / m), .int y, .int z])) (by simp only [egSub, D0, Q, S, szl0, szl1, szl2, szl3, szl4, szl5, szl6, szl7, fnC, esSeq, esIf, esAsg, esPar, esE, esRet, esRetN, esNil, esAug, esRaise, ecOr, ecAnd, ecNot, ecB, ecT, ev2, evFn, g1, g2, eaCons, eaNil, evVar, evC, evCall, evTup, evLst, evIf, evNeg, evChn, evMt, egN, egT, egsCons, egsNil, alc, alcs, opt_some, optB_some, optR_some, boT_b, R.bind_ok, R.to_ok, List.getElem?_cons_zero, List.getElem?_cons_succ, List.set_cons_zero, List.set_cons_succ, List.map_cons, List.map_nil, List.length_cons, List.length_nil, List.replicate_succ, List.replicate_zero, List.replicate, Option.map_some, Bool.not_true, Bool.not_false, if_true, if_false, reduceIte, Nat.reduceSub, Nat.reduceAdd, List.cons_append, List.nil_append, Bool.false_eq_true, decide_true, decide_false])]
    exact esRet_of (by simp only [szl0, szl1, szl2, szl3, szl4, szl5, szl6, szl7, fnC, esSeq, esIf, esAsg, esPar, esE, esRet, esRetN, esNil, esAug, esRaise, ecOr, ecAnd, ecNot, ecB, ecT, ev2, evFn, g1, g2, eaCons, eaNil, evVar, evC, evCall, evTup, evLst, evIf, evNeg, evChn, evMt, egN, egT, egsCons, egsNil, alc, alcs, opt_some, optB_some, optR_some, boT_b, R.bind_ok, R.to_ok, List.getElem?_cons_zero, List.getElem?_cons_succ, List.set_cons_zero, List.set_cons_succ, List.map_cons, List.map_nil, List.length_cons, List.length_nil, List.replicate_succ, List.replicate_zero, List.replicate, Option.map_some, Bool.not_true, Bool.not_false, if_true, if_false, reduceIte, Nat.reduceSub, Nat.reduceAdd, List.cons_append, List.nil_append, Bool.false_eq_true, decide_true, decide_false])
  · have hcond : ecOr (ecB (ev2 g_eq (ev2 g_ix (evVar 0) (evC (.int 2))) (evC (.int 2)))) (ecAnd (ecB (ev2 g_eq (ev2 g_ix (evVar 0) (evC (.int 2))) (evC (.int 1)))) (ecB (ev2 g_gt (ev2 g_ix (evVar 0) (evC (.int 0))) (evC (.int 0))))) [some (.ref i), some (.int m), none] h = .ok false h := by
      have h2 : ¬ z = 2 := fun q => hc (.inl q)
      by_cases h1 : z = 1
      · have h0 : ¬ 0 < x := fun q => hc (.inr ⟨h1, q⟩)
        simp only [D0, D2, eq_int, gt_int, decide_eq_false h2, decide_eq_true h1, decide_eq_false h0, szl0, szl1, szl2, szl3, szl4, szl5, szl6, szl7, fnC, esSeq, esIf, esAsg, esPar, esE, esRet, esRetN, esNil, esAug, esRaise, ecOr, ecAnd, ecNot, ecB, ecT, ev2, evFn, g1, g2, eaCons, eaNil, evVar, evC, evCall, evTup, evLst, evIf, evNeg, evChn, evMt, egN, egT, egsCons, egsNil, alc, alcs, opt_some, optB_some, optR_some, boT_b, R.bind_ok, R.to_ok, List.getElem?_cons_zero, List.getElem?_cons_succ, List.set_cons_zero, List.set_cons_succ, List.map_cons, List.map_nil, List.length_cons, List.length_nil, List.replicate_succ, List.replicate_zero, List.replicate, Option.map_some, Bool.not_true, Bool.not_false, if_true, if_false, reduceIte, Nat.reduceSub, Nat.reduceAdd, List.cons_append, List.nil_append, Bool.false_eq_true, decide_true, decide_false]
      · simp only [D0, D2, eq_int, gt_int, decide_eq_false h2, decide_eq_false h1, szl0, szl1, szl2, szl3, szl4, szl5, szl6, szl7, fnC, esSeq, esIf, esAsg, esPar, esE, esRet, esRetN, esNil, esAug, esRaise, ecOr, ecAnd, ecNot, ecB, ecT, ev2, evFn, g1, g2, eaCons, eaNil, evVar, evC, evCall, evTup, evLst, evIf, evNeg, evChn, evMt, egN, egT, egsCons, egsNil, alc, alcs, opt_some, optB_some, optR_some, boT_b, R.bind_ok, R.to_ok, List.getElem?_cons_zero, List.getElem?_cons_succ, List.set_cons_zero, List.set_cons_succ, List.map_cons, List.map_nil, List.length_cons, List.length_nil, List.replicate_succ, List.replicate_zero, List.replicate, Option.map_some, Bool.not_true, Bool.not_false, if_true, if_false, reduceIte, Nat.reduceSub, Nat.reduceAdd, List.cons_append, List.nil_append, Bool.false_eq_true, decide_true, decide_false]
    let x1 : Int := (x * 48271 + y * 69621 + 11) % 2147483647
    refine ⟨(x1 / 7 + x1) % m, x1, y + 1, 0, ?_, emod_in hm⟩
    refine fnC_rt (f := b__law_roll) ?_
    unfold b__law_roll
    have e1 : (h.set i (.lst [.int x, .int y, .int 0]))[i]? = some (.lst [.int x, .int y, .int 0]) := get_set hi
    have e2 : (h.set i (.lst [.int x1, .int y, .int 0]))[i]? = some (.lst [.int x1, .int y, .int 0]) := get_set hi
    have e3 : (h.set i (.lst [.int x1, .int (y + 1), .int 0]))[i]? = some (.lst [.int x1, .int (y + 1), .int 0]) := get_set hi
    have S1 := s2 e (.int 0)
    have S2 := s0 e1 (.int x1)
    rw [List.set_set] at S2
    have S3 := s1 e2 (.int (y + 1))
    rw [List.set_set] at S3
    have A0 := d0 e1
    have A1 := d1 e1
    have B1 := d1 e2
    have C0 := d0 e3
    have M1 := mul_int (a := x) (b := 48271) (by decide) (h.set i (.lst [.int x, .int y, .int 0]))
    have M2 := mul_int (a := y) (b := 69621) (by decide) (h.set i (.lst [.int x, .int y, .int 0]))
    have M3 := mod_int (a := x * 48271 + y * 69621 + 11) (b := 2147483647) (by decide) (h.set i (.lst [.int x, .int y, .int 0]))
    have M4 := fdiv_int (a := x1) (b := 7) (by decide) (by decide) (h.set i (.lst [.int x1, .int (y + 1), .int 0]))
    have M5 := mod_int (a := x1 / 7 + x1) hm (h.set i (.lst [.int x1, .int (y + 1), .int 0]))
    rw [seq_nx (r1 := [some (.ref i), some (.int m), none]) (h1 := h) (by
      show esIf _ _ _ [some (.ref i), some (.int m), none] h = _
      rw [if_ff hcond]; rfl)]
    rw [seq_nx (r1 := [some (.ref i), some (.int m), none]) (h1 := h.set i (.lst [.int x, .int y, .int 0])) (by simp only [egSub, S1, szl0, szl1, szl2, szl3, szl4, szl5, szl6, szl7, fnC, esSeq, esIf, esAsg, esPar, esE, esRet, esRetN, esNil, esAug, esRaise, ecOr, ecAnd, ecNot, ecB, ecT, ev2, evFn, g1, g2, eaCons, eaNil, evVar, evC, evCall, evTup, evLst, evIf, evNeg, evChn, evMt, egN, egT, egsCons, egsNil, alc, alcs, opt_some, optB_some, optR_some, boT_b, R.bind_ok, R.to_ok, List.getElem?_cons_zero, List.getElem?_cons_succ, List.set_cons_zero, List.set_cons_succ, List.map_cons, List.map_nil, List.length_cons, List.length_nil, List.replicate_succ, List.replicate_zero, List.replicate, Option.map_some, Bool.not_true, Bool.not_false, if_true, if_false, reduceIte, Nat.reduceSub, Nat.reduceAdd, List.cons_append, List.nil_append, Bool.false_eq_true, decide_true, decide_false])]
    rw [seq_nx (r1 := [some (.ref i), some (.int m), none]) (h1 := h.set i (.lst [.int x1, .int y, .int 0])) (by simp only [egSub, A0, A1, M1, M2, M3, add_int, toI_int, S2, x1, szl0, szl1, szl2, szl3, szl4, szl5, szl6, szl7, fnC, esSeq, esIf, esAsg, esPar, esE, esRet, esRetN, esNil, esAug, esRaise, ecOr, ecAnd, ecNot, ecB, ecT, ev2, evFn, g1, g2, eaCons, eaNil, evVar, evC, evCall, evTup, evLst, evIf, evNeg, evChn, evMt, egN, egT, egsCons, egsNil, alc, alcs, opt_some, optB_some, optR_some, boT_b, R.bind_ok, R.to_ok, List.getElem?_cons_zero, List.getElem?_cons_succ, List.set_cons_zero, List.set_cons_succ, List.map_cons, List.map_nil, List.length_cons, List.length_nil, List.replicate_succ, List.replicate_zero, List.replicate, Option.map_some, Bool.not_true, Bool.not_false, if_true, if_false, reduceIte, Nat.reduceSub, Nat.reduceAdd, List.cons_append, List.nil_append, Bool.false_eq_true, decide_true, decide_false])]
    rw [seq_nx (r1 := [some (.ref i), some (.int m), none]) (h1 := h.set i (.lst [.int x1, .int (y + 1), .int 0])) (by simp only [egSub, B1, add_int, S3, szl0, szl1, szl2, szl3, szl4, szl5, szl6, szl7, fnC, esSeq, esIf, esAsg, esPar, esE, esRet, esRetN, esNil, esAug, esRaise, ecOr, ecAnd, ecNot, ecB, ecT, ev2, evFn, g1, g2, eaCons, eaNil, evVar, evC, evCall, evTup, evLst, evIf, evNeg, evChn, evMt, egN, egT, egsCons, egsNil, alc, alcs, opt_some, optB_some, optR_some, boT_b, R.bind_ok, R.to_ok, List.getElem?_cons_zero, List.getElem?_cons_succ, List.set_cons_zero, List.set_cons_succ, List.map_cons, List.map_nil, List.length_cons, List.length_nil, List.replicate_succ, List.replicate_zero, List.replicate, Option.map_some, Bool.not_true, Bool.not_false, if_true, if_false, reduceIte, Nat.reduceSub, Nat.reduceAdd, List.cons_append, List.nil_append, Bool.false_eq_true, decide_true, decide_false])]
    exact esRet_of (by simp only [C0, M4, add_int, toI_int, M5, szl0, szl1, szl2, szl3, szl4, szl5, szl6, szl7, fnC, esSeq, esIf, esAsg, esPar, esE, esRet, esRetN, esNil, esAug, esRaise, ecOr, ecAnd, ecNot, ecB, ecT, ev2, evFn, g1, g2, eaCons, eaNil, evVar, evC, evCall, evTup, evLst, evIf, evNeg, evChn, evMt, egN, egT, egsCons, egsNil, alc, alcs, opt_some, optB_some, optR_some, boT_b, R.bind_ok, R.to_ok, List.getElem?_cons_zero, List.getElem?_cons_succ, List.set_cons_zero, List.set_cons_succ, List.map_cons, List.map_nil, List.length_cons, List.length_nil, List.replicate_succ, List.replicate_zero, List.replicate, Option.map_some, Bool.not_true, Bool.not_false, if_true, if_false, reduceIte, Nat.reduceSub, Nat.reduceAdd, List.cons_append, List.nil_append, Bool.false_eq_true, decide_true, decide_false])
theorem IsD.lt {h : List O} {i : Nat} (hd : IsD h i) : i < h.length := by obtain ⟨x, y, z, e⟩ := hd; exact (List.getElem?_eq_some_iff.mp e).1
/-- a call within our heap that gives a plain value -/
theorem callW_in {c : Cl} {ts : List T} {ds : List D} {h h1 h' : List O} {t : T} (hl : ts.all (lowT 0) = false) (e : alcs ts h = some (ds, h1)) (r : c ds h1 = .ok t h') (ht : lowT h.length t = true) : ∃ h'', callW c ts h = .ok t h'' ∧ (h'' = h' ∨ (h'' = h ∧ ∃ q, h' = h ++ q)) := by
  unfold callW
  rw [hl, e]
  simp only [Bool.false_eq_true, if_false, r, inpl, ht, if_true]
  by_cases hp : preO h h' = true
  · rw [if_pos hp]
    obtain ⟨q, eq⟩ := preO_eq hp
    exact ⟨h, rfl, .inr ⟨rfl, q, eq⟩⟩
  · rw [if_neg hp]
    exact ⟨h', rfl, .inl rfl⟩
theorem call_roll {h : List O} {i : Nat} {m : Int} (hd : IsD h i) (hm : 0 < m) (hm2 : m < 1073741824) : ∃ v x' y' z' : Int, callW c__law_roll [.v (.ref i), tI m] h = .ok (tI v) (h.set i (.lst [.int x', .int y', .int z'])) ∧ 0 ≤ v ∧ v < m := by
  obtain ⟨v, x', y', z', e, h1, h2⟩ := roll_run hd hm hm2
  obtain ⟨h'', e2, q⟩ := callW_in (ts := [.v (.ref i), tI m]) (h := h) (h1 := h) (ds := [.ref i, .int m]) rfl rfl e rfl
  refine ⟨v, x', y', z', ?_, h1, h2⟩
  rw [e2]
  rcases q with q | ⟨q, r, er⟩
  · rw [q]
  · have hl := congrArg List.length er
    rw [List.length_set, List.length_append] at hl
    have : r = [] := List.length_eq_zero_iff.mp (by omega)
    rw [this, List.append_nil] at er
    rw [q, er]
theorem IsD.set {h : List O} {i : Nat} (hd : IsD h i) (x y z : Int) : IsD (h.set i (.lst [.int x, .int y, .int z])) i := ⟨x, y, z, get_set hd.lt⟩
/-- a list made of bells drawn one by one -/
theorem row_run {h : List O} {i n : Nat} (hd : IsD h i) (lo : 0 < n) (hi : n ≤ 8) : ∃ (p : List Int) (x y z : Int) (J : List O), Pm n p ∧ c__law_row [.ref i, .int (n : Nat)] h = .ok (.v (rw p)) (h.set i (.lst [.int x, .int y, .int z]) ++ J) := by
  have hlt := hd.lt
  have hne0 : (h.length + 0) ≠ i := by omega
  let body : Es := (esE (evMt .L m_append (evVar 3) (eaCons (evMt .L m_popA (evVar 2) (eaCons (evCall c__law_roll (eaCons (evVar 0) (eaCons (evFn (g1 g_len) (eaCons (evVar 2) eaNil)) eaNil))) eaNil)) eaNil)))
  have hit : eiA iv1 (eaCons (evVar 1) eaNil) [some (.ref i), some (.int (n : Nat)), some (.ref h.length), some (.ref (h.length + 1)), none] (h ++ [.lst (dI (rg n)), .lst []]) = .ok (.fx (rgD 0 (n : Nat))) (h ++ [.lst (dI (rg n)), .lst []]) := eiA1 (by simp only [szl0, szl1, szl2, szl3, szl4, szl5, szl6, szl7, fnC, esSeq, esIf, esAsg, esPar, esE, esRet, esRetN, esNil, esAug, esRaise, ecOr, ecAnd, ecNot, ecB, ecT, ev2, evFn, g1, g2, eaCons, eaNil, evVar, evC, evCall, evTup, evLst, evIf, evNeg, evChn, evMt, egN, egT, egsCons, egsNil, alc, alcs, opt_some, optB_some, optR_some, boT_b, R.bind_ok, R.to_ok, List.getElem?_cons_zero, List.getElem?_cons_succ, List.set_cons_zero, List.set_cons_succ, List.map_cons, List.map_nil, List.length_cons, List.length_nil, List.replicate_succ, List.replicate_zero, List.replicate, Option.map_some, Bool.not_true, Bool.not_false, if_true, if_false, reduceIte, Nat.reduceSub, Nat.reduceAdd, List.cons_append, List.nil_append, Bool.false_eq_true, decide_true, decide_false]) (by omega)
  obtain ⟨x0, y0, z0, e0⟩ := hd
  have hset : h.set i (.lst [.int x0, .int y0, .int z0]) = h := by
    have := (List.getElem?_eq_some_iff.mp e0).2
    rw [← this, List.set_getElem_self]
  obtain ⟨r2, h2, ef, L, F, x, y, z, w, eP, eL, eF, er, eh⟩ := forR (g := egN 4) (b := body) hit
    (fun k r H => ∃ (L F : List Int) (x y z : Int) (w : Option D), (F ++ L).Perm (rg n) ∧ L.length = n - k ∧ F.length = k ∧ r = [some (.ref i), some (.int (n : Nat)), some (.ref h.length), some (.ref (h.length + 1)), w] ∧ H = h.set i (.lst [.int x, .int y, .int z]) ++ [.lst (dI L), .lst (dI F)])
    ⟨rg n, [], x0, y0, z0, none, .refl _, rg_length n, rfl, rfl, by rw [hset]; rfl⟩
    (fun k r H hk ⟨L, F, x, y, z, w, eP, eL, eF, er, eh⟩ => by
      subst er eh
      have hlen : (h.set i (.lst [.int x, .int y, .int z])).length = h.length := List.length_set
      let H := h.set i (.lst [.int x, .int y, .int z]) ++ [.lst (dI L), .lst (dI F)]
      have hdi : IsD H i := ⟨x, y, z, get_app (get_set hlt)⟩
      have gL : ∀ A : List O, A.length = h.length → (A ++ [O.lst (dI L), .lst (dI F)])[h.length]? = some (.lst (dI L)) := fun A hA => by
        rw [List.getElem?_append_right (by omega), hA, Nat.sub_self]; rfl
      have gF : ∀ (A : List O) (o : O) (F : List D), A.length = h.length → (A ++ [o, .lst F])[h.length + 1]? = some (.lst F) := fun A o F hA => by
        rw [List.getElem?_append_right (by omega), hA, Nat.add_sub_cancel_left]; rfl
      have hm : 0 < (L.length : Int) := by omega
      obtain ⟨v, x', y', z', er, v0, v1⟩ := call_roll hdi hm (by omega)
      have eset : H.set i (.lst [.int x', .int y', .int z']) = h.set i (.lst [.int x', .int y', .int z']) ++ [.lst (dI L), .lst (dI F)] := by
        show (h.set i _ ++ _).set i _ = _
        rw [List.set_append_left _ _ (by rw [hlen]; exact hlt), List.set_set]
      rw [eset] at er
      have hlen' : (h.set i (.lst [.int x', .int y', .int z'])).length = h.length := List.length_set
      have elen : g_len (.v (.ref h.length)) H = some (tI (L.length : Nat)) := by
        unfold g_len
        simp only [seqL, gL _ hlen, H, dI_length]
      have hv : v.toNat < L.length := by omega
      have hpop : m_popA (.v (.ref h.length)) [tI v] (h.set i (.lst [.int x', .int y', .int z']) ++ [.lst (dI L), .lst (dI F)]) = some (.v (.int (L.getD v.toNat 0)), h.set i (.lst [.int x', .int y', .int z']) ++ [.lst (dI (L.eraseIdx v.toNat)), .lst (dI F)]) := by
        have hl : lenOk (dI L) = true := by unfold lenOk; rw [dI_length]; exact decide_eq_true (by have : SZ = 16777216 := rfl; omega)
        have hg : (dI L)[v.toNat]? = some (.int (L.getD v.toNat 0)) := by
          unfold dI
          rw [List.getElem?_map, List.getElem?_eq_getElem hv, getD_at hv]; rfl
        have hx : ixN (dI L).length v = some v.toNat := by rw [dI_length, ixN_in v0 (by omega)]
        unfold m_popA
        simp only [ownL, gL _ hlen', hl, if_true, m_pop, hx, hg]
        rw [List.set_append_right _ _ (by omega), hlen', Nat.sub_self, eraseIdx_dI]; rfl
      have happ : m_append (.v (.ref (h.length + 1))) [.v (.int (L.getD v.toNat 0))] (h.set i (.lst [.int x', .int y', .int z']) ++ [.lst (dI (L.eraseIdx v.toNat)), .lst (dI F)]) = some (.v .non, h.set i (.lst [.int x', .int y', .int z']) ++ [.lst (dI (L.eraseIdx v.toNat)), .lst (dI (F ++ [L.getD v.toNat 0]))]) := by
        have hz : (dI F).length < SZ := by rw [dI_length, eF]; have : SZ = 16777216 := rfl; omega
        unfold m_append
        simp only [ownL, gF _ _ _ hlen', alc, if_pos hz]
        rw [List.set_append_right _ _ (by omega), hlen', Nat.add_sub_cancel_left]
        unfold dI
        rw [List.map_append]; rfl
      have t1 : tyOk H .L (.v (.ref (h.length + 1))) = true := by
        unfold tyOk
        simp only [seqL, gF _ _ _ hlen, H]; rfl
      have t2 : tyOk H .L (.v (.ref h.length)) = true := by
        unfold tyOk
        simp only [seqL, gL _ hlen, H]; rfl
      refine ⟨[some (.ref i), some (.int (n : Nat)), some (.ref h.length), some (.ref (h.length + 1)), some (.int (k : Nat))], H, [some (.ref i), some (.int (n : Nat)), some (.ref h.length), some (.ref (h.length + 1)), some (.int (k : Nat))], h.set i (.lst [.int x', .int y', .int z']) ++ [.lst (dI (L.eraseIdx v.toNat)), .lst (dI (F ++ [L.getD v.toNat 0]))], rfl, ?_, L.eraseIdx v.toNat, F ++ [L.getD v.toNat 0], x', y', z', some (.int (k : Nat)), ?_, ?_, ?_, rfl, rfl⟩
      · simp only [body, t1, t2, elen, er, hpop, happ, optH_some, szl0, szl1, szl2, szl3, szl4, szl5, szl6, szl7, fnC, esSeq, esIf, esAsg, esPar, esE, esRet, esRetN, esNil, esAug, esRaise, ecOr, ecAnd, ecNot, ecB, ecT, ev2, evFn, g1, g2, eaCons, eaNil, evVar, evC, evCall, evTup, evLst, evIf, evNeg, evChn, evMt, egN, egT, egsCons, egsNil, alc, alcs, opt_some, optB_some, optR_some, boT_b, R.bind_ok, R.to_ok, List.getElem?_cons_zero, List.getElem?_cons_succ, List.set_cons_zero, List.set_cons_succ, List.map_cons, List.map_nil, List.length_cons, List.length_nil, List.replicate_succ, List.replicate_zero, List.replicate, Option.map_some, Bool.not_true, Bool.not_false, if_true, if_false, reduceIte, Nat.reduceSub, Nat.reduceAdd, List.cons_append, List.nil_append, Bool.false_eq_true, decide_true, decide_false]
      · have := erase_perm hv
        rw [← getD_at hv] at this
        rw [List.append_assoc]
        exact (this.append_left F).trans eP
      · rw [List.length_eraseIdx_of_lt hv]; omega
      · rw [List.length_append, eF]; rfl)
  subst er eh
  have eL0 : L = [] := List.length_eq_zero_iff.mp (by omega)
  subst eL0
  rw [List.append_nil] at eP
  refine ⟨F, x, y, z, [.lst (dI []), .lst (dI F)], ⟨eP, lo, by omega⟩, ?_⟩
  have hlen : (h.set i (.lst [.int x, .int y, .int z])).length = h.length := List.length_set
  have e1 : er2 (evC (.int 1)) (ev2 g_add (evVar 1) (evC (.int 1))) [some (.ref i), some (.int (n : Nat)), none, none, none] h = .ok (1, (n : Nat) + 1) h := by
    simp only [er2, add_int, intT, optR_some, szl0, szl1, szl2, szl3, szl4, szl5, szl6, szl7, fnC, esSeq, esIf, esAsg, esPar, esE, esRet, esRetN, esNil, esAug, esRaise, ecOr, ecAnd, ecNot, ecB, ecT, ev2, evFn, g1, g2, eaCons, eaNil, evVar, evC, evCall, evTup, evLst, evIf, evNeg, evChn, evMt, egN, egT, egsCons, egsNil, alc, alcs, opt_some, optB_some, optR_some, boT_b, R.bind_ok, R.to_ok, List.getElem?_cons_zero, List.getElem?_cons_succ, List.set_cons_zero, List.set_cons_succ, List.map_cons, List.map_nil, List.length_cons, List.length_nil, List.replicate_succ, List.replicate_zero, List.replicate, Option.map_some, Bool.not_true, Bool.not_false, if_true, if_false, reduceIte, Nat.reduceSub, Nat.reduceAdd, List.cons_append, List.nil_append, Bool.false_eq_true, decide_true, decide_false]
  have e2 := evLrg_of e1 (rgOk_ok (by omega) (by omega) (by omega) (by omega))
  rw [rgD_one _ _ n (by omega)] at e2
  have e3 : (List.range n).map (fun (i : Nat) => D.int (1 + (i : Nat))) = dI (rg n) := by unfold dI rg; rw [List.map_map]; rfl
  rw [e3] at e2
  have et : g_tuple (.v (.ref (h.length + 1))) (h.set i (.lst [.int x, .int y, .int z]) ++ [.lst (dI []), .lst (dI F)]) = some (.v (rw F)) := by
    unfold g_tuple
    simp only [seqL]
    rw [List.getElem?_append_right (by omega), hlen, Nat.add_sub_cancel_left]; rfl
  refine fnC_rt (f := b__law_row) ?_
  unfold b__law_row
  rw [seq_nx (r1 := [some (.ref i), some (.int (n : Nat)), some (.ref h.length), some (.ref (h.length + 1)), none]) (h1 := h ++ [.lst (dI (rg n)), .lst []]) (by
    have e4 : eaCons (evLrg (er2 (evC (.int 1)) (ev2 g_add (evVar 1) (evC (.int 1))))) (eaCons (evLst eaNil) eaNil) [some (.ref i), some (.int (n : Nat)), none, none, none] h = .ok [.tl (dI (rg n)), .tl []] h := by
      have e5 : evLst eaNil [some (.ref i), some (.int (n : Nat)), none, none, none] h = .ok (.tl []) h := rfl
      unfold eaCons
      rw [e2, R.bind_ok, e5]; rfl
    show esPar 2 3 _ [some (.ref i), some (.int (n : Nat)), none, none, none] h = _
    unfold esPar
    rw [e4]
    simp only [szl0, szl1, szl2, szl3, szl4, szl5, szl6, szl7, fnC, esSeq, esIf, esAsg, esE, esRet, esRetN, esNil, esAug, esRaise, ecOr, ecAnd, ecNot, ecB, ecT, ev2, evFn, g1, g2, eaCons, eaNil, evVar, evC, evCall, evTup, evLst, evIf, evNeg, evChn, evMt, egN, egT, egsCons, egsNil, alc, alcs, opt_some, optB_some, optR_some, boT_b, R.bind_ok, R.to_ok, List.getElem?_cons_zero, List.getElem?_cons_succ, List.set_cons_zero, List.set_cons_succ, List.map_cons, List.map_nil, List.length_cons, List.length_nil, List.replicate_succ, List.replicate_zero, List.replicate, Option.map_some, Bool.not_true, Bool.not_false, if_true, if_false, reduceIte, Nat.reduceSub, Nat.reduceAdd, List.cons_append, List.nil_append, Bool.false_eq_true, decide_true, decide_false]
    rw [List.append_assoc, List.length_append]; rfl)]
  rw [seq_nx ef]
  exact esRet_of (by simp only [et, szl0, szl1, szl2, szl3, szl4, szl5, szl6, szl7, fnC, esSeq, esIf, esAsg, esPar, esE, esRet, esRetN, esNil, esAug, esRaise, ecOr, ecAnd, ecNot, ecB, ecT, ev2, evFn, g1, g2, eaCons, eaNil, evVar, evC, evCall, evTup, evLst, evIf, evNeg, evChn, evMt, egN, egT, egsCons, egsNil, alc, alcs, opt_some, optB_some, optR_some, boT_b, R.bind_ok, R.to_ok, List.getElem?_cons_zero, List.getElem?_cons_succ, List.set_cons_zero, List.set_cons_succ, List.map_cons, List.map_nil, List.length_cons, List.length_nil, List.replicate_succ, List.replicate_zero, List.replicate, Option.map_some, Bool.not_true, Bool.not_false, if_true, if_false, reduceIte, Nat.reduceSub, Nat.reduceAdd, List.cons_append, List.nil_append, Bool.false_eq_true, decide_true, decide_false])
end Kx
set_option Elab.async false
set_option linter.all false
set_option maxRecDepth 100000
namespace Kx
open Bz L2 PySem PySem.Spec

theorem dice_run (c : Int) : ∃ x y z : Int, c__law_dice [.int c] [] = .ok (.tl [.int x, .int y, .int z]) [] := by
  have p18 : g_pow (tI 10) (tI 18) [] = some (tI 1000000000000000000) := by kernel_rfl
  have e0 : ((0 : Int) - 10) = -10 := rfl
  by_cases h1 : -10 < c
  · by_cases h2 : c < 10
    · refine ⟨if c < 0 then -c else c, 0, 2, ?_⟩
      have ha : g_abs (tI c) [] = some (tI (if c < 0 then -c else c)) := rfl
      refine fnC_rt (f := b__law_dice) ?_
      unfold b__law_dice
      refine nx_ret ?_
      simp only [g_int, sub_int, e0, decide_eq_true h1, decide_eq_true h2, ha, szl0, szl1, szl2, szl3, szl4, szl5, szl6, szl7, fnC, esSeq, esIf, esAsg, esPar, esE, esRet, esRetN, esNil, esAug, esRaise, ecOr, ecAnd, ecNot, ecB, ecT, ev2, evFn, g1, g2, eaCons, eaNil, evVar, evC, evCall, evTup, evLst, evIf, evNeg, evChn, evMt, egN, egT, egsCons, egsNil, alc, alcs, opt_some, optB_some, optR_some, boT_b, R.bind_ok, R.to_ok, List.getElem?_cons_zero, List.getElem?_cons_succ, List.set_cons_zero, List.set_cons_succ, List.map_cons, List.map_nil, List.length_cons, List.length_nil, List.replicate_succ, List.replicate_zero, List.replicate, Option.map_some, Bool.not_true, Bool.not_false, if_true, if_false, reduceIte, Nat.reduceSub, Nat.reduceAdd, List.cons_append, List.nil_append, Bool.false_eq_true, decide_true, decide_false]
    · refine ⟨c, 1 + c % 1009, if decide (1000000000000000000 ≤ c) = true then 1 else 0, ?_⟩
      have hm := mod_int (a := c) (b := 1009) (by decide) []
      have hg : g_ge (tI c) (tI 1000000000000000000) [] = some (tB (decide (1000000000000000000 ≤ c))) := rfl
      have hb : ∀ b, g_toI (tB b) [] = some (tI (if b = true then 1 else 0)) := fun b => rfl
      refine fnC_rt (f := b__law_dice) ?_
      unfold b__law_dice
      rw [seq_nx (r1 := [some (.int c)]) (h1 := []) (by simp only [g_int, sub_int, e0, decide_eq_true h1, decide_eq_false h2, szl0, szl1, szl2, szl3, szl4, szl5, szl6, szl7, fnC, esSeq, esIf, esAsg, esPar, esE, esRet, esRetN, esNil, esAug, esRaise, ecOr, ecAnd, ecNot, ecB, ecT, ev2, evFn, g1, g2, eaCons, eaNil, evVar, evC, evCall, evTup, evLst, evIf, evNeg, evChn, evMt, egN, egT, egsCons, egsNil, alc, alcs, opt_some, optB_some, optR_some, boT_b, R.bind_ok, R.to_ok, List.getElem?_cons_zero, List.getElem?_cons_succ, List.set_cons_zero, List.set_cons_succ, List.map_cons, List.map_nil, List.length_cons, List.length_nil, List.replicate_succ, List.replicate_zero, List.replicate, Option.map_some, Bool.not_true, Bool.not_false, if_true, if_false, reduceIte, Nat.reduceSub, Nat.reduceAdd, List.cons_append, List.nil_append, Bool.false_eq_true, decide_true, decide_false])]
      exact esRet_of (by simp only [p18, hg, hb, toI_int, hm, add_int, szl0, szl1, szl2, szl3, szl4, szl5, szl6, szl7, fnC, esSeq, esIf, esAsg, esPar, esE, esRet, esRetN, esNil, esAug, esRaise, ecOr, ecAnd, ecNot, ecB, ecT, ev2, evFn, g1, g2, eaCons, eaNil, evVar, evC, evCall, evTup, evLst, evIf, evNeg, evChn, evMt, egN, egT, egsCons, egsNil, alc, alcs, opt_some, optB_some, optR_some, boT_b, R.bind_ok, R.to_ok, List.getElem?_cons_zero, List.getElem?_cons_succ, List.set_cons_zero, List.set_cons_succ, List.map_cons, List.map_nil, List.length_cons, List.length_nil, List.replicate_succ, List.replicate_zero, List.replicate, Option.map_some, Bool.not_true, Bool.not_false, if_true, if_false, reduceIte, Nat.reduceSub, Nat.reduceAdd, List.cons_append, List.nil_append, Bool.false_eq_true, decide_true, decide_false])
  · refine ⟨c, 1 + c % 1009, if decide (1000000000000000000 ≤ c) = true then 1 else 0, ?_⟩
    have hm := mod_int (a := c) (b := 1009) (by decide) []
    have hg : g_ge (tI c) (tI 1000000000000000000) [] = some (tB (decide (1000000000000000000 ≤ c))) := rfl
    have hb : ∀ b, g_toI (tB b) [] = some (tI (if b = true then 1 else 0)) := fun b => rfl
    refine fnC_rt (f := b__law_dice) ?_
    unfold b__law_dice
    rw [seq_nx (r1 := [some (.int c)]) (h1 := []) (by simp only [g_int, sub_int, e0, decide_eq_false h1, szl0, szl1, szl2, szl3, szl4, szl5, szl6, szl7, fnC, esSeq, esIf, esAsg, esPar, esE, esRet, esRetN, esNil, esAug, esRaise, ecOr, ecAnd, ecNot, ecB, ecT, ev2, evFn, g1, g2, eaCons, eaNil, evVar, evC, evCall, evTup, evLst, evIf, evNeg, evChn, evMt, egN, egT, egsCons, egsNil, alc, alcs, opt_some, optB_some, optR_some, boT_b, R.bind_ok, R.to_ok, List.getElem?_cons_zero, List.getElem?_cons_succ, List.set_cons_zero, List.set_cons_succ, List.map_cons, List.map_nil, List.length_cons, List.length_nil, List.replicate_succ, List.replicate_zero, List.replicate, Option.map_some, Bool.not_true, Bool.not_false, if_true, if_false, reduceIte, Nat.reduceSub, Nat.reduceAdd, List.cons_append, List.nil_append, Bool.false_eq_true, decide_true, decide_false])]
    exact esRet_of (by simp only [p18, hg, hb, toI_int, hm, add_int, szl0, szl1, szl2, szl3, szl4, szl5, szl6, szl7, fnC, esSeq, esIf, esAsg, esPar, esE, esRet, esRetN, esNil, esAug, esRaise, ecOr, ecAnd, ecNot, ecB, ecT, ev2, evFn, g1, g2, eaCons, eaNil, evVar, evC, evCall, evTup, evLst, evIf, evNeg, evChn, evMt, egN, egT, egsCons, egsNil, alc, alcs, opt_some, optB_some, optR_some, boT_b, R.bind_ok, R.to_ok, List.getElem?_cons_zero, List.getElem?_cons_succ, List.set_cons_zero, List.set_cons_succ, List.map_cons, List.map_nil, List.length_cons, List.length_nil, List.replicate_succ, List.replicate_zero, List.replicate, Option.map_some, Bool.not_true, Bool.not_false, if_true, if_false, reduceIte, Nat.reduceSub, Nat.reduceAdd, List.cons_append, List.nil_append, Bool.false_eq_true, decide_true, decide_false])
theorem call_dice (c : Int) : ∃ x y z : Int, ∀ h, callW c__law_dice [tI c] h = .ok (.tl [.int x, .int y, .int z]) h := by
  obtain ⟨x, y, z, e⟩ := dice_run c
  exact ⟨x, y, z, fun h => call_v (ds := [.int c]) rfl e rfl h⟩
theorem lcL_lists_at {v : IV} {t : Tg} {r0 : Rho} {b : Eb} {H : List O} {n : Nat} (e : Nat → List D) (it : Nat → D) (hi : ∀ k (J : List O), k < n → itemAt v k (H ++ J) = some (some (it k))) (he : ∀ J : List O, itemAt v n (H ++ J) = some none)
    (hs : ∀ k, k < n → ∀ J : List O, ∃ r1, setTg t (it k) r0 = some r1 ∧ b r1 (H ++ J) = .ok (some (.ref (H ++ J).length)) ((H ++ J) ++ [.lst (e k)])) (hz : n ≤ SZ)
    (m : Nat) : ∀ (k N : Nat), k + m = n → m < N →
      lcL v t r0 b N k ((List.range k).map fun j => D.ref (H.length + j)).reverse (H ++ (List.range k).map fun j => O.lst (e j)) = .ok ((List.range n).map fun j => D.ref (H.length + j)).reverse (H ++ (List.range n).map fun j => O.lst (e j)) := by
  induction m with
  | zero =>
    intro k N ek hN
    cases N with
    | zero => exact absurd hN (Nat.not_lt_zero _)
    | succ N =>
      have e0 : k = n := by omega
      subst e0
      rw [lcL, he]
  | succ m ih =>
    intro k N ek hN
    cases N with
    | zero => exact absurd hN (Nat.not_lt_zero _)
    | succ N =>
      have hk : k < n := by omega
      obtain ⟨r1, h1, h2⟩ := hs k hk ((List.range k).map fun j => O.lst (e j))
      have ih := ih (k + 1) N (by omega) (by omega)
      rw [lcL, hi k _ hk]
      simp only [h1, h2, R.bind_ok]
      rw [if_pos (by rw [List.length_reverse, List.length_map, List.length_range]; omega)]
      have a1 : ((List.range (k + 1)).map fun j => D.ref (H.length + j)).reverse = .ref (H ++ (List.range k).map fun j => O.lst (e j)).length :: ((List.range k).map fun j => D.ref (H.length + j)).reverse := by
        rw [List.range_succ, List.map_append, List.reverse_append, List.length_append, List.length_map, List.length_range]; rfl
      have a2 : (H ++ (List.range (k + 1)).map fun j => O.lst (e j)) = (H ++ (List.range k).map fun j => O.lst (e j)) ++ [.lst (e k)] := by
        rw [List.range_succ, List.map_append, List.append_assoc]; rfl
      rw [a1, a2] at ih
      exact ih
/-- the dice of the cells, made one by one -/
theorem lc_dice (cs : List Int) (hz : cs.length ≤ 12) (H : List O) (r : Rho) (i : Nat) (hr : r[2]? = some (some (.ref i))) (hg : H[i]? = some (.lst (dI cs))) (hlen : r.length = 4) :
    ∃ q : Nat → List D, (∀ k, ∃ x y z : Int, q k = [.int x, .int y, .int z]) ∧ evLc (eiT (evVar 2)) (.n 3) [3] eYes (evCall c__law_dice (eaCons (evVar 3) eaNil)) r H = .ok (.tl ((List.range cs.length).map fun j => D.ref (H.length + j))) (H ++ (List.range cs.length).map fun j => O.lst (q j)) := by
  have hq : ∀ k : Nat, ∃ l : List D, (∃ x y z : Int, l = [.int x, .int y, .int z]) ∧ ∀ h, callW c__law_dice [tI (cs.getD k 0)] h = .ok (.tl l) h := fun k => by
    obtain ⟨x, y, z, e⟩ := call_dice (cs.getD k 0)
    exact ⟨_, ⟨x, y, z, rfl⟩, e⟩
  refine ⟨fun k => (hq k).choose, fun k => (hq k).choose_spec.1, ?_⟩
  have e : ∀ k, ∀ h, callW c__law_dice [tI (cs.getD k 0)] h = .ok (.tl (hq k).choose) h := fun k => (hq k).choose_spec.2
  obtain ⟨a, b, c, d, er⟩ : ∃ a b c d, r = [a, b, c, d] := by
    match r, hlen with
    | [a, b, c, d], _ => exact ⟨a, b, c, d, rfl⟩
  subst er
  have hf : eiT (evVar 2) [a, b, c, d] H = .ok (.lv i) H := by
    have e1 : ivT H (.v (.ref i)) = some (.lv i) := by unfold ivT; simp only [hg]
    have : c = some (.ref i) := by simpa using hr
    subst this
    unfold eiT
    show optR H (ivT H (.v (.ref i))) = _
    rw [e1, optR_some]
  have := lcL_lists_at (H := H) (v := .lv i) (t := .n 3) (r0 := [a, b, c, none]) (b := lcT eYes (evCall c__law_dice (eaCons (evVar 3) eaNil))) (n := cs.length) (fun k => (hq k).choose) (fun k => .int (cs.getD k 0))
    (fun k J hk => by rw [itemAt, get_app hg]; simp only []; unfold dI; rw [List.getElem?_map, List.getElem?_eq_getElem hk, getD_at hk]; rfl)
    (fun J => by rw [itemAt, get_app hg]; simp only []; rw [List.getElem?_eq_none_iff.mpr (by rw [dI_length]; exact Nat.le_refl _)])
    (fun k hk J => ⟨[a, b, c, some (.int (cs.getD k 0))], rfl, lcT_tl (show callW c__law_dice [tI (cs.getD k 0)] (H ++ J) = _ from e k _)⟩) (sz12 hz) cs.length 0 (cs.length + 1) (by omega) (by omega)
  have e0 : H ++ (List.range 0).map (fun j => O.lst ((fun k => (hq k).choose) j)) = H := by simp
  have e00 : ((List.range 0).map fun j => D.ref (H.length + j)).reverse = [] := rfl
  rw [e0, e00] at this
  unfold evLc
  rw [hf, R.bind_ok]
  have ef : fuelV H (.lv i) = cs.length := by rw [fuelV, hg]; simp only [dI_length]
  rw [ef]
  show (lcL (.lv i) (.n 3) [a, b, c, none] (lcT eYes (evCall c__law_dice (eaCons (evVar 3) eaNil))) (cs.length + 1) 0 [] H).bind _ = _
  rw [this, R.bind_ok, List.reverse_reverse]
end Kx
set_option Elab.async false
set_option linter.all false
set_option maxRecDepth 100000
namespace Kx
open Bz L2 PySem PySem.Spec

mutual
theorem shD0 : ∀ d : D, shD 0 d = d
  | .non => rfl
  | .bl _ => rfl
  | .int _ => rfl
  | .str _ => rfl
  | .tup l => by rw [shD, shL0 l]
  | .fl l => by rw [shD, shL0 l]
  | .ref i => by rw [shD, Nat.zero_add]
theorem shL0 : ∀ l : List D, shL 0 l = l
  | [] => rfl
  | d :: l => by rw [shL, shD0 d, shL0 l]
end
theorem shP0 {κ : Type} : ∀ l : List (κ × D), shP 0 l = l
  | [] => rfl
  | (k, d) :: l => by rw [shP, shD0 d, shP0 l]
theorem shO0 (o : O) : shO 0 o = o := by
  cases o <;> simp [shO, shL0, shP0]
theorem shT0 (t : T) : shT 0 t = t := by
  cases t <;> simp [shT, shD0, shL0, shP0]
theorem map_shO0 : ∀ h : List O, h.map (shO 0) = h
  | [] => rfl
  | o :: h => by rw [List.map_cons, shO0, map_shO0 h]
theorem cut_two (ns : List Int) : cutD (dI ns) none (some 2) = dI (ns.take 2) := by
  unfold cutD
  have e : HT.sIx (dI ns).length (dI ns).length (some 2) = min 2 (dI ns).length := HT.sIx_nat _ _ 2
  rw [e, HT.sIx_none, List.drop_zero, Nat.sub_zero, dI_length]
  unfold dI
  rw [← List.map_take]
  rcases Nat.le_total 2 ns.length with h | h
  · rw [Nat.min_eq_left h]
  · rw [Nat.min_eq_right h, List.take_of_length_le (Nat.le_refl _), List.take_of_length_le h]
theorem eq_empty {H : List O} {i : Nat} {cs : List Int} (hg : H[i]? = some (.lst (dI cs))) : g_eq (.v (.ref i)) (.tl []) H = some (tB (decide (cs = []))) := by
  unfold g_eq
  have e1 : datT H (.v (.ref i)) = some (.list (cs.map .int)) := by
    show datF H 8 (.ref i) = _
    rw [datF, hg]
    simp only [omap_dI, Option.map_some]
  have e2 : datT H (.tl []) = some (.list (([] : List Int).map .int)) := rfl
  rw [e1, e2]
  simp only [eqv_tl]
theorem rounds_run2 {h : List O} {s : D} {ns : List Int} (hs : seqL h (.v s) = some (dI ns)) : ∃ (cs : List Int) (q : Nat → List D) (J : List O), 0 < cs.length ∧ (∀ k, ∃ x y z : Int, q k = [.int x, .int y, .int z]) ∧ 0 < J.length ∧
    c__law_rounds [s, .int 2] h = .ok (.tl ((List.range cs.length).map fun j => D.ref ((h ++ J).length + j))) ((h ++ J) ++ (List.range cs.length).map fun j => O.lst (q j)) := by
  have esl : g_sl (.v s) none (some 2) h = some (.tl (dI (ns.take 2))) := by
    unfold g_sl
    simp only [hs, cut_two]
  have hg : (h ++ [O.lst (dI (ns.take 2))])[h.length]? = some (.lst (dI (ns.take 2))) := by
    rw [List.getElem?_append_right (Nat.le_refl _), Nat.sub_self]; rfl
  have st1 : esAsg (evSl (evVar 0) eoN (eoS (evVar 1))) (egN 2) [some s, some (.int 2), none, none] h = .nx [some s, some (.int 2), some (.ref h.length), none] (h ++ [.lst (dI (ns.take 2))]) := by
    simp only [evSl, eoN, eoS, intT, esl, szl0, szl1, szl2, szl3, szl4, szl5, szl6, szl7, fnC, esSeq, esIf, esAsg, esPar, esE, esRet, esRetN, esNil, esAug, esRaise, ecOr, ecAnd, ecNot, ecB, ecT, ev2, evFn, g1, g2, eaCons, eaNil, evVar, evC, evCall, evTup, evLst, evIf, evNeg, evChn, evMt, egN, egT, egsCons, egsNil, alc, alcs, opt_some, optB_some, optR_some, boT_b, R.bind_ok, R.to_ok, List.getElem?_cons_zero, List.getElem?_cons_succ, List.set_cons_zero, List.set_cons_succ, List.map_cons, List.map_nil, List.length_cons, List.length_nil, List.replicate_succ, List.replicate_zero, List.replicate, Option.map_some, Bool.not_true, Bool.not_false, if_true, if_false, reduceIte, Nat.reduceSub, Nat.reduceAdd, List.cons_append, List.nil_append, Bool.false_eq_true, decide_true, decide_false]
  have he := eq_empty hg
  by_cases hn : ns.take 2 = []
  · rw [decide_eq_true hn] at he
    have hg2 : (h ++ [O.lst (dI (ns.take 2)), .lst (dI [0])])[(h ++ [O.lst (dI (ns.take 2))]).length]? = some (.lst (dI [0])) := by
      rw [List.length_append, List.getElem?_append_right (by omega), Nat.add_sub_cancel_left]; rfl
    obtain ⟨q, hq, e⟩ := lc_dice [0] (by decide) (h ++ [.lst (dI (ns.take 2)), .lst (dI [0])]) [some s, some (.int 2), some (.ref (h ++ [O.lst (dI (ns.take 2))]).length), none] (h ++ [O.lst (dI (ns.take 2))]).length rfl hg2 rfl
    refine ⟨[0], q, [.lst (dI (ns.take 2)), .lst (dI [0])], by decide, hq, Nat.succ_pos _, ?_⟩
    refine fnC_rt (f := b__law_rounds) ?_
    unfold b__law_rounds
    show esSeq _ _ [some s, some (.int 2), none, none] h = _
    rw [seq_nx st1]
    rw [seq_nx (r1 := [some s, some (.int 2), some (.ref (h ++ [O.lst (dI (ns.take 2))]).length), none]) (h1 := h ++ [.lst (dI (ns.take 2)), .lst (dI [0])]) (by
      simp only [he, szl0, szl1, szl2, szl3, szl4, szl5, szl6, szl7, fnC, esSeq, esIf, esAsg, esPar, esE, esRet, esRetN, esNil, esAug, esRaise, ecOr, ecAnd, ecNot, ecB, ecT, ev2, evFn, g1, g2, eaCons, eaNil, evVar, evC, evCall, evTup, evLst, evIf, evNeg, evChn, evMt, egN, egT, egsCons, egsNil, alc, alcs, opt_some, optB_some, optR_some, boT_b, R.bind_ok, R.to_ok, List.getElem?_cons_zero, List.getElem?_cons_succ, List.set_cons_zero, List.set_cons_succ, List.map_cons, List.map_nil, List.length_cons, List.length_nil, List.replicate_succ, List.replicate_zero, List.replicate, Option.map_some, Bool.not_true, Bool.not_false, if_true, if_false, reduceIte, Nat.reduceSub, Nat.reduceAdd, List.cons_append, List.nil_append, Bool.false_eq_true, decide_true, decide_false]
      rw [List.append_assoc]; rfl)]
    exact esRet_of e
  · rw [decide_eq_false hn] at he
    obtain ⟨q, hq, e⟩ := lc_dice (ns.take 2) (by rw [List.length_take]; omega) (h ++ [.lst (dI (ns.take 2))]) [some s, some (.int 2), some (.ref h.length), none] h.length rfl hg rfl
    refine ⟨ns.take 2, q, [.lst (dI (ns.take 2))], List.length_pos_iff.mpr hn, hq, Nat.succ_pos _, ?_⟩
    refine fnC_rt (f := b__law_rounds) ?_
    unfold b__law_rounds
    show esSeq _ _ [some s, some (.int 2), none, none] h = _
    rw [seq_nx st1]
    rw [seq_nx (r1 := [some s, some (.int 2), some (.ref h.length), none]) (h1 := h ++ [.lst (dI (ns.take 2))]) (by simp only [he, szl0, szl1, szl2, szl3, szl4, szl5, szl6, szl7, fnC, esSeq, esIf, esAsg, esPar, esE, esRet, esRetN, esNil, esAug, esRaise, ecOr, ecAnd, ecNot, ecB, ecT, ev2, evFn, g1, g2, eaCons, eaNil, evVar, evC, evCall, evTup, evLst, evIf, evNeg, evChn, evMt, egN, egT, egsCons, egsNil, alc, alcs, opt_some, optB_some, optR_some, boT_b, R.bind_ok, R.to_ok, List.getElem?_cons_zero, List.getElem?_cons_succ, List.set_cons_zero, List.set_cons_succ, List.map_cons, List.map_nil, List.length_cons, List.length_nil, List.replicate_succ, List.replicate_zero, List.replicate, Option.map_some, Bool.not_true, Bool.not_false, if_true, if_false, reduceIte, Nat.reduceSub, Nat.reduceAdd, List.cons_append, List.nil_append, Bool.false_eq_true, decide_true, decide_false])]
    exact esRet_of e
theorem low_refs {n b : Nat} {l : Nat} (h : 0 < n) (hb : l ≤ b) : lowL l ((List.range n).map fun j => D.ref (b + j)) = false := by
  cases n with
  | zero => omega
  | succ n =>
    rw [List.range_succ_eq_map, List.map_cons, lowL]
    have : lowD l (.ref (b + 0)) = false := by
      rw [lowD]
      cases hc : Nat.blt (b + 0) l with
      | false => rfl
      | true => have := (Nat.blt_eq).mp hc; omega
    rw [this]; rfl
theorem refs_get {G : List O} {n : Nat} (q : Nat → List D) {j : Nat} (hj : j < n) : (G ++ (List.range n).map fun j => O.lst (q j))[G.length + j]? = some (.lst (q j)) := by
  rw [List.getElem?_append_right (by omega), Nat.add_sub_cancel_left, List.getElem?_map, List.getElem?_range hj]; rfl
theorem unT_tl (n : Nat) (h : List O) (l : List D) : unT n h (.tl l) = none := rfl
/-- the dice of a script -/
theorem start_rounds {ns : List Int} {h0 : List O} {ds : List D} (st : Start (ns.map D.int) h0 ds) : ∃ (s : D) (base n : Nat) (H : List O), ds = [s] ∧ callW c__law_rounds [.v s, tI 2] h0 = .ok (.tl ((List.range n).map fun j => D.ref (base + j))) H ∧ ∀ j, j < n → IsD H (base + j) := by
  cases st with
  | fl =>
    obtain ⟨cs, q, J, hc, hq, hJ, e⟩ := rounds_run2 (h := []) (s := .fl (ns.map D.int)) (ns := ns) rfl
    refine ⟨_, ([] ++ J).length, cs.length, ([] ++ J) ++ (List.range cs.length).map fun j => O.lst (q j), rfl, ?_, fun j hj => ?_⟩
    · unfold callW
      have hl : [T.v (.fl (ns.map D.int)), tI 2].all (lowT 0) = true := by
        have : lowL 0 (ns.map D.int) = true := lowL_dI ns
        show (lowL 0 (ns.map D.int) && (true && true)) = true
        rw [this]; rfl
      rw [if_pos hl]
      show priv [] (c__law_rounds [.fl (ns.map D.int), .int 2] []) = _
      rw [e]
      unfold priv
      have hf : lowT 0 (.tl ((List.range cs.length).map fun j => D.ref (([] ++ J).length + j))) = false := low_refs hc (Nat.zero_le _)
      rw [List.nil_append] at hf ⊢
      simp only [hf, unT_tl, shT0, map_shO0, List.length_nil, List.nil_append, Bool.false_eq_true, if_false]
    · obtain ⟨x, y, z, eq⟩ := hq j
      exact ⟨x, y, z, by rw [refs_get q hj, eq]⟩
  | rf =>
    obtain ⟨cs, q, J, hc, hq, hJ, e⟩ := rounds_run2 (h := [.lst (ns.map D.int)]) (s := .ref 0) (ns := ns) rfl
    refine ⟨_, ([O.lst (ns.map D.int)] ++ J).length, cs.length, ([O.lst (ns.map D.int)] ++ J) ++ (List.range cs.length).map fun j => O.lst (q j), rfl, ?_, fun j hj => ?_⟩
    · unfold callW
      have hl : [T.v (.ref 0), tI 2].all (lowT 0) = false := rfl
      rw [hl]
      show inpl [O.lst (ns.map D.int)] (c__law_rounds [.ref 0, .int 2] [.lst (ns.map D.int)]) = _
      rw [e]
      have hf : lowT [O.lst (ns.map D.int)].length (.tl ((List.range cs.length).map fun j => D.ref (([O.lst (ns.map D.int)] ++ J).length + j))) = false := low_refs hc (by rw [List.length_append]; omega)
      have hp : preO [O.lst (ns.map D.int)] (([O.lst (ns.map D.int)] ++ J) ++ (List.range cs.length).map fun j => O.lst (q j)) = true := by
        rw [List.append_assoc]; exact preO_self _ _
      simp only [inpl, hp, hf, unT_tl, if_true, Bool.false_eq_true, if_false]
    · obtain ⟨x, y, z, eq⟩ := hq j
      exact ⟨x, y, z, by rw [refs_get q hj, eq]⟩
end Kx
set_option Elab.async false
set_option linter.all false
set_option maxRecDepth 100000
namespace Kx
open Bz L2 PySem PySem.Spec

/-! ### combinators, by their parts -/
section
variable {c : Cl} {a b : Ev} {f g : Ec} {r : Rho} {h h1 h2 : List O} {t u : T} {k : Bool}
theorem call1 (e : a r h = .ok t h1) : evCall c (eaCons a eaNil) r h = callW c [t] h1 := by
  unfold evCall eaCons eaNil; rw [e]; rfl
theorem call2 (e : a r h = .ok t h1) (e2 : b r h1 = .ok u h2) : evCall c (eaCons a (eaCons b eaNil)) r h = callW c [t, u] h2 := by
  unfold evCall eaCons eaNil; rw [e, R.bind_ok, e2]; rfl
theorem fn1e {G : T → List O → Option T} (e : a r h = .ok t h1) (e2 : G t h1 = some u) : evFn (g1 G) (eaCons a eaNil) r h = .ok u h1 := by
  unfold evFn eaCons eaNil; rw [e]
  show opt h1 (G t h1) = _
  rw [e2]; rfl
theorem bin {G : T → T → List O → Option T} {v : T} (e : a r h = .ok t h1) (e2 : b r h1 = .ok u h2) (e3 : G t u h2 = some v) : ev2 G a b r h = .ok v h2 := by
  unfold ev2; rw [e, R.bind_ok, e2, R.bind_ok, e3]; rfl
theorem ecb (e : a r h = .ok (tB k) h1) : ecB a r h = .ok k h1 := by
  unfold ecB; rw [e]; rfl
theorem or_ff (e : f r h = .ok false h1) (e2 : g r h1 = .ok k h2) : ecOr f g r h = .ok k h2 := by
  unfold ecOr; rw [e, R.bind_ok, if_neg (by decide), e2]
theorem if_no {F : Es} (e : f r h = .ok false h1) : esIf f F esNil r h = .nx r h1 := by
  rw [if_ff e]; rfl
theorem asgN {i : Nat} {d : D} {h3 : List O} (e : a r h = .ok t h1) (e2 : alc t h1 = some (d, h3)) : esAsg a (egN i) r h = .nx (r.set i (some d)) h3 := by
  unfold esAsg; rw [e, R.to_ok, e2]; rfl
theorem ne_of (e : a r h = .ok t h1) (e2 : b r h1 = .ok u h2) (e3 : g_ne t u h2 = some (tB (!k))) (hk : k = true) : ecB (ev2 g_ne a b) r h = .ok false h2 := by
  subst hk
  exact ecb (bin e e2 e3)
theorem ivf_t {F G : Ev} (e : f r h = .ok true h1) (e2 : F r h1 = .ok t h2) : evIf f F G r h = .ok t h2 := by
  unfold evIf; rw [e, R.bind_ok, if_pos rfl, e2]
theorem ivf_f {F G : Ev} (e : f r h = .ok false h1) (e2 : G r h1 = .ok t h2) : evIf f F G r h = .ok t h2 := by
  unfold evIf; rw [e, R.bind_ok, if_neg (by decide), e2]
end
/-- all dice stay dice -/
def Kpd (h h' : List O) : Prop := ∀ j, IsD h j → IsD h' j
theorem Kpd.refl (h : List O) : Kpd h h := fun _ d => d
theorem Kpd.trans {h h1 h2 : List O} (a : Kpd h h1) (b : Kpd h1 h2) : Kpd h h2 := fun j d => b j (a j d)
theorem Kpd.app (h J : List O) : Kpd h (h ++ J) := fun j ⟨x, y, z, e⟩ => ⟨x, y, z, get_app e⟩
theorem Kpd.set {h : List O} {i : Nat} (hi : i < h.length) (x y z : Int) : Kpd h (h.set i (.lst [.int x, .int y, .int z])) := fun j ⟨x', y', z', e⟩ => by
  by_cases ej : i = j
  · subst ej; exact ⟨x, y, z, get_set hi⟩
  · exact ⟨x', y', z', by rw [List.getElem?_set_ne ej]; exact e⟩
theorem call_row {h : List O} {i n : Nat} (hd : IsD h i) (lo : 0 < n) (hi : n ≤ 8) : ∃ (p : List Int) (h' : List O), Pm n p ∧ callW c__law_row [.v (.ref i), tI (n : Nat)] h = .ok (.v (rw p)) h' ∧ Kpd h h' := by
  obtain ⟨p, x, y, z, J, hp, e⟩ := row_run hd lo hi
  obtain ⟨h'', e2, q⟩ := callW_in (ts := [.v (.ref i), tI (n : Nat)]) (h := h) (h1 := h) (ds := [.ref i, .int (n : Nat)]) rfl rfl e (low_trw p)
  refine ⟨p, h'', hp, e2, ?_⟩
  rcases q with q | ⟨q, _⟩
  · rw [q]; exact (Kpd.set hd.lt x y z).trans (Kpd.app _ _)
  · rw [q]; exact Kpd.refl h
abbrev lr (s d x2 x3 x4 x5 x6 x7 x8 x9 : Option D) : Rho := [s, d, x2, x3, x4, x5, x6, x7, x8, x9, none, none, none, none]
section
variable {s : Option D} {d x2 x3 x4 x5 x6 x7 x8 x9 : Option D} {n : Nat} {p q : List Int} {h : List O}
/-- tuple([one[other[k] - 1] for k in range(stage)]) -/
theorem L_put (hp : Pm n p) (hq : Pm n q) : evFn (g1 g_tuple) (eaCons (evLc (eiA iv1 (eaCons (evVar 2) eaNil)) (.n 10) [10] eYes (ev2 g_ix (evVar 3) (ev2 g_sub (ev2 g_ix (evVar 4) (evVar 10)) (evC (.int 1))))) eaNil) (lr s d (some (.int (n : Nat))) (some (rw p)) (some (rw q)) x5 x6 x7 x8 x9) h = .ok (.v (rw (cmp p q))) h := by
  have hn := hp.hi
  have e0 : eiA iv1 (eaCons (evVar 2) eaNil) (lr s d (some (.int (n : Nat))) (some (rw p)) (some (rw q)) x5 x6 x7 x8 x9) h = .ok (.fx (rgD 0 (n : Nat))) h := eiA1 rfl (by omega)
  have e1 := evLc_fx (t := .n 10) (vs := [10]) (c := eYes) (g := ev2 g_ix (evVar 3) (ev2 g_sub (ev2 g_ix (evVar 4) (evVar 10)) (evC (.int 1)))) e0 (by rw [rgD_len]; exact sz12 hn)
    (fun d => match d with
      | .int k => some (.int (ap p (q.getD k.toNat 0)))
      | _ => none) (fun d0 hd => by
      obtain ⟨k, hk, rfl⟩ := rgD_mem hd
      refine ⟨_, rfl, ?_⟩
      have i1 := ix_nat hq hk h
      have i2 := ix_ap hp (at_mem hq hk) h
      have e2 : ev2 g_ix (evVar 3) (ev2 g_sub (ev2 g_ix (evVar 4) (evVar 10)) (evC (.int 1))) ((wipeR (lr s d (some (.int (n : Nat))) (some (rw p)) (some (rw q)) x5 x6 x7 x8 x9) [10]).set 10 (some (.int (k : Nat)))) h = .ok (tI (ap p (q.getD k 0))) h :=
        bin (t := .v (rw p)) (u := tI (q.getD k 0 - 1)) rfl (bin (t := tI (q.getD k 0)) (u := tI 1) (bin (t := .v (rw q)) (u := tI (k : Nat)) rfl rfl i1) rfl rfl) i2
      unfold lcT
      show (R.no (R.ok true h)).bind _ = _
      simp only [R.no, R.bind_ok, if_true]
      show (R.no (ev2 g_ix (evVar 3) (ev2 g_sub (ev2 g_ix (evVar 4) (evVar 10)) (evC (.int 1))) ((wipeR (lr s d (some (.int (n : Nat))) (some (rw p)) (some (rw q)) x5 x6 x7 x8 x9) [10]).set 10 (some (.int (k : Nat)))) h)).bind _ = _
      rw [e2]
      rfl)
  have e3 : (rgD 0 (n : Nat)).filterMap (fun d => match d with
      | .int k => some (.int (ap p (q.getD k.toNat 0)))
      | _ => none) = dI (cmp p q) := by
    rw [rgD_map, List.filterMap_map]
    have : ((fun d : D => match d with
      | .int k => some (D.int (ap p (q.getD k.toNat 0)))
      | _ => none) ∘ fun (k : Nat) => D.int (k : Nat)) = fun k : Nat => some (D.int (ap p (q.getD k 0))) := by
      funext k; rfl
    rw [this, List.filterMap_eq_map']
    unfold dI cmp
    rw [List.map_map, ← hq.len]
    apply List.ext_getElem
    · simp
    · intro j h1 h2
      rw [List.getElem_map, List.getElem_map, List.getElem_range]
      have hj : j < q.length := by simpa using h2
      rw [getD_at hj]; rfl
  rw [e3] at e1
  exact fn1e e1 rfl
end
end Kx
set_option Elab.async false
set_option linter.all false
set_option maxRecDepth 100000
namespace Kx
open Bz L2 PySem PySem.Spec

section
variable {s : Option D} {d x2 x3 x4 x5 x6 x7 x8 x9 : Option D} {n : Nat} {p q : List Int} {h : List O}
/-- a one for each earlier that is greater -/
def ones (p : List Int) (k : Nat) : List Int := (List.range k).filterMap fun j => if p.getD k 0 < p.getD j 0 then some 1 else none
theorem ones_len (p : List Int) (k : Nat) : (ones p k).length = wr p k := by
  unfold ones wr
  rw [List.length_filterMap_eq_countP]
  refine List.countP_congr fun j _ => ?_
  by_cases e : p.getD k 0 < p.getD j 0
  · rw [if_pos e, decide_eq_true e]; simp
  · rw [if_neg e, decide_eq_false e]; simp
theorem ones_flat (p : List Int) : ∀ n, (((List.range n).map (ones p)).flatten).length = wrs p n
  | 0 => rfl
  | n + 1 => by
    have := ones_flat p n
    unfold wrs at this ⊢
    rw [List.range_succ, List.map_append, List.flatten_append, List.length_append, this, List.map_append, List.sum_append]
    simp [ones_len]
theorem L_inner (hp : Pm n p) {k : Nat} (hk : k < n) (J : List O) : evLc (eiA iv1 (eaCons (evVar 10) eaNil)) (.n 11) [11] (ecB (ev2 g_gt (ev2 g_ix (evVar 3) (evVar 11)) (ev2 g_ix (evVar 3) (evVar 10)))) (evC (.int 1))
    [s, d, x2, some (rw p), x4, x5, x6, x7, x8, x9, some (.int (k : Nat)), none, none, none] J = .ok (.tl (dI (ones p k))) J := by
  have hn := hp.hi
  have e0 : eiA iv1 (eaCons (evVar 10) eaNil) [s, d, x2, some (rw p), x4, x5, x6, x7, x8, x9, some (.int (k : Nat)), none, none, none] J = .ok (.fx (rgD 0 (k : Nat))) J := eiA1 rfl (by omega)
  have e1 := evLc_fx (t := .n 11) (vs := [11]) (c := ecB (ev2 g_gt (ev2 g_ix (evVar 3) (evVar 11)) (ev2 g_ix (evVar 3) (evVar 10)))) (g := evC (.int 1)) e0 (by rw [rgD_len]; exact sz12 (by omega))
    (fun d => match d with
      | .int j => if p.getD k 0 < p.getD j.toNat 0 then some (.int 1) else none
      | _ => none) (fun d0 hd => by
      obtain ⟨j, hj, rfl⟩ := rgD_mem hd
      refine ⟨_, rfl, ?_⟩
      have i1 := ix_nat hp (k := j) (by omega) J
      have i2 := ix_nat hp hk J
      have e2 : ecB (ev2 g_gt (ev2 g_ix (evVar 3) (evVar 11)) (ev2 g_ix (evVar 3) (evVar 10))) ((wipeR [s, d, x2, some (rw p), x4, x5, x6, x7, x8, x9, some (.int (k : Nat)), none, none, none] [11]).set 11 (some (.int (j : Nat)))) J = .ok (decide (p.getD k 0 < p.getD j 0)) J :=
        ecb (bin (t := tI (p.getD j 0)) (u := tI (p.getD k 0)) (bin (t := .v (rw p)) (u := tI (j : Nat)) rfl rfl i1) (bin (t := .v (rw p)) (u := tI (k : Nat)) rfl rfl i2) rfl)
      unfold lcT
      show (R.no (ecB (ev2 g_gt (ev2 g_ix (evVar 3) (evVar 11)) (ev2 g_ix (evVar 3) (evVar 10))) ((wipeR [s, d, x2, some (rw p), x4, x5, x6, x7, x8, x9, some (.int (k : Nat)), none, none, none] [11]).set 11 (some (.int (j : Nat)))) J)).bind _ = _
      rw [e2]
      by_cases hc : p.getD k 0 < p.getD j 0
      · rw [decide_eq_true hc]
        simp only [Int.toNat_natCast, if_pos hc]; rfl
      · rw [decide_eq_false hc]
        simp only [Int.toNat_natCast, if_neg hc]; rfl)
  have e3 : (rgD 0 (k : Nat)).filterMap (fun d => match d with
      | .int j => if p.getD k 0 < p.getD j.toNat 0 then some (.int 1) else none
      | _ => none) = dI (ones p k) := by
    rw [rgD_map, List.filterMap_map]
    unfold dI ones
    rw [List.map_filterMap]
    refine congrArg (fun f => List.filterMap f (List.range k)) (funext fun j => ?_)
    show (if p.getD k 0 < p.getD j 0 then some (D.int 1) else none) = Option.map D.int (if p.getD k 0 < p.getD j 0 then some 1 else none)
    by_cases hc : p.getD k 0 < p.getD j 0
    · rw [if_pos hc, if_pos hc]; rfl
    · rw [if_neg hc, if_neg hc]; rfl
  rw [e3] at e1
  exact e1
theorem rgD_at {n k : Nat} (hk : k < (rgD 0 (n : Nat)).length) : (rgD 0 (n : Nat))[k] = .int (k : Nat) := by simp only [rgD_map, List.getElem_map, List.getElem_range]
/-- len(_law_flat([[1 for j in range(k) if one[j] > one[k]] for k in range(stage)])) -/
theorem L_wrong (hp : Pm n p) : ∃ J, evFn (g1 g_len) (eaCons (evCall c__law_flat (eaCons (evLc (eiA iv1 (eaCons (evVar 2) eaNil)) (.n 10) [10] eYes (evLc (eiA iv1 (eaCons (evVar 10) eaNil)) (.n 11) [11] (ecB (ev2 g_gt (ev2 g_ix (evVar 3) (evVar 11)) (ev2 g_ix (evVar 3) (evVar 10)))) (evC (.int 1)))) eaNil)) eaNil)
    (lr s d (some (.int (n : Nat))) (some (rw p)) x4 x5 x6 x7 x8 x9) h = .ok (tI (ivn p : Nat)) (h ++ J) := by
  have hn := hp.hi
  have hl : (rgD 0 (n : Nat)).length = n := rgD_len n
  have e0 : eiA iv1 (eaCons (evVar 2) eaNil) (lr s d (some (.int (n : Nat))) (some (rw p)) x4 x5 x6 x7 x8 x9) h = .ok (.fx (rgD 0 (n : Nat))) h := eiA1 rfl (by omega)
  have e1 := evLc_lists (t := .n 10) (vs := [10]) (g := evLc (eiA iv1 (eaCons (evVar 10) eaNil)) (.n 11) [11] (ecB (ev2 g_gt (ev2 g_ix (evVar 3) (evVar 11)) (ev2 g_ix (evVar 3) (evVar 10)))) (evC (.int 1))) (fun k => dI (ones p k)) e0 (by rw [hl]; exact sz12 hn) fun k hk J => by
    rw [hl] at hk
    rw [rgD_at]
    exact ⟨_, rfl, L_inner hp hk (h ++ J)⟩
  rw [hl] at e1
  have hz : ∀ j, j ≤ n → (((List.range j).map (ones p)).flatten).length ≤ 1000 := fun j hj => by
    rw [ones_flat]
    have := wrs_le p n hn j hj
    omega
  have e2 := call_flat (h := h ++ (List.range n).map fun j => O.lst (dI (ones p j))) (n := n) h.length (ones p) hp.lo (fun j hj => refs_get (fun j => dI (ones p j)) hj) hz fun j hj => by
    rw [ones_len]
    have := wr_le p j
    omega
  refine ⟨(List.range n).map fun j => O.lst (dI (ones p j)), ?_⟩
  have ew : wrs p n = ivn p := by have := wrs_eq p; rw [hp.len] at this; exact this
  refine fn1e ((call1 e1).trans e2) ?_
  show some (tI (dI _).length) = _
  rw [dI_length, ones_flat, ew]
/-- sorted(_law_flat([[place for place in ring] for ring in rings(one)])) -/
theorem L_rings (hp : Pm n p) : ∃ J, evFn (g1 g_sorted) (eaCons (evCall c__law_flat (eaCons (evLc (eiT (evCall c_rings (eaCons (evVar 3) eaNil))) (.n 12) [12] eYes (evLc (eiT (evVar 12)) (.n 13) [13] eYes (evVar 13))) eaNil)) eaNil)
    (lr s d x2 (some (rw p)) x4 x5 x6 x7 x8 x9) h = .ok (.tl (dI (rg n))) (h ++ J) := by
  obtain ⟨F, hF, e⟩ := call_rings hp
  have hn := hp.hi
  have lo := hp.lo
  have hfl := hF.all.length_eq
  rw [rg_length] at hfl
  have hlen := (ivn_rings hp hF).2
  have hl : (F.map rw).length = F.length := List.length_map ..
  have sub : ∀ k, k < F.length → (F.getD k []).length ≤ 12 := fun k hk => by
    have : F.getD k [] = F[k] := by rw [List.getD_eq_getElem?_getD, List.getElem?_eq_getElem hk]; rfl
    rw [this]
    have := (List.sublist_flatten_of_mem (List.getElem_mem hk)).length_le
    omega
  have e0 : eiT (evCall c_rings (eaCons (evVar 3) eaNil)) (lr s d x2 (some (rw p)) x4 x5 x6 x7 x8 x9) h = .ok (.fx (F.map rw)) h := by
    unfold eiT
    rw [(call1 (t := .v (rw p)) rfl).trans (e h), R.bind_ok]; rfl
  have e1 := evLc_lists (t := .n 12) (vs := [12]) (g := evLc (eiT (evVar 12)) (.n 13) [13] eYes (evVar 13)) (fun k => dI (F.getD k [])) e0 (by rw [hl]; exact sz12 (by omega)) fun k hk J => by
    rw [hl] at hk
    rw [List.getElem_map]
    have ek : F.getD k [] = F[k] := by rw [List.getD_eq_getElem?_getD, List.getElem?_eq_getElem hk]; rfl
    rw [ek]
    refine ⟨_, rfl, ?_⟩
    have := evLc_ints (i := 13) (vs := [13]) (g := evVar 13) (f := eiT (evVar 12)) (r := (wipeR (lr s d x2 (some (rw p)) x4 x5 x6 x7 x8 x9) [12]).set 12 (some (rw F[k]))) (h := h ++ J) (h1 := h ++ J) (p := F[k]) rfl (by have := sub k hk; rw [ek] at this; exact sz12 this) (fun x => .int x) fun x _ => rfl
    exact this
  rw [hl] at e1
  have hflat : ∀ j, j ≤ F.length → ((List.range j).map fun k => F.getD k []).flatten = (F.take j).flatten := fun j hj => by
    congr 1
    apply List.ext_getElem
    · simp; omega
    · intro i h1 h2
      have hi : i < F.length := by rw [List.length_take] at h2; omega
      rw [List.getElem_map, List.getElem_range, List.getElem_take, List.getD_eq_getElem?_getD, List.getElem?_eq_getElem hi]; rfl
  have hz : ∀ j, j ≤ F.length → (((List.range j).map fun k => F.getD k []).flatten).length ≤ 1000 := fun j hj => by
    rw [hflat j hj]
    have : (F.take j).flatten.length ≤ F.flatten.length := by
      have h1 : F = F.take j ++ F.drop j := (List.take_append_drop j F).symm
      have h2 : F.flatten.length = (F.take j).flatten.length + (F.drop j).flatten.length := by
        have := congrArg (fun G : List (List Int) => G.flatten.length) h1
        simp only [List.flatten_append, List.length_append] at this
        exact this
      omega
    omega
  have hpos : 0 < F.length := by
    cases F with
    | nil =>
      have : (0 : Nat) = n := hfl
      omega
    | cons _ _ => simp
  have e2 := call_flat (h := h ++ (List.range F.length).map fun j => O.lst (dI (F.getD j []))) (n := F.length) h.length (fun k => F.getD k []) hpos (fun j hj => refs_get (fun j => dI (F.getD j [])) hj) hz fun j hj => by
    have := sub j hj
    show (F.getD j []).length ≤ 1000
    omega
  rw [hflat F.length (Nat.le_refl _), List.take_length] at e2
  refine ⟨(List.range F.length).map fun j => O.lst (dI (F.getD j [])), ?_⟩
  refine fn1e ((call1 e1).trans e2) ?_
  rw [sorted_of (src_tl _ _) (by rw [hfl]; exact sz12 hn), sortI_rg hF.all]
/-- the loop that puts the row on -/
theorem L_while {o : Nat} (hp : Pm n p) (ho : IsOrd n p o) : esWh FUEL (ecB (ev2 g_ne (evVar 7) (evCall c_rounds (eaCons (evVar 2) eaNil)))) (esPar 7 8 (eaCons (evCall c_put (eaCons (evVar 7) (eaCons (evVar 3) eaNil))) (eaCons (ev2 g_add (evVar 8) (evC (.int 1))) eaNil)))
    (lr s d (some (.int (n : Nat))) (some (rw p)) x4 x5 x6 (some (rw p)) (some (.int 1)) x9) h = .nx (lr s d (some (.int (n : Nat))) (some (rw p)) x4 x5 x6 (some (rw (rg n))) (some (.int (o : Nat))) x9) h := by
  have op := ho.pos
  have o2 := small_ord ho hp.hi
  obtain ⟨r2, h2, e, er, eh⟩ := whL_run (c := ecB (ev2 g_ne (evVar 7) (evCall c_rounds (eaCons (evVar 2) eaNil)))) (b := esPar 7 8 (eaCons (evCall c_put (eaCons (evVar 7) (eaCons (evVar 3) eaNil))) (eaCons (ev2 g_add (evVar 8) (evC (.int 1))) eaNil)))
    (Q := fun r h' => r = lr s d (some (.int (n : Nat))) (some (rw p)) x4 x5 x6 (some (rw (rg n))) (some (.int (o : Nat))) x9 ∧ h' = h)
    (fun m r h' => ∃ c : Nat, 0 < c ∧ c + m = o ∧ r = lr s d (some (.int (n : Nat))) (some (rw p)) x4 x5 x6 (some (rw (pw n p c))) (some (.int (c : Nat))) x9 ∧ h' = h)
    (fun m r h' ⟨c, hc, em, er, eh⟩ => by
      subst er eh
      have hr : evCall c_rounds (eaCons (evVar 2) eaNil) (lr s d (some (.int (n : Nat))) (some (rw p)) x4 x5 x6 (some (rw (pw n p c))) (some (.int (c : Nat))) x9) h' = .ok (.v (rw (rg n))) h' := (call1 (t := tI (n : Nat)) rfl).trans (call_rounds n hp.lo hp.hi h')
      have hcond := ecb (bin (a := evVar 7) (t := .v (rw (pw n p c))) rfl hr (ne_rw h' (pw n p c) (rg n)))
      by_cases hh : pw n p c = rg n
      · left
        have hd := (ho.home c).mp hh
        have : c = o := Nat.le_antisymm (by omega) (Nat.le_of_dvd hc hd)
        subst this
        rw [decide_eq_true hh] at hcond
        exact ⟨h', hcond, by rw [hh], rfl⟩
      · right
        rw [decide_eq_false hh] at hcond
        have hne : c ≠ o := fun z => hh ((ho.home c).mpr (z ▸ Nat.dvd_refl _))
        have hput : evCall c_put (eaCons (evVar 7) (eaCons (evVar 3) eaNil)) (lr s d (some (.int (n : Nat))) (some (rw p)) x4 x5 x6 (some (rw (pw n p c))) (some (.int (c : Nat))) x9) h' = .ok (.v (rw (pw n p (c + 1)))) h' := (call2 (t := .v (rw (pw n p c))) (u := .v (rw p)) rfl rfl).trans (call_put (hp.pw c) hp h')
        refine ⟨h', lr s d (some (.int (n : Nat))) (some (rw p)) x4 x5 x6 (some (rw (pw n p (c + 1)))) (some (.int ((c + 1 : Nat) : Int))) x9, h', m - 1, hcond, ?_, by omega, c + 1, by omega, by omega, rfl, rfl⟩
        unfold esPar eaCons
        unfold eaCons at hput
        rw [hput]
        rfl)
    FUEL (o - 1) (lr s d (some (.int (n : Nat))) (some (rw p)) x4 x5 x6 (some (rw p)) (some (.int 1)) x9) h (by have : FUEL = 100000 := rfl; omega) ⟨1, by decide, by omega, by rw [pw_one hp]; rfl, rfl⟩
  subst er eh
  exact e
end
end Kx
set_option Elab.async false
set_option linter.all false
set_option maxRecDepth 100000
namespace Kx
open Bz L2 PySem PySem.Spec

/-! ### the law's statements, one by one -/
def isTr (r : R T) : Bool := match r with
  | .ok (.v (.bl true)) _ => true
  | _ => false
theorem isTr_ok {r : R T} (h : isTr r = true) : ∃ h', r = .ok (.v (.bl true)) h' := by
  unfold isTr at h
  split at h
  · exact ⟨_, rfl⟩
  · cases h
theorem rest_3 : isTr (c__law_rest1 [.int (3 : Nat)] []) = true := by decide +kernel
theorem rest_4 : isTr (c__law_rest1 [.int (4 : Nat)] []) = true := by decide +kernel
theorem rest_5 : isTr (c__law_rest1 [.int (5 : Nat)] []) = true := by decide +kernel
theorem rest_6 : isTr (c__law_rest1 [.int (6 : Nat)] []) = true := by decide +kernel
theorem rest_7 : isTr (c__law_rest1 [.int (7 : Nat)] []) = true := by decide +kernel
theorem rest_8 : isTr (c__law_rest1 [.int (8 : Nat)] []) = true := by decide +kernel
theorem call_rest {n : Nat} (h3 : 3 ≤ n) (h8 : n ≤ 8) (h : List O) : callW c__law_rest1 [tI (n : Nat)] h = .ok (tB true) h := by
  have : isTr (c__law_rest1 [.int (n : Nat)] []) = true := by
    have : n = 3 ∨ n = 4 ∨ n = 5 ∨ n = 6 ∨ n = 7 ∨ n = 8 := by omega
    rcases this with rfl | rfl | rfl | rfl | rfl | rfl
    · exact rest_3
    · exact rest_4
    · exact rest_5
    · exact rest_6
    · exact rest_7
    · exact rest_8
  obtain ⟨h', e⟩ := isTr_ok this
  exact call_v (ds := [.int (n : Nat)]) rfl e rfl h
section
variable {s : Option D} {x2 x3 x4 x5 x6 x7 x8 x9 : Option D} {n i : Nat} {p q : List Int} {h : List O}
theorem S0 (hd : IsD h i) : ∃ (n : Nat) (h' : List O), 3 ≤ n ∧ n ≤ 8 ∧ Kpd h h' ∧ (esAsg (ev2 g_add (evC (.int 3)) (evCall c__law_roll (eaCons (evVar 1) (eaCons (evC (.int 6)) eaNil)))) (egN 2)) (lr s (some (.ref i)) x2 x3 x4 x5 x6 x7 x8 x9) h = .nx (lr s (some (.ref i)) (some (.int (n : Nat))) x3 x4 x5 x6 x7 x8 x9) h' := by
  obtain ⟨v, x, y, z, e, h1, h2⟩ := call_roll (m := 6) hd (by decide) (by decide)
  refine ⟨(3 + v).toNat, h.set i (.lst [.int x, .int y, .int z]), by omega, by omega, Kpd.set hd.lt x y z, ?_⟩
  have en : (((3 + v).toNat : Nat) : Int) = 3 + v := by omega
  rw [en]
  exact asgN (bin (t := tI 3) (u := tI v) rfl ((call2 (t := .v (.ref i)) (u := tI 6) rfl rfl).trans e) rfl) rfl
theorem S1 (hd : IsD h i) (h3 : 3 ≤ n) (h8 : n ≤ 8) : ∃ (p q : List Int) (h' : List O), Pm n p ∧ Pm n q ∧ Kpd h h' ∧ (esAsg (evTup (eaCons (evCall c__law_row (eaCons (evVar 1) (eaCons (evVar 2) eaNil))) (eaCons (evCall c__law_row (eaCons (evVar 1) (eaCons (evVar 2) eaNil))) eaNil))) (egT 2 (egsCons (egN 3) (egsCons (egN 4) egsNil)))) (lr s (some (.ref i)) (some (.int (n : Nat))) x3 x4 x5 x6 x7 x8 x9) h = .nx (lr s (some (.ref i)) (some (.int (n : Nat))) (some (rw p)) (some (rw q)) x5 x6 x7 x8 x9) h' := by
  obtain ⟨p, h1, hp, e1, k1⟩ := call_row (n := n) hd (by omega) h8
  obtain ⟨q, h2, hq, e2, k2⟩ := call_row (n := n) (k1 i hd) (by omega) h8
  refine ⟨p, q, h2, hp, hq, k1.trans k2, ?_⟩
  have a1 : evCall c__law_row (eaCons (evVar 1) (eaCons (evVar 2) eaNil)) (lr s (some (.ref i)) (some (.int (n : Nat))) x3 x4 x5 x6 x7 x8 x9) h = .ok (.v (rw p)) h1 := (call2 (t := .v (.ref i)) (u := tI (n : Nat)) rfl rfl).trans e1
  have a2 : evCall c__law_row (eaCons (evVar 1) (eaCons (evVar 2) eaNil)) (lr s (some (.ref i)) (some (.int (n : Nat))) x3 x4 x5 x6 x7 x8 x9) h1 = .ok (.v (rw q)) h2 := (call2 (t := .v (.ref i)) (u := tI (n : Nat)) rfl rfl).trans e2
  have a3 : eaCons (evCall c__law_row (eaCons (evVar 1) (eaCons (evVar 2) eaNil))) (eaCons (evCall c__law_row (eaCons (evVar 1) (eaCons (evVar 2) eaNil))) eaNil) (lr s (some (.ref i)) (some (.int (n : Nat))) x3 x4 x5 x6 x7 x8 x9) h = .ok [.v (rw p), .v (rw q)] h2 := by
    generalize hA : evCall c__law_row (eaCons (evVar 1) (eaCons (evVar 2) eaNil)) = A at a1 a2
    unfold eaCons eaNil
    rw [a1, R.bind_ok, a2]; rfl
  unfold esAsg evTup
  rw [a3]
  simp only [szl0, szl1, szl2, szl3, szl4, szl5, szl6, szl7, fnC, esSeq, esIf, esAsg, esPar, esE, esRet, esRetN, esNil, esAug, esRaise, ecOr, ecAnd, ecNot, ecB, ecT, ev2, evFn, g1, g2, eaCons, eaNil, evVar, evC, evCall, evTup, evLst, evIf, evNeg, evChn, evMt, egN, egT, egsCons, egsNil, alc, alcs, opt_some, optB_some, optR_some, boT_b, R.bind_ok, R.to_ok, List.getElem?_cons_zero, List.getElem?_cons_succ, List.set_cons_zero, List.set_cons_succ, List.map_cons, List.map_nil, List.length_cons, List.length_nil, List.replicate_succ, List.replicate_zero, List.replicate, Option.map_some, Bool.not_true, Bool.not_false, if_true, if_false, reduceIte, Nat.reduceSub, Nat.reduceAdd, List.cons_append, List.nil_append, Bool.false_eq_true, decide_true, decide_false]
theorem S2 (hp : Pm n p) (hq : Pm n q) : (esAsg (evCall c_put (eaCons (evVar 3) (eaCons (evVar 4) eaNil))) (egN 5)) (lr s x2 x3 (some (rw p)) (some (rw q)) x5 x6 x7 x8 x9) h = .nx (lr s x2 x3 (some (rw p)) (some (rw q)) (some (rw (cmp p q))) x6 x7 x8 x9) h :=
  asgN ((call2 (t := .v (rw p)) (u := .v (rw q)) rfl rfl).trans (call_put hp hq h)) rfl
theorem sgn_small (p : List Int) : (sgn p).natAbs < 18446744073709551616 := by
  unfold sgn
  by_cases hv : ivn p % 2 = 0
  · rw [if_pos hv]; decide
  · rw [if_neg hv]; decide
theorem dput {r : Rho} {a b : Ev} {p q : List Int} (hp : Pm n p) (hq : Pm n q) (e1 : a r h = .ok (.v (rw p)) h) (e2 : b r h = .ok (.v (rw q)) h) : evCall c_put (eaCons a (eaCons b eaNil)) r h = .ok (.v (rw (cmp p q))) h := (call2 e1 e2).trans (call_put hp hq h)
theorem dund {r : Rho} {a : Ev} {p : List Int} (hp : Pm n p) (e1 : a r h = .ok (.v (rw p)) h) : evCall c_undone (eaCons a eaNil) r h = .ok (.v (rw (inv n p))) h := (call1 e1).trans (call_undone hp h)
variable (hp : Pm n p) (hq : Pm n q)
include hp hq
theorem S3 : (esIf ((ecOr (ecB (ev2 g_ne (evVar 5) (evFn (g1 g_tuple) (eaCons (evLc (eiA iv1 (eaCons (evVar 2) eaNil)) (.n 10) [10] eYes (ev2 g_ix (evVar 3) (ev2 g_sub (ev2 g_ix (evVar 4) (evVar 10)) (evC (.int 1))))) eaNil)))) (ecB (ev2 g_ne (evCall c_put (eaCons (evVar 3) (eaCons (evCall c_undone (eaCons (evVar 3) eaNil)) eaNil))) (evCall c_rounds (eaCons (evVar 2) eaNil)))))) (esRet (evC (.bl false))) esNil) (lr s x2 (some (.int (n : Nat))) (some (rw p)) (some (rw q)) (some (rw (cmp p q))) x6 x7 x8 x9) h = .nx (lr s x2 (some (.int (n : Nat))) (some (rw p)) (some (rw q)) (some (rw (cmp p q))) x6 x7 x8 x9) h := by
  refine if_no (or_ff (ne_of (t := .v (rw (cmp p q))) rfl (L_put hp hq) (ne_rw _ _ _) (decide_eq_true rfl)) (ne_of (dput hp hp.inv rfl (dund hp rfl)) ((call1 (t := tI (n : Nat)) rfl).trans (call_rounds n hp.lo hp.hi h)) (ne_rw _ _ _) (decide_eq_true (cmp_inv hp))))
theorem S4 : (esIf ((ecOr (ecB (ev2 g_ne (evCall c_put (eaCons (evVar 3) (eaCons (evCall c_between (eaCons (evVar 3) (eaCons (evVar 4) eaNil))) eaNil))) (evVar 4))) (ecB (ev2 g_ne (evCall c_undone (eaCons (evVar 5) eaNil)) (evCall c_put (eaCons (evCall c_undone (eaCons (evVar 4) eaNil)) (eaCons (evCall c_undone (eaCons (evVar 3) eaNil)) eaNil))))))) (esRet (evC (.bl false))) esNil) (lr s x2 (some (.int (n : Nat))) (some (rw p)) (some (rw q)) (some (rw (cmp p q))) x6 x7 x8 x9) h = .nx (lr s x2 (some (.int (n : Nat))) (some (rw p)) (some (rw q)) (some (rw (cmp p q))) x6 x7 x8 x9) h := by
  have e1 : cmp p (cmp (inv n p) q) = q := by rw [← cmp_assoc hp hp.inv hq, cmp_inv hp, rg_cmp hq]
  refine if_no (or_ff (ne_of (dput hp (hp.inv.cmp hq) rfl ((call2 (t := .v (rw p)) (u := .v (rw q)) rfl rfl).trans (call_between hp hq h))) (u := .v (rw q)) rfl (ne_rw _ _ _) (decide_eq_true e1)) (ne_of (dund (hp.cmp hq) rfl) (dput hq.inv hp.inv (dund hq rfl) (dund hp rfl)) (ne_rw _ _ _) (decide_eq_true (inv_of hp hq))))
omit hq in
theorem S5 : ∃ J, (esAsg (evFn (g1 g_len) (eaCons (evCall c__law_flat (eaCons (evLc (eiA iv1 (eaCons (evVar 2) eaNil)) (.n 10) [10] eYes (evLc (eiA iv1 (eaCons (evVar 10) eaNil)) (.n 11) [11] (ecB (ev2 g_gt (ev2 g_ix (evVar 3) (evVar 11)) (ev2 g_ix (evVar 3) (evVar 10)))) (evC (.int 1)))) eaNil)) eaNil)) (egN 6)) (lr s x2 (some (.int (n : Nat))) (some (rw p)) x4 x5 x6 x7 x8 x9) h = .nx (lr s x2 (some (.int (n : Nat))) (some (rw p)) x4 x5 (some (.int (ivn p : Nat))) x7 x8 x9) (h ++ J) := by
  obtain ⟨J, e⟩ := L_wrong (s := s) (d := x2) (x4 := x4) (x5 := x5) (x6 := x6) (x7 := x7) (x8 := x8) (x9 := x9) (h := h) hp
  exact ⟨J, asgN e rfl⟩
omit hq in
theorem S6 : (esIf ((ecOr (ecB (ev2 g_ne (evCall c_wrong_pairs (eaCons (evVar 3) eaNil)) (evVar 6))) (ecB (ev2 g_ne (evCall c_sign (eaCons (evVar 3) eaNil)) (evIf (ecB (ev2 g_eq (ev2 g_mod (evVar 6) (evC (.int 2))) (evC (.int 0)))) (evC (.int 1)) (ev2 g_sub (evC (.int 0)) (evC (.int 1)))))))) (esRet (evC (.bl false))) esNil) (lr s x2 x3 (some (rw p)) x4 x5 (some (.int (ivn p : Nat))) x7 x8 x9) h = .nx (lr s x2 x3 (some (rw p)) x4 x5 (some (.int (ivn p : Nat))) x7 x8 x9) h := by
  have hm := mod_int (a := (ivn p : Nat)) (b := 2) (by decide) h
  have ht : ecB (ev2 g_eq (ev2 g_mod (evVar 6) (evC (.int 2))) (evC (.int 0))) (lr s x2 x3 (some (rw p)) x4 x5 (some (.int (ivn p : Nat))) x7 x8 x9) h = .ok (decide ((ivn p : Int) % 2 = 0)) h := ecb (bin (bin (t := tI (ivn p : Nat)) (u := tI 2) rfl rfl hm) (u := tI 0) rfl (eq_int _ _ _))
  have hs : evIf (ecB (ev2 g_eq (ev2 g_mod (evVar 6) (evC (.int 2))) (evC (.int 0)))) (evC (.int 1)) (ev2 g_sub (evC (.int 0)) (evC (.int 1))) (lr s x2 x3 (some (rw p)) x4 x5 (some (.int (ivn p : Nat))) x7 x8 x9) h = .ok (tI (sgn p)) h := by
    unfold sgn
    by_cases hv : ivn p % 2 = 0
    · rw [decide_eq_true (by omega)] at ht
      rw [if_pos hv]
      exact ivf_t ht rfl
    · rw [decide_eq_false (by omega)] at ht
      rw [if_neg hv]
      exact ivf_f ht (bin (t := tI 0) (u := tI 1) rfl rfl rfl)
  exact if_no (or_ff (ne_of ((call1 (t := .v (rw p)) rfl).trans (call_wrong hp h)) (u := tI (ivn p : Nat)) rfl (ne_int _ _ _) (decide_eq_true rfl)) (ne_of ((call1 (t := .v (rw p)) rfl).trans (call_sign hp h)) hs (ne_int _ _ _) (decide_eq_true rfl)))
theorem S7 : (esIf (ecB (ev2 g_ne (evCall c_sign (eaCons (evVar 5) eaNil)) (ev2 g_mul (evCall c_sign (eaCons (evVar 3) eaNil)) (evCall c_sign (eaCons (evVar 4) eaNil))))) (esRet (evC (.bl false))) esNil) (lr s x2 x3 (some (rw p)) (some (rw q)) (some (rw (cmp p q))) x6 x7 x8 x9) h = .nx (lr s x2 x3 (some (rw p)) (some (rw q)) (some (rw (cmp p q))) x6 x7 x8 x9) h := by
  refine if_no (ne_of ((call1 (t := .v (rw (cmp p q))) rfl).trans (call_sign (hp.cmp hq) h)) (bin ((call1 (t := .v (rw p)) rfl).trans (call_sign hp h)) ((call1 (t := .v (rw q)) rfl).trans (call_sign hq h)) (mul_int (sgn_small q) h)) (ne_int _ _ _) (decide_eq_true (sgn_cmp hp hq)))
omit hq in
theorem S8 : ∃ J, (esIf (ecB (ev2 g_ne (evFn (g1 g_sorted) (eaCons (evCall c__law_flat (eaCons (evLc (eiT (evCall c_rings (eaCons (evVar 3) eaNil))) (.n 12) [12] eYes (evLc (eiT (evVar 12)) (.n 13) [13] eYes (evVar 13))) eaNil)) eaNil)) (evLrg (er2 (evC (.int 1)) (ev2 g_add (evVar 2) (evC (.int 1))))))) (esRet (evC (.bl false))) esNil) (lr s x2 (some (.int (n : Nat))) (some (rw p)) x4 x5 x6 x7 x8 x9) h = .nx (lr s x2 (some (.int (n : Nat))) (some (rw p)) x4 x5 x6 x7 x8 x9) (h ++ J) := by
  have hn := hp.hi
  obtain ⟨J, e⟩ := L_rings (s := s) (d := x2) (x2 := some (.int (n : Nat))) (x4 := x4) (x5 := x5) (x6 := x6) (x7 := x7) (x8 := x8) (x9 := x9) (h := h) hp
  have e1 : er2 (evC (.int 1)) (ev2 g_add (evVar 2) (evC (.int 1))) (lr s x2 (some (.int (n : Nat))) (some (rw p)) x4 x5 x6 x7 x8 x9) (h ++ J) = .ok (1, (n : Nat) + 1) (h ++ J) := rfl
  have e2 := evLrg_of e1 (rgOk_ok (by omega) (by omega) (by omega) (by omega))
  rw [rgD_one _ _ n (by omega)] at e2
  have e3 : (List.range n).map (fun (i : Nat) => D.int (1 + (i : Nat))) = dI (rg n) := by unfold dI rg; rw [List.map_map]; rfl
  rw [e3] at e2
  exact ⟨J, if_no (ne_of e e2 (ne_tl _ _ _) (decide_eq_true rfl))⟩
omit hq in
theorem S11 {o : Nat} (ho : IsOrd n p o) : (esIf ((ecOr (ecB (ev2 g_ne (evCall c_order (eaCons (evVar 3) eaNil)) (evVar 8))) (ecOr (ecB (ev2 g_ne (evCall c_power (eaCons (evVar 3) (eaCons (evVar 8) eaNil))) (evCall c_rounds (eaCons (evVar 2) eaNil)))) (ecB (ev2 g_ne (evCall c_power (eaCons (evVar 3) (eaCons (ev2 g_sub (evC (.int 0)) (evC (.int 1))) eaNil))) (evCall c_undone (eaCons (evVar 3) eaNil))))))) (esRet (evC (.bl false))) esNil) (lr s x2 (some (.int (n : Nat))) (some (rw p)) x4 x5 x6 x7 (some (.int (o : Nat))) x9) h = .nx (lr s x2 (some (.int (n : Nat))) (some (rw p)) x4 x5 x6 x7 (some (.int (o : Nat))) x9) h := by
  refine if_no (or_ff (ne_of ((call1 (t := .v (rw p)) rfl).trans (call_order' hp ho h)) (u := tI (o : Nat)) rfl (ne_int _ _ _) (decide_eq_true rfl)) (or_ff (ne_of ((call2 (t := .v (rw p)) (u := tI (o : Nat)) rfl rfl).trans (call_power_count hp ho h)) ((call1 (t := tI (n : Nat)) rfl).trans (call_rounds n hp.lo hp.hi h)) (ne_rw _ _ _) (decide_eq_true rfl))
    (ne_of ((call2 (t := .v (rw p)) (u := tI (0 - 1)) rfl rfl).trans (call_power_back hp ho h)) ((call1 (t := .v (rw p)) rfl).trans (call_undone hp h)) (ne_rw _ _ _) (decide_eq_true rfl))))
omit hq in
theorem S12 {o : Nat} (ho : IsOrd n p o) : (esIf (ecB (ev2 g_ne (evCall c_power (eaCons (evVar 3) (eaCons (evC (.int 2)) eaNil))) (evCall c_put (eaCons (evVar 3) (eaCons (evVar 3) eaNil))))) (esRet (evC (.bl false))) esNil) (lr s x2 x3 (some (rw p)) x4 x5 x6 x7 x8 x9) h = .nx (lr s x2 x3 (some (rw p)) x4 x5 x6 x7 x8 x9) h := by
  refine if_no (ne_of ((call2 (t := .v (rw p)) (u := tI 2) rfl rfl).trans (call_power_two hp ho h)) ((call2 (t := .v (rw p)) (u := .v (rw p)) rfl rfl).trans (call_put hp hp h)) (ne_rw _ _ _) (decide_eq_true rfl))
omit hp hq in
theorem S13 (hd : IsD h i) (h3 : 3 ≤ n) (h8 : n ≤ 8) : ∃ (N : Nat) (h' : List O), N < fac n ∧ Kpd h h' ∧ (esAsg (evCall c__law_roll (eaCons (evVar 1) (eaCons (evCall c_extent (eaCons (evVar 2) eaNil)) eaNil))) (egN 9)) (lr s (some (.ref i)) (some (.int (n : Nat))) x3 x4 x5 x6 x7 x8 x9) h = .nx (lr s (some (.ref i)) (some (.int (n : Nat))) x3 x4 x5 x6 x7 x8 (some (.int (N : Nat)))) h' := by
  have f8 := fac_small h8
  have fp := fac_pos n
  obtain ⟨v, x, y, z, e, h1, h2⟩ := call_roll (m := (fac n : Nat)) hd (by omega) (by omega)
  refine ⟨v.toNat, h.set i (.lst [.int x, .int y, .int z]), by omega, Kpd.set hd.lt x y z, ?_⟩
  have en : ((v.toNat : Nat) : Int) = v := by omega
  rw [en]
  exact asgN ((call2 (t := .v (.ref i)) (u := tI (fac n : Nat)) rfl ((call1 (t := tI (n : Nat)) rfl).trans (call_extent (by omega) h8 h))).trans e) rfl
omit hq in
theorem S14 {N : Nat} (h8 : n ≤ 8) (hN : N < fac n) : (esIf ((ecOr (ecB (ev2 g_ne (evCall c_number_of (eaCons (evCall c_nth (eaCons (evVar 9) (eaCons (evVar 2) eaNil))) eaNil)) (evVar 9))) (ecB (ev2 g_ne (evCall c_nth (eaCons (evCall c_number_of (eaCons (evVar 3) eaNil)) (eaCons (evVar 2) eaNil))) (evVar 3))))) (esRet (evC (.bl false))) esNil) (lr s x2 (some (.int (n : Nat))) (some (rw p)) x4 x5 x6 x7 x8 (some (.int (N : Nat)))) h = .nx (lr s x2 (some (.int (n : Nat))) (some (rw p)) x4 x5 x6 x7 x8 (some (.int (N : Nat)))) h := by
  obtain ⟨u1, u2⟩ := unr_row hp.lo hp.hi hN
  obtain ⟨v1, v2⟩ := num_row hp
  refine if_no (or_ff (ne_of ((call1 ((call2 (t := tI (N : Nat)) (u := tI (n : Nat)) rfl rfl).trans (call_nth hp.lo h8 hN h))).trans (call_number u1 h8 h)) (u := tI (N : Nat)) rfl (ne_int _ _ _) (decide_eq_true (by rw [u2])))
    (ne_of ((call2 (t := tI (num p : Nat)) (u := tI (n : Nat)) ((call1 (t := .v (rw p)) rfl).trans (call_number hp h8 h)) rfl).trans (call_nth hp.lo h8 v2 h)) (u := .v (rw p)) rfl (ne_rw _ _ _) (decide_eq_true v1)))
omit hq in
theorem S15 (h8 : n ≤ 8) : (esIf ((ecOr (ecB (ev2 g_ne (evCall c_read (eaCons (evCall c_told (eaCons (evVar 3) eaNil)) eaNil)) (evVar 3))) (ecB (ev2 g_ne (evCall c_backwards (eaCons (evCall c_backwards (eaCons (evVar 3) eaNil)) eaNil)) (evVar 3))))) (esRet (evC (.bl false))) esNil) (lr s x2 x3 (some (rw p)) x4 x5 x6 x7 x8 x9) h = .nx (lr s x2 x3 (some (rw p)) x4 x5 x6 x7 x8 x9) h := by
  refine if_no (or_ff (ne_of ((call1 ((call1 (t := .v (rw p)) rfl).trans (call_told hp h8 h))).trans (call_read hp h8 h)) (u := .v (rw p)) rfl (ne_rw _ _ _) (decide_eq_true rfl)) (ne_of ((call1 ((call1 (t := .v (rw p)) rfl).trans (call_backwards h))).trans (call_backwards h)) (u := .v (rw p)) rfl (ne_rw _ _ _) (decide_eq_true (List.reverse_reverse p))))
omit hq in
theorem S16 : (esIf (ecB (ev2 g_ne (evCall c_with_more (eaCons (evVar 3) (eaCons (ev2 g_add (evVar 2) (evC (.int 1))) eaNil))) (ev2 g_add (evVar 3) (evTup (eaCons (ev2 g_add (evVar 2) (evC (.int 1))) eaNil))))) (esRet (evC (.bl false))) esNil) (lr s x2 (some (.int (n : Nat))) (some (rw p)) x4 x5 x6 x7 x8 x9) h = .nx (lr s x2 (some (.int (n : Nat))) (some (rw p)) x4 x5 x6 x7 x8 x9) h := by
  have hn := hp.hi
  have hl := hp.len
  have et : evTup (eaCons (ev2 g_add (evVar 2) (evC (.int 1))) eaNil) (lr s x2 (some (.int (n : Nat))) (some (rw p)) x4 x5 x6 x7 x8 x9) h = .ok (tU [.int ((n : Nat) + 1)]) h := by
    simp only [lr, add_int, szl0, szl1, szl2, szl3, szl4, szl5, szl6, szl7, fnC, esSeq, esIf, esAsg, esPar, esE, esRet, esRetN, esNil, esAug, esRaise, ecOr, ecAnd, ecNot, ecB, ecT, ev2, evFn, g1, g2, eaCons, eaNil, evVar, evC, evCall, evTup, evLst, evIf, evNeg, evChn, evMt, egN, egT, egsCons, egsNil, alc, alcs, opt_some, optB_some, optR_some, boT_b, R.bind_ok, R.to_ok, List.getElem?_cons_zero, List.getElem?_cons_succ, List.set_cons_zero, List.set_cons_succ, List.map_cons, List.map_nil, List.length_cons, List.length_nil, List.replicate_succ, List.replicate_zero, List.replicate, Option.map_some, Bool.not_true, Bool.not_false, if_true, if_false, reduceIte, Nat.reduceSub, Nat.reduceAdd, List.cons_append, List.nil_append, Bool.false_eq_true, decide_true, decide_false]
  have ea : g_add (.v (rw p)) (tU [.int ((n : Nat) + 1)]) h = some (.v (rw (p ++ [((n : Nat) : Int) + 1]))) := by
    show (if (dI p).length + 1 ≤ SZ then some (tU (dI p ++ [D.int ((n : Nat) + 1)])) else none) = _
    rw [if_pos (by rw [dI_length]; have : SZ = 16777216 := rfl; omega)]
    unfold rw dI
    rw [List.map_append]; rfl
  exact if_no (ne_of ((call2 (t := .v (rw p)) (u := tI ((n : Nat) + 1)) rfl rfl).trans (call_more hp h)) (bin (t := .v (rw p)) rfl et ea) (ne_rw _ _ _) (decide_eq_true rfl))
omit hp hq in
theorem S17 (h3 : 3 ≤ n) (h8 : n ≤ 8) : (esIf (ecNot (ecT (evCall c__law_rest1 (eaCons (evVar 2) eaNil)))) (esRet (evC (.bl false))) esNil) (lr s x2 (some (.int (n : Nat))) x3 x4 x5 x6 x7 x8 x9) h = .nx (lr s x2 (some (.int (n : Nat))) x3 x4 x5 x6 x7 x8 x9) h := by
  have e := (call1 (c := c__law_rest1) (a := evVar 2) (r := lr s x2 (some (.int (n : Nat))) x3 x4 x5 x6 x7 x8 x9) (h := h) (t := tI (n : Nat)) rfl).trans (call_rest h3 h8 h)
  refine if_no ?_
  unfold ecNot ecT
  rw [e]; rfl
end
end Kx
set_option Elab.async false
set_option linter.all false
set_option maxRecDepth 100000
namespace Kx
open Bz L2 PySem PySem.Spec

theorem seq_eq {f g : Es} {r r1 : Rho} {h h1 : List O} {x : RSt} (e : f r h = .nx r1 h1) (e2 : g r1 h1 = x) : esSeq f g r h = x := by rw [seq_nx e, e2]
theorem L_body {s : Option D} {x2 x3 x4 x5 x6 x7 x8 x9 : Option D} {i : Nat} {h : List O} (hd : IsD h i) : ∃ (y2 y3 y4 y5 y6 y7 y8 y9 : Option D) (h' : List O), Kpd h h' ∧ (esSeq (esAsg (ev2 g_add (evC (.int 3)) (evCall c__law_roll (eaCons (evVar 1) (eaCons (evC (.int 6)) eaNil)))) (egN 2)) (esSeq (esAsg (evTup (eaCons (evCall c__law_row (eaCons (evVar 1) (eaCons (evVar 2) eaNil))) (eaCons (evCall c__law_row (eaCons (evVar 1) (eaCons (evVar 2) eaNil))) eaNil))) (egT 2 (egsCons (egN 3) (egsCons (egN 4) egsNil)))) (esSeq (esAsg (evCall c_put (eaCons (evVar 3) (eaCons (evVar 4) eaNil))) (egN 5)) (esSeq (esIf ((ecOr (ecB (ev2 g_ne (evVar 5) (evFn (g1 g_tuple) (eaCons (evLc (eiA iv1 (eaCons (evVar 2) eaNil)) (.n 10) [10] eYes (ev2 g_ix (evVar 3) (ev2 g_sub (ev2 g_ix (evVar 4) (evVar 10)) (evC (.int 1))))) eaNil)))) (ecB (ev2 g_ne (evCall c_put (eaCons (evVar 3) (eaCons (evCall c_undone (eaCons (evVar 3) eaNil)) eaNil))) (evCall c_rounds (eaCons (evVar 2) eaNil)))))) (esRet (evC (.bl false))) esNil) (esSeq (esIf ((ecOr (ecB (ev2 g_ne (evCall c_put (eaCons (evVar 3) (eaCons (evCall c_between (eaCons (evVar 3) (eaCons (evVar 4) eaNil))) eaNil))) (evVar 4))) (ecB (ev2 g_ne (evCall c_undone (eaCons (evVar 5) eaNil)) (evCall c_put (eaCons (evCall c_undone (eaCons (evVar 4) eaNil)) (eaCons (evCall c_undone (eaCons (evVar 3) eaNil)) eaNil))))))) (esRet (evC (.bl false))) esNil) (esSeq (esAsg (evFn (g1 g_len) (eaCons (evCall c__law_flat (eaCons (evLc (eiA iv1 (eaCons (evVar 2) eaNil)) (.n 10) [10] eYes (evLc (eiA iv1 (eaCons (evVar 10) eaNil)) (.n 11) [11] (ecB (ev2 g_gt (ev2 g_ix (evVar 3) (evVar 11)) (ev2 g_ix (evVar 3) (evVar 10)))) (evC (.int 1)))) eaNil)) eaNil)) (egN 6)) (esSeq (esIf ((ecOr (ecB (ev2 g_ne (evCall c_wrong_pairs (eaCons (evVar 3) eaNil)) (evVar 6))) (ecB (ev2 g_ne (evCall c_sign (eaCons (evVar 3) eaNil)) (evIf (ecB (ev2 g_eq (ev2 g_mod (evVar 6) (evC (.int 2))) (evC (.int 0)))) (evC (.int 1)) (ev2 g_sub (evC (.int 0)) (evC (.int 1)))))))) (esRet (evC (.bl false))) esNil) (esSeq (esIf (ecB (ev2 g_ne (evCall c_sign (eaCons (evVar 5) eaNil)) (ev2 g_mul (evCall c_sign (eaCons (evVar 3) eaNil)) (evCall c_sign (eaCons (evVar 4) eaNil))))) (esRet (evC (.bl false))) esNil) (esSeq (esIf (ecB (ev2 g_ne (evFn (g1 g_sorted) (eaCons (evCall c__law_flat (eaCons (evLc (eiT (evCall c_rings (eaCons (evVar 3) eaNil))) (.n 12) [12] eYes (evLc (eiT (evVar 12)) (.n 13) [13] eYes (evVar 13))) eaNil)) eaNil)) (evLrg (er2 (evC (.int 1)) (ev2 g_add (evVar 2) (evC (.int 1))))))) (esRet (evC (.bl false))) esNil) (esSeq (esPar 7 8 (eaCons (evVar 3) (eaCons (evC (.int 1)) eaNil))) (esSeq (esWh FUEL (ecB (ev2 g_ne (evVar 7) (evCall c_rounds (eaCons (evVar 2) eaNil)))) (esPar 7 8 (eaCons (evCall c_put (eaCons (evVar 7) (eaCons (evVar 3) eaNil))) (eaCons (ev2 g_add (evVar 8) (evC (.int 1))) eaNil)))) (esSeq (esIf ((ecOr (ecB (ev2 g_ne (evCall c_order (eaCons (evVar 3) eaNil)) (evVar 8))) (ecOr (ecB (ev2 g_ne (evCall c_power (eaCons (evVar 3) (eaCons (evVar 8) eaNil))) (evCall c_rounds (eaCons (evVar 2) eaNil)))) (ecB (ev2 g_ne (evCall c_power (eaCons (evVar 3) (eaCons (ev2 g_sub (evC (.int 0)) (evC (.int 1))) eaNil))) (evCall c_undone (eaCons (evVar 3) eaNil))))))) (esRet (evC (.bl false))) esNil) (esSeq (esIf (ecB (ev2 g_ne (evCall c_power (eaCons (evVar 3) (eaCons (evC (.int 2)) eaNil))) (evCall c_put (eaCons (evVar 3) (eaCons (evVar 3) eaNil))))) (esRet (evC (.bl false))) esNil) (esSeq (esAsg (evCall c__law_roll (eaCons (evVar 1) (eaCons (evCall c_extent (eaCons (evVar 2) eaNil)) eaNil))) (egN 9)) (esSeq (esIf ((ecOr (ecB (ev2 g_ne (evCall c_number_of (eaCons (evCall c_nth (eaCons (evVar 9) (eaCons (evVar 2) eaNil))) eaNil)) (evVar 9))) (ecB (ev2 g_ne (evCall c_nth (eaCons (evCall c_number_of (eaCons (evVar 3) eaNil)) (eaCons (evVar 2) eaNil))) (evVar 3))))) (esRet (evC (.bl false))) esNil) (esSeq (esIf ((ecOr (ecB (ev2 g_ne (evCall c_read (eaCons (evCall c_told (eaCons (evVar 3) eaNil)) eaNil)) (evVar 3))) (ecB (ev2 g_ne (evCall c_backwards (eaCons (evCall c_backwards (eaCons (evVar 3) eaNil)) eaNil)) (evVar 3))))) (esRet (evC (.bl false))) esNil) (esSeq (esIf (ecB (ev2 g_ne (evCall c_with_more (eaCons (evVar 3) (eaCons (ev2 g_add (evVar 2) (evC (.int 1))) eaNil))) (ev2 g_add (evVar 3) (evTup (eaCons (ev2 g_add (evVar 2) (evC (.int 1))) eaNil))))) (esRet (evC (.bl false))) esNil) (esIf (ecNot (ecT (evCall c__law_rest1 (eaCons (evVar 2) eaNil)))) (esRet (evC (.bl false))) esNil)))))))))))))))))) (lr s (some (.ref i)) x2 x3 x4 x5 x6 x7 x8 x9) h = .nx (lr s (some (.ref i)) y2 y3 y4 y5 y6 y7 y8 y9) h' := by
  obtain ⟨n, h0, n3, n8, k0, e0⟩ := S0 (s := s) (x2 := x2) (x3 := x3) (x4 := x4) (x5 := x5) (x6 := x6) (x7 := x7) (x8 := x8) (x9 := x9) hd
  obtain ⟨p, q, h1, hp, hq, k1, e1⟩ := S1 (s := s) (x3 := x3) (x4 := x4) (x5 := x5) (x6 := x6) (x7 := x7) (x8 := x8) (x9 := x9) (k0 i hd) n3 n8
  obtain ⟨J5, e5⟩ := S5 (s := s) (x2 := some (.ref i)) (x4 := some (rw q)) (x5 := some (rw (cmp p q))) (x6 := x6) (x7 := x7) (x8 := x8) (x9 := x9) (h := h1) hp
  obtain ⟨J8, e8⟩ := S8 (s := s) (x2 := some (.ref i)) (x4 := some (rw q)) (x5 := some (rw (cmp p q))) (x6 := some (.int (ivn p : Nat))) (x7 := x7) (x8 := x8) (x9 := x9) (h := h1 ++ J5) hp
  obtain ⟨o, ho, _⟩ := call_order hp
  have k8 : Kpd h (h1 ++ J5 ++ J8) := ((k0.trans k1).trans (Kpd.app _ _)).trans (Kpd.app _ _)
  obtain ⟨N, h13, hN, k13, e13⟩ := S13 (s := s) (x3 := some (rw p)) (x4 := some (rw q)) (x5 := some (rw (cmp p q))) (x6 := some (.int (ivn p : Nat))) (x7 := some (rw (rg n))) (x8 := some (.int (o : Nat))) (x9 := x9) (k8 i hd) n3 n8
  refine ⟨some (.int (n : Nat)), some (rw p), some (rw q), some (rw (cmp p q)), some (.int (ivn p : Nat)), some (rw (rg n)), some (.int (o : Nat)), some (.int (N : Nat)), h13, k8.trans k13, ?_⟩
  refine seq_eq e0 ?_
  refine seq_eq e1 ?_
  refine seq_eq (S2 hp hq) ?_
  refine seq_eq (S3 hp hq) ?_
  refine seq_eq (S4 hp hq) ?_
  refine seq_eq e5 ?_
  refine seq_eq (S6 hp) ?_
  refine seq_eq (S7 hp hq) ?_
  refine seq_eq e8 ?_
  refine seq_eq (r1 := lr s (some (.ref i)) (some (.int (n : Nat))) (some (rw p)) (some (rw q)) (some (rw (cmp p q))) (some (.int (ivn p : Nat))) (some (rw p)) (some (.int 1)) x9) (h1 := h1 ++ J5 ++ J8) rfl ?_
  refine seq_eq (L_while hp ho) ?_
  refine seq_eq (S11 hp ho) ?_
  refine seq_eq (S12 hp ho) ?_
  refine seq_eq e13 ?_
  refine seq_eq (S14 hp n8 hN) ?_
  refine seq_eq (S15 hp n8) ?_
  refine seq_eq (S16 hp) ?_
  exact S17 n3 n8
theorem plain (ns : List Int) (h0 : List O) (ds : List D) (st : Start (ns.map D.int) h0 ds) : ∃ h', c_law ds h0 = .ok (.v (.bl true)) h' := by
  obtain ⟨s, base, n, H, rfl, e, hd⟩ := start_rounds st
  have hl : ((List.range n).map fun j => D.ref (base + j)).length = n := by rw [List.length_map, List.length_range]
  obtain ⟨r2, h2, ef, d, y2, y3, y4, y5, y6, y7, y8, y9, er, hd2⟩ := forL_run (v := .fx ((List.range n).map fun j => D.ref (base + j))) (g := egN 1) (b := (esSeq (esAsg (ev2 g_add (evC (.int 3)) (evCall c__law_roll (eaCons (evVar 1) (eaCons (evC (.int 6)) eaNil)))) (egN 2)) (esSeq (esAsg (evTup (eaCons (evCall c__law_row (eaCons (evVar 1) (eaCons (evVar 2) eaNil))) (eaCons (evCall c__law_row (eaCons (evVar 1) (eaCons (evVar 2) eaNil))) eaNil))) (egT 2 (egsCons (egN 3) (egsCons (egN 4) egsNil)))) (esSeq (esAsg (evCall c_put (eaCons (evVar 3) (eaCons (evVar 4) eaNil))) (egN 5)) (esSeq (esIf ((ecOr (ecB (ev2 g_ne (evVar 5) (evFn (g1 g_tuple) (eaCons (evLc (eiA iv1 (eaCons (evVar 2) eaNil)) (.n 10) [10] eYes (ev2 g_ix (evVar 3) (ev2 g_sub (ev2 g_ix (evVar 4) (evVar 10)) (evC (.int 1))))) eaNil)))) (ecB (ev2 g_ne (evCall c_put (eaCons (evVar 3) (eaCons (evCall c_undone (eaCons (evVar 3) eaNil)) eaNil))) (evCall c_rounds (eaCons (evVar 2) eaNil)))))) (esRet (evC (.bl false))) esNil) (esSeq (esIf ((ecOr (ecB (ev2 g_ne (evCall c_put (eaCons (evVar 3) (eaCons (evCall c_between (eaCons (evVar 3) (eaCons (evVar 4) eaNil))) eaNil))) (evVar 4))) (ecB (ev2 g_ne (evCall c_undone (eaCons (evVar 5) eaNil)) (evCall c_put (eaCons (evCall c_undone (eaCons (evVar 4) eaNil)) (eaCons (evCall c_undone (eaCons (evVar 3) eaNil)) eaNil))))))) (esRet (evC (.bl false))) esNil) (esSeq (esAsg (evFn (g1 g_len) (eaCons (evCall c__law_flat (eaCons (evLc (eiA iv1 (eaCons (evVar 2) eaNil)) (.n 10) [10] eYes (evLc (eiA iv1 (eaCons (evVar 10) eaNil)) (.n 11) [11] (ecB (ev2 g_gt (ev2 g_ix (evVar 3) (evVar 11)) (ev2 g_ix (evVar 3) (evVar 10)))) (evC (.int 1)))) eaNil)) eaNil)) (egN 6)) (esSeq (esIf ((ecOr (ecB (ev2 g_ne (evCall c_wrong_pairs (eaCons (evVar 3) eaNil)) (evVar 6))) (ecB (ev2 g_ne (evCall c_sign (eaCons (evVar 3) eaNil)) (evIf (ecB (ev2 g_eq (ev2 g_mod (evVar 6) (evC (.int 2))) (evC (.int 0)))) (evC (.int 1)) (ev2 g_sub (evC (.int 0)) (evC (.int 1)))))))) (esRet (evC (.bl false))) esNil) (esSeq (esIf (ecB (ev2 g_ne (evCall c_sign (eaCons (evVar 5) eaNil)) (ev2 g_mul (evCall c_sign (eaCons (evVar 3) eaNil)) (evCall c_sign (eaCons (evVar 4) eaNil))))) (esRet (evC (.bl false))) esNil) (esSeq (esIf (ecB (ev2 g_ne (evFn (g1 g_sorted) (eaCons (evCall c__law_flat (eaCons (evLc (eiT (evCall c_rings (eaCons (evVar 3) eaNil))) (.n 12) [12] eYes (evLc (eiT (evVar 12)) (.n 13) [13] eYes (evVar 13))) eaNil)) eaNil)) (evLrg (er2 (evC (.int 1)) (ev2 g_add (evVar 2) (evC (.int 1))))))) (esRet (evC (.bl false))) esNil) (esSeq (esPar 7 8 (eaCons (evVar 3) (eaCons (evC (.int 1)) eaNil))) (esSeq (esWh FUEL (ecB (ev2 g_ne (evVar 7) (evCall c_rounds (eaCons (evVar 2) eaNil)))) (esPar 7 8 (eaCons (evCall c_put (eaCons (evVar 7) (eaCons (evVar 3) eaNil))) (eaCons (ev2 g_add (evVar 8) (evC (.int 1))) eaNil)))) (esSeq (esIf ((ecOr (ecB (ev2 g_ne (evCall c_order (eaCons (evVar 3) eaNil)) (evVar 8))) (ecOr (ecB (ev2 g_ne (evCall c_power (eaCons (evVar 3) (eaCons (evVar 8) eaNil))) (evCall c_rounds (eaCons (evVar 2) eaNil)))) (ecB (ev2 g_ne (evCall c_power (eaCons (evVar 3) (eaCons (ev2 g_sub (evC (.int 0)) (evC (.int 1))) eaNil))) (evCall c_undone (eaCons (evVar 3) eaNil))))))) (esRet (evC (.bl false))) esNil) (esSeq (esIf (ecB (ev2 g_ne (evCall c_power (eaCons (evVar 3) (eaCons (evC (.int 2)) eaNil))) (evCall c_put (eaCons (evVar 3) (eaCons (evVar 3) eaNil))))) (esRet (evC (.bl false))) esNil) (esSeq (esAsg (evCall c__law_roll (eaCons (evVar 1) (eaCons (evCall c_extent (eaCons (evVar 2) eaNil)) eaNil))) (egN 9)) (esSeq (esIf ((ecOr (ecB (ev2 g_ne (evCall c_number_of (eaCons (evCall c_nth (eaCons (evVar 9) (eaCons (evVar 2) eaNil))) eaNil)) (evVar 9))) (ecB (ev2 g_ne (evCall c_nth (eaCons (evCall c_number_of (eaCons (evVar 3) eaNil)) (eaCons (evVar 2) eaNil))) (evVar 3))))) (esRet (evC (.bl false))) esNil) (esSeq (esIf ((ecOr (ecB (ev2 g_ne (evCall c_read (eaCons (evCall c_told (eaCons (evVar 3) eaNil)) eaNil)) (evVar 3))) (ecB (ev2 g_ne (evCall c_backwards (eaCons (evCall c_backwards (eaCons (evVar 3) eaNil)) eaNil)) (evVar 3))))) (esRet (evC (.bl false))) esNil) (esSeq (esIf (ecB (ev2 g_ne (evCall c_with_more (eaCons (evVar 3) (eaCons (ev2 g_add (evVar 2) (evC (.int 1))) eaNil))) (ev2 g_add (evVar 3) (evTup (eaCons (ev2 g_add (evVar 2) (evC (.int 1))) eaNil))))) (esRet (evC (.bl false))) esNil) (esIf (ecNot (ecT (evCall c__law_rest1 (eaCons (evVar 2) eaNil)))) (esRet (evC (.bl false))) esNil))))))))))))))))))) (n := n) (fun j => .ref (base + j))
    (fun k h hk => by rw [itemAt, List.getElem?_map, List.getElem?_range hk]; rfl)
    (fun h => by rw [itemAt, List.getElem?_eq_none_iff.mpr (by rw [hl]; exact Nat.le_refl _)])
    (fun k r h => ∃ d y2 y3 y4 y5 y6 y7 y8 y9, r = lr (some s) d y2 y3 y4 y5 y6 y7 y8 y9 ∧ ∀ j, j < n → IsD h (base + j))
    (fun k r h hk ⟨d, y2, y3, y4, y5, y6, y7, y8, y9, er, hd⟩ => by
      subst er
      obtain ⟨z2, z3, z4, z5, z6, z7, z8, z9, h', kk, eb⟩ := L_body (s := some s) (x2 := y2) (x3 := y3) (x4 := y4) (x5 := y5) (x6 := y6) (x7 := y7) (x8 := y8) (x9 := y9) (hd k hk)
      exact ⟨_, _, _, _, rfl, eb, some (.ref (base + k)), z2, z3, z4, z5, z6, z7, z8, z9, rfl, fun j hj => kk _ (hd j hj)⟩)
    n 0 (lr (some s) none none none none none none none none none) H (by omega) ⟨none, none, none, none, none, none, none, none, none, rfl, hd⟩
  refine ⟨h2, ?_⟩
  refine fnC_rt (f := b_law) ?_
  have e1 : (eiT (evCall c__law_rounds (eaCons (evVar 0) (eaCons (evC (.int 2)) eaNil)))) (lr (some s) none none none none none none none none none) h0 = .ok (.fx ((List.range n).map fun j => D.ref (base + j))) H := by
    unfold eiT
    rw [(call2 (t := .v s) (u := tI 2) rfl rfl).trans e, R.bind_ok]; rfl
  have e2 : esFor (eiT (evCall c__law_rounds (eaCons (evVar 0) (eaCons (evC (.int 2)) eaNil)))) (egN 1) (esSeq (esAsg (ev2 g_add (evC (.int 3)) (evCall c__law_roll (eaCons (evVar 1) (eaCons (evC (.int 6)) eaNil)))) (egN 2)) (esSeq (esAsg (evTup (eaCons (evCall c__law_row (eaCons (evVar 1) (eaCons (evVar 2) eaNil))) (eaCons (evCall c__law_row (eaCons (evVar 1) (eaCons (evVar 2) eaNil))) eaNil))) (egT 2 (egsCons (egN 3) (egsCons (egN 4) egsNil)))) (esSeq (esAsg (evCall c_put (eaCons (evVar 3) (eaCons (evVar 4) eaNil))) (egN 5)) (esSeq (esIf ((ecOr (ecB (ev2 g_ne (evVar 5) (evFn (g1 g_tuple) (eaCons (evLc (eiA iv1 (eaCons (evVar 2) eaNil)) (.n 10) [10] eYes (ev2 g_ix (evVar 3) (ev2 g_sub (ev2 g_ix (evVar 4) (evVar 10)) (evC (.int 1))))) eaNil)))) (ecB (ev2 g_ne (evCall c_put (eaCons (evVar 3) (eaCons (evCall c_undone (eaCons (evVar 3) eaNil)) eaNil))) (evCall c_rounds (eaCons (evVar 2) eaNil)))))) (esRet (evC (.bl false))) esNil) (esSeq (esIf ((ecOr (ecB (ev2 g_ne (evCall c_put (eaCons (evVar 3) (eaCons (evCall c_between (eaCons (evVar 3) (eaCons (evVar 4) eaNil))) eaNil))) (evVar 4))) (ecB (ev2 g_ne (evCall c_undone (eaCons (evVar 5) eaNil)) (evCall c_put (eaCons (evCall c_undone (eaCons (evVar 4) eaNil)) (eaCons (evCall c_undone (eaCons (evVar 3) eaNil)) eaNil))))))) (esRet (evC (.bl false))) esNil) (esSeq (esAsg (evFn (g1 g_len) (eaCons (evCall c__law_flat (eaCons (evLc (eiA iv1 (eaCons (evVar 2) eaNil)) (.n 10) [10] eYes (evLc (eiA iv1 (eaCons (evVar 10) eaNil)) (.n 11) [11] (ecB (ev2 g_gt (ev2 g_ix (evVar 3) (evVar 11)) (ev2 g_ix (evVar 3) (evVar 10)))) (evC (.int 1)))) eaNil)) eaNil)) (egN 6)) (esSeq (esIf ((ecOr (ecB (ev2 g_ne (evCall c_wrong_pairs (eaCons (evVar 3) eaNil)) (evVar 6))) (ecB (ev2 g_ne (evCall c_sign (eaCons (evVar 3) eaNil)) (evIf (ecB (ev2 g_eq (ev2 g_mod (evVar 6) (evC (.int 2))) (evC (.int 0)))) (evC (.int 1)) (ev2 g_sub (evC (.int 0)) (evC (.int 1)))))))) (esRet (evC (.bl false))) esNil) (esSeq (esIf (ecB (ev2 g_ne (evCall c_sign (eaCons (evVar 5) eaNil)) (ev2 g_mul (evCall c_sign (eaCons (evVar 3) eaNil)) (evCall c_sign (eaCons (evVar 4) eaNil))))) (esRet (evC (.bl false))) esNil) (esSeq (esIf (ecB (ev2 g_ne (evFn (g1 g_sorted) (eaCons (evCall c__law_flat (eaCons (evLc (eiT (evCall c_rings (eaCons (evVar 3) eaNil))) (.n 12) [12] eYes (evLc (eiT (evVar 12)) (.n 13) [13] eYes (evVar 13))) eaNil)) eaNil)) (evLrg (er2 (evC (.int 1)) (ev2 g_add (evVar 2) (evC (.int 1))))))) (esRet (evC (.bl false))) esNil) (esSeq (esPar 7 8 (eaCons (evVar 3) (eaCons (evC (.int 1)) eaNil))) (esSeq (esWh FUEL (ecB (ev2 g_ne (evVar 7) (evCall c_rounds (eaCons (evVar 2) eaNil)))) (esPar 7 8 (eaCons (evCall c_put (eaCons (evVar 7) (eaCons (evVar 3) eaNil))) (eaCons (ev2 g_add (evVar 8) (evC (.int 1))) eaNil)))) (esSeq (esIf ((ecOr (ecB (ev2 g_ne (evCall c_order (eaCons (evVar 3) eaNil)) (evVar 8))) (ecOr (ecB (ev2 g_ne (evCall c_power (eaCons (evVar 3) (eaCons (evVar 8) eaNil))) (evCall c_rounds (eaCons (evVar 2) eaNil)))) (ecB (ev2 g_ne (evCall c_power (eaCons (evVar 3) (eaCons (ev2 g_sub (evC (.int 0)) (evC (.int 1))) eaNil))) (evCall c_undone (eaCons (evVar 3) eaNil))))))) (esRet (evC (.bl false))) esNil) (esSeq (esIf (ecB (ev2 g_ne (evCall c_power (eaCons (evVar 3) (eaCons (evC (.int 2)) eaNil))) (evCall c_put (eaCons (evVar 3) (eaCons (evVar 3) eaNil))))) (esRet (evC (.bl false))) esNil) (esSeq (esAsg (evCall c__law_roll (eaCons (evVar 1) (eaCons (evCall c_extent (eaCons (evVar 2) eaNil)) eaNil))) (egN 9)) (esSeq (esIf ((ecOr (ecB (ev2 g_ne (evCall c_number_of (eaCons (evCall c_nth (eaCons (evVar 9) (eaCons (evVar 2) eaNil))) eaNil)) (evVar 9))) (ecB (ev2 g_ne (evCall c_nth (eaCons (evCall c_number_of (eaCons (evVar 3) eaNil)) (eaCons (evVar 2) eaNil))) (evVar 3))))) (esRet (evC (.bl false))) esNil) (esSeq (esIf ((ecOr (ecB (ev2 g_ne (evCall c_read (eaCons (evCall c_told (eaCons (evVar 3) eaNil)) eaNil)) (evVar 3))) (ecB (ev2 g_ne (evCall c_backwards (eaCons (evCall c_backwards (eaCons (evVar 3) eaNil)) eaNil)) (evVar 3))))) (esRet (evC (.bl false))) esNil) (esSeq (esIf (ecB (ev2 g_ne (evCall c_with_more (eaCons (evVar 3) (eaCons (ev2 g_add (evVar 2) (evC (.int 1))) eaNil))) (ev2 g_add (evVar 3) (evTup (eaCons (ev2 g_add (evVar 2) (evC (.int 1))) eaNil))))) (esRet (evC (.bl false))) esNil) (esIf (ecNot (ecT (evCall c__law_rest1 (eaCons (evVar 2) eaNil)))) (esRet (evC (.bl false))) esNil)))))))))))))))))) (lr (some s) none none none none none none none none none) h0 = .nx r2 h2 := by
    unfold esFor
    rw [e1, R.to_ok, fuelV, hl]
    exact ef
  show b_law (lr (some s) none none none none none none none none none) h0 = _
  exact seq_eq e2 (esRet_of rfl)
end Kx
set_option Elab.async false
set_option linter.all false
set_option maxRecDepth 100000
set_option maxHeartbeats 0
namespace Kx
open Bz L2 PySem PySem.Spec PyProof.Rows
def hfn0 : List He.DefD := [⟨("rounds", none), "rounds", "rounds", defArgs (top 11), defBody (top 11), defScope (top 11), [], []⟩, ⟨("check_row", none), "check_row", "check_row", defArgs (top 12), defBody (top 12), defScope (top 12), [], []⟩, ⟨("told", none), "told", "told", defArgs (top 13), defBody (top 13), defScope (top 13), [], []⟩, ⟨("read", none), "read", "read", defArgs (top 14), defBody (top 14), defScope (top 14), [], []⟩, ⟨("put", none), "put", "put", defArgs (top 15), defBody (top 15), defScope (top 15), [], []⟩, ⟨("undone", none), "undone", "undone", defArgs (top 16), defBody (top 16), defScope (top 16), [], []⟩, ⟨("between", none), "between", "between", defArgs (top 17), defBody (top 17), defScope (top 17), [], []⟩, ⟨("rings", none), "rings", "rings", defArgs (top 18), defBody (top 18), defScope (top 18), [], []⟩, ⟨("sign", none), "sign", "sign", defArgs (top 19), defBody (top 19), defScope (top 19), [], []⟩, ⟨("order", none), "order", "order", defArgs (top 20), defBody (top 20), defScope (top 20), [], []⟩, ⟨("power", none), "power", "power", defArgs (top 21), defBody (top 21), defScope (top 21), [], []⟩, ⟨("wrong_pairs", none), "wrong_pairs", "wrong_pairs", defArgs (top 22), defBody (top 22), defScope (top 22), [], []⟩, ⟨("extent", none), "extent", "extent", defArgs (top 23), defBody (top 23), defScope (top 23), [], []⟩, ⟨("nth", none), "nth", "nth", defArgs (top 24), defBody (top 24), defScope (top 24), [], []⟩, ⟨("number_of", none), "number_of", "number_of", defArgs (top 25), defBody (top 25), defScope (top 25), [], []⟩, ⟨("all_rows", none), "all_rows", "all_rows", defArgs (top 26), defBody (top 26), defScope (top 26), [], []⟩, ⟨("made_by", none), "made_by", "made_by", defArgs (top 27), defBody (top 27), defScope (top 27), [], []⟩, ⟨("beside", none), "beside", "beside", defArgs (top 28), defBody (top 28), defScope (top 28), [], []⟩, ⟨("with_more", none), "with_more", "with_more", defArgs (top 29), defBody (top 29), defScope (top 29), [], []⟩, ⟨("backwards", none), "backwards", "backwards", defArgs (top 30), defBody (top 30), defScope (top 30), [], []⟩]
def hfn1 : List He.DefD := [⟨("_law_flat", none), "_law_flat", "_law_flat", defArgs (top 32), defBody (top 32), defScope (top 32), [], []⟩, ⟨("_law_dice", none), "_law_dice", "_law_dice", defArgs (top 33), defBody (top 33), defScope (top 33), [], []⟩, ⟨("_law_roll", none), "_law_roll", "_law_roll", defArgs (top 34), defBody (top 34), defScope (top 34), [], []⟩, ⟨("_law_rounds", none), "_law_rounds", "_law_rounds", defArgs (top 35), defBody (top 35), defScope (top 35), [], []⟩, ⟨("_law_row", none), "_law_row", "_law_row", defArgs (top 37), defBody (top 37), defScope (top 37), [], []⟩, ⟨("_law_cases1", none), "_law_cases1", "_law_cases1", defArgs (top 38), defBody (top 38), defScope (top 38), [], []⟩, ⟨("_law_rest1", none), "_law_rest1", "_law_rest1", defArgs (top 39), defBody (top 39), defScope (top 39), [], []⟩, ⟨("law", none), "law", "law", defArgs (top 40), defBody (top 40), defScope (top 40), [], []⟩, ⟨("_law_told", none), "_law_told", "_law_told", defArgs (top 36), defBody (top 36), defScope (top 36), [], []⟩]
def hfn : List He.DefD := hfn0 ++ hfn1
def hfa0 : List He.Fa := [.glo "rounds", .glo "check_row", .glo "told", .glo "read", .glo "put", .glo "undone", .glo "between", .glo "rings", .glo "sign", .glo "order", .glo "power", .glo "wrong_pairs", .glo "extent", .glo "nth", .glo "number_of", .glo "all_rows", .glo "made_by", .glo "beside", .glo "with_more", .glo "backwards"]
def hfa1 : List He.Fa := [.glo "_law_flat", .glo "_law_dice", .glo "_law_roll", .glo "_law_rounds", .glo "_law_row", .glo "_law_cases1", .glo "_law_rest1", .glo "law", .glo "_law_told", .free "abs", .free "all", .free "any", .free "dict", .free "enumerate", .free "int", .free "isinstance", .free "len", .free "list", .free "max", .free "min"]
def hfa2 : List He.Fa := [.free "range", .free "reversed", .free "sorted", .free "str", .free "sum", .free "super", .free "tuple", .free "zip", .str "LETTERS" "1234567890et", .glo "ChimeFault", .glo "BadRow", .glo "BadChange", .glo "BadMethod", .glo "NotTrue", .glo "NoEnd", .glo "TooLarge", .glo "BadText", .exc "BadRow", .exc "TooLarge", .exm "ChimeFault" "ChimeFault" true]
def hfa3 : List He.Fa := [.exm "ChimeFault" "BadRow" false, .exm "ChimeFault" "BadChange" false, .exm "ChimeFault" "BadMethod" false, .exm "ChimeFault" "NotTrue" false, .exm "ChimeFault" "NoEnd" false, .exm "ChimeFault" "TooLarge" false, .exm "ChimeFault" "BadText" false, .exm "BadRow" "ChimeFault" true, .exm "BadRow" "BadRow" true, .exm "BadRow" "BadChange" false, .exm "BadRow" "BadMethod" false, .exm "BadRow" "NotTrue" false, .exm "BadRow" "NoEnd" false, .exm "BadRow" "TooLarge" false, .exm "BadRow" "BadText" false, .exm "BadChange" "ChimeFault" true, .exm "BadChange" "BadRow" false, .exm "BadChange" "BadChange" true, .exm "BadChange" "BadMethod" false, .exm "BadChange" "NotTrue" false]
def hfa4 : List He.Fa := [.exm "BadChange" "NoEnd" false, .exm "BadChange" "TooLarge" false, .exm "BadChange" "BadText" false, .exm "BadMethod" "ChimeFault" true, .exm "BadMethod" "BadRow" false, .exm "BadMethod" "BadChange" false, .exm "BadMethod" "BadMethod" true, .exm "BadMethod" "NotTrue" false, .exm "BadMethod" "NoEnd" false, .exm "BadMethod" "TooLarge" false, .exm "BadMethod" "BadText" false, .exm "NotTrue" "ChimeFault" true, .exm "NotTrue" "BadRow" false, .exm "NotTrue" "BadChange" false, .exm "NotTrue" "BadMethod" false, .exm "NotTrue" "NotTrue" true, .exm "NotTrue" "NoEnd" false, .exm "NotTrue" "TooLarge" false, .exm "NotTrue" "BadText" false, .exm "NoEnd" "ChimeFault" true]
def hfa5 : List He.Fa := [.exm "NoEnd" "BadRow" false, .exm "NoEnd" "BadChange" false, .exm "NoEnd" "BadMethod" false, .exm "NoEnd" "NotTrue" false, .exm "NoEnd" "NoEnd" true, .exm "NoEnd" "TooLarge" false, .exm "NoEnd" "BadText" false, .exm "TooLarge" "ChimeFault" true, .exm "TooLarge" "BadRow" false, .exm "TooLarge" "BadChange" false, .exm "TooLarge" "BadMethod" false, .exm "TooLarge" "NotTrue" false, .exm "TooLarge" "NoEnd" false, .exm "TooLarge" "TooLarge" true, .exm "TooLarge" "BadText" false, .exm "BadText" "ChimeFault" true, .exm "BadText" "BadRow" false, .exm "BadText" "BadChange" false, .exm "BadText" "BadMethod" false, .exm "BadText" "NotTrue" false]
def hfa6 : List He.Fa := [.exm "BadText" "NoEnd" false, .exm "BadText" "TooLarge" false, .exm "BadText" "BadText" true]
def hfa : List He.Fa := hfa0 ++ hfa1 ++ hfa2 ++ hfa3 ++ hfa4 ++ hfa5 ++ hfa6
def htf : List He.Defn := [("read", none), ("wrong_pairs", none), ("number_of", none), ("_law_cases1", none), ("_law_rest1", none)]
def hsf : List Str := ["<genexpr>", "<genexpr>", "<genexpr>", "<lambda>", "<lambda>"]
def hex (K : PySem.W.Frag) : Bool := decide ((htf.map fun p => (He.cT K p).2).Nodup)
abbrev hR : PySem.W.OpenRow := PySem.W.OpenLaw.row PySem.Challenge.rw_chimehall_k01_rows
abbrev hk : PySem.W.Hook := He.hookX 4 hfa hfn [] htf hex
def hob (s : PySem.W.SharedT) : He.AlX := He.obsX 4 hfa hfn [] htf hex (HandSHeadRun.getT s)
theorem hob_eq (s : PySem.W.SharedT) : hob s = hk.obs s.abs := He.obsX_eq (HandSHeadRun.getT_eq s)
def hlo0 : List Str := ["ChimeFault", "BadRow", "BadChange", "BadMethod", "NotTrue", "NoEnd", "TooLarge", "BadText", "LETTERS", "rounds", "check_row", "told", "read", "put", "undone", "between", "rings", "sign", "order", "power"]
def hlo1 : List Str := ["wrong_pairs", "extent", "nth", "number_of", "all_rows", "made_by", "beside", "with_more", "backwards", "_law_flat", "_law_dice", "_law_roll", "_law_rounds", "_law_told", "_law_row", "_law_cases1", "_law_rest1"]
def hlo : List Str := hlo0 ++ hlo1
theorem hrun (w : World) : HandSHeadRun.RunEq hR (PySem.W.view hR.prog [40]) hk hob 4000 hlo w := by
  intro os
  kernel_rfl
def hnm : Nat → Str := fun c => ["ChimeFault", "BadRow", "BadChange", "BadMethod", "NotTrue", "NoEnd", "TooLarge", "BadText"].getD c ""
def hG (K : PySem.W.Frag) : Gl := { K := K, ca := fun c => He.ga K (hnm c), fn := fun _ => "", xf := fun _ => "", T := [((He.cT K ("read", none)).2, (envOfC "read" (defScope s_read) 0 0 .none).qual ++ "<genexpr>"), ((He.cT K ("wrong_pairs", none)).2, (envOfC "wrong_pairs" (defScope s_wrong_pairs) 0 0 .none).qual ++ "<genexpr>"), ((He.cT K ("number_of", none)).2, (envOfC "number_of" (defScope s_number_of) 0 0 .none).qual ++ "<genexpr>"), ((He.cT K ("_law_cases1", none)).2, (envOfC "_law_cases1" (defScope s__law_cases1) 0 0 .none).qual ++ "<lambda>"), ((He.cT K ("_law_rest1", none)).2, (envOfC "_law_rest1" (defScope s__law_rest1) 0 0 .none).qual ++ "<lambda>")] }
section
variable {P : Program} {w : World} {K : PySem.W.Frag} {mg : Str → Option Value} {base h : Heap}
theorem hxm (cd : He.SaysD hfa hfn K) : ExM (hG K) mtK := fun c i b h => match c, i, h with
  | 0, 0, h => by cases h; exact He.exm_ok (cd.fact 59 (f := .exm "ChimeFault" "ChimeFault" true) rfl)
  | 0, 1, h => by cases h; exact He.exm_ok (cd.fact 60 (f := .exm "ChimeFault" "BadRow" false) rfl)
  | 0, 2, h => by cases h; exact He.exm_ok (cd.fact 61 (f := .exm "ChimeFault" "BadChange" false) rfl)
  | 0, 3, h => by cases h; exact He.exm_ok (cd.fact 62 (f := .exm "ChimeFault" "BadMethod" false) rfl)
  | 0, 4, h => by cases h; exact He.exm_ok (cd.fact 63 (f := .exm "ChimeFault" "NotTrue" false) rfl)
  | 0, 5, h => by cases h; exact He.exm_ok (cd.fact 64 (f := .exm "ChimeFault" "NoEnd" false) rfl)
  | 0, 6, h => by cases h; exact He.exm_ok (cd.fact 65 (f := .exm "ChimeFault" "TooLarge" false) rfl)
  | 0, 7, h => by cases h; exact He.exm_ok (cd.fact 66 (f := .exm "ChimeFault" "BadText" false) rfl)
  | 1, 0, h => by cases h; exact He.exm_ok (cd.fact 67 (f := .exm "BadRow" "ChimeFault" true) rfl)
  | 1, 1, h => by cases h; exact He.exm_ok (cd.fact 68 (f := .exm "BadRow" "BadRow" true) rfl)
  | 1, 2, h => by cases h; exact He.exm_ok (cd.fact 69 (f := .exm "BadRow" "BadChange" false) rfl)
  | 1, 3, h => by cases h; exact He.exm_ok (cd.fact 70 (f := .exm "BadRow" "BadMethod" false) rfl)
  | 1, 4, h => by cases h; exact He.exm_ok (cd.fact 71 (f := .exm "BadRow" "NotTrue" false) rfl)
  | 1, 5, h => by cases h; exact He.exm_ok (cd.fact 72 (f := .exm "BadRow" "NoEnd" false) rfl)
  | 1, 6, h => by cases h; exact He.exm_ok (cd.fact 73 (f := .exm "BadRow" "TooLarge" false) rfl)
  | 1, 7, h => by cases h; exact He.exm_ok (cd.fact 74 (f := .exm "BadRow" "BadText" false) rfl)
  | 2, 0, h => by cases h; exact He.exm_ok (cd.fact 75 (f := .exm "BadChange" "ChimeFault" true) rfl)
  | 2, 1, h => by cases h; exact He.exm_ok (cd.fact 76 (f := .exm "BadChange" "BadRow" false) rfl)
  | 2, 2, h => by cases h; exact He.exm_ok (cd.fact 77 (f := .exm "BadChange" "BadChange" true) rfl)
  | 2, 3, h => by cases h; exact He.exm_ok (cd.fact 78 (f := .exm "BadChange" "BadMethod" false) rfl)
  | 2, 4, h => by cases h; exact He.exm_ok (cd.fact 79 (f := .exm "BadChange" "NotTrue" false) rfl)
  | 2, 5, h => by cases h; exact He.exm_ok (cd.fact 80 (f := .exm "BadChange" "NoEnd" false) rfl)
  | 2, 6, h => by cases h; exact He.exm_ok (cd.fact 81 (f := .exm "BadChange" "TooLarge" false) rfl)
  | 2, 7, h => by cases h; exact He.exm_ok (cd.fact 82 (f := .exm "BadChange" "BadText" false) rfl)
  | 3, 0, h => by cases h; exact He.exm_ok (cd.fact 83 (f := .exm "BadMethod" "ChimeFault" true) rfl)
  | 3, 1, h => by cases h; exact He.exm_ok (cd.fact 84 (f := .exm "BadMethod" "BadRow" false) rfl)
  | 3, 2, h => by cases h; exact He.exm_ok (cd.fact 85 (f := .exm "BadMethod" "BadChange" false) rfl)
  | 3, 3, h => by cases h; exact He.exm_ok (cd.fact 86 (f := .exm "BadMethod" "BadMethod" true) rfl)
  | 3, 4, h => by cases h; exact He.exm_ok (cd.fact 87 (f := .exm "BadMethod" "NotTrue" false) rfl)
  | 3, 5, h => by cases h; exact He.exm_ok (cd.fact 88 (f := .exm "BadMethod" "NoEnd" false) rfl)
  | 3, 6, h => by cases h; exact He.exm_ok (cd.fact 89 (f := .exm "BadMethod" "TooLarge" false) rfl)
  | 3, 7, h => by cases h; exact He.exm_ok (cd.fact 90 (f := .exm "BadMethod" "BadText" false) rfl)
  | 4, 0, h => by cases h; exact He.exm_ok (cd.fact 91 (f := .exm "NotTrue" "ChimeFault" true) rfl)
  | 4, 1, h => by cases h; exact He.exm_ok (cd.fact 92 (f := .exm "NotTrue" "BadRow" false) rfl)
  | 4, 2, h => by cases h; exact He.exm_ok (cd.fact 93 (f := .exm "NotTrue" "BadChange" false) rfl)
  | 4, 3, h => by cases h; exact He.exm_ok (cd.fact 94 (f := .exm "NotTrue" "BadMethod" false) rfl)
  | 4, 4, h => by cases h; exact He.exm_ok (cd.fact 95 (f := .exm "NotTrue" "NotTrue" true) rfl)
  | 4, 5, h => by cases h; exact He.exm_ok (cd.fact 96 (f := .exm "NotTrue" "NoEnd" false) rfl)
  | 4, 6, h => by cases h; exact He.exm_ok (cd.fact 97 (f := .exm "NotTrue" "TooLarge" false) rfl)
  | 4, 7, h => by cases h; exact He.exm_ok (cd.fact 98 (f := .exm "NotTrue" "BadText" false) rfl)
  | 5, 0, h => by cases h; exact He.exm_ok (cd.fact 99 (f := .exm "NoEnd" "ChimeFault" true) rfl)
  | 5, 1, h => by cases h; exact He.exm_ok (cd.fact 100 (f := .exm "NoEnd" "BadRow" false) rfl)
  | 5, 2, h => by cases h; exact He.exm_ok (cd.fact 101 (f := .exm "NoEnd" "BadChange" false) rfl)
  | 5, 3, h => by cases h; exact He.exm_ok (cd.fact 102 (f := .exm "NoEnd" "BadMethod" false) rfl)
  | 5, 4, h => by cases h; exact He.exm_ok (cd.fact 103 (f := .exm "NoEnd" "NotTrue" false) rfl)
  | 5, 5, h => by cases h; exact He.exm_ok (cd.fact 104 (f := .exm "NoEnd" "NoEnd" true) rfl)
  | 5, 6, h => by cases h; exact He.exm_ok (cd.fact 105 (f := .exm "NoEnd" "TooLarge" false) rfl)
  | 5, 7, h => by cases h; exact He.exm_ok (cd.fact 106 (f := .exm "NoEnd" "BadText" false) rfl)
  | 6, 0, h => by cases h; exact He.exm_ok (cd.fact 107 (f := .exm "TooLarge" "ChimeFault" true) rfl)
  | 6, 1, h => by cases h; exact He.exm_ok (cd.fact 108 (f := .exm "TooLarge" "BadRow" false) rfl)
  | 6, 2, h => by cases h; exact He.exm_ok (cd.fact 109 (f := .exm "TooLarge" "BadChange" false) rfl)
  | 6, 3, h => by cases h; exact He.exm_ok (cd.fact 110 (f := .exm "TooLarge" "BadMethod" false) rfl)
  | 6, 4, h => by cases h; exact He.exm_ok (cd.fact 111 (f := .exm "TooLarge" "NotTrue" false) rfl)
  | 6, 5, h => by cases h; exact He.exm_ok (cd.fact 112 (f := .exm "TooLarge" "NoEnd" false) rfl)
  | 6, 6, h => by cases h; exact He.exm_ok (cd.fact 113 (f := .exm "TooLarge" "TooLarge" true) rfl)
  | 6, 7, h => by cases h; exact He.exm_ok (cd.fact 114 (f := .exm "TooLarge" "BadText" false) rfl)
  | 7, 0, h => by cases h; exact He.exm_ok (cd.fact 115 (f := .exm "BadText" "ChimeFault" true) rfl)
  | 7, 1, h => by cases h; exact He.exm_ok (cd.fact 116 (f := .exm "BadText" "BadRow" false) rfl)
  | 7, 2, h => by cases h; exact He.exm_ok (cd.fact 117 (f := .exm "BadText" "BadChange" false) rfl)
  | 7, 3, h => by cases h; exact He.exm_ok (cd.fact 118 (f := .exm "BadText" "BadMethod" false) rfl)
  | 7, 4, h => by cases h; exact He.exm_ok (cd.fact 119 (f := .exm "BadText" "NotTrue" false) rfl)
  | 7, 5, h => by cases h; exact He.exm_ok (cd.fact 120 (f := .exm "BadText" "NoEnd" false) rfl)
  | 7, 6, h => by cases h; exact He.exm_ok (cd.fact 121 (f := .exm "BadText" "TooLarge" false) rfl)
  | 7, 7, h => by cases h; exact He.exm_ok (cd.fact 122 (f := .exm "BadText" "BadText" true) rfl)
  | 0, _ + 8, h => by unfold mtK at h; rw [if_neg (by omega)] at h; cases h
  | 1, _ + 8, h => by unfold mtK at h; rw [if_neg (by omega)] at h; cases h
  | 2, _ + 8, h => by unfold mtK at h; rw [if_neg (by omega)] at h; cases h
  | 3, _ + 8, h => by unfold mtK at h; rw [if_neg (by omega)] at h; cases h
  | 4, _ + 8, h => by unfold mtK at h; rw [if_neg (by omega)] at h; cases h
  | 5, _ + 8, h => by unfold mtK at h; rw [if_neg (by omega)] at h; cases h
  | 6, _ + 8, h => by unfold mtK at h; rw [if_neg (by omega)] at h; cases h
  | 7, _ + 8, h => by unfold mtK at h; rw [if_neg (by omega)] at h; cases h
  | _ + 8, _, h => by unfold mtK at h; rw [if_neg (by omega)] at h; cases h
abbrev s__law_told : Stmt := top 36
theorem sc__law_told : FnScope ["what"] ["what"] (defScope s__law_told) := ⟨rfl, rfl, rfl, by decide +kernel, rfl, by decide +kernel, by decide +kernel⟩
theorem htold (X : K.In h) (N : h.Ns mainGlobals mg) (cd : He.SaysD hfa hfn K) : ToldAt (hG K) mg "_law_told" l__law_told := by
  obtain ⟨fd, F⟩ := cd.def_ 28 (d := ⟨("_law_told", none), "_law_told", "_law_told", defArgs (top 36), defBody (top 36), defScope (top 36), [], []⟩) rfl
  have bn : L2.Binds K fd ["what"] [] := FunD.bindsN F fun _ _ _ _ _ _ us hl => match us, hl with | [_], _ => rfl
  have gg := He.glo_ok X N (cd.fact 28 (f := .glo "_law_told") rfl)
  have kp := F.kp
  obtain ⟨oc, od, dV, kV, doc, pm, an, cdv, ct, osl, rfl, lk, hcd, _, _⟩ := F.ex
  refine ⟨_, ["what"], "what", _, _, _, defScope s__law_told, dV, kV, doc, pm, cdv, ct, oc, an, od, osl, _, _, _, _, gg, kp, lk, hcd, bn, sc__law_told, rfl, .inl rfl, by decide, by decide, fun _ => rfl, fun Y s H e => ?_⟩
  subst e
  exact (.cons ⟨rfl, by decide, .inl (He.glo_ok X N (cd.fact 50 (f := .glo "BadRow") rfl))⟩ (.cons ⟨rfl, by decide, .inl (He.glo_ok X N (cd.fact 51 (f := .glo "BadChange") rfl))⟩ (.cons ⟨rfl, by decide, .inl (He.glo_ok X N (cd.fact 52 (f := .glo "BadMethod") rfl))⟩ (.cons ⟨rfl, by decide, .inl (He.glo_ok X N (cd.fact 53 (f := .glo "NotTrue") rfl))⟩ (.cons ⟨rfl, by decide, .inl (He.glo_ok X N (cd.fact 54 (f := .glo "NoEnd") rfl))⟩ (.cons ⟨rfl, by decide, .inl (He.glo_ok X N (cd.fact 55 (f := .glo "TooLarge") rfl))⟩ (.cons ⟨rfl, by decide, .inl (He.glo_ok X N (cd.fact 56 (f := .glo "BadText") rfl))⟩ .nil)))))))
theorem hlaw {f : Addr} {fd : FuncData} (D_law : FunD K "law" "law" (defArgs (top 40)) (defBody (top 40)) (defScope (top 40)) [] [] f fd) (X : K.In h) (N : h.Ns mainGlobals mg) (cd : He.SaysD hfa hfn K) (nd : ((hG K).T.map (·.1)).Nodup) (TB : ∀ p ∈ htf, LamX.TabB base mg (He.cT K p).1 (He.cT K p).2) : FnOk P w K mg base (L2.CX P w) 18 f fd ["script"] (spC (hG K) c_law 1) := by
  have fr : Fr mg := ⟨He.free_ok X N (cd.fact 29 (f := .free "abs") rfl), He.free_ok X N (cd.fact 30 (f := .free "all") rfl), He.free_ok X N (cd.fact 31 (f := .free "any") rfl), He.free_ok X N (cd.fact 32 (f := .free "dict") rfl), He.free_ok X N (cd.fact 33 (f := .free "enumerate") rfl), He.free_ok X N (cd.fact 34 (f := .free "int") rfl), He.free_ok X N (cd.fact 35 (f := .free "isinstance") rfl), He.free_ok X N (cd.fact 36 (f := .free "len") rfl), He.free_ok X N (cd.fact 37 (f := .free "list") rfl), He.free_ok X N (cd.fact 38 (f := .free "max") rfl), He.free_ok X N (cd.fact 39 (f := .free "min") rfl), He.free_ok X N (cd.fact 40 (f := .free "range") rfl), He.free_ok X N (cd.fact 41 (f := .free "reversed") rfl), He.free_ok X N (cd.fact 42 (f := .free "sorted") rfl), He.free_ok X N (cd.fact 43 (f := .free "str") rfl), He.free_ok X N (cd.fact 44 (f := .free "sum") rfl), He.free_ok X N (cd.fact 45 (f := .free "super") rfl), He.free_ok X N (cd.fact 46 (f := .free "tuple") rfl), He.free_ok X N (cd.fact 47 (f := .free "zip") rfl)⟩
  have x_BadRow : XAt (hG K) mg "BadRow" 1 := xat_of X N rfl (cd.fact 50 (f := .glo "BadRow") rfl) (cd.fact 57 (f := .exc "BadRow") rfl)
  have x_TooLarge : XAt (hG K) mg "TooLarge" 6 := xat_of X N rfl (cd.fact 55 (f := .glo "TooLarge") rfl) (cd.fact 58 (f := .exc "TooLarge") rfl)
  have k_LETTERS : ∃ t, mg "LETTERS" = some (.str "1234567890et" t) := He.str_ok X N (cd.fact 48 (f := .str "LETTERS" "1234567890et") rfl)
  have xm := hxm cd
  have T__law_told := htold X N cd
  obtain ⟨fd_rounds, D_rounds⟩ := cd.def_ 0 (d := ⟨("rounds", none), "rounds", "rounds", defArgs (top 11), defBody (top 11), defScope (top 11), [], []⟩) rfl
  have F_rounds : FnAt (hG K) P w mg base 2 "rounds" 1 c_rounds := ok_rounds fr x_BadRow D_rounds (He.glo_ok X N (cd.fact 0 (f := .glo "rounds") rfl))
  obtain ⟨fd_check_row, D_check_row⟩ := cd.def_ 1 (d := ⟨("check_row", none), "check_row", "check_row", defArgs (top 12), defBody (top 12), defScope (top 12), [], []⟩) rfl
  have F_check_row : FnAt (hG K) P w mg base 4 "check_row" 1 c_check_row := ok_check_row fr x_BadRow F_rounds D_check_row (He.glo_ok X N (cd.fact 1 (f := .glo "check_row") rfl))
  obtain ⟨fd_told, D_told⟩ := cd.def_ 2 (d := ⟨("told", none), "told", "told", defArgs (top 13), defBody (top 13), defScope (top 13), [], []⟩) rfl
  have F_told : FnAt (hG K) P w mg base 6 "told" 1 c_told := ok_told fr k_LETTERS F_check_row D_told (He.glo_ok X N (cd.fact 2 (f := .glo "told") rfl))
  obtain ⟨fd_read, D_read⟩ := cd.def_ 3 (d := ⟨("read", none), "read", "read", defArgs (top 14), defBody (top 14), defScope (top 14), [], []⟩) rfl
  have F_read : FnAt (hG K) P w mg base 6 "read" 1 c_read := ok_read fr x_BadRow k_LETTERS F_check_row (tb_of D_read (TB ("read", none) (List.mem_of_getElem? (i := 0) rfl)) nd (List.mem_of_getElem? (i := 0) rfl)) D_read (He.glo_ok X N (cd.fact 3 (f := .glo "read") rfl))
  obtain ⟨fd_put, D_put⟩ := cd.def_ 4 (d := ⟨("put", none), "put", "put", defArgs (top 15), defBody (top 15), defScope (top 15), [], []⟩) rfl
  have F_put : FnAt (hG K) P w mg base 6 "put" 2 c_put := ok_put fr x_BadRow F_check_row D_put (He.glo_ok X N (cd.fact 4 (f := .glo "put") rfl))
  obtain ⟨fd_undone, D_undone⟩ := cd.def_ 5 (d := ⟨("undone", none), "undone", "undone", defArgs (top 16), defBody (top 16), defScope (top 16), [], []⟩) rfl
  have F_undone : FnAt (hG K) P w mg base 6 "undone" 1 c_undone := ok_undone fr F_check_row D_undone (He.glo_ok X N (cd.fact 5 (f := .glo "undone") rfl))
  obtain ⟨fd_between, D_between⟩ := cd.def_ 6 (d := ⟨("between", none), "between", "between", defArgs (top 17), defBody (top 17), defScope (top 17), [], []⟩) rfl
  have F_between : FnAt (hG K) P w mg base 8 "between" 2 c_between := ok_between fr F_put F_undone D_between (He.glo_ok X N (cd.fact 6 (f := .glo "between") rfl))
  obtain ⟨fd_rings, D_rings⟩ := cd.def_ 7 (d := ⟨("rings", none), "rings", "rings", defArgs (top 18), defBody (top 18), defScope (top 18), [], []⟩) rfl
  have F_rings : FnAt (hG K) P w mg base 6 "rings" 1 c_rings := ok_rings fr F_check_row F_rounds D_rings (He.glo_ok X N (cd.fact 7 (f := .glo "rings") rfl))
  obtain ⟨fd_sign, D_sign⟩ := cd.def_ 8 (d := ⟨("sign", none), "sign", "sign", defArgs (top 19), defBody (top 19), defScope (top 19), [], []⟩) rfl
  have F_sign : FnAt (hG K) P w mg base 8 "sign" 1 c_sign := ok_sign fr F_rings D_sign (He.glo_ok X N (cd.fact 8 (f := .glo "sign") rfl))
  obtain ⟨fd_order, D_order⟩ := cd.def_ 9 (d := ⟨("order", none), "order", "order", defArgs (top 20), defBody (top 20), defScope (top 20), [], []⟩) rfl
  have F_order : FnAt (hG K) P w mg base 8 "order" 1 c_order := ok_order fr F_rings D_order (He.glo_ok X N (cd.fact 9 (f := .glo "order") rfl))
  obtain ⟨fd_power, D_power⟩ := cd.def_ 10 (d := ⟨("power", none), "power", "power", defArgs (top 21), defBody (top 21), defScope (top 21), [], []⟩) rfl
  have F_power : FnAt (hG K) P w mg base 10 "power" 2 c_power := ok_power fr F_order F_put F_rounds F_undone D_power (He.glo_ok X N (cd.fact 10 (f := .glo "power") rfl))
  obtain ⟨fd_wrong_pairs, D_wrong_pairs⟩ := cd.def_ 11 (d := ⟨("wrong_pairs", none), "wrong_pairs", "wrong_pairs", defArgs (top 22), defBody (top 22), defScope (top 22), [], []⟩) rfl
  have F_wrong_pairs : FnAt (hG K) P w mg base 3 "wrong_pairs" 1 c_wrong_pairs := ok_wrong_pairs fr (tb_of D_wrong_pairs (TB ("wrong_pairs", none) (List.mem_of_getElem? (i := 1) rfl)) nd (List.mem_of_getElem? (i := 1) rfl)) D_wrong_pairs (He.glo_ok X N (cd.fact 11 (f := .glo "wrong_pairs") rfl))
  obtain ⟨fd_extent, D_extent⟩ := cd.def_ 12 (d := ⟨("extent", none), "extent", "extent", defArgs (top 23), defBody (top 23), defScope (top 23), [], []⟩) rfl
  have F_extent : FnAt (hG K) P w mg base 4 "extent" 1 c_extent := ok_extent fr F_rounds D_extent (He.glo_ok X N (cd.fact 12 (f := .glo "extent") rfl))
  obtain ⟨fd_nth, D_nth⟩ := cd.def_ 13 (d := ⟨("nth", none), "nth", "nth", defArgs (top 24), defBody (top 24), defScope (top 24), [], []⟩) rfl
  have F_nth : FnAt (hG K) P w mg base 6 "nth" 2 c_nth := ok_nth fr x_BadRow F_extent F_rounds D_nth (He.glo_ok X N (cd.fact 13 (f := .glo "nth") rfl))
  obtain ⟨fd_number_of, D_number_of⟩ := cd.def_ 14 (d := ⟨("number_of", none), "number_of", "number_of", defArgs (top 25), defBody (top 25), defScope (top 25), [], []⟩) rfl
  have F_number_of : FnAt (hG K) P w mg base 6 "number_of" 1 c_number_of := ok_number_of fr F_check_row F_extent (tb_of D_number_of (TB ("number_of", none) (List.mem_of_getElem? (i := 2) rfl)) nd (List.mem_of_getElem? (i := 2) rfl)) D_number_of (He.glo_ok X N (cd.fact 14 (f := .glo "number_of") rfl))
  obtain ⟨fd_all_rows, D_all_rows⟩ := cd.def_ 15 (d := ⟨("all_rows", none), "all_rows", "all_rows", defArgs (top 26), defBody (top 26), defScope (top 26), [], []⟩) rfl
  have F_all_rows : FnAt (hG K) P w mg base 4 "all_rows" 1 c_all_rows := ok_all_rows fr x_TooLarge F_rounds D_all_rows (He.glo_ok X N (cd.fact 15 (f := .glo "all_rows") rfl))
  obtain ⟨fd_made_by, D_made_by⟩ := cd.def_ 16 (d := ⟨("made_by", none), "made_by", "made_by", defArgs (top 27), defBody (top 27), defScope (top 27), [], []⟩) rfl
  have F_made_by : FnAt (hG K) P w mg base 8 "made_by" 1 c_made_by := ok_made_by fr x_TooLarge F_put F_rounds D_made_by (He.glo_ok X N (cd.fact 16 (f := .glo "made_by") rfl))
  obtain ⟨fd_beside, D_beside⟩ := cd.def_ 17 (d := ⟨("beside", none), "beside", "beside", defArgs (top 28), defBody (top 28), defScope (top 28), [], []⟩) rfl
  have F_beside : FnAt (hG K) P w mg base 8 "beside" 2 c_beside := ok_beside fr F_all_rows F_put D_beside (He.glo_ok X N (cd.fact 17 (f := .glo "beside") rfl))
  obtain ⟨fd_with_more, D_with_more⟩ := cd.def_ 18 (d := ⟨("with_more", none), "with_more", "with_more", defArgs (top 29), defBody (top 29), defScope (top 29), [], []⟩) rfl
  have F_with_more : FnAt (hG K) P w mg base 6 "with_more" 2 c_with_more := ok_with_more fr x_BadRow F_check_row D_with_more (He.glo_ok X N (cd.fact 18 (f := .glo "with_more") rfl))
  obtain ⟨fd_backwards, D_backwards⟩ := cd.def_ 19 (d := ⟨("backwards", none), "backwards", "backwards", defArgs (top 30), defBody (top 30), defScope (top 30), [], []⟩) rfl
  have F_backwards : FnAt (hG K) P w mg base 2 "backwards" 1 c_backwards := ok_backwards fr D_backwards (He.glo_ok X N (cd.fact 19 (f := .glo "backwards") rfl))
  obtain ⟨fd__law_flat, D__law_flat⟩ := cd.def_ 20 (d := ⟨("_law_flat", none), "_law_flat", "_law_flat", defArgs (top 32), defBody (top 32), defScope (top 32), [], []⟩) rfl
  have F__law_flat : FnAt (hG K) P w mg base 2 "_law_flat" 1 c__law_flat := ok__law_flat fr D__law_flat (He.glo_ok X N (cd.fact 20 (f := .glo "_law_flat") rfl))
  obtain ⟨fd__law_dice, D__law_dice⟩ := cd.def_ 21 (d := ⟨("_law_dice", none), "_law_dice", "_law_dice", defArgs (top 33), defBody (top 33), defScope (top 33), [], []⟩) rfl
  have F__law_dice : FnAt (hG K) P w mg base 2 "_law_dice" 1 c__law_dice := ok__law_dice fr D__law_dice (He.glo_ok X N (cd.fact 21 (f := .glo "_law_dice") rfl))
  obtain ⟨fd__law_roll, D__law_roll⟩ := cd.def_ 22 (d := ⟨("_law_roll", none), "_law_roll", "_law_roll", defArgs (top 34), defBody (top 34), defScope (top 34), [], []⟩) rfl
  have F__law_roll : FnAt (hG K) P w mg base 2 "_law_roll" 2 c__law_roll := ok__law_roll fr D__law_roll (He.glo_ok X N (cd.fact 22 (f := .glo "_law_roll") rfl))
  obtain ⟨fd__law_rounds, D__law_rounds⟩ := cd.def_ 23 (d := ⟨("_law_rounds", none), "_law_rounds", "_law_rounds", defArgs (top 35), defBody (top 35), defScope (top 35), [], []⟩) rfl
  have F__law_rounds : FnAt (hG K) P w mg base 4 "_law_rounds" 2 c__law_rounds := ok__law_rounds fr F__law_dice D__law_rounds (He.glo_ok X N (cd.fact 23 (f := .glo "_law_rounds") rfl))
  obtain ⟨fd__law_row, D__law_row⟩ := cd.def_ 24 (d := ⟨("_law_row", none), "_law_row", "_law_row", defArgs (top 37), defBody (top 37), defScope (top 37), [], []⟩) rfl
  have F__law_row : FnAt (hG K) P w mg base 4 "_law_row" 2 c__law_row := ok__law_row fr F__law_roll D__law_row (He.glo_ok X N (cd.fact 24 (f := .glo "_law_row") rfl))
  obtain ⟨fd__law_cases1, D__law_cases1⟩ := cd.def_ 25 (d := ⟨("_law_cases1", none), "_law_cases1", "_law_cases1", defArgs (top 38), defBody (top 38), defScope (top 38), [], []⟩) rfl
  have F__law_cases1 : FnAt (hG K) P w mg base 11 "_law_cases1" 0 c__law_cases1 := ok__law_cases1 fr F_all_rows F_check_row F_put F_read (tb_of D__law_cases1 (TB ("_law_cases1", none) (List.mem_of_getElem? (i := 3) rfl)) nd (List.mem_of_getElem? (i := 3) rfl)) xm T__law_told D__law_cases1 (He.glo_ok X N (cd.fact 25 (f := .glo "_law_cases1") rfl))
  obtain ⟨fd__law_rest1, D__law_rest1⟩ := cd.def_ 26 (d := ⟨("_law_rest1", none), "_law_rest1", "_law_rest1", defArgs (top 39), defBody (top 39), defScope (top 39), [], []⟩) rfl
  have F__law_rest1 : FnAt (hG K) P w mg base 16 "_law_rest1" 1 c__law_rest1 := ok__law_rest1 fr F__law_cases1 F__law_flat F_all_rows F_beside F_extent F_made_by F_nth F_put (tb_of D__law_rest1 (TB ("_law_rest1", none) (List.mem_of_getElem? (i := 4) rfl)) nd (List.mem_of_getElem? (i := 4) rfl)) xm T__law_told D__law_rest1 (He.glo_ok X N (cd.fact 26 (f := .glo "_law_rest1") rfl))
  exact okF_law fr F__law_flat F__law_rest1 F__law_roll F__law_rounds F__law_row F_backwards F_between F_extent F_nth F_number_of F_order F_power F_put F_read F_rings F_rounds F_sign F_told F_undone F_with_more F_wrong_pairs D_law
end
end Kx
open PySem PySem.W PySem.Calls PyProof.Rows
theorem Kx.ends (plain : ∀ ns : List Int, ns.length ≤ 63 → (∀ z ∈ ns, Builtin.Int.intBits z ≤ 1048576) → ∀ h0 ds, Bz.Start (ns.map Bz.D.int) h0 ds → ∃ h', Kx.c_law ds h0 = .ok (.v (.bl true)) h') : PySem.Challenge.rw_chimehall_k01_rows.Holds := by
  w_on; o_law
  refine HandSHeadRun.head_any (r := OpenLaw.row PySem.Challenge.rw_chimehall_k01_rows) (q := view (OpenLaw.row PySem.Challenge.rw_chimehall_k01_rows).prog [40]) (H := Kx.hk) (ob := Kx.hob) (M := 4000) (loose := Kx.hlo) (d := HandSHeadRun.topDef (OpenLaw.row PySem.Challenge.rw_chimehall_k01_rows).prog 40) (kwd := []) Kx.hob_eq
    (by kernel_rfl) (fun s => by kernel_rfl) Kx.hrun (by kernel_rfl) (by kernel_rfl) (by kernel_rfl) (by rfl) (by first | assumption | decide +kernel) (by decide +kernel) ⟨rfl, rfl, rfl, rfl, rfl, by decide +kernel⟩ ?hw ?hc
  case hw => w_witness2
  case hc =>
    refine LamX.walk_ofTsE (l := PySem.Challenge.rw_chimehall_k01_rows) (n := 63) (k := 18) (x := "script") (CX := fun w => L2.CX PySem.Challenge.rw_chimehall_k01_rows.prog w) rfl (by decide) (by kernel_rfl) ⟨rfl, by decide, by decide⟩ ?F (fun _ _ _ _ _ ⟨_, _, _, _, _, _, _, _, _, _, _, _, z⟩ => z)
    intro w mg fa h Y G hmg0
    obtain ⟨K, KX, c⟩ := Y
    have hmg : mg ("law" : PySem.Str) = some (.ref fa) := by
      have e : (HandSHeadRun.topDef (OpenLaw.row PySem.Challenge.rw_chimehall_k01_rows).prog 40).name = ("law" : PySem.Str) := by kernel_rfl
      rw [← e]
      exact hmg0
    have cd : He.SaysD Kx.hfa Kx.hfn K := congrArg (fun z : He.AlT => z.1) c.t
    have nd : (Kx.htf.map fun p => (He.cT K p).2).Nodup := of_decide_eq_true c.more
    obtain ⟨fd, D⟩ := cd.def_ 27 (d := ⟨("law", none), "law", "law", L2.defArgs (Kx.top 40), L2.defBody (Kx.top 40), L2.defScope (Kx.top 40), [], []⟩) rfl
    have e := hmg.symm.trans (He.glo_ok KX G (cd.fact 27 (f := .glo "law") rfl))
    cases e
    have b := L2.FunD.bindsA (ps := ["script"]) D fun _ _ _ _ _ _ us hl => match us, hl with | [_], _ => rfl
    refine ⟨K, KX, fd, Kx.htf.map (He.cT K), Bz.spC (Kx.hG K) Kx.c_law 1, fun p hp => ?_, fun p hp => ?_, fun p hp => ?_, fun s v => b s [v] rfl, fun H a ns hl hb hH hS => Bz.start_ok (fun p hp => LamX.TabS.nil ?_) hS (plain ns hl hb), fun base KB NB TB => Kx.hlaw D KX G cd nd fun p hp => TB _ (List.mem_map.mpr ⟨p, hp, rfl⟩)⟩
    · obtain ⟨p0, hp0, rfl⟩ := List.mem_map.mp hp
      exact c.empty p0 hp0
    · obtain ⟨p0, hp0, rfl⟩ := List.mem_map.mp hp
      exact c.out p0 hp0
    · obtain ⟨p0, hp0, rfl⟩ := List.mem_map.mp hp
      exact PySem.W.codeHd_of_K KX (c.hd p0 hp0)
    · have q0 : p.1 ∈ (Kx.hG K).T.map (·.1) := List.mem_map.mpr ⟨p, hp, rfl⟩
      have q : p.1 ∈ Kx.htf.map fun p => (He.cT K p).2 := q0
      obtain ⟨p', hp', e'⟩ := List.mem_map.mp q
      rw [← e']
      exact hH _ (List.mem_map.mpr ⟨p', hp', rfl⟩)
set_option Elab.async false
set_option maxRecDepth 100000 in
theorem PySem.Challenge.cw_chimehall_k01_rows_holds : PySem.Challenge.rw_chimehall_k01_rows.Holds := by
  exact Kx.ends fun ns _ _ h0 ds st => Kx.plain ns h0 ds st
#print axioms PySem.Challenge.cw_chimehall_k01_rows_holds
