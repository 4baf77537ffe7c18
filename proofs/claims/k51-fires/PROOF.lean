import PyProof.Rows.All
import Wide.All
import OpenK.AllK
import Wide.FinOn
import KE.KStateDown
import KE.SortData
import KE.DatumOrd
import Lean
import HandS.ForMost
import HandS.More
import HandS.WordsExc
import HandS.Defaults
import HandS.Head0
import HandS.Head1
import HandS.Head2
import HandS.HeadEnd
import HandS.HeadHook1
import HandS.HeadHook2
import HandS.Flow
import HandS.Style
import HandS.Zip
import HandS.Walk
import HandS.TupAny
import HandS.TupMul
import HandS.Deep
import HandS.IsInst
import HandS.DictComp
import HandS.Conv
import HandS.Gcd
import HandS.SetKeys
import KE.GoesEnum
import HandS.Small
import KE.DataAny
import KE.DataMinMax
import KE.DataFind
import HandS.SortKw
import PySem.Challenge.RW_castlehold_k51_whole_fires_of_ovens
set_option Elab.async false
set_option linter.all false
set_option maxRecDepth 100000
set_option maxHeartbeats 1000000

/-! values as data, and how the abstract heap bears them -/
namespace CH
open PySem PySem.Spec PyProof.Rows L2

abbrev D := PyData
abbrev Sto := List D
abbrev Slot := Option (Bool × D)
abbrev Env' := List Slot

/-- the mark of a dict whose keys are tuples -/
def dtM : D × D := (.none, .bool true)
def keyD : Key → D
  | .inl i => .int i
  | .inr s => .str s

/-- the list, tuple at a: frozen, or of the module -/
def FzL (K : PySem.W.Frag) (F : Addr → Prop) (H : Hp) (a : Addr) (xs : List V) : Prop :=
  (F a ∧ Rd H a (.lst xs)) ∨
    ∃ (o : Obj) (its : Array Value) (n : Nat), K.lookup a = some o ∧ o.cls = .type "list" ∧ o.dict = none ∧ o.data = .seq its n ∧ its.size ≤ sizeLine ∧ Vals xs its.toList
def FzT (F : Addr → Prop) (H : Hp) (a : Addr) (xs : List V) : Prop := F a ∧ H a = some (.tup xs)
theorem FzL.sq {K F H a xs} (h : FzL K F H a xs) : SqL K H a xs := h.elim (fun h => .inl h.2) .inr
theorem FzT.sq {K F H a xs} (h : FzT F H a xs) : SqT K H a xs := .inl (.inl h.2)

mutual
inductive Rp (K : PySem.W.Frag) (F : Addr → Prop) (ι : List Addr) (H : Hp) : V → D → Prop
  | non : Rp K F ι H .non .none
  | bl (b : Bool) : Rp K F ι H (.bl b) (.bool b)
  | int (i : Int) : Rp K F ι H (.int i) (.int i)
  | str (x : Str) : Rp K F ι H (.str x) (.str x)
  | lst {a : Addr} {xs : List V} {ds : List D} : FzL K F H a xs → RpA K F ι H xs ds → Rp K F ι H (.ref a) (.list ds)
  | tup {a : Addr} {xs : List V} {ds : List D} : FzT F H a xs → RpA K F ι H xs ds → Rp K F ι H (.ref a) (.tuple ds)
  | dic {a : Addr} {o : Obj} {kvs : List (Key × V)} {ps : List (D × D)} : F a → H a = some (.frz o (.dK kvs)) → RpK K F ι H kvs ps → Rp K F ι H (.ref a) (.dict ps)
  | dit {a : Addr} {o : Obj} {kvs : List (List Key × V)} {ps : List (D × D)} : F a → H a = some (.frz o (.dT kvs)) → RpT K F ι H kvs ps → Rp K F ι H (.ref a) (.dict (dtM :: ps))
  | loc {a : Addr} {n : Nat} : ι[n]? = some a → Rp K F ι H (.ref a) (.dict [(.none, .int n)])
inductive RpA (K : PySem.W.Frag) (F : Addr → Prop) (ι : List Addr) (H : Hp) : List V → List D → Prop
  | nil : RpA K F ι H [] []
  | cons {v : V} {vs : List V} {d : D} {ds : List D} : Rp K F ι H v d → RpA K F ι H vs ds → RpA K F ι H (v :: vs) (d :: ds)
inductive RpK (K : PySem.W.Frag) (F : Addr → Prop) (ι : List Addr) (H : Hp) : List (Key × V) → List (D × D) → Prop
  | nil : RpK K F ι H [] []
  | cons {k : Key} {v : V} {vs : List (Key × V)} {d : D} {ds : List (D × D)} : Rp K F ι H v d → RpK K F ι H vs ds → RpK K F ι H ((k, v) :: vs) ((keyD k, d) :: ds)
inductive RpT (K : PySem.W.Frag) (F : Addr → Prop) (ι : List Addr) (H : Hp) : List (List Key × V) → List (D × D) → Prop
  | nil : RpT K F ι H [] []
  | cons {k : List Key} {v : V} {vs : List (List Key × V)} {d : D} {ds : List (D × D)} : Rp K F ι H v d → RpT K F ι H vs ds → RpT K F ι H ((k, v) :: vs) ((.tuple (k.map keyD), d) :: ds)
end

/-- what may have changed behind an expression; O: the addresses that may be written -/
structure Ext (O : Addr → Prop) (F : Addr → Prop) (ι : List Addr) (H : Hp) (F' : Addr → Prop) (ι' : List Addr) (H' : Hp) : Prop where
  f : ∀ a, F a → F' a
  fn : ∀ a, F' a → F a ∨ H a = none ∨ O a
  h : ∀ a o, H a = some o → a ∉ ι → ¬ O a → H' a = some o
  th : ∀ a, H a ≠ none → H' a ≠ none
  i : ∃ l, ι' = ι ++ l
  inew : ∀ a, a ∈ ι' → a ∈ ι ∨ H a = none
abbrev Ext0 := Ext (fun _ => False)

section
variable {K : PySem.W.Frag} {O O' F F' F'' : Addr → Prop} {ι ι' ι'' : List Addr} {H H' H'' : Hp}
theorem Ext.refl : Ext O F ι H F ι H := ⟨fun _ h => h, fun _ h => .inl h, fun _ _ h _ _ => h, fun _ h => h, ⟨[], by simp⟩, fun _ h => .inl h⟩
theorem Ext.free (e : Ext O F ι H F' ι' H') {a : Addr} (h : H' a = none) : H a = none := by
  cases q : H a with
  | none => rfl
  | some o => exact absurd h (e.th a (by rw [q]; exact fun z => nomatch z))
theorem Ext.trans (a : Ext O F ι H F' ι' H') (b : Ext O F' ι' H' F'' ι'' H'') : Ext O F ι H F'' ι'' H'' where
  f := fun x h => b.f x (a.f x h)
  fn := fun x h => by
    rcases b.fn x h with z | z | z
    · exact a.fn x z
    · exact .inr (.inl (a.free z))
    · exact .inr (.inr z)
  h := fun x o q hi ho => by
    refine b.h x o (a.h x o q hi ho) (fun z => ?_) ho
    rcases a.inew x z with z | z
    · exact hi z
    · rw [q] at z; cases z
  th := fun x h => b.th x (a.th x h)
  i := by obtain ⟨l, e1⟩ := a.i; obtain ⟨m, e2⟩ := b.i; exact ⟨l ++ m, by rw [e2, e1, List.append_assoc]⟩
  inew := fun x h => by
    rcases b.inew x h with z | z
    · exact a.inew x z
    · exact .inr (a.free z)
/-- behind a part that may write at O', where O' was O's or new -/
theorem Ext.trans2 (a : Ext O F ι H F' ι' H') (b : Ext O' F' ι' H' F'' ι'' H'') (ho : ∀ x, O' x → O x ∨ H x = none) : Ext O F ι H F'' ι'' H'' where
  f := fun x h => b.f x (a.f x h)
  fn := fun x h => by
    rcases b.fn x h with z | z | z
    · exact a.fn x z
    · exact .inr (.inl (a.free z))
    · rcases ho x z with z | z
      · exact .inr (.inr z)
      · exact .inr (.inl z)
  h := fun x o q hi hn => by
    refine b.h x o (a.h x o q hi hn) (fun z => ?_) (fun z => ?_)
    · rcases a.inew x z with z | z
      · exact hi z
      · rw [q] at z; cases z
    · rcases ho x z with z | z
      · exact hn z
      · rw [q] at z; cases z
  th := fun x h => b.th x (a.th x h)
  i := by obtain ⟨l, e1⟩ := a.i; obtain ⟨m, e2⟩ := b.i; exact ⟨l ++ m, by rw [e2, e1, List.append_assoc]⟩
  inew := fun x h => by
    rcases b.inew x h with z | z
    · exact a.inew x z
    · exact .inr (a.free z)
theorem Ext.wide (a : Ext O F ι H F' ι' H') (h : ∀ x, O x → O' x) : Ext O' F ι H F' ι' H' :=
  ⟨a.f, fun x q => (a.fn x q).imp id (Or.imp id (h x)), fun x o q hi hn => a.h x o q hi (fun z => hn (h x z)), a.th, a.i, a.inew⟩
theorem Ext.get (e : Ext O F ι H F' ι' H') {n : Nat} {a : Addr} (h : ι[n]? = some a) : ι'[n]? = some a := by
  obtain ⟨l, e1⟩ := e.i
  rw [e1, List.getElem?_append_left (List.getElem?_eq_some_iff.mp h).1]; exact h

/-- what stays: F-part is kept -/
def Kept (F : Addr → Prop) (ι : List Addr) (H : Hp) (F' : Addr → Prop) (ι' : List Addr) (H' : Hp) : Prop :=
  (∀ a, F a → F' a) ∧ (∀ a o, F a → H a = some o → H' a = some o) ∧ ∃ l, ι' = ι ++ l
theorem Kept.refl : Kept F ι H F ι H := ⟨fun _ h => h, fun _ _ _ h => h, [], by simp⟩
theorem Kept.trans (a : Kept F ι H F' ι' H') (b : Kept F' ι' H' F'' ι'' H'') : Kept F ι H F'' ι'' H'' :=
  ⟨fun x h => b.1 x (a.1 x h), fun x o h q => b.2.1 x o (a.1 x h) (a.2.1 x o h q), by
    obtain ⟨l, e1⟩ := a.2.2; obtain ⟨m, e2⟩ := b.2.2; exact ⟨l ++ m, by rw [e2, e1, List.append_assoc]⟩⟩
theorem Ext.kept (e : Ext O F ι H F' ι' H') (hi : ∀ a ∈ ι, ¬ F a) (ho : ∀ a, O a → ¬ F a) : Kept F ι H F' ι' H' :=
  ⟨e.f, fun a o h q => e.h a o q (fun z => hi a z h) (fun z => ho a z h), e.i⟩

theorem FzL.kept {a xs} (k : Kept F ι H F' ι' H') (h : FzL K F H a xs) : FzL K F' H' a xs := by
  rcases h with ⟨f, h⟩ | h
  · refine .inl ⟨k.1 a f, ?_⟩
    rcases h with h | ⟨o, h⟩
    · exact .inl (k.2.1 a _ f h)
    · exact .inr ⟨o, k.2.1 a _ f h⟩
  · exact .inr h
theorem FzT.kept {a xs} (k : Kept F ι H F' ι' H') (h : FzT F H a xs) : FzT F' H' a xs := ⟨k.1 a h.1, k.2.1 a _ h.1 h.2⟩
mutual
theorem Rp.kept (k : Kept F ι H F' ι' H') : ∀ {v : V} {d : D}, Rp K F ι H v d → Rp K F' ι' H' v d
  | _, _, .non => .non
  | _, _, .bl b => .bl b
  | _, _, .int i => .int i
  | _, _, .str x => .str x
  | _, _, .lst h r => .lst (h.kept k) (r.kept k)
  | _, _, .tup h r => .tup (h.kept k) (r.kept k)
  | _, _, .dic f h r => .dic (k.1 _ f) (k.2.1 _ _ f h) (r.kept k)
  | _, _, .dit f h r => .dit (k.1 _ f) (k.2.1 _ _ f h) (r.kept k)
  | _, _, .loc h => .loc (by
      obtain ⟨l, e1⟩ := k.2.2
      rw [e1, List.getElem?_append_left (List.getElem?_eq_some_iff.mp h).1]; exact h)
theorem RpA.kept (k : Kept F ι H F' ι' H') : ∀ {v : List V} {d : List D}, RpA K F ι H v d → RpA K F' ι' H' v d
  | _, _, .nil => .nil
  | _, _, .cons h r => .cons (h.kept k) (r.kept k)
theorem RpK.kept (k : Kept F ι H F' ι' H') : ∀ {v : List (Key × V)} {d : List (D × D)}, RpK K F ι H v d → RpK K F' ι' H' v d
  | _, _, .nil => .nil
  | _, _, .cons h r => .cons (h.kept k) (r.kept k)
theorem RpT.kept (k : Kept F ι H F' ι' H') : ∀ {v : List (List Key × V)} {d : List (D × D)}, RpT K F ι H v d → RpT K F' ι' H' v d
  | _, _, .nil => .nil
  | _, _, .cons h r => .cons (h.kept k) (r.kept k)
end
end

/-- what stands at an address that may be written -/
inductive OwnRp (K : PySem.W.Frag) (F : Addr → Prop) (ι : List Addr) (H : Hp) : Addr → D → Prop
  | lst {a : Addr} {xs : List V} {ds : List D} : H a = some (.lst xs) → RpA K F ι H xs ds → OwnRp K F ι H a (.list ds)
  | dic {a : Addr} {kvs : List (Key × V)} {ps : List (D × D)} : H a = some (.dK kvs) → RpK K F ι H kvs ps → OwnRp K F ι H a (.dict ps)
  | dit {a : Addr} {kvs : List (List Key × V)} {ps : List (D × D)} : H a = some (.dT kvs) → RpT K F ι H kvs ps → OwnRp K F ι H a (.dict (dtM :: ps))
section
variable {K : PySem.W.Frag} {O O' F F' F'' : Addr → Prop} {ι ι' ι'' : List Addr} {H H' H'' : Hp}
theorem OwnRp.there {a d} (h : OwnRp K F ι H a d) : H a ≠ none := by
  cases h with
  | lst h _ => rw [h]; exact fun z => nomatch z
  | dic h _ => rw [h]; exact fun z => nomatch z
  | dit h _ => rw [h]; exact fun z => nomatch z
theorem OwnRp.kept {a d} (k : Kept F ι H F' ι' H') (ha : ∀ o, H a = some o → H' a = some o) (h : OwnRp K F ι H a d) : OwnRp K F' ι' H' a d := by
  cases h with
  | lst h r => exact .lst (ha _ h) (r.kept k)
  | dic h r => exact .dic (ha _ h) (r.kept k)
  | dit h r => exact .dit (ha _ h) (r.kept k)
end

/-- the slots' own addresses -/
def OwnA (ρ : Env') (σ : L2.St) (a : Addr) : Prop := ∃ (i : Nat) (d : D), ρ[i]? = some (some (true, d)) ∧ σ[i]? = some (some (.ref a))

/-- the store's objects -/
structure Ss (K : PySem.W.Frag) (S : Sto) (F : Addr → Prop) (ι : List Addr) (H : Hp) : Prop where
  dom : ∀ a, F a → H a ≠ none
  iF : ∀ a, a ∈ ι → ¬ F a
  nd : ι.Nodup
  len : ι.length = S.length
  st : ∀ (n : Nat) (a : Addr) (d : D), ι[n]? = some a → S[n]? = some d → OwnRp K F ι H a d
theorem Ss.there {K S F ι H} (s : Ss K S F ι H) {a : Addr} (h : a ∈ ι) : H a ≠ none := by
  obtain ⟨n, hn, e⟩ := List.getElem_of_mem h
  have h1 : ι[n]? = some a := by rw [List.getElem?_eq_getElem hn, e]
  have h2 : n < S.length := by rw [← s.len]; exact hn
  exact (s.st n a _ h1 (List.getElem?_eq_getElem h2)).there
structure SR (K : PySem.W.Frag) (ρ : Env') (S : Sto) (F : Addr → Prop) (ι : List Addr) (σ : L2.St) (H : Hp) : Prop where
  ss : Ss K S F ι H
  len : ρ.length = σ.length
  val : ∀ (i : Nat) (d : D), ρ[i]? = some (some (false, d)) → ∃ v, σ[i]? = some (some v) ∧ Rp K F ι H v d
  own : ∀ (i : Nat) (d : D), ρ[i]? = some (some (true, d)) → ∃ a, σ[i]? = some (some (.ref a)) ∧ OwnRp K F ι H a d ∧ ¬ F a ∧ a ∉ ι
  ap : ∀ (i j : Nat) (a : Addr) (d e : D), ρ[i]? = some (some (true, d)) → ρ[j]? = some (some (true, e)) → σ[i]? = some (some (.ref a)) → σ[j]? = some (some (.ref a)) → i = j
section
variable {K : PySem.W.Frag} {ρ ρ' : Env'} {S S' : Sto} {O O' F F' F'' : Addr → Prop} {ι ι' ι'' : List Addr} {σ : L2.St} {H H' H'' : Hp}
theorem Ext0.kept (s : Ss K S F ι H) (e : Ext0 F ι H F' ι' H') : Kept F ι H F' ι' H' := Ext.kept e s.iF (fun _ z => z.elim)
theorem SR.ownA (s : SR K ρ S F ι σ H) {a : Addr} (h : OwnA ρ σ a) : ∃ d, OwnRp K F ι H a d ∧ ¬ F a ∧ a ∉ ι := by
  obtain ⟨i, d, h1, h2⟩ := h
  obtain ⟨a', e, o, n1, n2⟩ := s.own i d h1
  rw [h2] at e; cases e
  exact ⟨d, o, n1, n2⟩
theorem SR.there (s : SR K ρ S F ι σ H) {a : Addr} (h : OwnA ρ σ a) : H a ≠ none := let ⟨_, o, _⟩ := s.ownA h; o.there
/-- the slots stand behind an expression -/
theorem SR.ext (s : SR K ρ S F ι σ H) (e : Ext0 F ι H F' ι' H') (s' : Ss K S' F' ι' H') : SR K ρ S' F' ι' σ H' := by
  have k := Ext0.kept s.ss e
  refine ⟨s', s.len, fun i d h => ?_, fun i d h => ?_, s.ap⟩
  · obtain ⟨v, h1, h2⟩ := s.val i d h
    exact ⟨v, h1, h2.kept k⟩
  · obtain ⟨a, h1, h2, h3, h4⟩ := s.own i d h
    refine ⟨a, h1, h2.kept k (fun o q => e.h a o q h4 id), fun z => ?_, fun z => ?_⟩
    · rcases e.fn a z with z | z | z
      · exact h3 z
      · exact h2.there z
      · exact z
    · rcases e.inew a z with z | z
      · exact h4 z
      · exact h2.there z
theorem Ss.ext0 (s : Ss K S F ι H) (e : Ext0 F ι H F' ι H') (dom : ∀ a, F' a → H' a ≠ none) (hk : ∀ a, a ∈ ι → ∀ o, H a = some o → H' a = some o) : Ss K S F' ι H' := by
  have k := Ext0.kept s e
  refine ⟨dom, fun a h z => ?_, s.nd, s.len, fun n a d h1 h2 => (s.st n a d h1 h2).kept k (hk a (List.mem_of_getElem? h1))⟩
  rcases e.fn a z with z | z | z
  · exact s.iF a h z
  · exact s.there h z
  · exact z
/-- a new object laid, frozen -/
theorem ext_new {p : Addr} {o : HO} (hp : H p = none) : Ext0 F ι H (fun a => F a ∨ a = p) ι (upd H p o) :=
  ⟨fun _ h => .inl h, fun a h => h.imp id (fun e => .inl (by rw [e]; exact hp)), fun a q h _ _ => by rw [upd_ne (ne_of_none h hp)]; exact h,
    fun a h => by
      by_cases e : a = p
      · rw [e, upd_same]; exact fun z => nomatch z
      · rw [upd_ne e]; exact h, ⟨[], by simp⟩, fun _ h => .inl h⟩
/-- .. not frozen -/
theorem ext_newO {p : Addr} {o : HO} (hp : H p = none) : Ext0 F ι H F ι (upd H p o) :=
  ⟨fun _ h => h, fun a h => .inl h, fun a q h _ _ => by rw [upd_ne (ne_of_none h hp)]; exact h,
    fun a h => by
      by_cases e : a = p
      · rw [e, upd_same]; exact fun z => nomatch z
      · rw [upd_ne e]; exact h, ⟨[], by simp⟩, fun _ h => .inl h⟩
theorem Ss.new {p : Addr} {o : HO} (s : Ss K S F ι H) (hp : H p = none) : Ss K S (fun a => F a ∨ a = p) ι (upd H p o) :=
  s.ext0 (ext_new hp) (fun a h => (ext_new (F := F) (ι := ι) (o := o) hp).th a |> fun t => by
    rcases h with h | h
    · exact t (s.dom a h)
    · rw [h, upd_same]; exact fun z => nomatch z) fun a _ q h => by rw [upd_ne (ne_of_none h hp)]; exact h
theorem Ss.newO {p : Addr} {o : HO} (s : Ss K S F ι H) (hp : H p = none) : Ss K S F ι (upd H p o) :=
  s.ext0 (ext_newO hp) (fun a h => (ext_newO (F := F) (ι := ι) (o := o) hp).th a (s.dom a h)) fun a _ q h => by rw [upd_ne (ne_of_none h hp)]; exact h
end
end CH
set_option Elab.async false
set_option linter.all false
set_option maxRecDepth 100000
set_option maxHeartbeats 1000000
/-! the small language and what it computes -/
namespace CH
open PySem PySem.Spec PyProof.Rows L2

abbrev lim : Nat := 16777216

/-! ### operations on data -/
inductive Bo | add | sub | mul | fdiv | mod | pow
  deriving DecidableEq
inductive Co | eq | ne | lt | le | gt | ge | is | isnot | isin | notin
  deriving DecidableEq
inductive Ty | bool | int | str | list | tuple | dict
  deriving DecidableEq
inductive Bi | len | abs | int | list | tuple | sorted | min | max | sum | any | all | str | gcd | dict | inst (ts : List Ty) | setlen | setsort
  deriving DecidableEq
inductive Me | count | index | get
  deriving DecidableEq
/-- how an expression is wanted: as a value that may be kept, as one that is only looked at, as a test -/
inductive Md | V | B | T
  deriving DecidableEq

def locD (n : Nat) : D := .dict [(.none, .int n)]
/-- a reference to the store -/
def isLoc : D → Option Nat
  | .dict [(.none, .int n)] => some n.toNat
  | _ => none
def isCont : D → Bool
  | .list _ => true
  | .dict _ => true
  | _ => false
/-- what is read: a reference's object, else itself -/
def deref (S : Sto) (d : D) : Option D := match isLoc d with
  | some n => S[n]?
  | none => some d

def toKey : D → Option Key
  | .int i => some (.inl i)
  | .str s => some (.inr s)
  | _ => none
def toKeys : List D → Option (List Key)
  | [] => some []
  | d :: r => match toKey d, toKeys r with
    | some k, some ks => some (k :: ks)
    | _, _ => none
/-- a key's form -/
inductive KK | k (k : Key) | t (ks : List Key)
  deriving DecidableEq
def toKK : D → Option KK
  | .tuple ds => (toKeys ds).map .t
  | d => (toKey d).map .k
/-- keys are tuples -/
def isDt : List (D × D) → Bool
  | (.none, .bool true) :: _ => true
  | _ => false
def isTk : KK → Bool
  | .t _ => true
  | .k _ => false
def keysOf : List (D × D) → List D
  | (.none, .bool true) :: r => r.map (·.1)
  | ps => ps.map (·.1)
def findK (kk : KK) : List (D × D) → Option D
  | [] => none
  | (k, v) :: r => if toKK k = some kk then some v else findK kk r
def putD (kk : KK) (k v : D) (ps : List (D × D)) : List (D × D) :=
  if (ps.any fun p => decide (toKK p.1 = some kk)) = true then ps.map (fun p => if toKK p.1 = some kk then (p.1, v) else p) else ps ++ [(k, v)]

def addD : D → D → Option D
  | .int a, .int b => some (.int (a + b))
  | .str a, .str b => if a.length + b.length ≤ lim then some (.str (a ++ b)) else none
  | .tuple a, .tuple b => if a.length + b.length ≤ lim then some (.tuple (a ++ b)) else none
  | .list a, .list b => if a.length + b.length ≤ lim then some (.list (a ++ b)) else none
  | _, _ => none
def subD : D → D → Option D
  | .int a, .int b => some (.int (a - b))
  | _, _ => none
def small (i : Int) : Bool := decide (-(18446744073709551616) < i) && decide (i < 18446744073709551616)
def mulD : D → D → Option D
  | .int a, .int b => if small a || small b then some (.int (a * b)) else none
  | .tuple a, .int b => if 1 < b ∧ b < 1000 ∧ a.length ≤ 1000 ∧ a ≠ [] then some (.tuple (List.replicate b.toNat a).flatten) else none
  | .list a, .int b => if 0 ≤ b ∧ b < 1000 ∧ a.length ≤ 1000 then some (.list (List.replicate b.toNat a).flatten) else none
  | _, _ => none
def fdivD : D → D → Option D
  | .int a, .int b => if b ≠ 0 ∧ b.natAbs < 1073741824 then some (.int (a.fdiv b)) else none
  | _, _ => none
def modD : D → D → Option D
  | .int a, .int b => if b ≠ 0 then some (.int (a.fmod b)) else none
  | _, _ => none
def powD : D → D → Option D
  | .int a, .int b => if 0 ≤ b ∧ b ≤ 1000 ∧ small a then some (.int (a ^ b.toNat)) else none
  | _, _ => none
def binD : Bo → D → D → Option D
  | .add => addD | .sub => subD | .mul => mulD | .fdiv => fdivD | .mod => modD | .pow => powD

/-- no dict within, depth at most 60: what == may be asked of -/
def okD (d : D) : Bool := d.plain && Nat.ble d.depth 60
def okDs (l : List D) : Bool := PyData.plainAll l && Nat.ble (PyData.depthAll l) 60
def eqD (a b : D) : Option Bool := if okD a && b.plain then some (PyData.eqv a b) else none
/-- order -/
def notN : D → Bool
  | .none => false
  | _ => true
def okLt (a b : D) : Bool := okD a && b.plain && PySem.W.alike a b && notN a
def ltD : D → D → Option Bool
  | .int a, .int b => some (decide (a < b))
  | a, b => if okLt a b then some (PySem.W.dataLt a b) else none
def inD (x : D) : D → Option Bool
  | .list ds => if okD x && PyData.plainAll ds then some (ds.any fun d => PyData.eqv d x) else none
  | .tuple ds => if okD x && PyData.plainAll ds then some (ds.any fun d => PyData.eqv d x) else none
  | .dict ps => (toKK x).bind fun kk => if isTk kk = isDt ps then some (findK kk ps).isSome else none
  | .str s => match x with
    | .str z => if z.length = 1 then some (decide (z.cps.getD 0 0 ∈ s.cps.toList)) else none
    | _ => none
  | _ => none
def isD : D → D → Option Bool
  | a, .none => some (match a with | .none => true | _ => false)
  | .bool a, .bool b => some (a == b)
  | _, _ => none
def cmpD : Co → D → D → Option Bool
  | .eq, a, b => eqD a b
  | .ne, a, b => (eqD a b).map (!·)
  | .lt, a, b => ltD a b
  | .le, a, b => match a, b with
    | .int a, .int b => some (decide (a ≤ b))
    | a, b => if okLt a b then some (!PySem.W.dataLt b a) else none
  | .gt, a, b => match a, b with
    | .int a, .int b => some (decide (b < a))
    | a, b => if okLt a b then some (PySem.W.dataLt b a) else none
  | .ge, a, b => match a, b with
    | .int a, .int b => some (decide (b ≤ a))
    | a, b => if okLt a b then some (!PySem.W.dataLt a b) else none
  | .is, a, b => isD a b
  | .isnot, a, b => (isD a b).map (!·)
  | .isin, a, b => inD a b
  | .notin, a, b => (inD a b).map (!·)

def truD : D → Option Bool
  | .none => some false
  | .bool b => some b
  | .int i => some (decide (i ≠ 0))
  | .str s => if s.length ≤ lim then some (decide (s.length ≠ 0)) else none
  | .list l => some (!l.isEmpty)
  | .tuple l => some (!l.isEmpty)
  | .dict _ => none

def idxD : D → D → Option D
  | .list l, .int i => L2.atI l i
  | .tuple l, .int i => L2.atI l i
  | .str s, .int i => if s.length ≤ lim then (L2.atI s.cps.toList i).map fun c => .str ⟨#[c]⟩ else none
  | .dict ps, k => (toKK k).bind fun kk => if isTk kk = isDt ps then findK kk ps else none
  | _, _ => none
def bndD : D → Option (Option Int)
  | .none => some none
  | .int i => some (some i)
  | _ => none
def cutL {α : Type} (l : List α) (lo hi : Option Int) : List α := (l.drop (HT.sIx l.length 0 lo)).take (HT.sIx l.length l.length hi - HT.sIx l.length 0 lo)
def sliceD (d : D) (lo hi : Option Int) : Option D := match d with
  | .list l => some (.list (cutL l lo hi))
  | .tuple l => some (.tuple (cutL l lo hi))
  | _ => none

def intsOf : List D → Option (List Int)
  | [] => some []
  | .int i :: r => (intsOf r).map (i :: ·)
  | _ :: _ => none
def bools : List D → Option (List Bool)
  | [] => some []
  | .bool i :: r => (bools r).map (i :: ·)
  | _ :: _ => none
/-- a list's or tuple's items, a dict's keys -/
def itemsOf : D → Option (List D)
  | .list l => some l
  | .tuple l => some l
  | _ => none
def allAlike (l : List D) : Bool := l.all fun a => l.all fun b => PySem.W.alike a b
def isT1 : D → Bool
  | .tuple (_ :: _) => true
  | _ => false
def isO1 : D → Bool
  | .tuple _ => false
  | .none => false
  | _ => true
def okSort (l : List D) : Bool := allAlike l && (l.all isT1 || l.all isO1) && okDs l
def sortL (l : List D) : Option (List D) := if okSort l then some (l.mergeSort (PySem.W.dataLe false id)) else none
def okMin (l : List D) : Bool := allAlike l && l.all notN && okDs l
def minL : List D → Option D
  | [] => none
  | x :: xs => if okMin (x :: xs) then some (PySem.W.minD x xs) else none
def maxL : List D → Option D
  | [] => none
  | x :: xs => if okMin (x :: xs) then some (PySem.W.maxD x xs) else none
def tyD : D → Ty → Bool
  | .none, _ => false
  | .bool _, .bool => true
  | .bool _, .int => true
  | .int _, .int => true
  | .str _, .str => true
  | .list _, .list => true
  | .tuple _, .tuple => true
  | .dict _, .dict => true
  | _, _ => false
def noDt : D → Bool
  | .dict ps => !isDt ps
  | _ => true
def pairsOf : List D → Option (List (D × D))
  | [] => some []
  | .tuple [k, v] :: r => match toKey k, pairsOf r with
    | some _, some ps => some ((k, v) :: ps)
    | _, _ => none
  | _ :: _ => none
def mergeD (acc : List (D × D)) : List (D × D) → Option (List (D × D))
  | [] => some acc
  | (k, v) :: r => match toKK k with
    | some kk => mergeD (putD kk k v acc) r
    | none => none
def strsOf : List D → Option (List Str)
  | [] => some []
  | .str s :: r => (strsOf r).map (s :: ·)
  | _ :: _ => none
def biD : Bi → List D → Option D
  | .len, [.list l] => some (.int l.length)
  | .len, [.tuple l] => some (.int l.length)
  | .len, [.str s] => if s.length ≤ lim then some (.int s.length) else none
  | .abs, [.int i] => some (.int (if i < 0 then -i else i))
  | .int, [.int i] => some (.int i)
  | .int, [.bool b] => some (.int (if b then 1 else 0))
  | .str, [.int i] => if i.natAbs.log2 < 1920 then some (.str (toString i)) else none
  | .list, [d] => (itemsOf d).map .list
  | .tuple, [d] => (itemsOf d).map .tuple
  | .sorted, [d] => (itemsOf d).bind fun l => (sortL l).map .list
  | .min, [.list l] => minL l
  | .min, [.int a, .int b] => some (.int (if b < a then b else a))
  | .max, [.list l] => maxL l
  | .max, [.int a, .int b] => some (.int (if b > a then b else a))
  | .sum, [.list l] => (intsOf l).map fun ns => .int ns.sum
  | .any, [.list l] => (bools l).map fun bs => .bool (bs.any id)
  | .all, [.list l] => (bools l).map fun bs => .bool (bs.all id)
  | .gcd, [.int a, .int b] => some (.int (Int.gcd a b))
  | .dict, [.list l] => (pairsOf l).bind fun ps => (mergeD [] ps).map .dict
  | .inst ts, [d] => if noDt d then some (.bool (ts.any (tyD d))) else none
  | _, _ => none

def rangeD (lo : Int) (n : Nat) : List D := (List.range n).map fun (i : Nat) => .int (lo + i)
def rangeC (lo c : Int) (n : Nat) : List D := (List.range n).map fun (i : Nat) => .int (lo + i * c)
def in62 (i : Int) : Bool := decide (-4611686018427387904 ≤ i) && decide (i < 4611686018427387904)
def enumD : Nat → List D → List D
  | _, [] => []
  | n, d :: r => .tuple [.int n, d] :: enumD (n + 1) r
def zipD : List D → List D → List D
  | a :: r, b :: s => .tuple [a, b] :: zipD r s
  | _, _ => []


def meD : Me → D → List D → Option D
  | .count, .list l, [x] => if okD x && PyData.plainAll l then some (.int (l.countP fun d => PyData.eqv d x)) else none
  | .index, .list l, [x] => if okD x && PyData.plainAll l then (l.findIdx? fun d => PyData.eqv d x).map fun i => .int i else none
  | .get, .dict ps, [k] => (toKK k).bind fun kk => if isTk kk = isDt ps then some ((findK kk ps).getD .none) else none
  | .get, .dict ps, [k, x] => (toKK k).bind fun kk => if isTk kk = isDt ps then some ((findK kk ps).getD x) else none
  | _, _, _ => none
def negD : D → Option D
  | .int i => some (.int (-i))
  | _ => none
def revD : D → Option D
  | .list l => some (.list l.reverse)
  | _ => none
def pairsUp : List D → Option (List (D × D))
  | [] => some []
  | k :: v :: r => (pairsUp r).map ((k, v) :: ·)
  | _ => none

/-! ### the language -/
mutual
inductive Ex
  | cst (d : D)
  | var (i : Nat)
  | bin (o : Bo) (a b : Ex)
  | neg (a : Ex)
  | cmp (o : Co) (a b : Ex)
  | chain (o o' : Co) (a b c : Ex)
  | and (a b : Ex)
  | or (a b : Ex)
  | not (a : Ex)
  | ite (t a b : Ex)
  | tup (l : Exs)
  | lst (l : Exs)
  | loc (l : Exs)
  | locd
  | dct (l : Exs)
  | dcT
  | idx (a b : Ex)
  | slice (a lo hi : Ex)
  | rev (a : Ex)
  | asInt (a : Ex)
  | call (f : Str) (l : Exs)
  | bi (b : Bi) (l : Exs)
  | minDf (a d : Ex)
  | comp (elt : Ex) (t : Tg) (it : Ix) (ifs : Exs) (own : List Nat)
  | comp2 (elt : Ex) (t : Tg) (it : Ix) (ifs : Exs) (t2 : Tg) (it2 : Ix) (ifs2 : Exs) (own own2 : List Nat)
  | dcomp (k v : Ex) (t : Tg) (it : Ix) (ifs : Exs) (own : List Nat)
  | listIt (it : Ix)
  | meth (m : Me) (o : Ex) (l : Exs)
inductive Exs
  | nil
  | cons (e : Ex) (l : Exs)
inductive Ix
  | seq (e : Ex)
  | rng1 (b : Ex)
  | rng2 (a b : Ex)
  | rng3 (a b c : Ex)
  | enm (e : Ex)
  | zip (a b : Ex)
inductive Tg
  | nm (i : Nat)
  | tup (l : Tgs)
inductive Tgs
  | nil
  | cons (t : Tg) (l : Tgs)
end

mutual
inductive Sx
  | asg (t : Tg) (e : Ex)
  | sub (i : Nat) (k e : Ex)
  | par (l : List Nat) (e : Exs)
  | app (i : Nat) (e : Ex)
  | expr (e : Ex)
  | ret (e : Ex)
  | retN
  | ifS (c : Ex) (a b : Sxs)
  | forS (t : Tg) (it : Ix) (b : Sxs)
  | whileS (c : Ex) (b : Sxs)
  | brk
  | cnt
  | pass
inductive Sxs
  | nil
  | cons (s : Sx) (l : Sxs)
end

/-- what an expression makes is new (where it is a list or a dict) -/
def isNew : Ex → Bool
  | .lst _ => true
  | .dct _ => true
  | .dcT => true
  | .comp .. => true
  | .comp2 .. => true
  | .dcomp .. => true
  | .listIt _ => true
  | .bi .list _ => true
  | .bi .sorted _ => true
  | .bi .dict _ => true
  | .bi .setsort _ => true
  | .bin _ _ _ => true
  | .slice .. => true
  | .rev _ => true
  | _ => false

/-! ### slots -/
def getS (ρ : Env') (i : Nat) : Option D := match ρ[i]? with
  | some (some (false, d)) => some d
  | _ => none
def getB (ρ : Env') (i : Nat) : Option D := match ρ[i]? with
  | some (some (_, d)) => some d
  | _ => none
def setS (ρ : Env') (i : Nat) (own : Bool) (d : D) : Option Env' := if i < ρ.length then some (ρ.set i (some (own, d))) else none
mutual
def bindT : Tg → D → Env' → Option Env'
  | .nm i, d, ρ => setS ρ i false d
  | .tup l, .tuple ds, ρ => bindTs l ds ρ
  | .tup _, _, _ => none
def bindTs : Tgs → List D → Env' → Option Env'
  | .nil, [], ρ => some ρ
  | .cons t l, d :: ds, ρ => match bindT t d ρ with
    | some ρ1 => bindTs l ds ρ1
    | none => none
  | _, _, _ => none
end
def wipeE (ρ : Env') : List Nat → Env'
  | [] => ρ
  | v :: vs => (wipeE ρ vs).set v none
abbrev RunF := Env' → Sto → Option (D × Sto)
/-- the turns of a comprehension over the items -/
def compF (bind : D → Env' → Option Env') (test elt : RunF) (ρ : Env') : List D → Sto → Option (List D × Sto)
  | [], S => some ([], S)
  | x :: xs, S => match bind x ρ with
    | none => none
    | some ρ1 => match test ρ1 S with
      | some (.bool false, S1) => compF bind test elt ρ xs S1
      | some (.bool true, S1) => match elt ρ1 S1 with
        | none => none
        | some (d, S2) => match compF bind test elt ρ xs S2 with
          | none => none
          | some (ds, S3) => some (d :: ds, S3)
      | _ => none
/-- .. with a second clause -/
def comp2F (bind : D → Env' → Option Env') (test : RunF) (inner : Env' → Sto → Option (List D × Sto)) (ρ : Env') : List D → Sto → Option (List D × Sto)
  | [], S => some ([], S)
  | x :: xs, S => match bind x ρ with
    | none => none
    | some ρ1 => match test ρ1 S with
      | some (.bool false, S1) => comp2F bind test inner ρ xs S1
      | some (.bool true, S1) => match inner ρ1 S1 with
        | none => none
        | some (ds, S2) => match comp2F bind test inner ρ xs S2 with
          | none => none
          | some (es, S3) => some (ds ++ es, S3)
      | _ => none
def dcompF (bind : D → Env' → Option Env') (test kx vx : RunF) (ρ : Env') : List (D × D) → List D → Sto → Option (List (D × D) × Sto)
  | acc, [], S => some (acc, S)
  | acc, x :: xs, S => match bind x ρ with
    | none => none
    | some ρ1 => match test ρ1 S with
      | some (.bool false, S1) => dcompF bind test kx vx ρ acc xs S1
      | some (.bool true, S1) => match kx ρ1 S1 with
        | none => none
        | some (k, S2) => match vx ρ1 S2 with
          | none => none
          | some (v, S3) => match toKey k with
            | none => none
            | some kk => if acc.length < lim then dcompF bind test kx vx ρ (putD (.k kk) k v acc) xs S3 else none
      | _ => none

/-- brought into the wanted mode -/
def fin (m : Md) (r : Option (D × Sto)) : Option (D × Sto) := match m with
  | .V => r
  | .B => r
  | .T => match r with
    | some (d, S) => ((deref S d).bind truD).map fun c => (.bool c, S)
    | none => none
/-- two operands, one after another -/
def two (a b : RunF) (g : D → D → Option D) : RunF := fun ρ S => match a ρ S with
  | none => none
  | some (x, S1) => match b ρ S1 with
    | none => none
    | some (y, S2) => match deref S2 x, deref S2 y with
      | some x', some y' => (g x' y').map (·, S2)
      | _, _ => none
def derefs (S : Sto) : List D → Option (List D)
  | [] => some []
  | d :: r => match deref S d, derefs S r with
    | some x, some xs => some (x :: xs)
    | _, _ => none
/-- one operand -/
def one (a : RunF) (g : D → Option D) : RunF := fun ρ S => match a ρ S with
  | none => none
  | some (x, S1) => ((deref S1 x).bind g).map (·, S1)
abbrev CallF := Str → List D → Sto → Option (D × Sto)
section
variable (C : CallF)
mutual
def run : Ex → Md → RunF
  | .cst d, m, _, S => fin m (some (d, S))
  | .var i, .V, ρ, S => (getS ρ i).map (·, S)
  | .var i, m, ρ, S => fin m ((getB ρ i).map (·, S))
  | .bin o a b, m, ρ, S => fin m (two (run a .B) (run b .B) (binD o) ρ S)
  | .neg a, m, ρ, S => fin m (one (run a .B) negD ρ S)
  | .cmp o a b, m, ρ, S => fin m (two (run a .B) (run b .B) (fun x y => (cmpD o x y).map .bool) ρ S)
  | .chain o o' a b c, m, ρ, S => fin m (match run a .B ρ S with
    | none => none
    | some (x, S1) => match run b .B ρ S1 with
      | none => none
      | some (y, S2) => match deref S2 x, deref S2 y with
        | some x', some y' => match cmpD o x' y' with
          | none => none
          | some false => some (.bool false, S2)
          | some true => match run c .B ρ S2 with
            | none => none
            | some (z, S3) => match deref S3 y, deref S3 z with
              | some y', some z' => (cmpD o' y' z').map (fun c => (.bool c, S3))
              | _, _ => none
        | _, _ => none)
  | .and a b, .T, ρ, S => match run a .T ρ S with
    | some (.bool true, S1) => run b .T ρ S1
    | some (.bool false, S1) => some (.bool false, S1)
    | _ => none
  | .and a b, m, ρ, S => fin m (match run a .V ρ S with
    | none => none
    | some (x, S1) => match (deref S1 x).bind truD with
      | none => none
      | some true => run b .V ρ S1
      | some false => some (x, S1))
  | .or a b, .T, ρ, S => match run a .T ρ S with
    | some (.bool false, S1) => run b .T ρ S1
    | some (.bool true, S1) => some (.bool true, S1)
    | _ => none
  | .or a b, m, ρ, S => fin m (match run a .V ρ S with
    | none => none
    | some (x, S1) => match (deref S1 x).bind truD with
      | none => none
      | some true => some (x, S1)
      | some false => run b .V ρ S1)
  | .not a, .T, ρ, S => match run a .T ρ S with
    | some (.bool c, S1) => some (.bool (!c), S1)
    | _ => none
  | .not a, _, ρ, S => one (run a .B) (fun x => (truD x).map fun c => .bool (!c)) ρ S
  | .ite t a b, m, ρ, S => match run t .T ρ S with
    | some (.bool true, S1) => run a m ρ S1
    | some (.bool false, S1) => run b m ρ S1
    | _ => none
  | .tup l, m, ρ, S => fin m (match runs l .V ρ S with
    | none => none
    | some (ds, S1) => if ds.length ≤ lim then some (.tuple ds, S1) else none)
  | .lst l, m, ρ, S => fin m (match runs l .V ρ S with
    | none => none
    | some (ds, S1) => if ds.length ≤ lim then some (.list ds, S1) else none)
  | .loc l, m, ρ, S => fin m (match runs l .V ρ S with
    | none => none
    | some (ds, S1) => if ds.length ≤ lim then some (locD S1.length, S1 ++ [.list ds]) else none)
  | .locd, m, ρ, S => fin m (some (locD S.length, S ++ [.dict []]))
  | .dct l, m, ρ, S => fin m (match runs l .V ρ S with
    | none => none
    | some (ds, S1) => if ds.length ≤ 30 then (match pairsUp ds with
      | none => none
      | some ps => (mergeD [] ps).map fun m => (.dict m, S1)) else none)
  | .dcT, m, ρ, S => fin m (some (.dict [dtM], S))
  | .idx a b, m, ρ, S => fin m (two (run a .B) (run b .B) idxD ρ S)
  | .slice a lo hi, m, ρ, S => fin m (match run a .B ρ S with
    | none => none
    | some (x, S1) => match run lo .V ρ S1 with
      | none => none
      | some (y, S2) => match run hi .V ρ S2 with
        | none => none
        | some (z, S3) => match bndD y, bndD z, deref S3 x with
          | some lo, some hi, some x' => (sliceD x' lo hi).map (·, S3)
          | _, _, _ => none)
  | .rev a, m, ρ, S => fin m (one (run a .B) revD ρ S)
  | .asInt a, m, ρ, S => fin m (match run a .V ρ S with
    | some (.int i, S1) => some (.int i, S1)
    | _ => none)
  | .call f l, m, ρ, S => fin m (match runs l .V ρ S with
    | none => none
    | some (ds, S1) => C f ds S1)
  | .bi b l, m, ρ, S => fin m (match runs l .B ρ S with
    | none => none
    | some (ds, S1) => ((derefs S1 ds).bind (biD b)).map (·, S1))
  | .minDf a d, m, ρ, S => fin m (match run a .B ρ S with
    | some (x, S1) => match run d .V ρ S1 with
      | none => none
      | some (y, S2) => match deref S2 x with
        | some (.list []) => some (y, S2)
        | some (.list l) => (minL l).map (·, S2)
        | _ => none
    | _ => none)
  | .comp elt t it ifs own, m, ρ, S => fin m (match runIt it ρ S with
    | none => none
    | some (xs, S1) => (compF (bindT t) (runTs ifs) (run elt .V) (wipeE ρ own) xs S1).bind fun p => if p.1.length ≤ lim then some (.list p.1, p.2) else none)
  | .comp2 elt t it ifs t2 it2 ifs2 own own2, m, ρ, S => fin m (match runIt it ρ S with
    | none => none
    | some (xs, S1) => (comp2F (bindT t) (runTs ifs) (fun ρ1 S2 => match runIt it2 ρ1 S2 with
        | none => none
        | some (ys, S3) => compF (bindT t2) (runTs ifs2) (run elt .V) (wipeE ρ1 own2) ys S3) (wipeE ρ own) xs S1).bind fun p => if p.1.length ≤ lim then some (.list p.1, p.2) else none)
  | .dcomp k v t it ifs own, m, ρ, S => fin m (match runIt it ρ S with
    | none => none
    | some (xs, S1) => (dcompF (bindT t) (runTs ifs) (run k .V) (run v .V) (wipeE ρ own) [] xs S1).map fun p => (.dict p.1, p.2))
  | .listIt it, m, ρ, S => fin m (match runIt it ρ S with
    | none => none
    | some (xs, S1) => if xs.length ≤ lim then some (.list xs, S1) else none)
  | .meth me o l, m, ρ, S => fin m (match run o .B ρ S with
    | none => none
    | some (x, S1) => match runs l .V ρ S1 with
      | none => none
      | some (ds, S2) => ((deref S2 x).bind fun x' => meD me x' ds).map (·, S2))
def runTs : Exs → RunF
  | .nil, _, S => some (.bool true, S)
  | .cons c l, ρ, S => match run c .T ρ S with
    | some (.bool false, S1) => some (.bool false, S1)
    | some (.bool true, S1) => runTs l ρ S1
    | _ => none
def runs : Exs → Md → Env' → Sto → Option (List D × Sto)
  | .nil, _, _, S => some ([], S)
  | .cons e l, m, ρ, S => match run e m ρ S with
    | none => none
    | some (d, S1) => match runs l m ρ S1 with
      | none => none
      | some (ds, S2) => some (d :: ds, S2)
def runIt : Ix → Env' → Sto → Option (List D × Sto)
  | .seq e, ρ, S => match run e .V ρ S with
    | some (.list l, S1) => some (l, S1)
    | some (.tuple l, S1) => some (l, S1)
    | some (.dict ps, S1) => match isLoc (.dict ps) with
      | some _ => none
      | none => if isDt ps then none else some (keysOf ps, S1)
    | some (.str s, S1) => some (s.cps.toList.map (fun c => .str ⟨#[c]⟩), S1)
    | _ => none
  | .rng1 b, ρ, S => match run b .V ρ S with
    | some (.int j, S1) => if in62 j then some (rangeD 0 j.toNat, S1) else none
    | _ => none
  | .rng2 a b, ρ, S => match run a .V ρ S with
    | some (.int i, S1) => match run b .V ρ S1 with
      | some (.int j, S2) => if in62 i && in62 j then some (rangeD i (j - i).toNat, S2) else none
      | _ => none
    | _ => none
  | .rng3 a b c, ρ, S => match run a .V ρ S with
    | some (.int i, S1) => match run b .V ρ S1 with
      | some (.int j, S2) => match run c .V ρ S2 with
        | some (.int k, S3) => if decide (k ≠ 0) && decide (k.natAbs < 1073741824) && Builtin.Range.small i j k then some (rangeC i k (Builtin.Range.rangeSize i j k).toNat, S3) else none
        | _ => none
      | _ => none
    | _ => none
  | .enm e, ρ, S => match run e .V ρ S with
    | some (.list l, S1) => some (enumD 0 l, S1)
    | some (.tuple l, S1) => some (enumD 0 l, S1)
    | _ => none
  | .zip a b, ρ, S => match run a .V ρ S with
    | some (.list l, S1) => match run b .V ρ S1 with
      | some (.list k, S2) => some (zipD l k, S2)
      | _ => none
    | some (.tuple l, S1) => match run b .V ρ S1 with
      | some (.tuple k, S2) => some (zipD l k, S2)
      | _ => none
    | _ => none
end

/-! ### names that are kept by an expression -/
mutual
def esc : Ex → Md → List Nat
  | .var i, .V => [i]
  | .bin _ a b, _ => esc a .B ++ esc b .B
  | .neg a, _ => esc a .B
  | .cmp _ a b, _ => esc a .B ++ esc b .B
  | .chain _ _ a b c, _ => esc a .B ++ esc b .B ++ esc c .B
  | .and a b, m => match m with
    | .T => esc a .T ++ esc b .T
    | _ => esc a .V ++ esc b .V
  | .or a b, m => match m with
    | .T => esc a .T ++ esc b .T
    | _ => esc a .V ++ esc b .V
  | .not a, m => match m with
    | .T => esc a .T
    | _ => esc a .B
  | .ite t a b, m => esc t .T ++ esc a m ++ esc b m
  | .tup l, _ => escs l .V
  | .lst l, _ => escs l .V
  | .loc l, _ => escs l .V
  | .dct l, _ => escs l .V
  | .idx a b, _ => esc a .B ++ esc b .B
  | .slice a lo hi, _ => esc a .B ++ esc lo .V ++ esc hi .V
  | .rev a, _ => esc a .B
  | .asInt a, _ => esc a .V
  | .call _ l, _ => escs l .V
  | .bi _ l, _ => escs l .B
  | .minDf a d, _ => esc a .B ++ esc d .V
  | .comp elt _ it ifs _, _ => esc elt .V ++ escI it ++ escs ifs .T
  | .comp2 elt _ it ifs _ it2 ifs2 _ _, _ => esc elt .V ++ escI it ++ escs ifs .T ++ escI it2 ++ escs ifs2 .T
  | .dcomp k v _ it ifs _, _ => esc k .V ++ esc v .V ++ escI it ++ escs ifs .T
  | .listIt it, _ => escI it
  | .meth _ o l, _ => esc o .B ++ escs l .V
  | _, _ => []
def escs : Exs → Md → List Nat
  | .nil, _ => []
  | .cons e l, m => esc e m ++ escs l m
def escI : Ix → List Nat
  | .seq e => esc e .V
  | .rng1 b => esc b .V
  | .rng2 a b => esc a .V ++ esc b .V
  | .rng3 a b c => esc a .V ++ esc b .V ++ esc c .V
  | .enm e => esc e .V
  | .zip a b => esc a .V ++ esc b .V
end
def frz1 (ρ : Env') (i : Nat) : Env' := match ρ[i]? with
  | some (some (true, d)) => ρ.set i (some (false, d))
  | _ => ρ
def frz (ρ : Env') (l : List Nat) : Env' := l.foldl frz1 ρ

/-! ### statements -/
inductive Fl | nx | bk | ct | rt (d : D)
abbrev ExecF := Env' → Sto → Option (Fl × Env' × Sto)
def loopF (bind : D → Env' → Option Env') (body : ExecF) : List D → ExecF
  | [], ρ, S => some (.nx, ρ, S)
  | x :: xs, ρ, S => match bind x ρ with
    | none => none
    | some ρ1 => match body ρ1 S with
      | some (.nx, ρ2, S2) => loopF bind body xs ρ2 S2
      | some (.ct, ρ2, S2) => loopF bind body xs ρ2 S2
      | some (.bk, ρ2, S2) => some (.nx, ρ2, S2)
      | some (.rt d, ρ2, S2) => some (.rt d, ρ2, S2)
      | none => none
def whileF (test : Env' → Sto → Option (D × Env' × Sto)) (body : ExecF) : Nat → ExecF
  | 0, _, _ => none
  | n + 1, ρ, S => match test ρ S with
    | some (.bool false, ρ1, S1) => some (.nx, ρ1, S1)
    | some (.bool true, ρ1, S1) => match body ρ1 S1 with
      | some (.nx, ρ2, S2) => whileF test body n ρ2 S2
      | some (.ct, ρ2, S2) => whileF test body n ρ2 S2
      | some (.bk, ρ2, S2) => some (.nx, ρ2, S2)
      | some (.rt d, ρ2, S2) => some (.rt d, ρ2, S2)
      | none => none
    | _ => none
def setAll : List Nat → List D → Env' → Option Env'
  | [], [], ρ => some ρ
  | i :: l, d :: ds, ρ => match setS ρ i false d with
    | some ρ1 => setAll l ds ρ1
    | none => none
  | _, _, _ => none
/-- o[k] = v -/
def putAt (o k v : D) : Option D := match o, k with
  | .list l, .int i => if 0 ≤ i ∧ i < l.length then some (.list (l.set i.toNat v)) else none
  | .dict ps, k => match toKK k with
    | some kk => if isTk kk = isDt ps ∧ ps.length < lim then some (.dict (putD kk k v ps)) else none
    | none => none
  | _, _ => none
def appAt (o v : D) : Option D := match o with
  | .list l => if l.length < lim then some (.list (l ++ [v])) else none
  | _ => none
/-- the object in slot i is changed: its own, or the store's -/
def chg (ρ : Env') (S : Sto) (i : Nat) (f : D → Option D) : Option (Env' × Sto) := match ρ[i]? with
  | some (some (true, d)) => (f d).map fun d' => (ρ.set i (some (true, d')), S)
  | some (some (false, d)) => match isLoc d with
    | some n => match S[n]? with
      | some o => (f o).map fun o' => (ρ, S.set n o')
      | none => none
    | none => none
  | _ => none
def isLst (ρ : Env') (S : Sto) (i : Nat) : Bool := match ρ[i]? with
  | some (some (true, .list _)) => true
  | some (some (false, d)) => match isLoc d with
    | some n => match S[n]? with
      | some (.list _) => true
      | _ => false
    | none => false
  | _ => false
def fuelW : Nat := 3000
mutual
def exec : Sx → ExecF
  | .asg t e, ρ, S => match run C e .V (frz ρ (esc e .V)) S with
    | none => none
    | some (d, S1) => match t with
      | .nm i => (setS (frz ρ (esc e .V)) i (isNew e && isCont d) d).map fun ρ1 => (.nx, ρ1, S1)
      | t => (bindT t d (frz ρ (esc e .V))).map fun ρ1 => (.nx, ρ1, S1)
  | .sub i k e, ρ, S => match run C e .V (frz ρ (esc e .V ++ esc k .V)) S with
    | none => none
    | some (v, S1) => match run C k .V (frz ρ (esc e .V ++ esc k .V)) S1 with
      | none => none
      | some (kd, S2) => (chg (frz ρ (esc e .V ++ esc k .V)) S2 i fun o => putAt o kd v).map fun p => (.nx, p.1, p.2)
  | .par l es, ρ, S => match runs C es .V (frz ρ (escs es .V)) S with
    | none => none
    | some (ds, S1) => (setAll l ds (frz ρ (escs es .V))).map fun ρ1 => (.nx, ρ1, S1)
  | .app i e, ρ, S => if isLst (frz ρ (esc e .V)) S i then (match run C e .V (frz ρ (esc e .V)) S with
    | none => none
    | some (v, S1) => (chg (frz ρ (esc e .V)) S1 i fun o => appAt o v).map fun p => (.nx, p.1, p.2)) else none
  | .expr e, ρ, S => match run C e .V (frz ρ (esc e .V)) S with
    | none => none
    | some (_, S1) => some (.nx, frz ρ (esc e .V), S1)
  | .ret e, ρ, S => match run C e .V (frz ρ (esc e .V)) S with
    | none => none
    | some (d, S1) => some (.rt d, frz ρ (esc e .V), S1)
  | .retN, ρ, S => some (.rt .none, ρ, S)
  | .ifS c a b, ρ, S => match run C c .T (frz ρ (esc c .T)) S with
    | some (.bool true, S1) => execs a (frz ρ (esc c .T)) S1
    | some (.bool false, S1) => execs b (frz ρ (esc c .T)) S1
    | _ => none
  | .forS t it b, ρ, S => match runIt C it (frz ρ (escI it)) S with
    | none => none
    | some (xs, S1) => loopF (bindT t) (execs b) xs (frz ρ (escI it)) S1
  | .whileS c b, ρ, S => whileF (fun ρ S => (run C c .T (frz ρ (esc c .T)) S).map fun p => (p.1, frz ρ (esc c .T), p.2)) (execs b) fuelW ρ S
  | .brk, ρ, S => some (.bk, ρ, S)
  | .cnt, ρ, S => some (.ct, ρ, S)
  | .pass, ρ, S => some (.nx, ρ, S)
def execs : Sxs → ExecF
  | .nil, ρ, S => some (.nx, ρ, S)
  | .cons s l, ρ, S => match exec s ρ S with
    | some (.nx, ρ1, S1) => execs l ρ1 S1
    | r => r
end
end

/-- a def: its parameters stand first among its slots -/
structure Fd where
  name : Str
  nps : Nat
  nsl : Nat
  body : Sxs
def callN (G : List Fd) : Nat → CallF
  | 0, _, _, _ => none
  | n + 1, f, ds, S => match G.find? (fun d => decide (d.name = f)) with
    | none => none
    | some d => if ds.length = d.nps then match execs (callN G n) d.body (ds.map (fun x => some (false, x)) ++ List.replicate (d.nsl - d.nps) none) S with
        | some (.rt v, _, S') => some (v, S')
        | some (.nx, _, S') => some (.none, S')
        | _ => none
      else none
end CH
set_option Elab.async false
set_option linter.all false
set_option maxRecDepth 100000
set_option maxHeartbeats 1000000
/-! readings of what the small language computes -/
namespace CH
open PySem PySem.Spec PyProof.Rows L2

/-- what is only looked at -/
def RpB (K : PySem.W.Frag) (F : Addr → Prop) (ι : List Addr) (H : Hp) (v : V) (d : D) : Prop :=
  Rp K F ι H v d ∨ ∃ a, v = .ref a ∧ OwnRp K F ι H a d ∧ a ∉ ι
/-- .. behind a dereference -/
def RpD (K : PySem.W.Frag) (F : Addr → Prop) (ι : List Addr) (H : Hp) (v : V) (d : D) : Prop :=
  isLoc d = none ∧ (Rp K F ι H v d ∨ ∃ a, v = .ref a ∧ OwnRp K F ι H a d)
/-- a result: a list or a dict is new -/
def RpN (K : PySem.W.Frag) (F : Addr → Prop) (ι : List Addr) (H0 H : Hp) (v : V) (d : D) : Prop :=
  (isCont d = true ∧ ∃ a, v = .ref a ∧ OwnRp K F ι H a d ∧ ¬ F a ∧ a ∉ ι ∧ H0 a = none) ∨ (isCont d = false ∧ Rp K F ι H v d)

def tV (K : PySem.W.Frag) (f : RunF) : TE := fun σ H Q => ∃ ρ S F ι d S', SR K ρ S F ι σ H ∧ f ρ S = some (d, S') ∧
  ∀ v F' ι' H', Rp K F' ι' H' v d → Ss K S' F' ι' H' → Ext0 F ι H F' ι' H' → Q v H'
def tB (K : PySem.W.Frag) (f : RunF) : TE := fun σ H Q => ∃ ρ S F ι d S', SR K ρ S F ι σ H ∧ f ρ S = some (d, S') ∧
  ∀ v F' ι' H', RpB K F' ι' H' v d → Ss K S' F' ι' H' → Ext0 F ι H F' ι' H' → Q v H'
def tN (K : PySem.W.Frag) (f : RunF) : TE := fun σ H Q => ∃ ρ S F ι d S', SR K ρ S F ι σ H ∧ f ρ S = some (d, S') ∧
  ∀ v F' ι' H', RpN K F' ι' H H' v d → Ss K S' F' ι' H' → Ext0 F ι H F' ι' H' → Q v H'
def tT (K : PySem.W.Frag) (f : RunF) : TT := fun σ H Q => ∃ ρ S F ι c S', SR K ρ S F ι σ H ∧ f ρ S = some (.bool c, S') ∧
  ∀ F' ι' H', Ss K S' F' ι' H' → Ext0 F ι H F' ι' H' → Q c H'
/-- a list of values -/
def tA (K : PySem.W.Frag) (f : Env' → Sto → Option (List D × Sto)) : TA := fun σ H Q => ∃ ρ S F ι ds S', SR K ρ S F ι σ H ∧ f ρ S = some (ds, S') ∧
  ∀ vs F' ι' H', RpA K F' ι' H' vs ds → Ss K S' F' ι' H' → Ext0 F ι H F' ι' H' → Q vs H'

section
variable {X : Cx} {e a b : Expr} {K : PySem.W.Frag}
theorem PE.imp {t t' : TE} (h : PE X e t) (i : ∀ σ H Q, t' σ H Q → t σ H Q) : PE X e t' := ⟨fun pins s σ H Q I q => h.run pins s σ H Q I (i σ H Q q)⟩
theorem PT.imp {t t' : TT} (h : PT X e t) (i : ∀ σ H Q, t' σ H Q → t σ H Q) : PT X e t' := ⟨fun pins s σ H Q I q => h.run pins s σ H Q I (i σ H Q q)⟩
theorem PA.imp {es : List Expr} {t t' : TA} (h : PA X es t) (i : ∀ σ H Q, t' σ H Q → t σ H Q) : PA X es t' := ⟨fun pos pins s σ H Q I q => h.run pos pins s σ H Q I (i σ H Q q)⟩

theorem isLoc_loc {n : Nat} : isLoc (locD n) = some n := rfl
theorem isLoc_eq {d : D} {n : Nat} (h : isLoc d = some n) : ∃ i : Int, d = .dict [(.none, .int i)] ∧ i.toNat = n := by
  unfold isLoc at h
  split at h
  · cases h; exact ⟨_, rfl, rfl⟩
  · cases h
theorem isLoc_keyD (k : Key) (d : D) (r : List (D × D)) : isLoc (.dict ((keyD k, d) :: r)) = none := by
  rcases k with i | s
  · unfold isLoc; split <;> first | rfl | (rename_i q; injection q with q; injection q with q; injection q with q; injection q)
  · unfold isLoc; split <;> first | rfl | (rename_i q; injection q with q; injection q with q; injection q with q; injection q)
theorem RpK.noloc {F ι H kvs ps} (r : RpK K F ι H kvs ps) : isLoc (.dict ps) = none := by
  cases r with
  | nil => rfl
  | cons h1 h2 => exact isLoc_keyD _ _ _
theorem OwnRp.noloc {F ι H a d} (h : OwnRp K F ι H a d) : isLoc d = none := by
  cases h with
  | lst => rfl
  | dic _ r => exact r.noloc
  | dit _ r => rfl
theorem Rp.loc_of {F ι H v d n} (h : Rp K F ι H v d) (e : isLoc d = some n) : ∃ a, v = .ref a ∧ ι[n]? = some a := by
  cases h with
  | dic f h r => rw [r.noloc] at e; cases e
  | dit f h r => cases e
  | loc h => obtain ⟨i, h1, h2⟩ := isLoc_eq e; injection h1 with h1; injection h1 with h1; injection h1 with _ h1; injection h1 with h1; subst h1; exact ⟨_, rfl, by rw [← h2]; exact h⟩
  | _ => cases e
/-- behind a dereference -/
theorem RpB.deref {S F ι H v d d'} (s : Ss K S F ι H) (h : RpB K F ι H v d) (e : deref S d = some d') : RpD K F ι H v d' := by
  unfold CH.deref at e
  cases q : isLoc d with
  | none =>
    rw [q] at e; cases e
    refine ⟨q, ?_⟩
    rcases h with h | ⟨a, h1, h2, _⟩
    · exact .inl h
    · exact .inr ⟨a, h1, h2⟩
  | some n =>
    rw [q] at e
    rcases h with h | ⟨a, h1, h2, _⟩
    · obtain ⟨a, rfl, h1⟩ := h.loc_of q
      have o := s.st n a d' h1 e
      exact ⟨o.noloc, .inr ⟨a, rfl, o⟩⟩
    · rw [h2.noloc] at q; cases q
theorem RpB.ext {S F ι H F' ι' H' v d} (s : Ss K S F ι H) (h : RpB K F ι H v d) (x : Ext0 F ι H F' ι' H') : RpB K F' ι' H' v d := by
  have k := Ext0.kept s x
  rcases h with h | ⟨a, h1, h2, h3⟩
  · exact .inl (h.kept k)
  · refine .inr ⟨a, h1, h2.kept k (fun o q => x.h a o q h3 id), fun z => ?_⟩
    rcases x.inew a z with z | z
    · exact h3 z
    · exact h2.there z
end
theorem fin_T {r : Option (D × Sto)} {d S'} (h : fin .T r = some (d, S')) : ∃ d0 d1 c, r = some (d0, S') ∧ deref S' d0 = some d1 ∧ truD d1 = some c ∧ d = .bool c := by
  cases r with
  | none => cases h
  | some p =>
    obtain ⟨d0, S0⟩ := p
    have h' : ((deref S0 d0).bind truD).map (fun c => (PyData.bool c, S0)) = some (d, S') := h
    simp only [Option.map_eq_some_iff, Prod.mk.injEq, Option.bind_eq_some_iff] at h'
    obtain ⟨c, ⟨d1, e1, e2⟩, rfl, rfl⟩ := h'
    exact ⟨d0, d1, c, rfl, e1, e2, rfl⟩
section
variable {X : Cx} {e a b : Expr} {K : PySem.W.Frag}
/-- a value as one that is looked at -/
theorem V2B {f : RunF} (h : PE X e (tV X.K f)) : PE X e (tB X.K f) := PE.imp h fun σ H Q ⟨ρ, S, F, ι, d, S', sr, e1, q⟩ =>
  ⟨ρ, S, F, ι, d, S', sr, e1, fun v F' ι' H' r s x => q v F' ι' H' (.inl r) s x⟩
end
section
variable {K : PySem.W.Frag} {S : Sto} {F : Addr → Prop} {ι : List Addr} {H H' : Hp} {a : Addr} {u : HO}
/-- what stands at a is frozen from now on -/
theorem Ss.frz (s : Ss K S F ι H) (ha : a ∉ ι) (h : H a ≠ none) : Ss K S (fun b => F b ∨ b = a) ι H :=
  ⟨fun b z => z.elim (s.dom b) (fun e => by rw [e]; exact h), fun b hb z => z.elim (s.iF b hb) (fun e => ha (e ▸ hb)), s.nd, s.len, fun n b d h1 h2 =>
    (s.st n b d h1 h2).kept ⟨fun _ z => .inl z, fun _ _ _ z => z, [], by simp⟩ (fun _ z => z)⟩
theorem Kept.lock (s : Ss K S F ι H) (hF : ¬ F a) : Kept F ι H (fun b => F b ∨ b = a) ι (upd H a u) :=
  ⟨fun _ z => .inl z, fun b o f h => by rw [upd_ne (by rintro rfl; exact hF f)]; exact h, [], by simp⟩
theorem Ss.lock (s : Ss K S F ι H) (hF : ¬ F a) (ha : a ∉ ι) (h : H a ≠ none) : Ss K S (fun b => F b ∨ b = a) ι (upd H a u) :=
  ⟨fun b z => by
      by_cases e : b = a
      · rw [e, upd_same]; exact fun q => nomatch q
      · rw [upd_ne e]; exact z.elim (s.dom b) (fun q => (e q).elim), fun b hb z => z.elim (s.iF b hb) (fun e => ha (e ▸ hb)), s.nd, s.len, fun n b d h1 h2 =>
    (s.st n b d h1 h2).kept (Kept.lock s hF) (fun o q => by rw [upd_ne (by rintro rfl; exact ha (List.mem_of_getElem? h1))]; exact q)⟩
end
theorem Ext.frzNew {F ι H F' ι' H'} {a : Addr} {H'' : Hp} (x : Ext0 F ι H F' ι' H') (ha : H a = none) (h : ∀ b, b ≠ a → H'' b = H' b) (h2 : H'' a ≠ none) : Ext0 F ι H (fun b => F' b ∨ b = a) ι' H'' :=
  ⟨fun b z => .inl (x.f b z), fun b z => z.elim (x.fn b) (fun e => .inr (.inl (e ▸ ha))), fun b o q hi ho => by rw [h b (ne_of_none q ha)]; exact x.h b o q hi ho,
    fun b q => by
      by_cases e : b = a
      · rw [e]; exact h2
      · rw [h b e]; exact x.th b q, x.i, x.inew⟩
section
variable {X : Cx} {e a b : Expr} {K : PySem.W.Frag}
/-- a new list or dict, kept -/
theorem N2V {f : RunF} (h : PE X e (tN X.K f)) : PE X e (tV X.K f) := by
  refine ⟨fun pins s σ H Q I ⟨ρ, S, F, ι, d, S', sr, e1, q⟩ => ?_⟩
  refine thn (h.run pins s σ H (fun v H' => ∃ F' ι', RpN X.K F' ι' H H' v d ∧ Ss X.K S' F' ι' H' ∧ Ext0 F ι H F' ι' H') I ⟨ρ, S, F, ι, d, S', sr, e1, fun v F' ι' H' r s x => ⟨F', ι', r, s, x⟩⟩) fun u s' ⟨v, H', I', rv, F', ι', r, ss, x⟩ => ?_
  rcases r with ⟨_, p, rfl, o, n1, n2, n3⟩ | ⟨_, r⟩
  · cases o with
    | lst h1 h2 =>
      refine ⟨.ref p, H', I', rv, q _ (fun b => F' b ∨ b = p) ι' H' (.lst (.inl ⟨.inr rfl, .inl h1⟩) (h2.kept ⟨fun _ z => .inl z, fun _ _ _ z => z, [], by simp⟩)) (ss.frz n2 (by rw [h1]; exact fun z => nomatch z)) (x.frzNew n3 (fun _ _ => rfl) (by rw [h1]; exact fun z => nomatch z))⟩
    | dic h1 h2 =>
      obtain ⟨od, I2⟩ := I'.lock h1 True.intro
      exact ⟨.ref p, _, I2, rv, q _ (fun b => F' b ∨ b = p) ι' _ (.dic (.inr rfl) upd_same (h2.kept (Kept.lock ss n1))) (ss.lock n1 n2 (by rw [h1]; exact fun z => nomatch z)) (x.frzNew n3 (fun _ z => upd_ne z) (by rw [upd_same]; exact fun z => nomatch z))⟩
    | dit h1 h2 =>
      obtain ⟨od, I2⟩ := I'.lock h1 True.intro
      exact ⟨.ref p, _, I2, rv, q _ (fun b => F' b ∨ b = p) ι' _ (.dit (.inr rfl) upd_same (h2.kept (Kept.lock ss n1))) (ss.lock n1 n2 (by rw [h1]; exact fun z => nomatch z)) (x.frzNew n3 (fun _ z => upd_ne z) (by rw [upd_same]; exact fun z => nomatch z))⟩
  · exact ⟨v, H', I', rv, q v F' ι' H' r ss x⟩
/-- one that is neither list nor dict -/
theorem RpN.flat {F ι H0 H v d} (h : Rp K F ι H v d) (e : isCont d = false) : RpN K F ι H0 H v d := .inr ⟨e, h⟩

/-! ### truth -/
theorem RpA.length {F ι H xs ds} (r : RpA K F ι H xs ds) : xs.length = ds.length := by
  induction ds generalizing xs with
  | nil => cases r; rfl
  | cons d ds ih => cases r with | cons h t => simp [ih t]
theorem RpA.isEmpty {F ι H xs ds} (r : RpA K F ι H xs ds) : xs.isEmpty = ds.isEmpty := by cases r <;> rfl
theorem lim_eq : (lim : Nat) = sizeLine := rfl
theorem truV_of {F ι H v d c} (r : RpD K F ι H v d) (h : truD d = some c) : TruV K v H c := by
  obtain ⟨_, r | ⟨a, rfl, o⟩⟩ := r
  · cases r with
    | non => cases h; rfl
    | bl b => cases h; rfl
    | int i => cases h; show decide (i ≠ 0) = (i != 0); by_cases e : i = 0 <;> simp [e]
    | str x =>
      have h' : (if x.length ≤ lim then some (decide (x.length ≠ 0)) else none) = some c := h
      split at h'
      · rename_i hl
        cases h'
        refine ⟨hl, ?_⟩
        by_cases e : x.length = 0
        · simp [e]
        · have : (x.length : Int) ≠ 0 := by omega
          simp [e, this]
      · cases h'
    | lst h1 r1 => cases h; exact .inl ⟨_, h1.sq, by rw [r1.isEmpty]⟩
    | tup h1 r1 => cases h; exact .inr (.inl ⟨_, h1.sq, by rw [r1.isEmpty]⟩)
    | dic => cases h
    | dit => cases h
    | loc => cases h
  · cases o with
    | lst h1 r1 => cases h; exact .inl ⟨_, .of h1, by rw [r1.isEmpty]⟩
    | dic => cases h
    | dit => cases h
/-- a value as a test -/
theorem B2T {f : RunF} (h : PE X e (tB X.K f)) (he : ∀ whole, isTrue e X.env whole = (do let v ← whole; standAt e.pos; holding [v] (truthy v))) :
    PT X e (tT X.K fun ρ S => fin .T (f ρ S)) := PT.imp (pt_truth h he) fun σ H Q ⟨ρ, S, F, ι, c, S', sr, e1, q⟩ => by
  obtain ⟨d0, d1, c', h1, h2, h3, h4⟩ := fin_T e1
  injection h4 with h4
  subst h4
  exact ⟨ρ, S, F, ι, d0, S', sr, h1, fun v F' ι' H' r s x => ⟨c, truV_of (r.deref s h2) h3, q F' ι' H' s x⟩⟩
theorem V2T {f : RunF} (h : PE X e (tV X.K f)) (he : ∀ whole, isTrue e X.env whole = (do let v ← whole; standAt e.pos; holding [v] (truthy v))) :
    PT X e (tT X.K fun ρ S => fin .T (f ρ S)) := B2T (V2B h) he
/-- an expression in its three modes -/
structure EvM (X : Cx) (e : Expr) (f : Md → RunF) : Prop where
  v : PE X e (tV X.K (f .V))
  b : PE X e (tB X.K (f .B))
  t : PT X e (tT X.K (f .T))
theorem evV {f : RunF} (h : PE X e (tV X.K f)) (he : ∀ whole, isTrue e X.env whole = (do let v ← whole; standAt e.pos; holding [v] (truthy v))) : EvM X e (fun m ρ S => fin m (f ρ S)) :=
  ⟨h, V2B h, V2T h he⟩
end
end CH
set_option Elab.async false
set_option linter.all false
set_option maxRecDepth 100000
set_option maxHeartbeats 1000000
/-! operators -/
namespace CH
open PySem PySem.Spec PyProof.Rows L2

/-- an operation on data, as a reading -/
def rD (K : PySem.W.Frag) (g : D → D → Option D) : R2 := fun x y H Q => ∃ S F ι d e c, Ss K S F ι H ∧ RpD K F ι H x d ∧ RpD K F ι H y e ∧ g d e = some c ∧
  ∀ v F' H', RpN K F' ι H H' v c → Ss K S F' ι H' → Ext0 F ι H F' ι H' → Q v H'
section
variable {X : Cx} {f : Value → Value → Sem Value} {g g1 g2 : D → D → Option D}
theorem OpR.imp {r r' : R2} (h : OpR X f r) (i : ∀ x y H Q, r' x y H Q → r x y H Q) : OpR X f r' := fun pins s σ H x y v u Q I rx ry q => h pins s σ H x y v u Q I rx ry (i x y H Q q)
theorem opOr (h1 : OpR X f (rD X.K g1)) (h2 : OpR X f (rD X.K g2)) (h : ∀ d e c, g d e = some c → g1 d e = some c ∨ g2 d e = some c) : OpR X f (rD X.K g) :=
  OpR.imp (h1.or h2) fun x y H Q ⟨S, F, ι, d, e, c, s, rx, ry, e1, q⟩ => (h d e c e1).imp (fun z => ⟨S, F, ι, d, e, c, s, rx, ry, z, q⟩) (fun z => ⟨S, F, ι, d, e, c, s, rx, ry, z, q⟩)
def orE (g1 g2 : D → D → Option D) : D → D → Option D := fun d e => (g1 d e).or (g2 d e)
theorem opO (h1 : OpR X f (rD X.K g1)) (h2 : OpR X f (rD X.K g2)) : OpR X f (rD X.K (orE g1 g2)) := opOr h1 h2 fun d e c h => by
  unfold orE at h
  cases q : g1 d e with
  | none => rw [q, Option.none_or] at h; exact .inr h
  | some b => rw [q, Option.some_or] at h; exact .inl h
/-- a rule whose result is flat and leaves the heap -/
theorem opFlat {r : R2} (h : OpR X f r) (i : ∀ S F ι H x y d e c (Q : VK), Ss X.K S F ι H → RpD X.K F ι H x d → RpD X.K F ι H y e → g d e = some c → isCont c = false ∧ ∃ v, Rp X.K F ι H v c ∧ (Q v H → r x y H Q)) : OpR X f (rD X.K g) :=
  OpR.imp h fun x y H Q ⟨S, F, ι, d, e, c, s, rx, ry, e1, q⟩ => by
    obtain ⟨hc, v, rv, k⟩ := i S F ι H x y d e c Q s rx ry e1
    exact k (q v F H (.flat rv hc) s .refl)
end

/-! inversions -/
section
variable {K : PySem.W.Frag} {F : Addr → Prop} {ι : List Addr} {H : Hp} {v : V}
theorem RpD.int {i} (h : RpD K F ι H v (.int i)) : v = .int i := by
  obtain ⟨_, h | ⟨a, _, h⟩⟩ := h
  · cases h; rfl
  · cases h
theorem RpD.bool {i} (h : RpD K F ι H v (.bool i)) : v = .bl i := by
  obtain ⟨_, h | ⟨a, _, h⟩⟩ := h
  · cases h; rfl
  · cases h
theorem RpD.str {i} (h : RpD K F ι H v (.str i)) : v = .str i := by
  obtain ⟨_, h | ⟨a, _, h⟩⟩ := h
  · cases h; rfl
  · cases h
theorem RpD.none (h : RpD K F ι H v .none) : v = .non := by
  obtain ⟨_, h | ⟨a, _, h⟩⟩ := h
  · cases h; rfl
  · cases h
theorem RpD.list {l} (h : RpD K F ι H v (.list l)) : ∃ a xs, v = .ref a ∧ SqL K H a xs ∧ RpA K F ι H xs l := by
  obtain ⟨_, h | ⟨a, rfl, h⟩⟩ := h
  · cases h with | lst h r => exact ⟨_, _, rfl, h.sq, r⟩
  · cases h with | lst h r => exact ⟨_, _, rfl, .of h, r⟩
theorem RpD.tuple {l} (h : RpD K F ι H v (.tuple l)) : ∃ a xs, v = .ref a ∧ FzT F H a xs ∧ RpA K F ι H xs l := by
  obtain ⟨_, h | ⟨a, rfl, h⟩⟩ := h
  · cases h with | tup h r => exact ⟨_, _, rfl, h, r⟩
  · cases h
theorem RpA.append {xs ys : List V} {ds es : List D} (h : RpA K F ι H xs ds) (h2 : RpA K F ι H ys es) : RpA K F ι H (xs ++ ys) (ds ++ es) := by
  induction ds generalizing xs with
  | nil => cases h; exact h2
  | cons d ds ih => cases h with | cons h t => exact .cons h (ih t)
theorem RpA.get {xs : List V} {ds : List D} {i : Nat} {d : D} (h : RpA K F ι H xs ds) (e : ds[i]? = some d) : ∃ x, xs[i]? = some x ∧ Rp K F ι H x d := by
  induction ds generalizing xs i with
  | nil => cases e
  | cons a ds ih =>
    cases h with
    | cons h t =>
      cases i with
      | zero => cases e; exact ⟨_, rfl, h⟩
      | succ i => have q := ih t (by simpa using e); simpa using q
theorem RpA.drop {xs : List V} {ds : List D} (n : Nat) (h : RpA K F ι H xs ds) : RpA K F ι H (xs.drop n) (ds.drop n) := by
  induction n generalizing xs ds with
  | zero => exact h
  | succ n ih =>
    cases h with
    | nil => exact .nil
    | cons h t => have q := ih t; simpa using q
theorem RpA.take {xs : List V} {ds : List D} (n : Nat) (h : RpA K F ι H xs ds) : RpA K F ι H (xs.take n) (ds.take n) := by
  induction n generalizing xs ds with
  | zero => exact .nil
  | succ n ih =>
    cases h with
    | nil => exact .nil
    | cons h t => exact .cons h (ih t)
theorem RpA.reverse {xs : List V} {ds : List D} (h : RpA K F ι H xs ds) : RpA K F ι H xs.reverse ds.reverse := by
  induction ds generalizing xs with
  | nil => cases h; exact .nil
  | cons d ds ih => cases h with | cons h t => rw [List.reverse_cons, List.reverse_cons]; exact (ih t).append (.cons h .nil)
theorem RpA.set {xs : List V} {ds : List D} {v : V} {d : D} (n : Nat) (h : RpA K F ι H xs ds) (hv : Rp K F ι H v d) : RpA K F ι H (xs.set n v) (ds.set n d) := by
  induction n generalizing xs ds with
  | zero => cases h with
    | nil => exact .nil
    | cons h t => exact .cons hv t
  | succ n ih => cases h with
    | nil => exact .nil
    | cons h t => exact .cons h (ih t)
theorem RpA.flatRep {xs : List V} {ds : List D} (n : Nat) (h : RpA K F ι H xs ds) : RpA K F ι H (List.replicate n xs).flatten (List.replicate n ds).flatten := by
  induction n with
  | zero => exact .nil
  | succ n ih => rw [List.replicate_succ, List.replicate_succ, List.flatten_cons, List.flatten_cons]; exact h.append ih
end
/-- a new tuple -/
theorem newT {K S F ι H} {p : Addr} {xs : List V} {ds : List D} (s : Ss K S F ι H) (r : RpA K F ι H xs ds) (hp : H p = none) :
    RpN K (fun a => F a ∨ a = p) ι H (upd H p (.tup xs)) (.ref p) (.tuple ds) ∧ Ss K S (fun a => F a ∨ a = p) ι (upd H p (.tup xs)) ∧ Ext0 F ι H (fun a => F a ∨ a = p) ι (upd H p (.tup xs)) :=
  ⟨.flat (.tup ⟨.inr rfl, upd_same⟩ (r.kept (Ext0.kept s (ext_new hp)))) rfl, s.new hp, ext_new hp⟩
/-- a new list -/
theorem newL {K S F ι H} {p : Addr} {xs : List V} {ds : List D} (s : Ss K S F ι H) (r : RpA K F ι H xs ds) (hp : H p = none) :
    RpN K F ι H (upd H p (.lst xs)) (.ref p) (.list ds) ∧ Ss K S F ι (upd H p (.lst xs)) ∧ Ext0 F ι H F ι (upd H p (.lst xs)) :=
  ⟨.inl ⟨rfl, p, rfl, .lst upd_same (r.kept (Ext0.kept s (ext_newO hp))), fun z => s.dom p z hp, fun z => s.there z hp, hp⟩, s.newO hp, ext_newO hp⟩
theorem newDk {K S F ι H} {p : Addr} {kvs : List (Key × V)} {ps : List (D × D)} (s : Ss K S F ι H) (r : RpK K F ι H kvs ps) (hp : H p = none) :
    RpN K F ι H (upd H p (.dK kvs)) (.ref p) (.dict ps) ∧ Ss K S F ι (upd H p (.dK kvs)) ∧ Ext0 F ι H F ι (upd H p (.dK kvs)) :=
  ⟨.inl ⟨rfl, p, rfl, .dic upd_same (r.kept (Ext0.kept s (ext_newO hp))), fun z => s.dom p z hp, fun z => s.there z hp, hp⟩, s.newO hp, ext_newO hp⟩

section
variable {X : Cx}
def addI : D → D → Option D
  | .int a, .int b => some (.int (a + b))
  | _, _ => none
def addS : D → D → Option D
  | .str a, .str b => if a.length + b.length ≤ lim then some (.str (a ++ b)) else none
  | _, _ => none
def addT : D → D → Option D
  | .tuple a, .tuple b => if a.length + b.length ≤ lim then some (.tuple (a ++ b)) else none
  | _, _ => none
def addL : D → D → Option D
  | .list a, .list b => if a.length + b.length ≤ lim then some (.list (a ++ b)) else none
  | _, _ => none
theorem op_addI : OpR X (binaryOp .Add) (rD X.K addI) := opFlat op_add fun S F ι H x y d e c Q s rx ry h => by
  unfold addI at h
  split at h
  · cases h; exact ⟨rfl, _, .int _, fun q => ⟨_, _, rx.int, ry.int, q⟩⟩
  · cases h
theorem op_addS : OpR X (binaryOp .Add) (rD X.K addS) := opFlat op_add_str fun S F ι H x y d e c Q s rx ry h => by
  unfold addS at h
  split at h
  · split at h
    · rename_i hl; cases h; exact ⟨rfl, _, .str _, fun q => ⟨_, _, rx.str, ry.str, hl, q⟩⟩
    · cases h
  · cases h
theorem op_addT : OpR X (binaryOp .Add) (rD X.K addT) := OpR.imp op_catA fun x y H Q ⟨S, F, ι, d, e, c, s, rx, ry, h, q⟩ => by
  unfold addT at h
  split at h
  · split at h
    · rename_i ds es hl; cases h
      obtain ⟨a, xs, rfl, h1, r1⟩ := rx.tuple
      obtain ⟨b, ys, rfl, h2, r2⟩ := ry.tuple
      refine ⟨a, b, xs, ys, rfl, rfl, h1.sq, h2.sq, by rw [r1.length, r2.length]; exact hl, fun e => ?_, fun _ e => ?_, fun _ _ p hp => ?_⟩
      · subst e; cases r1; exact q _ F H (.flat (.tup h2 r2) rfl) s .refl
      · subst e; cases r2; exact q _ F H (.flat (.tup h1 (by simpa using r1)) rfl) s .refl
      · obtain ⟨n1, n2, n3⟩ := newT s (r1.append r2) hp
        exact q _ _ _ n1 n2 n3
    · cases h
  · cases h
/-- list + list, wherever they stand -/
def rCatS (K : PySem.W.Frag) : R2 := fun x y H Q => ∃ l b xs zs, x = .ref l ∧ y = .ref b ∧ SqL K H l xs ∧ SqL K H b zs ∧ xs.length + zs.length ≤ sizeLine ∧ ∀ p, H p = none → Q (.ref p) (upd H p (.lst (xs ++ zs)))
theorem op_catS : OpR X (binaryOp .Add) (rCatS X.K) := by
  intro pins s σ H x y v u Q I rx ry h
  obtain ⟨l, b, xs, zs, rfl, rfl, hH, hB, hz, q⟩ := h
  cases rx
  cases ry
  obtain ⟨its, r, ⟨⟨cls, dd, data, sl⟩, n, ho, hc, hd0, hd⟩, hl⟩ := I.list hH
  obtain ⟨its2, r2, ⟨⟨cls2, dd2, data2, sl2⟩, n2, ho2, hc2, hd20, hd2⟩, hl2⟩ := I.list hB
  simp only at hc hd hc2 hd2
  subst hc hd hc2 hd2
  have l1 := r.length
  have l2 := r2.length
  have e : its.toArray ++ its2.toArray = (its ++ its2).toArray := by simp
  refine concat_meets ⟨_, ho, rfl⟩ ⟨_, ho2, rfl⟩ noFill_list_add seq_list_add PySem.F.slot_list_add PySem.F.entry_list_add (PySem.F.args_list_add_2 _ _) (list_addW l b its.toArray its2.toArray n n2 dd dd2 sl sl2 (by simp; omega)) ⟨ho, ho2, ?_⟩
  rw [e]
  exact ⟨.ref _, _, I.lnew (t' := s.toks) (r.append r2) (by rw [List.length_append]; omega), rfl, q _ I.fresh⟩
theorem op_addL : OpR X (binaryOp .Add) (rD X.K addL) := OpR.imp op_catS fun x y H Q ⟨S, F, ι, d, e, c, s, rx, ry, h, q⟩ => by
  unfold addL at h
  split at h
  · split at h
    · rename_i ds es hl; cases h
      obtain ⟨a, xs, rfl, h1, r1⟩ := rx.list
      obtain ⟨b, ys, rfl, h2, r2⟩ := ry.list
      refine ⟨a, b, xs, ys, rfl, rfl, h1, h2, by rw [r1.length, r2.length]; exact hl, fun p hp => ?_⟩
      obtain ⟨n1, n2, n3⟩ := newL s (r1.append r2) hp
      exact q _ _ _ n1 n2 n3
    · cases h
  · cases h
theorem op_addD : OpR X (binaryOp .Add) (rD X.K addD) :=
  OpR.imp (opO op_addI (opO op_addS (opO op_addT op_addL))) fun x y H Q ⟨S, F, ι, d, e, c, s, rx, ry, h, q⟩ => ⟨S, F, ι, d, e, c, s, rx, ry, by
    rw [← h]
    cases d <;> cases e <;> simp [orE, addI, addS, addT, addL, addD], q⟩
theorem op_subD : OpR X (binaryOp .Sub) (rD X.K subD) := opFlat op_sub fun S F ι H x y d e c Q s rx ry h => by
  unfold subD at h
  split at h
  · cases h; exact ⟨rfl, _, .int _, fun q => ⟨_, _, rx.int, ry.int, q⟩⟩
  · cases h
theorem op_fdivD : OpR X (binaryOp .FloorDiv) (rD X.K fdivD) := opFlat op_fdivN fun S F ι H x y d e c Q s rx ry h => by
  unfold fdivD at h
  split at h
  · split at h
    · rename_i hc; cases h; exact ⟨rfl, _, .int _, fun q => ⟨_, _, rx.int, ry.int, hc, q⟩⟩
    · cases h
  · cases h
theorem op_modD : OpR X (binaryOp .Mod) (rD X.K modD) := opFlat op_modN fun S F ι H x y d e c Q s rx ry h => by
  unfold modD at h
  split at h
  · split at h
    · rename_i hc; cases h; exact ⟨rfl, _, .int _, fun q => ⟨_, _, rx.int, ry.int, hc, q⟩⟩
    · cases h
  · cases h
theorem small_of {i : Int} (h : small i = true) : -(2 ^ 64) < i ∧ i < 2 ^ 64 := by
  unfold small at h
  simp only [Bool.and_eq_true, decide_eq_true_eq] at h
  omega
theorem op_powD : OpR X (binaryOp .Pow) (rD X.K powD) := opFlat op_pow fun S F ι H x y d e c Q s rx ry h => by
  unfold powD at h
  split at h
  · split at h
    · rename_i hc; cases h
      obtain ⟨h1, h2, h3⟩ := hc
      have h4 := small_of h3
      exact ⟨rfl, _, .int _, fun q => ⟨_, _, rx.int, ry.int, ⟨h1, by omega, by omega⟩, q⟩⟩
    · cases h
  · cases h
def mulI : D → D → Option D
  | .int a, .int b => if small a || small b then some (.int (a * b)) else none
  | _, _ => none
def mulT : D → D → Option D
  | .tuple a, .int b => if 1 < b ∧ b < 1000 ∧ a.length ≤ 1000 ∧ a ≠ [] then some (.tuple (List.replicate b.toNat a).flatten) else none
  | _, _ => none
def mulL : D → D → Option D
  | .list a, .int b => if 0 ≤ b ∧ b < 1000 ∧ a.length ≤ 1000 then some (.list (List.replicate b.toNat a).flatten) else none
  | _, _ => none
theorem op_mulI : OpR X (binaryOp .Mult) (rD X.K mulI) := opFlat op_mul fun S F ι H x y d e c Q s rx ry h => by
  unfold mulI at h
  split at h
  · split at h
    · rename_i hc; cases h
      simp only [Bool.or_eq_true] at hc
      exact ⟨rfl, _, .int _, fun q => ⟨_, _, rx.int, ry.int, hc.imp small_of small_of, q⟩⟩
    · cases h
  · cases h
theorem op_mulT : OpR X (binaryOp .Mult) (rD X.K mulT) := OpR.imp op_repT fun x y H Q ⟨S, F, ι, d, e, c, s, rx, ry, h, q⟩ => by
  unfold mulT at h
  split at h
  · split at h
    · rename_i ds k hl; cases h
      obtain ⟨a, xs, rfl, h1, r1⟩ := rx.tuple
      have hk := ry.int
      subst hk
      refine ⟨a, k, xs, rfl, rfl, h1.sq, fun e => hl.2.2.2 ?_, by omega, by omega, by rw [r1.length]; omega, fun p hp => ?_⟩
      · subst e; cases r1; rfl
      obtain ⟨n1, n2, n3⟩ := newT s (r1.flatRep k.toNat) hp
      exact q _ _ _ n1 n2 n3
    · cases h
  · cases h
/-- list * int, wherever the list stands -/
theorem op_repS : OpR X (binaryOp .Mult) (fun x y H Q => ∃ l k xs, x = .ref l ∧ y = .int k ∧ SqL X.K H l xs ∧ 0 ≤ k ∧ k ≤ 1000 ∧ xs.length ≤ 1000 ∧ ∀ p, H p = none → Q (.ref p) (upd H p (.lst (List.replicate k.toNat xs).flatten))) := by
  intro pins s σ H x y v u Q I rx ry h
  obtain ⟨l, k, xs, rfl, rfl, hH, h0, h1, hz, q⟩ := h
  cases rx
  obtain ⟨t, rfl⟩ := ry
  obtain ⟨its, r, ⟨⟨cls, dd, data, sl⟩, n, ho, hc, hd0, hd⟩, hl⟩ := I.list hH
  simp only at hc hd
  subst hc hd
  have l1 := r.length
  have hm : its.length * k.toNat ≤ 1000 * 1000 := Nat.mul_le_mul (by omega) (by omega)
  have hsz : its.toArray.size * k.toNat ≤ 1000 * 1000 := by simpa using hm
  refine wpAny_binaryOp_repeat_ref (T := "list") (U := "int") (by decide) ⟨_, ho, rfl⟩ (fun s' => typeIs_int s' k t) noFill_list_mul F.fills_int_mul F.slot_int_rmul repeat_list F.slot_int_index.lookup
    (call_meets F.slot_int_rmul (typeIs_int s k t) F.entry_int_rmul (F.args_int_rmul_2 _ _) (lm_int_rmul_list_any k t l its.toArray n dd sl)
      ⟨ho, rfl, ⟨_, ho, rfl⟩, call_meets F.slot_list_mul ⟨_, ho, rfl⟩ F.entry_list_mul (F.args_list_mul_2 _ _)
        (lm_list_mul_any l its.toArray n dd sl k t (by simp [Builtin.List.listFitsIndex]; omega) (by omega) (by simp [Builtin.List.listTooLong, sizeLine]; omega))
        ⟨ho, ?_⟩⟩)
  rw [listMul_foldl_if]
  have hlen : (List.replicate k.toNat xs).flatten.length ≤ sizeLine := by
    rw [PyProof.Rows.lm_len_rep_flat, sizeLine_eq, Nat.mul_comm]
    have : xs.length * k.toNat ≤ 1000 * 1000 := Nat.mul_le_mul (by omega) (by omega)
    omega
  exact ⟨.ref _, _, I.lnew (t' := s.toks) (r.rep k.toNat) hlen, rfl, q _ I.fresh⟩
theorem op_mulL : OpR X (binaryOp .Mult) (rD X.K mulL) := OpR.imp op_repS fun x y H Q ⟨S, F, ι, d, e, c, s, rx, ry, h, q⟩ => by
  unfold mulL at h
  split at h
  · split at h
    · rename_i ds k hl; cases h
      obtain ⟨a, xs, rfl, h1, r1⟩ := rx.list
      have hk := ry.int
      subst hk
      refine ⟨a, k, xs, rfl, rfl, h1, by omega, by omega, by rw [r1.length]; omega, fun p hp => ?_⟩
      obtain ⟨n1, n2, n3⟩ := newL s (r1.flatRep k.toNat) hp
      exact q _ _ _ n1 n2 n3
    · cases h
  · cases h
theorem op_mulD : OpR X (binaryOp .Mult) (rD X.K mulD) :=
  OpR.imp (opO op_mulI (opO op_mulT op_mulL)) fun x y H Q ⟨S, F, ι, d, e, c, s, rx, ry, h, q⟩ => ⟨S, F, ι, d, e, c, s, rx, ry, by
    rw [← h]
    cases d <;> cases e <;> simp [orE, mulI, mulT, mulL, mulD], q⟩
def opB : Bo → Operator
  | .add => .Add | .sub => .Sub | .mul => .Mult | .fdiv => .FloorDiv | .mod => .Mod | .pow => .Pow
theorem op_binD : ∀ o : Bo, OpR X (binaryOp (opB o)) (rD X.K (binD o))
  | .add => op_addD | .sub => op_subD | .mul => op_mulD | .fdiv => op_fdivD | .mod => op_modD | .pow => op_powD
end
end CH
set_option Elab.async false
set_option linter.all false
set_option maxRecDepth 100000
set_option maxHeartbeats 1000000
/-! comparisons -/
namespace CH
open PySem PySem.Spec PyProof.Rows L2
section
variable {X : Cx} {pins : List (Addr × Obj)} {σ : L2.St} {H : Hp} {s : Shared} {F : Addr → Prop} {ι : List Addr}
mutual
theorem Rp.reads (I : Inv X pins σ H s) : ∀ (d : D) (v : V) (u : Value), d.plain = true → Rp X.K F ι H v d → RelV v u → ∃ as, Reads s.heap u d as
  | .none, _, _, _, h, r => by
    cases h; cases r; exact ⟨_, Reads.none⟩
  | .bool b, _, _, _, h, r => by
    cases h; cases r; exact ⟨_, Reads.bool b⟩
  | .int i, _, _, _, h, r => by
    cases h; obtain ⟨t, rfl⟩ := r; exact ⟨_, Reads.int i t⟩
  | .str x, _, _, _, h, r => by
    cases h; obtain ⟨t, rfl⟩ := r; exact ⟨_, Reads.str x t⟩
  | .list ds, _, _, hp, h, r => by
    cases h with
    | lst hs ha =>
      cases r
      obtain ⟨its, rv, ⟨o, n, ho, hc, _, hd⟩, _⟩ := I.list hs.sq
      obtain ⟨as, hr⟩ := RpA.reads I ds _ its (by simpa [PyData.plain] using hp) ha rv
      exact ⟨_, Reads.list ho hc hd hr⟩
  | .tuple ds, _, _, hp, h, r => by
    cases h with
    | tup hs ha =>
      cases r
      obtain ⟨its, rv, ⟨o, ho, hc, n, hd⟩, _⟩ := I.tuple hs.sq
      obtain ⟨as, hr⟩ := RpA.reads I ds _ its (by simpa [PyData.plain] using hp) ha rv
      exact ⟨_, Reads.tuple ho hc hd hr⟩
  | .dict _, _, _, hp, _, _ => by simp [PyData.plain] at hp
theorem RpA.reads (I : Inv X pins σ H s) : ∀ (ds : List D) (vs : List V) (us : List Value), PyData.plainAll ds = true → RpA X.K F ι H vs ds → Vals vs us → ∃ as, ReadsAll s.heap us ds as
  | [], _, _, _, h, r => by
    cases h; cases r; exact ⟨_, ReadsAll.nil⟩
  | d :: ds, _, _, hp, h, r => by
    simp only [PyData.plainAll, Bool.and_eq_true] at hp
    cases h with
    | cons h1 h2 =>
      cases r with
      | cons r1 r2 =>
        obtain ⟨as, q1⟩ := Rp.reads I d _ _ hp.1 h1 r1
        obtain ⟨bs, q2⟩ := RpA.reads I ds _ _ hp.2 h2 r2
        exact ⟨_, ReadsAll.cons q1 q2⟩
end
theorem RpD.reads (I : Inv X pins σ H s) {d : D} {v : V} {u : Value} (hp : d.plain = true) (h : RpD X.K F ι H v d) (r : RelV v u) : ∃ as, Reads s.heap u d as := by
  obtain ⟨_, h | ⟨a, rfl, o⟩⟩ := h
  · exact h.reads I d v u hp r
  · cases o with
    | lst hs ha =>
      cases r
      obtain ⟨its, rv, ⟨o, n, ho, hc, _, hd⟩, _⟩ := I.list (SqL.of hs)
      obtain ⟨as, hr⟩ := RpA.reads I _ _ its (by simpa [PyData.plain] using hp) ha rv
      exact ⟨_, Reads.list ho hc hd hr⟩
    | dic => simp [PyData.plain] at hp
    | dit => simp [PyData.plain] at hp
end
theorem okD_of {d : D} (h : okD d = true) : d.plain = true ∧ d.depth ≤ 60 := by
  unfold okD at h
  simp only [Bool.and_eq_true] at h
  exact ⟨h.1, Nat.le_of_ble_eq_true h.2⟩
theorem okLt_of {a b : D} (h : okLt a b = true) : a.plain = true ∧ b.plain = true ∧ PySem.W.alike a b = true ∧ a ≠ .none ∧ a.depth ≤ 60 := by
  unfold okLt at h
  simp only [Bool.and_eq_true] at h
  obtain ⟨⟨⟨h1, h2⟩, h3⟩, h4⟩ := h
  obtain ⟨h5, h6⟩ := okD_of h1
  exact ⟨h5, h2, h3, fun e => (by rw [e] at h4; cases h4), h6⟩
/-- a comparison of data, as a reading -/
def rC (K : PySem.W.Frag) (g : D → D → Option Bool) : R2 := rD K fun d e => (g d e).map .bool
section
variable {X : Cx}
/-- by the heap's own objects -/
theorem opReads {op : CmpOp} {g : D → D → Option Bool} (h : ∀ (s : Shared) (u v : Value) (d e : D) (c : Bool) (as bs : List Addr) (Q : Value → Shared → Prop), g d e = some c → Reads s.heap u d as → Reads s.heap v e bs → Q (.bool c) s → wpAny (model X.prog X.w) X.A (compareOp op u v) Q X.xe s)
    (hp : ∀ d e c, g d e = some c → d.plain = true ∧ e.plain = true) : OpR X (compareOp op) (rC X.K g) := by
  intro pins s σ H x y v u Q I rx ry ⟨S, F, ι, d, e, c, ss, rd, re, hc, q⟩
  have hc : (g d e).map PyData.bool = some c := hc
  cases hg : g d e with
  | none => rw [hg] at hc; cases hc
  | some b =>
    rw [hg] at hc; cases hc
    obtain ⟨h1, h2⟩ := hp d e b hg
    obtain ⟨as, r1⟩ := rd.reads I h1 rx
    obtain ⟨bs, r2⟩ := re.reads I h2 ry
    exact h s v u d e b as bs _ hg r1 r2 ⟨.bl b, H, I, rfl, q _ F H (.flat (.bl b) rfl) ss .refl⟩
theorem op_eqD' (hu : X.A.units + 66 < cLine) : OpR X (compareOp .Eq) (rC X.K eqD) := by
  refine opReads (fun s u v d e c as bs Q hg r1 r2 q => ?_) (fun d e c hg => ?_)
  · unfold eqD at hg
    split at hg
    · rename_i h
      simp only [Bool.and_eq_true] at h
      cases hg
      obtain ⟨h1, h2⟩ := okD_of h.1
      exact SeqAt.eq_plain r1 r2 h1 h.2 (by have := Nat.min_le_left d.depth e.depth; omega) q
    · cases hg
  · unfold eqD at hg
    split at hg
    · rename_i h
      simp only [Bool.and_eq_true] at h
      exact ⟨(okD_of h.1).1, h.2⟩
    · cases hg
theorem op_neD' (hu : X.A.units + 66 < cLine) : OpR X (compareOp .NotEq) (rC X.K fun a b => (eqD a b).map (!·)) := by
  refine opReads (fun s u v d e c as bs Q hg r1 r2 q => ?_) (fun d e c hg => ?_)
  · unfold eqD at hg
    split at hg
    · rename_i h
      simp only [Bool.and_eq_true] at h
      cases hg
      obtain ⟨h1, h2⟩ := okD_of h.1
      exact SeqAt.ne_plain r1 r2 h1 h.2 (by have := Nat.min_le_left d.depth e.depth; omega) q
    · cases hg
  · unfold eqD at hg
    split at hg
    · rename_i h
      simp only [Bool.and_eq_true] at h
      exact ⟨(okD_of h.1).1, h.2⟩
    · cases hg
theorem pl_int {i : Int} : (PyData.int i).plain = true := rfl
theorem op_ltD (hu : X.A.units + 66 < cLine) : OpR X (compareOp .Lt) (rC X.K ltD) := by
  refine opReads (fun s u v d e c as bs Q hg r1 r2 q => ?_) (fun d e c hg => ?_)
  · unfold ltD at hg
    split at hg
    · cases hg; cases r1; cases r2; exact lt_int q
    · split at hg
      · rename_i h; cases hg
        obtain ⟨h1, h2, h3, h4, h5⟩ := okLt_of h
        exact PySem.W.lt_data r1 r2 h3 h4 (by have := Nat.min_le_left d.depth e.depth; omega) q
      · cases hg
  · unfold ltD at hg
    split at hg
    · exact ⟨rfl, rfl⟩
    · split at hg
      · rename_i h; obtain ⟨h1, h2, _⟩ := okLt_of h; exact ⟨h1, h2⟩
      · cases hg
theorem op_gtD (hu : X.A.units + 66 < cLine) : OpR X (compareOp .Gt) (rC X.K (cmpD .gt)) := by
  refine opReads (fun s u v d e c as bs Q hg r1 r2 q => ?_) (fun d e c hg => ?_)
  · simp only [cmpD] at hg
    split at hg
    · cases hg; cases r1; cases r2; exact gt_int q
    · split at hg
      · rename_i h; cases hg
        obtain ⟨h1, h2, h3, h4, h5⟩ := okLt_of h
        exact PySem.W.gt_data r1 r2 h3 h4 (by have := Nat.min_le_left d.depth e.depth; omega) q
      · cases hg
  · simp only [cmpD] at hg
    split at hg
    · exact ⟨rfl, rfl⟩
    · split at hg
      · rename_i h; obtain ⟨h1, h2, _⟩ := okLt_of h; exact ⟨h1, h2⟩
      · cases hg
theorem op_leD (hu : X.A.units + 66 < cLine) : OpR X (compareOp .LtE) (rC X.K (cmpD .le)) := by
  refine opReads (fun s u v d e c as bs Q hg r1 r2 q => ?_) (fun d e c hg => ?_)
  · simp only [cmpD] at hg
    split at hg
    · cases hg; cases r1; cases r2; exact le_int q
    · split at hg
      · rename_i h; cases hg
        obtain ⟨h1, h2, h3, h4, h5⟩ := okLt_of h
        exact PySem.W.le_data r1 r2 h3 h4 (by have := Nat.min_le_left d.depth e.depth; omega) q
      · cases hg
  · simp only [cmpD] at hg
    split at hg
    · exact ⟨rfl, rfl⟩
    · split at hg
      · rename_i h; obtain ⟨h1, h2, _⟩ := okLt_of h; exact ⟨h1, h2⟩
      · cases hg
theorem op_geD (hu : X.A.units + 66 < cLine) : OpR X (compareOp .GtE) (rC X.K (cmpD .ge)) := by
  refine opReads (fun s u v d e c as bs Q hg r1 r2 q => ?_) (fun d e c hg => ?_)
  · simp only [cmpD] at hg
    split at hg
    · cases hg; cases r1; cases r2; exact ge_int q
    · split at hg
      · rename_i h; cases hg
        obtain ⟨h1, h2, h3, h4, h5⟩ := okLt_of h
        exact PySem.W.ge_data r1 r2 h3 h4 (by have := Nat.min_le_left d.depth e.depth; omega) q
      · cases hg
  · simp only [cmpD] at hg
    split at hg
    · exact ⟨rfl, rfl⟩
    · split at hg
      · rename_i h; obtain ⟨h1, h2, _⟩ := okLt_of h; exact ⟨h1, h2⟩
      · cases hg
/-! is -/
def isB : D → D → Option Bool
  | .bool a, .bool b => some (a == b)
  | _, _ => none
def isN : D → D → Option Bool
  | a, .none => some (!notN a)
  | _, _ => none
theorem notN_v {K : PySem.W.Frag} {F ι H v d} (h : RpD K F ι H v d) : (decide (v = V.non)) = !notN d := by
  obtain ⟨_, h | ⟨a, rfl, o⟩⟩ := h
  · cases h <;> rfl
  · cases o <;> rfl
theorem op_isD : OpR X (compareOp .Is) (rC X.K isD) := by
  refine OpR.imp (OpR.or (opFlat (g := fun d e => (isN d e).map .bool) op_isN fun S F ι H x y d e c Q s rx ry h => ?_) (opFlat (g := fun d e => (isB d e).map .bool) op_isBl fun S F ι H x y d e c Q s rx ry h => ?_)) fun x y H Q ⟨S, F, ι, d, e, c, s, rx, ry, h, q⟩ => ?_
  · unfold isN at h
    split at h
    · cases h; exact ⟨rfl, _, .bl _, fun q => ⟨ry.none, by rw [notN_v rx]; exact q⟩⟩
    · cases h
  · unfold isB at h
    split at h
    · rename_i a b; cases h; exact ⟨rfl, _, .bl _, fun q => ⟨_, _, rx.bool, ry.bool, by have e : decide (a = b) = (a == b) := by cases a <;> cases b <;> rfl
                                                                                        rw [e]; exact q⟩⟩
    · cases h
  · have h : (isD d e).map PyData.bool = some c := h
    cases e with
    | none =>
      refine .inl ⟨S, F, ι, _, _, _, s, rx, ry, ?_, q⟩
      show (isN d .none).map PyData.bool = some c
      rw [← h]; cases d <;> rfl
    | bool b => exact .inr ⟨S, F, ι, _, _, _, s, rx, ry, (by rw [← h]; cases d <;> rfl), q⟩
    | _ => cases d <;> cases h
theorem op_isnotD : OpR X (compareOp .IsNot) (rC X.K fun a b => (isD a b).map (!·)) := by
  refine OpR.imp (OpR.or (opFlat (g := fun d e => ((isN d e).map (!·)).map .bool) op_notN fun S F ι H x y d e c Q s rx ry h => ?_) (opFlat (g := fun d e => ((isB d e).map (!·)).map .bool) op_notBl fun S F ι H x y d e c Q s rx ry h => ?_)) fun x y H Q ⟨S, F, ι, d, e, c, s, rx, ry, h, q⟩ => ?_
  · unfold isN at h
    split at h
    · cases h; exact ⟨rfl, _, .bl _, fun q => ⟨ry.none, by rw [notN_v rx]; exact q⟩⟩
    · cases h
  · unfold isB at h
    split at h
    · rename_i a b; cases h; exact ⟨rfl, _, .bl _, fun q => ⟨_, _, rx.bool, ry.bool, by have e : decide (a = b) = (a == b) := by cases a <;> cases b <;> rfl
                                                                                        rw [e]; exact q⟩⟩
    · cases h
  · have h : ((isD d e).map (!·)).map PyData.bool = some c := h
    cases e with
    | none =>
      refine .inl ⟨S, F, ι, _, _, _, s, rx, ry, ?_, q⟩
      show ((isN d .none).map (!·)).map PyData.bool = some c
      rw [← h]; cases d <;> rfl
    | bool b => exact .inr ⟨S, F, ι, _, _, _, s, rx, ry, (by rw [← h]; cases d <;> rfl), q⟩
    | _ => cases d <;> cases h
end
end CH
set_option Elab.async false
set_option linter.all false
set_option maxRecDepth 100000
set_option maxHeartbeats 1000000
/-! in, subscripts -/
namespace CH
open PySem PySem.Spec PyProof.Rows L2
/-! ### keys -/
theorem toKey_keyD : ∀ k : Key, toKey (keyD k) = some k
  | .inl _ => rfl
  | .inr _ => rfl
theorem toKK_keyD (k : Key) : toKK (keyD k) = some (.k k) := by cases k <;> rfl
theorem toKeys_map : ∀ ks : List Key, toKeys (ks.map keyD) = some ks
  | [] => rfl
  | k :: ks => by simp only [List.map_cons, toKeys, toKey_keyD, toKeys_map ks]
theorem toKK_tup (ks : List Key) : toKK (.tuple (ks.map keyD)) = some (.t ks) := by
  show (toKeys (ks.map keyD)).map KK.t = _
  rw [toKeys_map]; rfl
theorem toKey_inv {d : D} {k : Key} (h : toKey d = some k) : d = keyD k := by
  cases d <;> first | (cases h; rfl) | cases h
theorem toKeys_inv : ∀ {ds : List D} {ks : List Key}, toKeys ds = some ks → ds = ks.map keyD
  | [], ks, h => by cases h; rfl
  | d :: ds, ks, h => by
    simp only [toKeys] at h
    split at h
    · rename_i k ks' h1 h2
      cases h
      rw [toKey_inv h1, toKeys_inv h2]; rfl
    · cases h
theorem toKK_inv {d : D} {kk : KK} (h : toKK d = some kk) : (∃ k, kk = .k k ∧ d = keyD k) ∨ ∃ ks, kk = .t ks ∧ d = .tuple (ks.map keyD) := by
  cases d with
  | tuple ds =>
    have h : (toKeys ds).map KK.t = some kk := h
    simp only [Option.map_eq_some_iff] at h
    obtain ⟨ks, h1, rfl⟩ := h
    exact .inr ⟨ks, rfl, by rw [toKeys_inv h1]⟩
  | _ =>
    refine .inl ?_
    unfold toKK at h
    simp only [Option.map_eq_some_iff] at h
    obtain ⟨k, h1, rfl⟩ := h
    exact ⟨k, rfl, toKey_inv h1⟩
section
variable {K : PySem.W.Frag} {F : Addr → Prop} {ι : List Addr} {H : Hp}
theorem RpD.key {v : V} {k : Key} (h : RpD K F ι H v (keyD k)) : v = kV k := by
  cases k with
  | inl i => exact h.int
  | inr s => exact h.str
theorem RpA.keys {vs : List V} {ks : List Key} (h : RpA K F ι H vs (ks.map keyD)) : vs = ks.map kV := by
  induction ks generalizing vs with
  | nil => cases h; rfl
  | cons k ks ih =>
    cases h with
    | cons h t =>
      rw [ih t, RpD.key (K := K) (F := F) (ι := ι) (H := H) ⟨by cases k <;> rfl, .inl h⟩]; rfl
theorem RpD.tkey {v : V} {ks : List Key} (h : RpD K F ι H v (.tuple (ks.map keyD))) : ∃ b, v = .ref b ∧ H b = some (.tup (ks.map kV)) := by
  obtain ⟨a, xs, rfl, h1, r⟩ := h.tuple
  exact ⟨a, rfl, by rw [← r.keys]; exact h1.2⟩
theorem RpK.find {kvs : List (Key × V)} {ps : List (D × D)} (r : RpK K F ι H kvs ps) (k : Key) : (∃ v d, valV kvs k = some v ∧ findK (.k k) ps = some d ∧ Rp K F ι H v d) ∨ (valV kvs k = Option.none ∧ findK (.k k) ps = Option.none) := by
  induction ps generalizing kvs with
  | nil => cases r; exact .inr ⟨rfl, rfl⟩
  | cons p ps ih =>
    cases r with
    | cons h t =>
      rename_i k' v vs d
      by_cases e : k' = k
      · refine .inl ⟨v, d, valV_pos e, ?_, h⟩
        show (if toKK (keyD k') = some (.k k) then some d else findK (.k k) ps) = some d
        rw [if_pos (by rw [toKK_keyD, e])]
      · have e1 : findK (.k k) ((keyD k', d) :: ps) = findK (.k k) ps := by
          show (if toKK (keyD k') = some (.k k) then some d else findK (.k k) ps) = _
          rw [if_neg (by rw [toKK_keyD]; intro z; injection z with z; injection z with z; exact e z)]
        rw [e1, valV_neg (p := (k', v)) e]
        exact ih t
theorem RpT.find {kvs : List (List Key × V)} {ps : List (D × D)} (r : RpT K F ι H kvs ps) (k : List Key) : (∃ v d, valV kvs k = some v ∧ findK (.t k) ps = some d ∧ Rp K F ι H v d) ∨ (valV kvs k = Option.none ∧ findK (.t k) ps = Option.none) := by
  induction ps generalizing kvs with
  | nil => cases r; exact .inr ⟨rfl, rfl⟩
  | cons p ps ih =>
    cases r with
    | cons h t =>
      rename_i k' v vs d
      by_cases e : k' = k
      · refine .inl ⟨v, d, valV_pos e, ?_, h⟩
        show (if toKK (.tuple (k'.map keyD)) = some (.t k) then some d else findK (.t k) ps) = some d
        rw [if_pos (by rw [toKK_tup, e])]
      · have e1 : findK (.t k) ((.tuple (k'.map keyD), d) :: ps) = findK (.t k) ps := by
          show (if toKK (.tuple (k'.map keyD)) = some (.t k) then some d else findK (.t k) ps) = _
          rw [if_neg (by rw [toKK_tup]; intro z; injection z with z; injection z with z; exact e z)]
        rw [e1, valV_neg (p := (k', v)) e]
        exact ih t
theorem find_mark (kk : KK) (ps : List (D × D)) : findK kk (dtM :: ps) = findK kk ps := by
  show (if toKK .none = some kk then _ else findK kk ps) = _
  rw [if_neg (by intro z; cases z)]
theorem RpK.notDt {kvs : List (Key × V)} {ps : List (D × D)} (r : RpK K F ι H kvs ps) : isDt ps = false := by
  cases r with
  | nil => rfl
  | cons h t =>
    rename_i k v vs d ds
    cases k <;> rfl
/-- a dict that is looked at -/
theorem RpD.dict {v : V} {ps : List (D × D)} (h : RpD K F ι H v (.dict ps)) : ∃ a, v = .ref a ∧ ((∃ kvs, Rd H a (.dK kvs) ∧ RpK K F ι H kvs ps) ∨ ∃ kvs qs, ps = dtM :: qs ∧ Rd H a (.dT kvs) ∧ RpT K F ι H kvs qs) := by
  obtain ⟨hl, h | ⟨a, rfl, o⟩⟩ := h
  · cases h with
    | dic f h r => exact ⟨_, rfl, .inl ⟨_, .inr ⟨_, h⟩, r⟩⟩
    | dit f h r => exact ⟨_, rfl, .inr ⟨_, _, rfl, .inr ⟨_, h⟩, r⟩⟩
    | loc h => cases hl
  · cases o with
    | dic h r => exact ⟨_, rfl, .inl ⟨_, .inl h, r⟩⟩
    | dit h r => exact ⟨_, rfl, .inr ⟨_, _, rfl, .inl h, r⟩⟩
/-- what a dict holds at a key -/
theorem RpD.dget {v y : V} {ps : List (D × D)} {kd : D} {kk : KK} (h : RpD K F ι H v (.dict ps)) (hk : RpD K F ι H y kd) (e : toKK kd = some kk) (ek : isTk kk = isDt ps) :
    ∃ a o, v = .ref a ∧ DGet H a y o ∧ ((∃ w d, o = some w ∧ findK kk ps = some d ∧ Rp K F ι H w d) ∨ (o = Option.none ∧ findK kk ps = Option.none)) := by
  obtain ⟨a, rfl, ⟨kvs, h1, r⟩ | ⟨kvs, qs, rfl, h1, r⟩⟩ := h.dict
  · rw [r.notDt] at ek
    rcases toKK_inv e with ⟨k, rfl, rfl⟩ | ⟨ks, rfl, rfl⟩
    · have hy := hk.key
      subst hy
      refine ⟨a, _, rfl, .inl ⟨kvs, k, h1, rfl, rfl⟩, ?_⟩
      rcases r.find k with ⟨w, d, e1, e2, e3⟩ | ⟨e1, e2⟩
      · exact .inl ⟨w, d, e1, e2, e3⟩
      · exact .inr ⟨e1, e2⟩
    · cases ek
  · rcases toKK_inv e with ⟨k, rfl, rfl⟩ | ⟨ks, rfl, rfl⟩
    · cases ek
    · obtain ⟨b, rfl, hb⟩ := hk.tkey
      refine ⟨a, _, rfl, .inr ⟨kvs, ks, b, h1, rfl, hb, rfl⟩, ?_⟩
      rw [find_mark]
      rcases r.find ks with ⟨w, d, e1, e2, e3⟩ | ⟨e1, e2⟩
      · exact .inl ⟨w, d, e1, e2, e3⟩
      · exact .inr ⟨e1, e2⟩
end
section
variable {X : Cx}
/-! ### in -/
def inSeq (x : D) : D → Option Bool
  | .list ds => if okD x && PyData.plainAll ds then some (ds.any fun d => PyData.eqv d x) else none
  | .tuple ds => if okD x && PyData.plainAll ds then some (ds.any fun d => PyData.eqv d x) else none
  | _ => none
def inDic (x : D) : D → Option Bool
  | .dict ps => (toKK x).bind fun kk => if isTk kk = isDt ps then some (findK kk ps).isSome else none
  | _ => none
def inStr (x : D) : D → Option Bool
  | .str s => match x with
    | .str z => if z.length = 1 then some (decide (z.cps.getD 0 0 ∈ s.cps.toList)) else none
    | _ => none
  | _ => none
theorem op_inSeq (hu : X.A.units + 66 < cLine) : OpR X (compareOp .In) (rC X.K inSeq) := by
  refine opReads (fun s u v d e c as bs Q hg r1 r2 q => ?_) (fun d e c hg => ?_)
  · unfold inSeq at hg
    split at hg
    · split at hg
      · rename_i h
        simp only [Bool.and_eq_true] at h
        obtain ⟨h1, h2⟩ := okD_of h.1
        cases hg
        exact SeqAt.in_list_data r2 r1 h.2 h1 (by have := Nat.min_le_right (PyData.depthAll ‹_›) d.depth; omega) q
      · cases hg
    · split at hg
      · rename_i h
        simp only [Bool.and_eq_true] at h
        obtain ⟨h1, h2⟩ := okD_of h.1
        cases hg
        exact SeqAt.in_tuple_data r2 r1 h.2 h1 (by have := Nat.min_le_right (PyData.depthAll ‹_›) d.depth; omega) q
      · cases hg
    · cases hg
  · unfold inSeq at hg
    split at hg
    · split at hg
      · rename_i h
        simp only [Bool.and_eq_true] at h
        exact ⟨(okD_of h.1).1, by simpa [PyData.plain] using h.2⟩
      · cases hg
    · split at hg
      · rename_i h
        simp only [Bool.and_eq_true] at h
        exact ⟨(okD_of h.1).1, by simpa [PyData.plain] using h.2⟩
      · cases hg
    · cases hg
theorem op_notinSeq (hu : X.A.units + 66 < cLine) : OpR X (compareOp .NotIn) (rC X.K fun a b => (inSeq a b).map (!·)) := by
  refine opReads (fun s u v d e c as bs Q hg r1 r2 q => ?_) (fun d e c hg => ?_)
  · unfold inSeq at hg
    split at hg
    · split at hg
      · rename_i h
        simp only [Bool.and_eq_true] at h
        obtain ⟨h1, h2⟩ := okD_of h.1
        cases hg
        exact SeqAt.notIn_list_data r2 r1 h.2 h1 (by have := Nat.min_le_right (PyData.depthAll ‹_›) d.depth; omega) q
      · cases hg
    · split at hg
      · rename_i h
        simp only [Bool.and_eq_true] at h
        obtain ⟨h1, h2⟩ := okD_of h.1
        cases hg
        exact SeqAt.notIn_tuple_data r2 r1 h.2 h1 (by have := Nat.min_le_right (PyData.depthAll ‹_›) d.depth; omega) q
      · cases hg
    · cases hg
  · unfold inSeq at hg
    split at hg
    · split at hg
      · rename_i h
        simp only [Bool.and_eq_true] at h
        exact ⟨(okD_of h.1).1, by simpa [PyData.plain] using h.2⟩
      · cases hg
    · split at hg
      · rename_i h
        simp only [Bool.and_eq_true] at h
        exact ⟨(okD_of h.1).1, by simpa [PyData.plain] using h.2⟩
      · cases hg
    · cases hg
theorem op_inDic (hu : X.A.units + 66 < cLine) : OpR X (compareOp .In) (rC X.K inDic) := by
  intro pins s σ H x y v u Q I rx ry ⟨S, F, ι, d, e, c, ss, rd, re, hc, q⟩
  have hc : (inDic d e).map PyData.bool = some c := hc
  unfold inDic at hc
  split at hc
  · simp only [Option.map_eq_some_iff, Option.bind_eq_some_iff] at hc
    obtain ⟨b, ⟨kk, h1, h2⟩, rfl⟩ := hc
    split at h2
    · rename_i ek
      cases h2
      obtain ⟨a, o, rfl, g, ho⟩ := re.dget rd h1 ek
      cases ry
      refine d_in (by omega) I g rx fun s' I' => ⟨.bl _, H, I', rfl, ?_⟩
      have e : o.isSome = (findK kk ‹_›).isSome := by rcases ho with ⟨w, z, rfl, e2, _⟩ | ⟨rfl, e2⟩ <;> rw [e2] <;> rfl
      rw [e]
      exact q _ F H (.flat (.bl _) rfl) ss .refl
    · cases h2
  · cases hc
theorem op_notinDic (hu : X.A.units + 66 < cLine) : OpR X (compareOp .NotIn) (rC X.K fun a b => (inDic a b).map (!·)) := by
  intro pins s σ H x y v u Q I rx ry ⟨S, F, ι, d, e, c, ss, rd, re, hc, q⟩
  have hc : ((inDic d e).map (!·)).map PyData.bool = some c := hc
  unfold inDic at hc
  split at hc
  · simp only [Option.map_eq_some_iff, Option.bind_eq_some_iff] at hc
    obtain ⟨b, ⟨b', ⟨kk, h1, h2⟩, rfl⟩, rfl⟩ := hc
    split at h2
    · rename_i ek
      cases h2
      obtain ⟨a, o, rfl, g, ho⟩ := re.dget rd h1 ek
      cases ry
      refine d_notIn (by omega) I g rx fun s' I' => ⟨.bl _, H, I', rfl, ?_⟩
      have e : o.isSome = (findK kk ‹_›).isSome := by rcases ho with ⟨w, z, rfl, e2, _⟩ | ⟨rfl, e2⟩ <;> rw [e2] <;> rfl
      rw [e]
      exact q _ F H (.flat (.bl _) rfl) ss .refl
    · cases h2
  · cases hc
theorem one_sign {z : Str} (h : z.length = 1) : z = ⟨#[z.cps.getD 0 0]⟩ := by
  obtain ⟨⟨l⟩⟩ := z
  cases l with
  | nil => cases h
  | cons a l => cases l with
    | nil => rfl
    | cons b l => cases h
theorem op_inStr : OpR X (compareOp .In) (rC X.K inStr) := opFlat op_in_sign fun S F ι H x y d e c Q s rx ry h => by
  unfold inStr at h
  split at h
  · split at h
    · split at h
      · rename_i z hz
        cases h
        refine ⟨rfl, _, .bl _, fun q => ⟨z.cps.getD 0 0, _, ?_, ry.str, q⟩⟩
        rw [rx.str]
        exact congrArg V.str (one_sign hz)
      · cases h
    · cases h
  · cases h
theorem op_notinStr : OpR X (compareOp .NotIn) (rC X.K fun a b => (inStr a b).map (!·)) := opFlat op_notIn_sign fun S F ι H x y d e c Q s rx ry h => by
  change ((inStr d e).map (!·)).map PyData.bool = some c at h
  unfold inStr at h
  split at h
  · split at h
    · split at h
      · rename_i z hz
        cases h
        refine ⟨rfl, _, .bl _, fun q => ⟨z.cps.getD 0 0, _, ?_, ry.str, q⟩⟩
        rw [rx.str]
        exact congrArg V.str (one_sign hz)
      · cases h
    · cases h
  · cases h
theorem op_inD' (hu : X.A.units + 66 < cLine) : OpR X (compareOp .In) (rC X.K inD) :=
  OpR.imp (opO (op_inSeq hu) (opO (op_inDic hu) op_inStr)) fun x y H Q ⟨S, F, ι, d, e, c, s, rx, ry, h, q⟩ => ⟨S, F, ι, d, e, c, s, rx, ry, by
    have h : (inD d e).map PyData.bool = some c := h
    rw [← h]
    cases e <;> simp [orE, inSeq, inDic, inStr, inD] <;> cases d <;> rfl, q⟩
theorem op_notinD' (hu : X.A.units + 66 < cLine) : OpR X (compareOp .NotIn) (rC X.K fun a b => (inD a b).map (!·)) :=
  OpR.imp (opO (op_notinSeq hu) (opO (op_notinDic hu) op_notinStr)) fun x y H Q ⟨S, F, ι, d, e, c, s, rx, ry, h, q⟩ => ⟨S, F, ι, d, e, c, s, rx, ry, by
    have h : ((inD d e).map (!·)).map PyData.bool = some c := h
    rw [← h]
    cases e <;> simp [orE, inSeq, inDic, inStr, inD] <;> cases d <;> rfl, q⟩
def opC : Co → CmpOp
  | .eq => .Eq | .ne => .NotEq | .lt => .Lt | .le => .LtE | .gt => .Gt | .ge => .GtE | .is => .Is | .isnot => .IsNot | .isin => .In | .notin => .NotIn
theorem op_cmpD (hu : X.A.units + 66 < cLine) : ∀ o : Co, OpR X (compareOp (opC o)) (rC X.K (cmpD o))
  | .eq => op_eqD' hu | .ne => op_neD' hu | .lt => op_ltD hu | .le => op_leD hu | .gt => op_gtD hu | .ge => op_geD hu | .is => op_isD | .isnot => op_isnotD | .isin => op_inD' hu | .notin => op_notinD' hu
/-! ### subscripts -/
theorem RpA.atI {K F ι H} {xs : List V} {ds : List D} {i : Int} {d : D} (h : RpA K F ι H xs ds) (e : L2.atI ds i = some d) : ∃ x, L2.atI xs i = some x ∧ Rp K F ι H x d := by
  unfold L2.atI at e ⊢
  rw [h.length]
  simp only [Option.bind_eq_some_iff] at e ⊢
  obtain ⟨j, h1, h2⟩ := e
  obtain ⟨x, h3, h4⟩ := h.get h2
  exact ⟨x, ⟨j, h1, h3⟩, h4⟩
theorem IxR.imp {r r' : R2} (h : IxR X r) (i : ∀ x y H Q, r' x y H Q → r x y H Q) : IxR X r' := fun value slice pins s σ H x y v u Q I rx ry q hs => h value slice pins s σ H x y v u Q I rx ry (i x y H Q q) hs
/-- an operation whose result stands already -/
def rI (K : PySem.W.Frag) (g : D → D → Option D) : R2 := fun x y H Q => ∃ S F ι d e c, Ss K S F ι H ∧ RpD K F ι H x d ∧ RpD K F ι H y e ∧ g d e = some c ∧
  ∀ v, Rp K F ι H v c → Q v H
def idxL : D → D → Option D
  | .list l, .int i => L2.atI l i
  | _, _ => none
def idxT : D → D → Option D
  | .tuple l, .int i => L2.atI l i
  | _, _ => none
def idxS : D → D → Option D
  | .str s, .int i => if s.length ≤ lim then (L2.atI s.cps.toList i).map fun c => .str ⟨#[c]⟩ else none
  | _, _ => none
def idxK : D → D → Option D
  | .dict ps, k => (toKK k).bind fun kk => if isTk kk = isDt ps then findK kk ps else none
  | _, _ => none
theorem ix_l : IxR X (rI X.K idxL) := IxR.imp ix_list fun x y H Q ⟨S, F, ι, d, e, c, s, rx, ry, h, q⟩ => by
  unfold idxL at h
  split at h
  · obtain ⟨a, xs, rfl, h1, r⟩ := rx.list
    obtain ⟨v, h2, h3⟩ := r.atI h
    exact ⟨a, xs, _, v, rfl, ry.int, h1, h2, q v h3⟩
  · cases h
theorem ix_t : IxR X (rI X.K idxT) := IxR.imp ix_tup fun x y H Q ⟨S, F, ι, d, e, c, s, rx, ry, h, q⟩ => by
  unfold idxT at h
  split at h
  · obtain ⟨a, xs, rfl, h1, r⟩ := rx.tuple
    obtain ⟨v, h2, h3⟩ := r.atI h
    exact ⟨a, xs, _, v, rfl, ry.int, h1.sq, h2, q v h3⟩
  · cases h
theorem ix_s : IxR X (rI X.K idxS) := IxR.imp ix_str fun x y H Q ⟨S, F, ι, d, e, c, s, rx, ry, h, q⟩ => by
  unfold idxS at h
  split at h
  · split at h
    · rename_i z i hl
      simp only [Option.map_eq_some_iff] at h
      obtain ⟨c', h1, rfl⟩ := h
      exact ⟨_, _, c', rx.str, ry.int, hl, h1, q _ (.str _)⟩
    · cases h
  · cases h
theorem ix_k (hu : X.A.units + 66 < cLine) : IxR X (rI X.K idxK) := by
  intro value slice pins s σ H x y v u Q I rx rx' ⟨S, F, ι, d, e, c, ss, rd, re, hc, q⟩ hs
  unfold idxK at hc
  split at hc
  · simp only [Option.bind_eq_some_iff] at hc
    obtain ⟨kk, h1, h2⟩ := hc
    split at h2
    · rename_i ek
      obtain ⟨a, o, rfl, g, ho⟩ := rd.dget re h1 ek
      rcases ho with ⟨w, z, rfl, e2, rz⟩ | ⟨rfl, e2⟩
      · rw [e2] at h2; cases h2
        cases rx
        exact tail_any (dict_typeIs I g) PySem.F.slot_dict_getitem.lookup (d_getItem (by omega) I g rx' fun w' s3 I3 rw' => ⟨w, H, I3, rw', q w rz⟩) hs
      · rw [e2] at h2; cases h2
    · cases h2
  · cases hc
theorem ixO {g1 g2 : D → D → Option D} (h1 : IxR X (rI X.K g1)) (h2 : IxR X (rI X.K g2)) : IxR X (rI X.K (orE g1 g2)) := IxR.imp (h1.or h2) fun x y H Q ⟨S, F, ι, d, e, c, s, rx, ry, h, q⟩ => by
  unfold orE at h
  cases z : g1 d e with
  | none => rw [z, Option.none_or] at h; exact .inr ⟨S, F, ι, d, e, c, s, rx, ry, h, q⟩
  | some b => rw [z, Option.some_or] at h; exact .inl ⟨S, F, ι, d, e, c, s, rx, ry, z.trans h, q⟩
theorem ix_D (hu : X.A.units + 66 < cLine) : IxR X (rI X.K idxD) :=
  IxR.imp (ixO ix_l (ixO ix_t (ixO ix_s (ix_k hu)))) fun x y H Q ⟨S, F, ι, d, e, c, s, rx, ry, h, q⟩ => ⟨S, F, ι, d, e, c, s, rx, ry, by
    rw [← h]
    cases d <;> cases e <;> simp [orE, idxL, idxT, idxS, idxK, idxD], q⟩
end
end CH
set_option Elab.async false
set_option linter.all false
set_option maxRecDepth 100000
set_option maxHeartbeats 1000000
/-! expressions, one construct after another -/
namespace CH
open PySem PySem.Spec PyProof.Rows L2
theorem two_inv {fa fb : RunF} {g ρ S d S'} (h : two fa fb g ρ S = some (d, S')) : ∃ x S1 y x' y', fa ρ S = some (x, S1) ∧ fb ρ S1 = some (y, S') ∧ deref S' x = some x' ∧ deref S' y = some y' ∧ g x' y' = some d := by
  unfold two at h
  split at h
  · cases h
  · rename_i x S1 h1
    split at h
    · cases h
    · rename_i y S2 h2
      split at h
      · rename_i x' y' h3 h4
        simp only [Option.map_eq_some_iff, Prod.mk.injEq] at h
        obtain ⟨c, h5, rfl, rfl⟩ := h
        exact ⟨x, S1, y, x', y', h1, h2, h3, h4, h5⟩
      · cases h
theorem one_inv {fa : RunF} {g ρ S d S'} (h : one fa g ρ S = some (d, S')) : ∃ x x', fa ρ S = some (x, S') ∧ deref S' x = some x' ∧ g x' = some d := by
  unfold one at h
  split at h
  · cases h
  · rename_i x S1 h1
    simp only [Option.map_eq_some_iff, Prod.mk.injEq, Option.bind_eq_some_iff] at h
    obtain ⟨c, ⟨x', h2, h3⟩, rfl, rfl⟩ := h
    exact ⟨x, x', h1, h2, h3⟩
section
variable {K : PySem.W.Frag} {F F' F'' : Addr → Prop} {ι ι' ι'' : List Addr} {H H' H'' : Hp} {O : Addr → Prop}
theorem RpN.back {v d} (h : RpN K F' ι' H' H'' v d) (x : Ext O F ι H F'' ι'' H') : RpN K F' ι' H H'' v d := by
  rcases h with ⟨h1, a, h2, h3, h4, h5, h6⟩ | h
  · exact .inl ⟨h1, a, h2, h3, h4, h5, x.free h6⟩
  · exact .inr h
theorem two_read {fa fb : RunF} {g σ Q} (h : tN K (two fa fb g) σ H Q) : tOp (rD K g) (tB K fa) (tB K fb) σ H Q := by
  obtain ⟨ρ, S, F, ι, d, S', sr, e1, q⟩ := h
  obtain ⟨x, S1, y, x', y', h1, h2, h3, h4, h5⟩ := two_inv e1
  exact ⟨ρ, S, F, ι, x, S1, sr, h1, fun v F1 ι1 H1 r1 s1 x1 => ⟨ρ, S1, F1, ι1, y, S', sr.ext x1 s1, h2, fun w F2 ι2 H2 r2 s2 x2 =>
    ⟨S', F2, ι2, x', y', d, s2, (r1.ext s1 x2).deref s2 h3, r2.deref s2 h4, h5, fun z F3 H3 r3 s3 x3 => q z F3 ι2 H3 (r3.back (x1.trans x2)) s3 ((x1.trans x2).trans x3)⟩⟩⟩
theorem two_readI {fa fb : RunF} {g σ Q} (h : tV K (two fa fb g) σ H Q) : tOp (rI K g) (tB K fa) (tB K fb) σ H Q := by
  obtain ⟨ρ, S, F, ι, d, S', sr, e1, q⟩ := h
  obtain ⟨x, S1, y, x', y', h1, h2, h3, h4, h5⟩ := two_inv e1
  exact ⟨ρ, S, F, ι, x, S1, sr, h1, fun v F1 ι1 H1 r1 s1 x1 => ⟨ρ, S1, F1, ι1, y, S', sr.ext x1 s1, h2, fun w F2 ι2 H2 r2 s2 x2 =>
    ⟨S', F2, ι2, x', y', d, s2, (r1.ext s1 x2).deref s2 h3, r2.deref s2 h4, h5, fun z r3 => q z F2 ι2 H2 r3 s2 (x1.trans x2)⟩⟩⟩
end
section
variable {X : Cx} {a b c e : Expr} {fa fb fc : RunF} {pos : Pos}
theorem nBin (o : Bo) (ha : PE X a (tB X.K fa)) (hb : PE X b (tB X.K fb)) : PE X (.BinOp a (opB o) b pos) (tN X.K (two fa fb (binD o))) :=
  PE.imp (pe_op (op_binD o) ha hb) fun _ _ _ => two_read
theorem nCmp (hu : X.A.units + 66 < cLine) (o : Co) (ha : PE X a (tB X.K fa)) (hb : PE X b (tB X.K fb)) (hm : behindInMarks (opC o) b = false) : PE X (.Compare a [opC o] [b] pos) (tN X.K (two fa fb fun x y => (cmpD o x y).map .bool)) :=
  PE.imp (pe_cmpR (op_cmpD hu o) ha hb hm) fun _ _ _ => two_read
theorem tN_bool {K : PySem.W.Frag} {f : RunF} {σ H} {Q : Bool → Hp → Prop} (hf : ∀ ρ S d S', f ρ S = some (d, S') → ∃ c, d = .bool c) (h : tT K (fun ρ S => fin .T (f ρ S)) σ H Q) : tN K f σ H fun x H' => ∃ k, x = .bl k ∧ Q k H' := by
  obtain ⟨ρ, S, F, ι, c, S', sr, e1, q⟩ := h
  obtain ⟨d0, d1, c', h1, h2, h3, h4⟩ := fin_T e1
  injection h4 with h4; subst h4
  obtain ⟨b, rfl⟩ := hf _ _ _ _ h1
  cases h2; cases h3
  refine ⟨ρ, S, F, ι, _, S', sr, h1, fun v F' ι' H' r s x => ?_⟩
  rcases r with ⟨h, _⟩ | ⟨_, r⟩
  · cases h
  · cases r; exact ⟨c, rfl, q F' ι' H' s x⟩
theorem tCmp (hu : X.A.units + 66 < cLine) (o : Co) (ha : PE X a (tB X.K fa)) (hb : PE X b (tB X.K fb)) (hm : behindInMarks (opC o) b = false) : PT X (.Compare a [opC o] [b] pos) (tT X.K fun ρ S => fin .T (two fa fb (fun x y => (cmpD o x y).map .bool) ρ S)) :=
  PT.imp (pt_cmpR (op_cmpD hu o) ha hb hm) fun σ H Q h => two_read (tN_bool (fun ρ S d S' h => by
    obtain ⟨x, S1, y, x', y', h1, h2, h3, h4, h5⟩ := two_inv h
    simp only [Option.map_eq_some_iff] at h5
    obtain ⟨c, _, rfl⟩ := h5
    exact ⟨c, rfl⟩) h)
/-- a comparison in its modes -/
theorem evCmp (hu : X.A.units + 66 < cLine) (o : Co) (ha : PE X a (tB X.K fa)) (hb : PE X b (tB X.K fb)) (hm : behindInMarks (opC o) b = false) : EvM X (.Compare a [opC o] [b] pos) (fun m ρ S => fin m (two fa fb (fun x y => (cmpD o x y).map .bool) ρ S)) :=
  ⟨N2V (nCmp hu o ha hb hm), V2B (N2V (nCmp hu o ha hb hm)), tCmp hu o ha hb hm⟩
def chainF (o o' : Co) (fa fb fc : RunF) : RunF := fun ρ S => match fa ρ S with
    | none => none
    | some (x, S1) => match fb ρ S1 with
      | none => none
      | some (y, S2) => match deref S2 x, deref S2 y with
        | some x', some y' => match cmpD o x' y' with
          | none => none
          | some false => some (.bool false, S2)
          | some true => match fc ρ S2 with
            | none => none
            | some (z, S3) => match deref S3 y, deref S3 z with
              | some y', some z' => (cmpD o' y' z').map (fun c => (.bool c, S3))
              | _, _ => none
        | _, _ => none
theorem chain_inv {o o' ρ S d S'} (h : chainF o o' fa fb fc ρ S = some (d, S')) : ∃ x S1 y S2 x' y', fa ρ S = some (x, S1) ∧ fb ρ S1 = some (y, S2) ∧ deref S2 x = some x' ∧ deref S2 y = some y' ∧
    ((cmpD o x' y' = some false ∧ d = .bool false ∧ S' = S2) ∨ (cmpD o x' y' = some true ∧ ∃ z y2 z' c, fc ρ S2 = some (z, S') ∧ deref S' y = some y2 ∧ deref S' z = some z' ∧ cmpD o' y2 z' = some c ∧ d = .bool c)) := by
  unfold chainF at h
  split at h
  · cases h
  · rename_i x S1 h1
    split at h
    · cases h
    · rename_i y S2 h2
      split at h
      · rename_i x' y' h3 h4
        split at h
        · cases h
        · rename_i h5; cases h; exact ⟨x, S1, y, _, x', y', h1, h2, h3, h4, .inl ⟨h5, rfl, rfl⟩⟩
        · rename_i h5
          split at h
          · cases h
          · rename_i z S3 h6
            split at h
            · rename_i y2 z' h7 h8
              simp only [Option.map_eq_some_iff, Prod.mk.injEq] at h
              obtain ⟨c, h9, rfl, rfl⟩ := h
              exact ⟨x, S1, y, S2, x', y', h1, h2, h3, h4, .inr ⟨h5, z, y2, z', c, h6, h7, h8, h9, rfl⟩⟩
            · cases h
      · cases h
theorem chain_read {K : PySem.W.Frag} {o o' σ H Q} (h : tN K (chainF o o' fa fb fc) σ H Q) : tChain (rC K (cmpD o)) (rC K (cmpD o')) (tB K fa) (tB K fb) (tB K fc) σ H Q := by
  obtain ⟨ρ, S, F, ι, d, S', sr, e1, q⟩ := h
  obtain ⟨x, S1, y, S2, x', y', h1, h2, h3, h4, h5⟩ := chain_inv e1
  refine ⟨ρ, S, F, ι, x, S1, sr, h1, fun v F1 ι1 H1 r1 s1 x1 => ⟨ρ, S1, F1, ι1, y, S2, sr.ext x1 s1, h2, fun w F2 ι2 H2 r2 s2 x2 => ?_⟩⟩
  rcases h5 with ⟨h5, rfl, rfl⟩ | ⟨h5, z, y2, z', c, h6, h7, h8, h9, rfl⟩
  · refine ⟨S', F2, ι2, x', y', .bool false, s2, (r1.ext s1 x2).deref s2 h3, r2.deref s2 h4, by show (cmpD o x' y').map PyData.bool = _; rw [h5]; rfl, fun u F3 H3 r3 s3 x3 => ?_⟩
    rcases r3 with ⟨z, _⟩ | ⟨_, r3⟩
    · cases z
    · cases r3; exact ⟨false, rfl, iteF (q _ F3 ι2 H3 (.flat (.bl false) rfl) s3 ((x1.trans x2).trans x3))⟩
  · refine ⟨S2, F2, ι2, x', y', .bool true, s2, (r1.ext s1 x2).deref s2 h3, r2.deref s2 h4, by show (cmpD o x' y').map PyData.bool = _; rw [h5]; rfl, fun u F3 H3 r3 s3 x3 => ?_⟩
    rcases r3 with ⟨z, _⟩ | ⟨_, r3⟩
    · cases z
    · cases r3
      refine ⟨true, rfl, iteT ⟨ρ, S2, F3, ι2, z, S', sr.ext ((x1.trans x2).trans x3) s3, h6, fun u F4 ι4 H4 r4 s4 x4 => ?_⟩⟩
      exact ⟨S', F4, ι4, y2, z', .bool c, s4, ((r2.ext s2 x3).ext s3 x4).deref s4 h7, r4.deref s4 h8, by show (cmpD o' y2 z').map PyData.bool = _; rw [h9]; rfl, fun v5 F5 H5 r5 s5 x5 => q v5 F5 ι4 H5 (r5.back (((x1.trans x2).trans x3).trans x4)) s5 ((((x1.trans x2).trans x3).trans x4).trans x5)⟩
theorem chain_bool {o o' ρ S d S'} (h : chainF o o' fa fb fc ρ S = some (d, S')) : ∃ c, d = .bool c := by
  obtain ⟨x, S1, y, S2, x', y', h1, h2, h3, h4, ⟨_, h5, _⟩ | ⟨_, _, _, _, c, _, _, _, _, h5⟩⟩ := chain_inv h
  · exact ⟨_, h5⟩
  · exact ⟨_, h5⟩
theorem evChain (hu : X.A.units + 66 < cLine) (o o' : Co) (ha : PE X a (tB X.K fa)) (hb : PE X b (tB X.K fb)) (hc : PE X c (tB X.K fc)) (hm : lastMarks [opC o, opC o'] [b, c] = false) :
    EvM X (.Compare a [opC o, opC o'] [b, c] pos) (fun m ρ S => fin m (chainF o o' fa fb fc ρ S)) :=
  have n : PE X (.Compare a [opC o, opC o'] [b, c] pos) (tN X.K (chainF o o' fa fb fc)) := PE.imp (pe_chain (op_cmpD hu o) (op_cmpD hu o') ha hb hc hm) fun _ _ _ => chain_read
  ⟨N2V n, V2B (N2V n), PT.imp (pt_chain (op_cmpD hu o) (op_cmpD hu o') ha hb hc hm) fun σ H Q h => chain_read (tN_bool (fun _ _ _ _ h => chain_bool h) h)⟩
/-- one operand -/
theorem one_read {K : PySem.W.Frag} {r : V → Hp → VK → Prop} {g σ H Q} (hr : ∀ S F ι H x d c (Q : VK), Ss K S F ι H → RpD K F ι H x d → g d = some c → (∀ v F' H', RpN K F' ι H H' v c → Ss K S F' ι H' → Ext0 F ι H F' ι H' → Q v H') → r x H Q)
    (h : tN K (one fa g) σ H Q) : tUn r (tB K fa) σ H Q := by
  obtain ⟨ρ, S, F, ι, d, S', sr, e1, q⟩ := h
  obtain ⟨x, x', h1, h2, h3⟩ := one_inv e1
  exact ⟨ρ, S, F, ι, x, S', sr, h1, fun v F1 ι1 H1 r1 s1 x1 => hr S' F1 ι1 H1 v x' d Q s1 (r1.deref s1 h2) h3 fun w F2 H2 r2 s2 x2 => q w F2 ι1 H2 (r2.back x1) s2 (x1.trans x2)⟩
theorem nNeg (ha : PE X a (tB X.K fa)) : PE X (.UnaryOp .USub a pos) (tN X.K (one fa negD)) :=
  PE.imp (pe_un un_neg ha) fun _ _ _ => one_read fun S F ι H x d c Q s rx h q => by
    unfold negD at h
    split at h
    · cases h; exact ⟨_, rx.int, q _ F H (.flat (.int _) rfl) s .refl⟩
    · cases h
/-- not, as a value -/
theorem nNot (ha : PE X a (tB X.K fa)) : PE X (.UnaryOp .Not a pos) (tN X.K (one fa fun x => (truD x).map fun c => .bool (!c))) :=
  PE.imp (pe_notT ha) fun _ _ _ h => one_read (r := fun x H Q => ∃ k, TruV X.K x H k ∧ Q (.bl (!k)) H) (fun S F ι H x d c Q s rx h q => by
    simp only [Option.map_eq_some_iff] at h
    obtain ⟨c, h, rfl⟩ := h
    exact ⟨c, truV_of rx h, q _ F H (.flat (.bl _) rfl) s .refl⟩) h
theorem evNot {f : Md → RunF} (ha : EvM X a f) : EvM X (.UnaryOp .Not a pos) (fun m ρ S => match m with
    | .T => (match f .T ρ S with
      | some (.bool c, S1) => some (.bool (!c), S1)
      | _ => none)
    | _ => one (f .B) (fun x => (truD x).map fun c => .bool (!c)) ρ S) :=
  ⟨N2V (nNot ha.b), V2B (N2V (nNot ha.b)), PT.imp (pt_not ha.t) fun σ H Q ⟨ρ, S, F, ι, c, S', sr, e1, q⟩ => by
    have e1 : (match f .T ρ S with
      | some (.bool c, S1) => some (PyData.bool (!c), S1)
      | _ => none) = some (.bool c, S') := e1
    split at e1
    · rename_i c' S1 h1; cases e1
      exact ⟨ρ, S, F, ι, c', _, sr, h1, q⟩
    · cases e1⟩
theorem vIdx (hu : X.A.units + 66 < cLine) (ha : PE X a (tB X.K fa)) (hb : PE X b (tB X.K fb)) (hs : PlainIx b) : PE X (.Subscript a b pos) (tV X.K (two fa fb idxD)) :=
  PE.imp (pe_ix (ix_D hu) ha hb hs) fun _ _ _ => two_readI
end
end CH
set_option Elab.async false
set_option linter.all false
set_option maxRecDepth 100000
set_option maxHeartbeats 1000000
/-! and, or, if; displays; slices; argument lists -/
namespace CH
open PySem PySem.Spec PyProof.Rows L2
/-- .. and a part of a chain of and, or -/
structure EvW (X : Cx) (e : Expr) (f : Md → RunF) : Prop where
  v : PE X e (tV X.K (f .V))
  b : PE X e (tB X.K (f .B))
  w : PW X e (tT X.K (f .T))
theorem PW.imp {X : Cx} {e : Expr} {t t' : TT} (h : PW X e t) (i : ∀ σ H Q, t' σ H Q → t σ H Q) : PW X e t' := ⟨fun wh pins s σ H Q I q => h.run wh pins s σ H Q I (i σ H Q q)⟩
theorem EvW.m {X e f} (h : EvW X e f) : EvM X e f := ⟨h.v, h.b, h.w.pt⟩
theorem RpB.ofV {K F ι H v d} (h : Rp K F ι H v d) : RpB K F ι H v d := .inl h
def andV (fa fb : RunF) : RunF := fun ρ S => match fa ρ S with
    | none => none
    | some (x, S1) => match (deref S1 x).bind truD with
      | none => none
      | some true => fb ρ S1
      | some false => some (x, S1)
def orV (fa fb : RunF) : RunF := fun ρ S => match fa ρ S with
    | none => none
    | some (x, S1) => match (deref S1 x).bind truD with
      | none => none
      | some true => some (x, S1)
      | some false => fb ρ S1
def andT (fa fb : RunF) : RunF := fun ρ S => match fa ρ S with
    | some (.bool true, S1) => fb ρ S1
    | some (.bool false, S1) => some (.bool false, S1)
    | _ => none
def orT (fa fb : RunF) : RunF := fun ρ S => match fa ρ S with
    | some (.bool false, S1) => fb ρ S1
    | some (.bool true, S1) => some (.bool true, S1)
    | _ => none
section
variable {X : Cx} {a b c e : Expr} {fa fb fc : RunF} {pos : Pos} {rest : List Expr} {K : PySem.W.Frag}
theorem andV_read {σ H Q} (h : tV K (andV fa fb) σ H Q) : tAndT K (tV K fa) (tV K fb) σ H Q := by
  obtain ⟨ρ, S, F, ι, d, S', sr, e1, q⟩ := h
  unfold andV at e1
  split at e1
  · cases e1
  · rename_i x S1 h1
    split at e1
    · cases e1
    · rename_i h2
      simp only [Option.bind_eq_some_iff] at h2
      obtain ⟨x', h2, h3⟩ := h2
      exact ⟨ρ, S, F, ι, x, S1, sr, h1, fun v F1 ι1 H1 r1 s1 x1 => ⟨true, truV_of ((RpB.ofV r1).deref s1 h2) h3, iteT ⟨ρ, S1, F1, ι1, d, S', sr.ext x1 s1, e1, fun w F2 ι2 H2 r2 s2 x2 => q w F2 ι2 H2 r2 s2 (x1.trans x2)⟩⟩⟩
    · rename_i h2
      simp only [Option.bind_eq_some_iff] at h2
      obtain ⟨x', h2, h3⟩ := h2
      cases e1
      exact ⟨ρ, S, F, ι, _, _, sr, h1, fun v F1 ι1 H1 r1 s1 x1 => ⟨false, truV_of ((RpB.ofV r1).deref s1 h2) h3, iteF (q v F1 ι1 H1 r1 s1 x1)⟩⟩
theorem orV_read {σ H Q} (h : tV K (orV fa fb) σ H Q) : tOrT K (tV K fa) (tV K fb) σ H Q := by
  obtain ⟨ρ, S, F, ι, d, S', sr, e1, q⟩ := h
  unfold orV at e1
  split at e1
  · cases e1
  · rename_i x S1 h1
    split at e1
    · cases e1
    · rename_i h2
      simp only [Option.bind_eq_some_iff] at h2
      obtain ⟨x', h2, h3⟩ := h2
      cases e1
      exact ⟨ρ, S, F, ι, _, _, sr, h1, fun v F1 ι1 H1 r1 s1 x1 => ⟨true, truV_of ((RpB.ofV r1).deref s1 h2) h3, iteT (q v F1 ι1 H1 r1 s1 x1)⟩⟩
    · rename_i h2
      simp only [Option.bind_eq_some_iff] at h2
      obtain ⟨x', h2, h3⟩ := h2
      exact ⟨ρ, S, F, ι, x, S1, sr, h1, fun v F1 ι1 H1 r1 s1 x1 => ⟨false, truV_of ((RpB.ofV r1).deref s1 h2) h3, iteF ⟨ρ, S1, F1, ι1, d, S', sr.ext x1 s1, e1, fun w F2 ι2 H2 r2 s2 x2 => q w F2 ι2 H2 r2 s2 (x1.trans x2)⟩⟩⟩
theorem andT_read {σ H Q} (h : tT K (andT fa fb) σ H Q) : tAnd (tT K fa) (tT K fb) σ H Q := by
  obtain ⟨ρ, S, F, ι, c, S', sr, e1, q⟩ := h
  unfold andT at e1
  split at e1
  · rename_i S1 h1
    exact ⟨ρ, S, F, ι, true, S1, sr, h1, fun F1 ι1 H1 s1 x1 => iteT ⟨ρ, S1, F1, ι1, c, S', sr.ext x1 s1, e1, fun F2 ι2 H2 s2 x2 => q F2 ι2 H2 s2 (x1.trans x2)⟩⟩
  · rename_i S1 h1
    cases e1
    exact ⟨ρ, S, F, ι, false, _, sr, h1, fun F1 ι1 H1 s1 x1 => iteF (q F1 ι1 H1 s1 x1)⟩
  · cases e1
theorem orT_read {σ H Q} (h : tT K (orT fa fb) σ H Q) : tOr (tT K fa) (tT K fb) σ H Q := by
  obtain ⟨ρ, S, F, ι, c, S', sr, e1, q⟩ := h
  unfold orT at e1
  split at e1
  · rename_i S1 h1
    exact ⟨ρ, S, F, ι, false, S1, sr, h1, fun F1 ι1 H1 s1 x1 => iteF ⟨ρ, S1, F1, ι1, c, S', sr.ext x1 s1, e1, fun F2 ι2 H2 s2 x2 => q F2 ι2 H2 s2 (x1.trans x2)⟩⟩
  · rename_i S1 h1
    cases e1
    exact ⟨ρ, S, F, ι, true, _, sr, h1, fun F1 ι1 H1 s1 x1 => iteT (q F1 ι1 H1 s1 x1)⟩
  · cases e1
def andM (f g : Md → RunF) : Md → RunF := fun m ρ S => match m with
  | .T => andT (f .T) (g .T) ρ S
  | m => fin m (andV (f .V) (g .V) ρ S)
def orM (f g : Md → RunF) : Md → RunF := fun m ρ S => match m with
  | .T => orT (f .T) (g .T) ρ S
  | m => fin m (orV (f .V) (g .V) ρ S)
theorem evAnd {f g : Md → RunF} (ha : EvM X a f) (hb : EvW X (.BoolOp .And (b :: rest) pos) g) : EvW X (.BoolOp .And (a :: b :: rest) pos) (andM f g) :=
  have n : PE X (.BoolOp .And (a :: b :: rest) pos) (tV X.K (andV (f .V) (g .V))) := PE.imp (pe_andT ha.v hb.v) fun _ _ _ => andV_read
  ⟨n, V2B n, PW.imp (pw_and ha.t hb.w) fun _ _ _ => andT_read⟩
theorem evOr {f g : Md → RunF} (ha : EvM X a f) (hb : EvW X (.BoolOp .Or (b :: rest) pos) g) : EvW X (.BoolOp .Or (a :: b :: rest) pos) (orM f g) :=
  have n : PE X (.BoolOp .Or (a :: b :: rest) pos) (tV X.K (orV (f .V) (g .V))) := PE.imp (pe_orT ha.v hb.v) fun _ _ _ => orV_read
  ⟨n, V2B n, PW.imp (pw_or ha.t hb.w) fun _ _ _ => orT_read⟩
theorem evAnd1 {f : Md → RunF} (ha : EvM X a f) : EvW X (.BoolOp .And [a] pos) f := ⟨pe_one ha.v, pe_one ha.b, pw_and1 ha.t⟩
theorem evOr1 {f : Md → RunF} (ha : EvM X a f) : EvW X (.BoolOp .Or [a] pos) f := ⟨pe_one ha.v, pe_one ha.b, pw_or1 ha.t⟩
def iteF' (ft fa fb : RunF) : RunF := fun ρ S => match ft ρ S with
    | some (.bool true, S1) => fa ρ S1
    | some (.bool false, S1) => fb ρ S1
    | _ => none
theorem iteF_inv {ft fa fb : RunF} {ρ S d S'} (h : iteF' ft fa fb ρ S = some (d, S')) : ∃ c S1, ft ρ S = some (.bool c, S1) ∧ (if c then fa else fb) ρ S1 = some (d, S') := by
  unfold iteF' at h
  split at h
  · rename_i S1 h1; exact ⟨true, S1, h1, h⟩
  · rename_i S1 h1; exact ⟨false, S1, h1, h⟩
  · cases h
/-- a if t else b -/
theorem evIf {ft f g : Md → RunF} {t : Expr} (ht : EvM X t ft) (ha : EvM X a f) (hb : EvM X b g) : EvM X (.IfExp t a b pos) (fun m => iteF' (ft .T) (f m) (g m)) := by
  refine ⟨PE.imp (pe_ifExp ht.t ha.v hb.v) fun σ H Q ⟨ρ, S, F, ι, d, S', sr, e1, q⟩ => ?_, PE.imp (pe_ifExp ht.t ha.b hb.b) fun σ H Q ⟨ρ, S, F, ι, d, S', sr, e1, q⟩ => ?_, ⟨fun pins s σ H Q I ⟨ρ, S, F, ι, d, S', sr, e1, q⟩ => ?_⟩⟩
  · obtain ⟨c, S1, h1, h2⟩ := iteF_inv e1
    refine ⟨ρ, S, F, ι, c, S1, sr, h1, fun F1 ι1 H1 s1 x1 => ?_⟩
    cases c with
    | true => exact iteT ⟨ρ, S1, F1, ι1, d, S', sr.ext x1 s1, h2, fun v F2 ι2 H2 r2 s2 x2 => q v F2 ι2 H2 r2 s2 (x1.trans x2)⟩
    | false => exact iteF ⟨ρ, S1, F1, ι1, d, S', sr.ext x1 s1, h2, fun v F2 ι2 H2 r2 s2 x2 => q v F2 ι2 H2 r2 s2 (x1.trans x2)⟩
  · obtain ⟨c, S1, h1, h2⟩ := iteF_inv e1
    refine ⟨ρ, S, F, ι, c, S1, sr, h1, fun F1 ι1 H1 s1 x1 => ?_⟩
    cases c with
    | true => exact iteT ⟨ρ, S1, F1, ι1, d, S', sr.ext x1 s1, h2, fun v F2 ι2 H2 r2 s2 x2 => q v F2 ι2 H2 r2 s2 (x1.trans x2)⟩
    | false => exact iteF ⟨ρ, S1, F1, ι1, d, S', sr.ext x1 s1, h2, fun v F2 ι2 H2 r2 s2 x2 => q v F2 ι2 H2 r2 s2 (x1.trans x2)⟩
  · obtain ⟨c, S1, h1, h2⟩ := iteF_inv e1
    refine isTrue_IfExp (thn (ht.t.run pins s σ H (fun k H1 => k = c ∧ ∃ F1 ι1, Ss X.K S1 F1 ι1 H1 ∧ Ext0 F ι H F1 ι1 H1) I ⟨ρ, S, F, ι, c, S1, sr, h1, fun F1 ι1 H1 s1 x1 => ⟨rfl, F1, ι1, s1, x1⟩⟩) fun k s1' ⟨H1, I1, hk, F1, ι1, s1, x1⟩ => ?_)
    subst hk
    cases k with
    | true => exact iteT (ha.t.run pins s1' σ H1 Q I1 ⟨ρ, S1, F1, ι1, d, S', sr.ext x1 s1, h2, fun F2 ι2 H2 s2 x2 => q F2 ι2 H2 s2 (x1.trans x2)⟩)
    | false => exact iteF (hb.t.run pins s1' σ H1 Q I1 ⟨ρ, S1, F1, ι1, d, S', sr.ext x1 s1, h2, fun F2 ι2 H2 s2 x2 => q F2 ι2 H2 s2 (x1.trans x2)⟩)
/-! ### argument lists -/
def notStar : Expr → Bool
  | .Starred .. => false
  | _ => true
theorem star_of (h : notStar e = true) (es : List Expr) (env : Env) : starEach (e :: es) env = (false, eval e env) :: starEach es env := by cases e <;> first | rfl | cases h
def consF (fa : RunF) (fl : Env' → Sto → Option (List D × Sto)) : Env' → Sto → Option (List D × Sto) := fun ρ S => match fa ρ S with
  | none => none
  | some (d, S1) => match fl ρ S1 with
    | none => none
    | some (ds, S2) => some (d :: ds, S2)
def nilF : Env' → Sto → Option (List D × Sto) := fun _ S => some ([], S)
theorem aNil : PA X [] (tA X.K nilF) := PA.imp pa_nil fun σ H Q ⟨ρ, S, F, ι, d, S', sr, e1, q⟩ => by
  cases e1; exact q [] F ι H .nil sr.ss .refl
theorem consF_inv {fl : Env' → Sto → Option (List D × Sto)} {ρ S ds S'} (h : consF fa fl ρ S = some (ds, S')) : ∃ d S1 es, fa ρ S = some (d, S1) ∧ fl ρ S1 = some (es, S') ∧ ds = d :: es := by
  unfold consF at h
  split at h
  · cases h
  · rename_i d S1 h1
    split at h
    · cases h
    · rename_i es S2 h2; cases h; exact ⟨d, S1, es, h1, h2, rfl⟩
theorem aCons {es : List Expr} {fl : Env' → Sto → Option (List D × Sto)} (ha : PE X a (tV X.K fa)) (hl : PA X es (tA X.K fl)) (hs : notStar a = true) : PA X (a :: es) (tA X.K (consF fa fl)) :=
  PA.imp (pa_cons ha hl (star_of hs es X.env)) fun σ H Q ⟨ρ, S, F, ι, ds, S', sr, e1, q⟩ => by
    obtain ⟨d, S1, es, h1, h2, rfl⟩ := consF_inv e1
    exact ⟨ρ, S, F, ι, d, S1, sr, h1, fun v F1 ι1 H1 r1 s1 x1 => ⟨ρ, S1, F1, ι1, es, S', sr.ext x1 s1, h2, fun vs F2 ι2 H2 r2 s2 x2 => q (v :: vs) F2 ι2 H2 (.cons (r1.kept (Ext0.kept s1 x2)) r2) s2 (x1.trans x2)⟩⟩
/-- arguments that are only looked at -/
inductive RpBs (K : PySem.W.Frag) (F : Addr → Prop) (ι : List Addr) (H : Hp) : List V → List D → Prop
  | nil : RpBs K F ι H [] []
  | cons {v vs d ds} : RpB K F ι H v d → RpBs K F ι H vs ds → RpBs K F ι H (v :: vs) (d :: ds)
inductive RpDs (K : PySem.W.Frag) (F : Addr → Prop) (ι : List Addr) (H : Hp) : List V → List D → Prop
  | nil : RpDs K F ι H [] []
  | cons {v vs d ds} : RpD K F ι H v d → RpDs K F ι H vs ds → RpDs K F ι H (v :: vs) (d :: ds)
theorem RpBs.deref {S F ι H vs ds ds'} (s : Ss K S F ι H) (h : RpBs K F ι H vs ds) (e : derefs S ds = some ds') : RpDs K F ι H vs ds' := by
  induction ds generalizing vs ds' with
  | nil => cases h; cases e; exact .nil
  | cons d ds ih =>
    cases h with
    | cons h t =>
      simp only [derefs] at e
      split at e
      · rename_i x xs h1 h2; cases e
        exact .cons (h.deref s h1) (ih t h2)
      · cases e
def tBs (K : PySem.W.Frag) (f : Env' → Sto → Option (List D × Sto)) : TA := fun σ H Q => ∃ ρ S F ι ds S', SR K ρ S F ι σ H ∧ f ρ S = some (ds, S') ∧
  ∀ vs F' ι' H', RpBs K F' ι' H' vs ds → Ss K S' F' ι' H' → Ext0 F ι H F' ι' H' → Q vs H'
theorem bNil : PA X [] (tBs X.K nilF) := PA.imp pa_nil fun σ H Q ⟨ρ, S, F, ι, d, S', sr, e1, q⟩ => by
  cases e1; exact q [] F ι H .nil sr.ss .refl
theorem bCons {es : List Expr} {fl : Env' → Sto → Option (List D × Sto)} (ha : PE X a (tB X.K fa)) (hl : PA X es (tBs X.K fl)) (hs : notStar a = true) : PA X (a :: es) (tBs X.K (consF fa fl)) :=
  PA.imp (pa_cons ha hl (star_of hs es X.env)) fun σ H Q ⟨ρ, S, F, ι, ds, S', sr, e1, q⟩ => by
    obtain ⟨d, S1, es, h1, h2, rfl⟩ := consF_inv e1
    exact ⟨ρ, S, F, ι, d, S1, sr, h1, fun v F1 ι1 H1 r1 s1 x1 => ⟨ρ, S1, F1, ι1, es, S', sr.ext x1 s1, h2, fun vs F2 ι2 H2 r2 s2 x2 => q (v :: vs) F2 ι2 H2 (.cons (r1.ext s1 x2) r2) s2 (x1.trans x2)⟩⟩
/-! ### displays -/
def tupF (fl : Env' → Sto → Option (List D × Sto)) : RunF := fun ρ S => match fl ρ S with
    | none => none
    | some (ds, S1) => if ds.length ≤ lim then some (.tuple ds, S1) else none
def lstF (fl : Env' → Sto → Option (List D × Sto)) : RunF := fun ρ S => match fl ρ S with
    | none => none
    | some (ds, S1) => if ds.length ≤ lim then some (.list ds, S1) else none
theorem nTup {es : List Expr} {k : Nat} {fl : Env' → Sto → Option (List D × Sto)} (hl : PA X es (tA X.K fl)) : PE X (.Tuple es k pos) (tN X.K (tupF fl)) :=
  PE.imp (pe_tup hl) fun σ H Q ⟨ρ, S, F, ι, d, S', sr, e1, q⟩ => by
    unfold tupF at e1
    split at e1
    · cases e1
    · rename_i ds S1 h1
      split at e1
      · rename_i hz; cases e1
        exact ⟨ρ, S, F, ι, ds, _, sr, h1, fun vs F1 ι1 H1 r1 s1 x1 => ⟨by rw [r1.length]; exact hz, fun p hp => by
          obtain ⟨n1, n2, n3⟩ := newT s1 r1 hp
          exact q _ _ _ _ (n1.back x1) n2 (x1.trans n3)⟩⟩
      · cases e1
theorem nLst {es : List Expr} {fl : Env' → Sto → Option (List D × Sto)} (hl : PA X es (tA X.K fl)) : PE X (.List es pos) (tN X.K (lstF fl)) :=
  PE.imp (pe_lst hl) fun σ H Q ⟨ρ, S, F, ι, d, S', sr, e1, q⟩ => by
    unfold lstF at e1
    split at e1
    · cases e1
    · rename_i ds S1 h1
      split at e1
      · rename_i hz; cases e1
        exact ⟨ρ, S, F, ι, ds, _, sr, h1, fun vs F1 ι1 H1 r1 s1 x1 => ⟨by rw [r1.length]; exact hz, fun p hp => by
          obtain ⟨n1, n2, n3⟩ := newL s1 r1 hp
          exact q _ _ _ _ (n1.back x1) n2 (x1.trans n3)⟩⟩
      · cases e1
end
/-- an object new in the store -/
theorem newSto {K S F ι H} {p : Addr} {o : HO} {d : D} (s : Ss K S F ι H) (hp : H p = none) (ho : OwnRp K F ι (upd H p o) p d) :
    Ss K (S ++ [d]) F (ι ++ [p]) (upd H p o) ∧ Ext0 F ι H F (ι ++ [p]) (upd H p o) := by
  have x := ext_newO (F := F) (ι := ι) (o := o) hp
  have s2 := s.newO (o := o) hp
  have k : Kept F ι (upd H p o) F (ι ++ [p]) (upd H p o) := ⟨fun _ h => h, fun _ _ _ h => h, [p], rfl⟩
  have hpi : p ∉ ι := fun z => s.there z hp
  refine ⟨⟨s2.dom, fun a h z => ?_, ?_, by simp [s.len], fun n a d' h1 h2 => ?_⟩, ⟨x.f, x.fn, x.h, x.th, ⟨[p], rfl⟩, fun a h => ?_⟩⟩
  · rcases List.mem_append.mp h with h | h
    · exact s2.iF a h z
    · have e : a = p := by simpa using h
      subst e; exact s.dom a z hp
  · exact List.nodup_append.mpr ⟨s.nd, by simp, fun a ha b hb e => by
      have e2 : b = p := by simpa using hb
      subst e e2; exact hpi ha⟩
  · by_cases hn : n < ι.length
    · rw [List.getElem?_append_left hn] at h1
      rw [List.getElem?_append_left (by rw [← s.len]; exact hn)] at h2
      exact (s2.st n a d' h1 h2).kept k (fun _ z => z)
    · have h1' := h1
      rw [List.getElem?_append_right (by omega)] at h1
      have hn2 : n - ι.length = 0 := by
        have := (List.getElem?_eq_some_iff.mp h1).1; simp at this; omega
      rw [hn2] at h1; cases h1
      rw [List.getElem?_append_right (by rw [← s.len]; omega)] at h2
      have hn3 : n - S.length = 0 := by rw [← s.len]; exact hn2
      rw [hn3] at h2; cases h2
      exact ho.kept k (fun _ z => z)
  · rcases List.mem_append.mp h with h | h
    · exact .inl h
    · have e : a = p := by simpa using h
      subst e; exact .inr hp
theorem newSto_at {ι : List Addr} {p : Addr} {S : Sto} (h : ι.length = S.length) : (ι ++ [p])[S.length]? = some p := by
  rw [List.getElem?_append_right (by omega), h, Nat.sub_self]; rfl
section
variable {X : Cx} {a b c e : Expr} {fa fb fc : RunF} {pos : Pos} {rest : List Expr} {K : PySem.W.Frag}
def locF (fl : Env' → Sto → Option (List D × Sto)) : RunF := fun ρ S => match fl ρ S with
    | none => none
    | some (ds, S1) => if ds.length ≤ lim then some (locD S1.length, S1 ++ [.list ds]) else none
theorem vLoc {es : List Expr} {fl : Env' → Sto → Option (List D × Sto)} (hl : PA X es (tA X.K fl)) : PE X (.List es pos) (tV X.K (locF fl)) :=
  PE.imp (pe_lst hl) fun σ H Q ⟨ρ, S, F, ι, d, S', sr, e1, q⟩ => by
    unfold locF at e1
    split at e1
    · cases e1
    · rename_i ds S1 h1
      split at e1
      · rename_i hz; cases e1
        exact ⟨ρ, S, F, ι, ds, _, sr, h1, fun vs F1 ι1 H1 r1 s1 x1 => ⟨by rw [r1.length]; exact hz, fun p hp => by
          obtain ⟨n2, n3⟩ := newSto (o := .lst vs) (d := .list ds) s1 hp (.lst upd_same (r1.kept (Ext0.kept s1 (ext_newO hp))))
          exact q _ _ _ _ (.loc (newSto_at s1.len)) n2 (x1.trans n3)⟩⟩
      · cases e1
theorem vLocd : PE X (.Dict [] [] pos) (tV X.K fun _ S => some (locD S.length, S ++ [.dict []])) :=
  PE.imp pe_dnewK fun σ H Q ⟨ρ, S, F, ι, d, S', sr, e1, q⟩ p hp => by
    cases e1
    obtain ⟨n2, n3⟩ := newSto (o := .dK []) (d := .dict []) sr.ss hp (.dic upd_same .nil)
    exact q _ _ _ _ (.loc (newSto_at sr.ss.len)) n2 n3
theorem nDcT : PE X (.Dict [] [] pos) (tN X.K fun _ S => some (.dict [dtM], S)) :=
  PE.imp pe_dnewT fun σ H Q ⟨ρ, S, F, ι, d, S', sr, e1, q⟩ p hp => by
    cases e1
    exact q _ _ _ _ (.inl ⟨rfl, p, rfl, .dit upd_same .nil, fun z => sr.ss.dom p z hp, fun z => sr.ss.there z hp, hp⟩) (sr.ss.newO hp) (ext_newO hp)
theorem nDc0 : PE X (.Dict [] [] pos) (tN X.K fun _ S => some (.dict [], S)) :=
  PE.imp pe_dnewK fun σ H Q ⟨ρ, S, F, ι, d, S', sr, e1, q⟩ p hp => by
    cases e1
    obtain ⟨n1, n2, n3⟩ := newDk sr.ss .nil hp
    exact q _ _ _ _ n1 n2 n3
/-! ### slices -/
def sliceF (fa fl fh : RunF) : RunF := fun ρ S => match fa ρ S with
    | none => none
    | some (x, S1) => match fl ρ S1 with
      | none => none
      | some (y, S2) => match fh ρ S2 with
        | none => none
        | some (z, S3) => match bndD y, bndD z, deref S3 x with
          | some lo, some hi, some x' => (sliceD x' lo hi).map (·, S3)
          | _, _, _ => none
/-- a part of a slice -/
def tP (K : PySem.W.Frag) (f : RunF) : TO := fun σ H Q => ∃ ρ S F ι d S' o, SR K ρ S F ι σ H ∧ f ρ S = some (d, S') ∧ bndD d = some o ∧ ∀ F' ι' H', Ss K S' F' ι' H' → Ext0 F ι H F' ι' H' → Q o H'
theorem PO.imp {o : Option Expr} {t t' : TO} (h : PO X o t) (i : ∀ σ H Q, t' σ H Q → t σ H Q) : PO X o t' := ⟨fun pins s σ H Q I q => h.run pins s σ H Q I (i σ H Q q)⟩
theorem pNone : PO X none (tP X.K fun _ S => some (.none, S)) := PO.imp po_none fun σ H Q ⟨ρ, S, F, ι, d, S', o, sr, e1, e2, q⟩ => by
  cases e1; cases e2; exact q F ι H sr.ss .refl
def asIntF (fa : RunF) : RunF := fun ρ S => match fa ρ S with
    | some (.int i, S1) => some (.int i, S1)
    | _ => none
theorem asIntF_inv {ρ S d S'} (h : asIntF fa ρ S = some (d, S')) : ∃ i, d = .int i ∧ fa ρ S = some (.int i, S') := by
  unfold asIntF at h
  split at h
  · rename_i i S1 h1; cases h; exact ⟨i, rfl, h1⟩
  · cases h
theorem pSome (ha : PE X a (tV X.K fa)) : PO X (some a) (tP X.K (asIntF fa)) := PO.imp (po_some ha) fun σ H Q ⟨ρ, S, F, ι, d, S', o, sr, e1, e2, q⟩ => by
  obtain ⟨i, rfl, h1⟩ := asIntF_inv e1
  cases e2
  exact ⟨ρ, S, F, ι, .int i, S', sr, h1, fun v F1 ι1 H1 r1 s1 x1 => by cases r1; exact ⟨i, rfl, q F1 ι1 H1 s1 x1⟩⟩
theorem nSlice {lo hi : Option Expr} {p2 : Pos} {fl fh : RunF} (ha : PE X a (tB X.K fa)) (hl : PO X lo (tP X.K fl)) (hh : PO X hi (tP X.K fh)) : PE X (.Subscript a (.Slice lo hi none p2) pos) (tN X.K (sliceF fa fl fh)) :=
  PE.imp (pe_slice (SlR.or sl_list sl_tupA) ha hl hh) fun σ H Q ⟨ρ, S, F, ι, d, S', sr, e1, q⟩ => by
    unfold sliceF at e1
    split at e1
    · cases e1
    · rename_i x S1 h1
      split at e1
      · cases e1
      · rename_i y S2 h2
        split at e1
        · cases e1
        · rename_i z S3 h3
          split at e1
          · rename_i lo' hi' x' h4 h5 h6
            simp only [Option.map_eq_some_iff, Prod.mk.injEq] at e1
            obtain ⟨d', h7, rfl, rfl⟩ := e1
            refine ⟨ρ, S, F, ι, x, S1, sr, h1, fun v F1 ι1 H1 r1 s1 x1 => ⟨ρ, S1, F1, ι1, y, S2, lo', sr.ext x1 s1, h2, h4, fun F2 ι2 H2 s2 x2 => ⟨ρ, S2, F2, ι2, z, S3, hi', sr.ext (x1.trans x2) s2, h3, h5, fun F3 ι3 H3 s3 x3 => ?_⟩⟩⟩
            have rx := ((r1.ext s1 x2).ext s2 x3).deref s3 h6
            have xx := (x1.trans x2).trans x3
            unfold sliceD at h7
            split at h7
            · cases h7
              obtain ⟨b, xs, rfl, hs, r⟩ := rx.list
              rename_i l
              refine .inl ⟨b, xs, rfl, hs, fun p hp => ?_⟩
              have r2 : RpA X.K F3 ι3 H3 (cutV xs lo' hi') (cutL l lo' hi') := by
                unfold cutV cutL; rw [r.length]; exact (r.drop _).take _
              obtain ⟨n1, n2, n3⟩ := newL s3 r2 hp
              exact q _ _ _ _ (n1.back xx) n2 (xx.trans n3)
            · cases h7
              obtain ⟨b, xs, rfl, hs, r⟩ := rx.tuple
              rename_i l
              have r2 : RpA X.K F3 ι3 H3 (cutV xs lo' hi') (cutL l lo' hi') := by
                unfold cutV cutL; rw [r.length]; exact (r.drop _).take _
              refine .inr ⟨b, xs, rfl, hs.sq, fun hw => ?_, fun _ p hp => ?_⟩
              · have e : cutL l lo' hi' = l := by
                  unfold cutL
                  rw [← r.length, hw.1, hw.2]
                  simp [r.length]
                rw [e] at q
                exact q _ _ _ _ (.flat (.tup hs r) rfl) s3 xx
              · obtain ⟨n1, n2, n3⟩ := newT s3 r2 hp
                exact q _ _ _ _ (n1.back xx) n2 (xx.trans n3)
            · cases h7
          · cases e1
end
end CH
set_option Elab.async false
set_option linter.all false
set_option maxRecDepth 100000
set_option maxHeartbeats 1000000
/-! enumerate(tuple) -/
namespace PySem
open AutoSeq1 (wpAny_loadPart')
theorem ch_enumerate_newT (l : Addr) (items : Array Value) (n : Nat) (dct : Option Addr) (sl : Array (Option Value)) :
    Meets (Builtin.«enumerate.__new__» ⟨[.type "enumerate", .ref l], []⟩) (fun _ R s => s.heap.get? l = some { cls := .type "tuple", dict := dct, data := .seq items n, slots := sl } ∧
      R (.ok (.ret (.ref (s.heap.push { cls := .type "tuple_iterator", data := .fields #[.ref l, .int 0 0] }).objs.size)))
        { s with heap := (s.heap.push { cls := .type "tuple_iterator", data := .fields #[.ref l, .int 0 0] }).push { cls := .type "enumerate", data := .fields #[.none, .bool false, .ref s.heap.objs.size, rawInt 0, .none, .none] } }) :=
  .of_wp fun prog w A R s h => by
    obtain ⟨hp, g, d, tk, os⟩ := s; obtain ⟨hl, h⟩ := h
    have hsub := sub_enumerate
    have hL : Heap.IsTuple (Shared.heap ⟨hp, g, d, tk, os⟩) l items := ⟨_, hl, rfl, n, rfl⟩
    wp_walk using wpAny_loadPart' hl
    refine wpAny_stack_any fun st => wpAny_pure ?_
    split
    · rename_i c _ _ _ _ _
      cases (c == Value.type "enumerate")
      · wp_walk using wpAny_loadPart' hl, wpAny_pyIter_tuple hL
        exact ⟨_, rfl, h⟩
      · wp_walk using wpAny_loadPart' hl, wpAny_pyIter_tuple hL
        exact ⟨_, rfl, h⟩
    · wp_walk using wpAny_loadPart' hl, wpAny_pyIter_tuple hL
      exact ⟨_, rfl, h⟩
theorem ch_call_enumerate_tuple {prog : Program} {w : World} {A : Around} {E : Value → Shared → Prop} {s : Shared} {l : Addr} {items : Array Value} {Q : Value → Shared → Prop} (hL : s.heap.IsTuple l items)
    (h : ∀ h', IsEnum h' (s.heap.objs.size + 1) s.heap.objs.size 0 .none → h'.IsTupleIter s.heap.objs.size l 0 → h'.objs.size = s.heap.objs.size + 2 →
      (∀ b o, s.heap.get? b = some o → h'.get? b = some o) → Q (.ref (s.heap.objs.size + 1)) { s with heap := h' }) :
    wpAny (model prog w) A (call (.type "enumerate") [.ref l]) Q E s := by
  obtain ⟨⟨c, dct, dt, sl⟩, hl, hc, n, hd⟩ := hL
  replace hc : c = .type "tuple" := hc
  replace hd : dt = .seq items n := hd
  subst hc hd
  refine callType_new F.called_enumerate (by decide) (F.typeCall_enumerate_1 _) (F.newCall_enumerate_1 _) (fun obj => F.args_object_init_2 obj _) F.entry_enumerate_new
    (ch_enumerate_newT l items n dct sl) ⟨hl, ?_⟩
  have hz : (s.heap.push { cls := .type "tuple_iterator", data := .fields #[.ref l, .int 0 0] }).objs.size = s.heap.objs.size + 1 := Heap.size_push ..
  show _ ∧ _
  rw [hz]
  have he : IsEnum ((s.heap.push { cls := .type "tuple_iterator", data := .fields #[.ref l, .int 0 0] }).push
      { cls := .type "enumerate", data := .fields #[.none, .bool false, .ref s.heap.objs.size, rawInt 0, .none, .none] }) (s.heap.objs.size + 1) s.heap.objs.size 0 .none := by
    have := Heap.get?_push_size (s.heap.push { cls := .type "tuple_iterator", data := .fields #[.ref l, .int 0 0] })
      (o := { cls := .type "enumerate", data := .fields #[.none, .bool false, .ref s.heap.objs.size, rawInt 0, .none, .none] }) rfl
    rw [hz] at this; exact this
  refine ⟨⟨_, he, rfl⟩, h _ he ⟨_, Heap.get?_push_of_some _ (Heap.get?_push_size _ rfl), rfl, rfl⟩ (by rw [Heap.size_push, hz]) fun b o x => Heap.get?_push_of_some _ (Heap.get?_push_of_some _ x)⟩
end PySem
namespace CH
open PySem PySem.Spec PyProof.Rows L2
def IteT (K : PySem.W.Frag) (a : Addr) : It :=
  ⟨fun i H => ∃ (xs : List V) (x : V), SqT K H a xs ∧ xs[i]? = some x, fun i H v H' => ∃ T x, v = .ref T ∧ H T = none ∧ H' = upd H T (.tup [.int (i : Nat), x]) ∧ ∀ xs, SqT K H a xs → xs[i]? = some x, fun i H => ∃ xs : List V, SqT K H a xs ∧ xs.length ≤ i⟩
theorem turn_enumT {P : Program} {w : World} {K : PySem.W.Frag} {elts : List Expr} {kk : Nat} {tpos : Pos} (a e it : Addr) :
    Turn P w K (.Tuple elts kk tpos) (IteT K a) [e, it] e (fun i h => (∃ old, IsEnum h e it ((i : Nat) : Int) old) ∧ h.IsTupleIter it a i ∧ e ≠ it) where
  mem := by simp
  obj := fun i h st b hb => by
    obtain ⟨⟨old, he⟩, ⟨o, ho, hc, hd⟩, _⟩ := st
    have e' : b = e ∨ b = it := by simpa using hb
    rcases e' with z | z
    · rw [z]; exact ⟨_, he, fun v q => nomatch q⟩
    · rw [z]; exact ⟨o, ho, fun v q => by rw [hd] at q; cases q⟩
  keep := fun i h h' st k => let ⟨⟨old, he⟩, hi, hne⟩ := st; ⟨⟨old, k e (by simp) _ he⟩, hi.at fun o q => k it (by simp) o q, hne⟩
  item := by
    intro X hP hw hK hc i pins s σ H E I hf st hg
    subst hP hw hK
    obtain ⟨⟨old, he⟩, hit, hne⟩ := st
    obtain ⟨xs, x, hq, hx⟩ := hg
    obtain ⟨its, rv, p, hz⟩ := I.tuple hq
    obtain ⟨u, hu, ru⟩ := rv.get hx
    have hel : e < s.heap.objs.size := Heap.lt_size he
    have hil : it < s.heap.objs.size := by obtain ⟨_, q, _⟩ := hit; exact Heap.lt_size q
    have hta : a ≠ it := by
      intro z
      obtain ⟨o1, e1, c1, _⟩ := hit
      obtain ⟨o2, e2, c2, _⟩ := p
      rw [z, e1] at e2; cases e2
      rw [c1] at c2; exact absurd c2 (by decide)
    have hea : e ≠ a := by
      intro z
      obtain ⟨o2, e2, c2, _⟩ := p
      rw [← z, he] at e2; cases e2
      exact absurd (show Value.type "enumerate" = Value.type "tuple" from c2) (by decide)
    have hlt : i < its.toArray.size := by
      have := (List.getElem?_eq_some_iff.mp hu).1
      simpa using this
    refine wpAny_pyNext_enum_itemC (Draws.tuple (prog := X.prog) (w := X.w) (A := X.A.in1) (I.ok.hd hc) it a hta its.toArray) he ⟨hit, p⟩ hlt hne (by simp [hne, hea]) fun x' h' tk hx' ho hit' hT hsz hk => ?_
    have ex : x' = u := by
      have h1 : its.toArray[i]? = some x' := hx'
      rw [List.getElem?_toArray, hu] at h1; cases h1; rfl
    subst ex
    refine ⟨_, rfl, wpAny_letOwnedTupleGo_enum (s := { s with heap := h', toks := tk + 1 }) ho fun h'' he' sb => ?_⟩
    have hT2 : h''.get? s.heap.objs.size = some { cls := .type "tuple", data := .seq #[.int i tk, x'] } := (sb.2 _ (Nat.ne_of_gt hel)).trans hT
    have new : ObjOk X.prog X.w (upd H s.heap.objs.size (.tup [.int (i : Nat), x])) h'' s.heap.objs.size (.tup [.int (i : Nat), x]) :=
      ⟨by show 2 ≤ sizeLine; decide, [.int i tk, x'], .cons ⟨_, rfl⟩ (.cons ru .nil), ⟨_, hT2, rfl, _, rfl⟩⟩
    have I1 : Inv X pins σ (upd H s.heap.objs.size (.tup [.int (i : Nat), x])) { s with heap := h'', toks := tk + 1 } :=
      I.turnedNew (ch := [e, it]) (fun b ob hb q => (sb.2 b (fun z => hb (by simp [z]))).trans (hk b ob (fun z => hb (by simp [z])) (fun z => hb (by simp [z])) q)) hf (Nat.le_refl _) new
    refine ⟨.ref s.heap.objs.size, _, I1, rfl, ⟨_, x, rfl, I.hok.fresh (Nat.le_refl _), rfl, fun ys hy => by rw [I.tuple_inj hy hq]; exact hx⟩, ⟨⟨x', ?_⟩, hit'.1.at fun o q => (sb.2 it (Ne.symm hne)).trans q, hne⟩, fun b hb => ?_⟩
    · have e1 : ((i + 1 : Nat) : Int) = (i : Int) + 1 := by omega
      rw [e1]; exact he'
    · have hb' : b < s.heap.objs.size := by
        have e' : b = e ∨ b = it := by simpa using hb
        rcases e' with z | z
        · rw [z]; exact hel
        · rw [z]; exact hil
      rw [upd_ne (Nat.ne_of_lt hb')]
      exact (hf b hb).1
  done := by
    intro X hP hw hK hc i pins s σ H E I hf st hg
    subst hP hw hK
    obtain ⟨⟨old, he⟩, hit, hne⟩ := st
    obtain ⟨xs, hq, hx⟩ := hg
    obtain ⟨its, rv, p, hz⟩ := I.tuple hq
    obtain ⟨f0, f1, f2, f3, f4, f5⟩ := hf it (by simp)
    have hl := rv.length
    have hT : s.TypeIs (.ref e) "enumerate" := ⟨_, he, rfl⟩
    unfold pyNext
    refine wpAny_bind (wpAny_attempt (wpAny_callSpecial?_slot (name := Str.ofString "__next__") hT PySem.F.slot_enumerate_next
      (wpAny_call_entry PySem.F.slot_enumerate_next hT PySem.F.entry_enumerate_next ?_ (PySem.F.args_enumerate_next_1 _))))
    show wpAny _ _ (field (.ref e) 2 >>= _) _ _ _
    refine wpAny_bind (wpAny_field he rfl (x := .ref it) rfl ?_)
    refine wpAny_bind (wpAny_nextOf_tuple_end (I.ok.hd hc) hit p (by simp; omega) fun h' x he' hx' => ?_)
    obtain ⟨o, ho, hc⟩ := hx'
    refine wpAny_bind (wpAny_isInstance (T := "StopIteration") (b := true) ⟨o, ho, hc⟩ isSubtype_stop ?_)
    exact wpAny_pure ⟨rfl, I.turned (t' := s.toks) (fun b o hb q => he' b o hb q) f0 f1 f3 f4 f5⟩
  self := fun A i s Q E st h => let ⟨⟨_, he⟩, _⟩ := st; wpAny_pyIter_enum he h
def iEnumA (K : PySem.W.Frag) (ta : TA) : TI := fun σ H R => ta σ H fun vs H1 => ∃ a xs, vs = [.ref a] ∧ ((SqL K H1 a xs ∧ R (Ite K a) H1) ∨ (SqT K H1 a xs ∧ R (IteT K a) H1))
theorem pi_enumA {X : Cx} {e : Expr} {ta : TA} {p pos tpos : Pos} {elts : List Expr} {kk : Nat} (hg : Gl X "enumerate") (hm : X.mg "enumerate" = none) (ha : PA X [e] ta) (hs : starEach [e] X.env = [(false, eval e X.env)]) :
    PI X (.Tuple elts kk tpos) (.Call (.Name "enumerate" p) [e] [] pos) (iEnumA X.K ta) := by
  refine ⟨fun pins s σ H R I h => ?_⟩
  refine Call_ (ld_blt I hg hm boot_enumerate (PyProof.Rows.callWith_type1 (thn (ha.run pos pins s σ H _ I h) fun us s1 ⟨vs, H1, I1, r1, q1⟩ => ?_) hs rfl))
  obtain ⟨a, xs, ex, q⟩ := q1
  subst ex
  have fr : ∀ b, b ∈ [s1.heap.objs.size + 1, s1.heap.objs.size] → FpOk X pins H1 b := fun b hb => by
    have e' : b = s1.heap.objs.size + 1 ∨ b = s1.heap.objs.size := by simpa using hb
    have hle : s1.heap.objs.size ≤ b := by
      rcases e' with z | z
      · rw [z]; exact Nat.le_add_right _ _
      · rw [z]; exact Nat.le_refl _
    exact I1.fpOk hle (I1.hok.fresh hle)
  cases r1 with
  | cons r rr =>
    cases rr
    cases r
    rcases q with ⟨hq, q⟩ | ⟨hq, q⟩
    · obtain ⟨its, rv, p', hz⟩ := I1.list hq
      refine call_enumerate_list p'.isList fun h' he hit hsz hk => wpAny_pyIter_enum he ?_
      have I2 : Inv X pins σ H1 { s1 with heap := h' } := I1.kept (t' := s1.toks) hk
      exact ⟨s1.heap.objs.size + 1, [s1.heap.objs.size + 1, s1.heap.objs.size], _, _, H1, rfl, I2, turn_enum a (s1.heap.objs.size + 1) s1.heap.objs.size, ⟨⟨.none, he⟩, hit, Nat.succ_ne_self _⟩, fr, q⟩
    · obtain ⟨its, rv, p', hz⟩ := I1.tuple hq
      refine ch_call_enumerate_tuple p' fun h' he hit hsz hk => wpAny_pyIter_enum he ?_
      have I2 : Inv X pins σ H1 { s1 with heap := h' } := I1.kept (t' := s1.toks) hk
      exact ⟨s1.heap.objs.size + 1, [s1.heap.objs.size + 1, s1.heap.objs.size], _, _, H1, rfl, I2, turn_enumT a (s1.heap.objs.size + 1) s1.heap.objs.size, ⟨⟨.none, he⟩, hit, Nat.succ_ne_self _⟩, fr, q⟩
theorem walk_enumT {K : PySem.W.Frag} {a : Addr} {xs : List V} : Walk (IteT K a) xs.length (fun H => SqT K H a xs) (YPair (fun i => some (.int (i : Nat))) (fun i => xs[i]?)) := by
  refine ⟨fun i _ hi q => ⟨xs, xs[i], q, by simp [hi]⟩, fun _ q => ⟨xs, q, Nat.le_refl _⟩, fun i H v H' _ q y => ?_⟩
  obtain ⟨T, x, h1, h2, h3, h4⟩ := y
  exact ⟨T, .int (i : Nat), x, h1, h2, h3, rfl, h4 xs q⟩
theorem walk_zipT {K : PySem.W.Frag} {a b : Addr} {xs ys : List V} {n : Nat} (hn : n = min xs.length ys.length) : Walk (RZ.ItzT K a b) n (fun H => SqT K H a xs ∧ SqT K H b ys) (YPair (fun i => xs[i]?) (fun i => ys[i]?)) := by
  subst hn
  refine ⟨fun i _ hi q => ?_, fun _ q => ⟨xs, ys, q.1, q.2, by omega⟩, fun i H v H' _ q y => ?_⟩
  · have h1 : i < xs.length := by omega
    have h2 : i < ys.length := by omega
    exact ⟨xs, ys, xs[i], ys[i], q.1, q.2, by simp [h1], by simp [h2]⟩
  · obtain ⟨T, x, z, h1, h2, h3, h4, h5⟩ := y
    exact ⟨T, x, z, h1, h2, h3, h4 xs q.1, h5 ys q.2⟩
end CH
set_option Elab.async false
set_option linter.all false
set_option maxRecDepth 100000
set_option maxHeartbeats 1000000
/-! what is walked, and targets -/
namespace CH
open PySem PySem.Spec PyProof.Rows L2
/-- a walk over xs, from the heap H on -/
structure ItOk (K : PySem.W.Frag) (J : It) (xs : List D) (F : Addr → Prop) (ι : List Addr) (H : Hp) : Prop where
  goes : ∀ i F' ι' H', Kept F ι H F' ι' H' → i < xs.length → J.go i H'
  stops : ∀ F' ι' H', Kept F ι H F' ι' H' → J.stop xs.length H'
  yields : ∀ i F' ι' H' x H'' S', Kept F ι H F' ι' H' → Ss K S' F' ι' H' → i < xs.length → J.yld i H' x H'' → ∃ d F'', xs[i]? = some d ∧ Rp K F'' ι' H'' x d ∧ Ss K S' F'' ι' H'' ∧ Ext0 F' ι' H' F'' ι' H''
section
variable {K : PySem.W.Frag} {F : Addr → Prop} {ι : List Addr} {H : Hp}
theorem it_list {a xs ds} (h : FzL K F H a xs) (r : RpA K F ι H xs ds) : ItOk K (Itl K a) ds F ι H :=
  ⟨fun i F' ι' H' k hi => walk_list.goes i H' (by rw [r.length]; exact hi) (h.kept k).sq, fun F' ι' H' k => by rw [← r.length]; exact walk_list.stops H' (h.kept k).sq,
    fun i F' ι' H' x H'' S' k s hi y => by
      obtain ⟨rfl, e⟩ := walk_list.yields i H' x H'' (by rw [r.length]; exact hi) (h.kept k).sq y
      obtain ⟨d, hd⟩ : ∃ d, ds[i]? = some d := ⟨ds[i], List.getElem?_eq_getElem hi⟩
      obtain ⟨v, hv, rv⟩ := r.get hd
      rw [e] at hv; cases hv
      exact ⟨d, F', hd, rv.kept k, s, .refl⟩⟩
theorem it_tup {a xs ds} (h : FzT F H a xs) (r : RpA K F ι H xs ds) : ItOk K (Itt K a) ds F ι H :=
  ⟨fun i F' ι' H' k hi => walk_tup.goes i H' (by rw [r.length]; exact hi) (h.kept k).sq, fun F' ι' H' k => by rw [← r.length]; exact walk_tup.stops H' (h.kept k).sq,
    fun i F' ι' H' x H'' S' k s hi y => by
      obtain ⟨rfl, e⟩ := walk_tup.yields i H' x H'' (by rw [r.length]; exact hi) (h.kept k).sq y
      obtain ⟨d, hd⟩ : ∃ d, ds[i]? = some d := ⟨ds[i], List.getElem?_eq_getElem hi⟩
      obtain ⟨v, hv, rv⟩ := r.get hd
      rw [e] at hv; cases hv
      exact ⟨d, F', hd, rv.kept k, s, .refl⟩⟩
theorem RpK.length {kvs : List (Key × V)} {ps : List (D × D)} (r : RpK K F ι H kvs ps) : kvs.length = ps.length := by
  induction ps generalizing kvs with
  | nil => cases r; rfl
  | cons p ps ih => cases r with | cons h t => simp [ih t]
theorem RpK.getk {kvs : List (Key × V)} {ps : List (D × D)} (r : RpK K F ι H kvs ps) {i : Nat} {k : Key} {v : V} (e : kvs[i]? = some (k, v)) : (ps.map (·.1))[i]? = some (keyD k) := by
  induction ps generalizing kvs i with
  | nil => cases r; cases e
  | cons p ps ih =>
    cases r with
    | cons h t =>
      cases i with
      | zero => simp at e; obtain ⟨rfl, rfl⟩ := e; rfl
      | succ i => simp at e; simpa using ih t e
theorem RpK.keysOf {kvs : List (Key × V)} {ps : List (D × D)} (r : RpK K F ι H kvs ps) : CH.keysOf ps = ps.map (·.1) := by
  cases r with
  | nil => rfl
  | cons h t =>
    rename_i k v vs d ds
    rcases k with k | k <;> rfl
theorem rp_key {k : Key} : Rp K F ι H (kV k) (keyD k) := by rcases k with k | k <;> constructor
theorem it_keys {a o kvs ps} (f : F a) (h : H a = some (.frz o (.dK kvs))) (r : RpK K F ι H kvs ps) : ItOk K (Itk a o kvs) (CH.keysOf ps) F ι H := by
  have hl : (CH.keysOf ps).length = kvs.length := by rw [r.keysOf, List.length_map, r.length]
  refine ⟨fun i F' ι' H' k hi => walk_keys.goes i H' (by rw [← hl]; exact hi) (k.2.1 _ _ f h), fun F' ι' H' k => by rw [hl]; exact walk_keys.stops H' (k.2.1 _ _ f h), fun i F' ι' H' x H'' S' k s hi y => ?_⟩
  obtain ⟨rfl, ky, v, e, rfl⟩ := walk_keys.yields i H' x H'' (by rw [← hl]; exact hi) (k.2.1 _ _ f h) y
  exact ⟨keyD ky, F', by rw [r.keysOf]; exact r.getk e, rp_key, s, .refl⟩
theorem it_str {z : Str} : ItOk K (Its z) (z.cps.toList.map fun c => .str ⟨#[c]⟩) F ι H := by
  have hl : (z.cps.toList.map fun c => PyData.str ⟨#[c]⟩).length = z.cps.size := by simp
  refine ⟨fun i F' ι' H' k hi => walk_str.goes i H' (by rw [← hl]; exact hi) trivial, fun F' ι' H' k => by rw [hl]; exact walk_str.stops H' trivial, fun i F' ι' H' x H'' S' k s hi y => ?_⟩
  obtain ⟨rfl, c, e, rfl⟩ := walk_str.yields i H' x H'' (by rw [← hl]; exact hi) trivial y
  exact ⟨.str ⟨#[c]⟩, F', by simp [e], .str _, s, .refl⟩
theorem it_range {lo : Int} {n : Nat} : ItOk K (Itr lo n) (rangeD lo n) F ι H := by
  have hl : (rangeD lo n).length = n := by simp [rangeD]
  refine ⟨fun i F' ι' H' k hi => walk_range.goes i H' (by rw [← hl]; exact hi) trivial, fun F' ι' H' k => by rw [hl]; exact walk_range.stops H' trivial, fun i F' ι' H' x H'' S' k s hi y => ?_⟩
  obtain ⟨rfl, rfl⟩ := walk_range.yields i H' x H'' (by rw [← hl]; exact hi) trivial y
  exact ⟨.int (lo + i), F', by rw [hl] at hi; simp [rangeD, hi], .int _, s, .refl⟩
theorem it_rangeC {lo c : Int} {n : Nat} : ItOk K (Itc lo c n) (rangeC lo c n) F ι H := by
  have hl : (rangeC lo c n).length = n := by simp [rangeC]
  refine ⟨fun i F' ι' H' k hi => walk_rangeC.goes i H' (by rw [← hl]; exact hi) trivial, fun F' ι' H' k => by rw [hl]; exact walk_rangeC.stops H' trivial, fun i F' ι' H' x H'' S' k s hi y => ?_⟩
  obtain ⟨rfl, rfl⟩ := walk_rangeC.yields i H' x H'' (by rw [← hl]; exact hi) trivial y
  exact ⟨.int (lo + i * c), F', by rw [hl] at hi; simp [rangeC, hi], .int _, s, .refl⟩
theorem enumD_length : ∀ (n : Nat) (l : List D), (enumD n l).length = l.length
  | _, [] => rfl
  | n, _ :: l => by simp [enumD, enumD_length (n + 1) l]
theorem enumD_get : ∀ (n : Nat) (l : List D) (i : Nat) (d : D), l[i]? = some d → (enumD n l)[i]? = some (.tuple [.int (n + i : Nat), d])
  | _, [], _, _, h => by cases h
  | n, x :: l, 0, d, h => by simp at h; subst h; simp [enumD]
  | n, x :: l, i + 1, d, h => by
    simp at h
    have := enumD_get (n + 1) l i d h
    simp only [enumD, List.getElem?_cons_succ, this]
    rw [show n + 1 + i = n + (i + 1) by omega]
theorem zipD_length : ∀ (a b : List D), (zipD a b).length = min a.length b.length
  | [], _ => by simp [zipD]
  | _ :: _, [] => by simp [zipD]
  | _ :: a, _ :: b => by simp [zipD, zipD_length a b]
theorem zipD_get : ∀ (a b : List D) (i : Nat) (x y : D), a[i]? = some x → b[i]? = some y → (zipD a b)[i]? = some (.tuple [x, y])
  | [], _, _, _, _, h, _ => by cases h
  | _ :: _, [], _, _, _, _, h => by cases h
  | p :: a, q :: b, 0, x, y, h, h2 => by simp at h h2; subst h h2; simp [zipD]
  | p :: a, q :: b, i + 1, x, y, h, h2 => by simp at h h2; simpa [zipD] using zipD_get a b i x y h h2
/-- a pair laid for a turn -/
theorem pair_new {S' F' ι'} {H' : Hp} {T : Addr} {x y : V} {d e : D} (s : Ss K S' F' ι' H') (hT : H' T = none) (r1 : Rp K F' ι' H' x d) (r2 : Rp K F' ι' H' y e) :
    ∃ F'', Rp K F'' ι' (upd H' T (.tup [x, y])) (.ref T) (.tuple [d, e]) ∧ Ss K S' F'' ι' (upd H' T (.tup [x, y])) ∧ Ext0 F' ι' H' F'' ι' (upd H' T (.tup [x, y])) := by
  obtain ⟨n1, n2, n3⟩ := newT s (.cons r1 (.cons r2 .nil)) hT
  rcases n1 with ⟨z, _⟩ | ⟨_, n1⟩
  · cases z
  · exact ⟨_, n1, n2, n3⟩
theorem it_enum {a xs ds} (h : FzL K F H a xs) (r : RpA K F ι H xs ds) : ItOk K (Ite K a) (enumD 0 ds) F ι H := by
  have hl : (enumD 0 ds).length = xs.length := by rw [enumD_length, r.length]
  refine ⟨fun i F' ι' H' k hi => walk_enum.goes i H' (by rw [← hl]; exact hi) (h.kept k).sq, fun F' ι' H' k => by rw [hl]; exact walk_enum.stops H' (h.kept k).sq, fun i F' ι' H' x H'' S' k s hi y => ?_⟩
  obtain ⟨T, p, q, rfl, hT, rfl, e1, e2⟩ := walk_enum.yields i H' x H'' (by rw [← hl]; exact hi) (h.kept k).sq y
  cases e1
  replace e2 : xs[i]? = some q := e2
  obtain ⟨d, hd⟩ : ∃ d, ds[i]? = some d := ⟨ds[i]'(by rw [enumD_length] at hi; exact hi), List.getElem?_eq_getElem _⟩
  obtain ⟨v, hv, rv⟩ := r.get hd
  rw [e2] at hv; cases hv
  obtain ⟨F'', g1, g2, g3⟩ := pair_new s hT (.int (i : Nat)) (rv.kept k)
  exact ⟨_, F'', by have := enumD_get 0 ds i d hd; simpa using this, g1, g2, g3⟩
theorem it_enumT {a xs ds} (h : FzT F H a xs) (r : RpA K F ι H xs ds) : ItOk K (IteT K a) (enumD 0 ds) F ι H := by
  have hl : (enumD 0 ds).length = xs.length := by rw [enumD_length, r.length]
  refine ⟨fun i F' ι' H' k hi => walk_enumT.goes i H' (by rw [← hl]; exact hi) (h.kept k).sq, fun F' ι' H' k => by rw [hl]; exact walk_enumT.stops H' (h.kept k).sq, fun i F' ι' H' x H'' S' k s hi y => ?_⟩
  obtain ⟨T, p, q, rfl, hT, rfl, e1, e2⟩ := walk_enumT.yields i H' x H'' (by rw [← hl]; exact hi) (h.kept k).sq y
  cases e1
  replace e2 : xs[i]? = some q := e2
  obtain ⟨d, hd⟩ : ∃ d, ds[i]? = some d := ⟨ds[i]'(by rw [enumD_length] at hi; exact hi), List.getElem?_eq_getElem _⟩
  obtain ⟨v, hv, rv⟩ := r.get hd
  rw [e2] at hv; cases hv
  obtain ⟨F'', g1, g2, g3⟩ := pair_new s hT (.int (i : Nat)) (rv.kept k)
  exact ⟨_, F'', by have := enumD_get 0 ds i d hd; simpa using this, g1, g2, g3⟩
theorem it_zip {a b xs ys ds es} (h : FzL K F H a xs) (h2 : FzL K F H b ys) (r : RpA K F ι H xs ds) (r2 : RpA K F ι H ys es) : ItOk K (Itz K a b) (zipD ds es) F ι H := by
  have hl : (zipD ds es).length = min xs.length ys.length := by rw [zipD_length, r.length, r2.length]
  refine ⟨fun i F' ι' H' k hi => (walk_zip rfl).goes i H' (by rw [← hl]; exact hi) ⟨(h.kept k).sq, (h2.kept k).sq⟩, fun F' ι' H' k => by rw [hl]; exact (walk_zip rfl).stops H' ⟨(h.kept k).sq, (h2.kept k).sq⟩, fun i F' ι' H' x H'' S' k s hi y => ?_⟩
  obtain ⟨T, p, q, rfl, hT, rfl, e1, e2⟩ := (walk_zip rfl).yields i H' x H'' (by rw [← hl]; exact hi) ⟨(h.kept k).sq, (h2.kept k).sq⟩ y
  rw [zipD_length] at hi
  replace e1 : xs[i]? = some p := e1
  replace e2 : ys[i]? = some q := e2
  obtain ⟨d, hd⟩ : ∃ d, ds[i]? = some d := ⟨ds[i]'(by omega), List.getElem?_eq_getElem _⟩
  obtain ⟨d2, hd2⟩ : ∃ d, es[i]? = some d := ⟨es[i]'(by omega), List.getElem?_eq_getElem _⟩
  obtain ⟨v, hv, rv⟩ := r.get hd
  obtain ⟨v2, hv2, rv2⟩ := r2.get hd2
  rw [e1] at hv; cases hv
  rw [e2] at hv2; cases hv2
  obtain ⟨F'', g1, g2, g3⟩ := pair_new s hT (rv.kept k) (rv2.kept k)
  exact ⟨_, F'', zipD_get ds es i d d2 hd hd2, g1, g2, g3⟩
theorem it_zipT {a b xs ys ds es} (h : FzT F H a xs) (h2 : FzT F H b ys) (r : RpA K F ι H xs ds) (r2 : RpA K F ι H ys es) : ItOk K (RZ.ItzT K a b) (zipD ds es) F ι H := by
  have hl : (zipD ds es).length = min xs.length ys.length := by rw [zipD_length, r.length, r2.length]
  refine ⟨fun i F' ι' H' k hi => (walk_zipT rfl).goes i H' (by rw [← hl]; exact hi) ⟨(h.kept k).sq, (h2.kept k).sq⟩, fun F' ι' H' k => by rw [hl]; exact (walk_zipT rfl).stops H' ⟨(h.kept k).sq, (h2.kept k).sq⟩, fun i F' ι' H' x H'' S' k s hi y => ?_⟩
  obtain ⟨T, p, q, rfl, hT, rfl, e1, e2⟩ := (walk_zipT rfl).yields i H' x H'' (by rw [← hl]; exact hi) ⟨(h.kept k).sq, (h2.kept k).sq⟩ y
  rw [zipD_length] at hi
  replace e1 : xs[i]? = some p := e1
  replace e2 : ys[i]? = some q := e2
  obtain ⟨d, hd⟩ : ∃ d, ds[i]? = some d := ⟨ds[i]'(by omega), List.getElem?_eq_getElem _⟩
  obtain ⟨d2, hd2⟩ : ∃ d, es[i]? = some d := ⟨es[i]'(by omega), List.getElem?_eq_getElem _⟩
  obtain ⟨v, hv, rv⟩ := r.get hd
  obtain ⟨v2, hv2, rv2⟩ := r2.get hd2
  rw [e1] at hv; cases hv
  rw [e2] at hv2; cases hv2
  obtain ⟨F'', g1, g2, g3⟩ := pair_new s hT (rv.kept k) (rv2.kept k)
  exact ⟨_, F'', zipD_get ds es i d d2 hd hd2, g1, g2, g3⟩
end
abbrev ListF := Env' → Sto → Option (List D × Sto)
/-- what is walked, as read -/
def tI (K : PySem.W.Frag) (f : ListF) : TI := fun σ H R => ∃ ρ S F ι xs S', SR K ρ S F ι σ H ∧ f ρ S = some (xs, S') ∧
  ∀ J F' ι' H', ItOk K J xs F' ι' H' → Ss K S' F' ι' H' → Ext0 F ι H F' ι' H' → R J H'
def seqF (fa : RunF) : ListF := fun ρ S => match fa ρ S with
    | some (.list l, S1) => some (l, S1)
    | some (.tuple l, S1) => some (l, S1)
    | some (.dict ps, S1) => match isLoc (.dict ps) with
      | some _ => none
      | none => if isDt ps then none else some (keysOf ps, S1)
    | some (.str s, S1) => some (s.cps.toList.map (fun c => .str ⟨#[c]⟩), S1)
    | _ => none
def enmF (fa : RunF) : ListF := fun ρ S => match fa ρ S with
    | some (.list l, S1) => some (enumD 0 l, S1)
    | some (.tuple l, S1) => some (enumD 0 l, S1)
    | _ => none
def zipF (fa fb : RunF) : ListF := fun ρ S => match fa ρ S with
    | some (.list l, S1) => match fb ρ S1 with
      | some (.list k, S2) => some (zipD l k, S2)
      | _ => none
    | some (.tuple l, S1) => match fb ρ S1 with
      | some (.tuple k, S2) => some (zipD l k, S2)
      | _ => none
    | _ => none
def rng1F (fb : RunF) : ListF := fun ρ S => match fb ρ S with
    | some (.int j, S1) => if in62 j then some (rangeD 0 j.toNat, S1) else none
    | _ => none
def rng2F (fa fb : RunF) : ListF := fun ρ S => match fa ρ S with
    | some (.int i, S1) => match fb ρ S1 with
      | some (.int j, S2) => if in62 i && in62 j then some (rangeD i (j - i).toNat, S2) else none
      | _ => none
    | _ => none
def rng3F (fa fb fc : RunF) : ListF := fun ρ S => match fa ρ S with
    | some (.int i, S1) => match fb ρ S1 with
      | some (.int j, S2) => match fc ρ S2 with
        | some (.int k, S3) => if decide (k ≠ 0) && decide (k.natAbs < 1073741824) && Builtin.Range.small i j k then some (rangeC i k (Builtin.Range.rangeSize i j k).toNat, S3) else none
        | _ => none
      | _ => none
    | _ => none
theorem in62_of {i : Int} (h : in62 i = true) : -(2 ^ 62) ≤ i ∧ i < 2 ^ 62 := by
  simp only [in62, Bool.and_eq_true, decide_eq_true_eq] at h
  omega
section
variable {X : Cx} {a b c e tg : Expr} {fa fb fc : RunF} {pos p : Pos}
theorem iSeq (ha : PE X a (tV X.K fa)) : PI X tg a (tI X.K (seqF fa)) := by
  refine ⟨fun pins s σ H R I ⟨ρ, S, F, ι, xs, S', sr, e1, q⟩ => ?_⟩
  unfold seqF at e1
  split at e1
  · rename_i l S1 h1; cases e1
    refine (pi_list ha).run pins s σ H R I ⟨ρ, S, F, ι, _, _, sr, h1, fun v F1 ι1 H1 r1 s1 x1 => ?_⟩
    cases r1 with
    | lst h r => exact ⟨_, rfl, ⟨_, h.sq⟩, q _ F1 ι1 H1 (it_list h r) s1 x1⟩
  · rename_i l S1 h1; cases e1
    refine (pi_tup ha).run pins s σ H R I ⟨ρ, S, F, ι, _, _, sr, h1, fun v F1 ι1 H1 r1 s1 x1 => ?_⟩
    cases r1 with
    | tup h r => exact ⟨_, rfl, ⟨_, h.sq⟩, q _ F1 ι1 H1 (it_tup h r) s1 x1⟩
  · rename_i ps S1 h1
    split at e1
    · cases e1
    · rename_i hl
      split at e1
      · cases e1
      · rename_i hd; cases e1
        refine (pi_keys ha).run pins s σ H R I ⟨ρ, S, F, ι, _, _, sr, h1, fun v F1 ι1 H1 r1 s1 x1 => ?_⟩
        cases r1 with
        | dic f h r => exact ⟨_, _, rfl, .inl ⟨_, h, q _ F1 ι1 H1 (it_keys f h r) s1 x1⟩⟩
        | dit f h r => exact absurd rfl hd
        | loc h => cases hl
  · rename_i z S1 h1; cases e1
    refine (pi_str ha).run pins s σ H R I ⟨ρ, S, F, ι, _, _, sr, h1, fun v F1 ι1 H1 r1 s1 x1 => ?_⟩
    cases r1
    exact ⟨_, rfl, q _ F1 ι1 H1 it_str s1 x1⟩
  · cases e1
theorem iEnm {tpos : Pos} {elts : List Expr} {kk : Nat} (hg : Gl X "enumerate") (hm : X.mg "enumerate" = none) (ha : PE X a (tV X.K fa)) (hs : notStar a = true) : PI X (.Tuple elts kk tpos) (.Call (.Name "enumerate" p) [a] [] pos) (tI X.K (enmF fa)) := by
  refine ⟨fun pins s σ H R I ⟨ρ, S, F, ι, xs, S', sr, e1, q⟩ => ?_⟩
  refine (pi_enumA hg hm (aCons ha aNil hs) (star_of hs [] X.env)).run pins s σ H R I ?_
  unfold enmF at e1
  split at e1
  · rename_i l S1 h1; cases e1
    refine ⟨ρ, S, F, ι, [.list l], _, sr, by simp [consF, h1, nilF]; rfl, fun vs F1 ι1 H1 r1 s1 x1 => ?_⟩
    cases r1 with
    | cons r rr =>
      cases rr
      cases r with
      | lst h r => exact ⟨_, _, rfl, .inl ⟨h.sq, q _ F1 ι1 H1 (it_enum h r) s1 x1⟩⟩
  · rename_i l S1 h1; cases e1
    refine ⟨ρ, S, F, ι, [.tuple l], _, sr, by simp [consF, h1, nilF]; rfl, fun vs F1 ι1 H1 r1 s1 x1 => ?_⟩
    cases r1 with
    | cons r rr =>
      cases rr
      cases r with
      | tup h r => exact ⟨_, _, rfl, .inr ⟨h.sq, q _ F1 ι1 H1 (it_enumT h r) s1 x1⟩⟩
  · cases e1
theorem iZip {tpos : Pos} {elts : List Expr} {kk : Nat} (hg : Gl X "zip") (hm : X.mg "zip" = none) (ha : PE X a (tV X.K fa)) (hb : PE X b (tV X.K fb)) (hs : notStar a = true) (hs2 : notStar b = true) : PI X (.Tuple elts kk tpos) (.Call (.Name "zip" p) [a, b] [] pos) (tI X.K (zipF fa fb)) := by
  refine ⟨fun pins s σ H R I ⟨ρ, S, F, ι, xs, S', sr, e1, q⟩ => ?_⟩
  refine (RZ.pi_zipA hg hm (aCons ha (aCons hb aNil hs2) hs) (star_of hs [b] X.env) (by rw [star_of hs2 [] X.env]; rfl)).run pins s σ H R I ?_
  unfold zipF at e1
  split at e1
  · rename_i l S1 h1
    split at e1
    · rename_i k S2 h2; cases e1
      refine ⟨ρ, S, F, ι, [.list l, .list k], _, sr, by simp [consF, h1, h2, nilF]; rfl, fun vs F1 ι1 H1 r1 s1 x1 => ?_⟩
      cases r1 with
      | cons r rr =>
        cases rr with
        | cons r' rr =>
          cases rr
          cases r with
          | lst h r =>
            cases r' with
            | lst h' r' => exact ⟨_, _, _, _, rfl, .inl ⟨h.sq, h'.sq, q _ F1 ι1 H1 (it_zip h h' r r') s1 x1⟩⟩
    · cases e1
  · rename_i l S1 h1
    split at e1
    · rename_i k S2 h2; cases e1
      refine ⟨ρ, S, F, ι, [.tuple l, .tuple k], _, sr, by simp [consF, h1, h2, nilF]; rfl, fun vs F1 ι1 H1 r1 s1 x1 => ?_⟩
      cases r1 with
      | cons r rr =>
        cases rr with
        | cons r' rr =>
          cases rr
          cases r with
          | tup h r =>
            cases r' with
            | tup h' r' => exact ⟨_, _, _, _, rfl, .inr ⟨h.sq, h'.sq, q _ F1 ι1 H1 (it_zipT h h' r r') s1 x1⟩⟩
    · cases e1
  · cases e1
theorem iRng1 (hg : Gl X "range") (hm : X.mg "range" = none) (ha : PE X a (tV X.K fa)) (hs : notStar a = true) : PI X tg (.Call (.Name "range" p) [a] [] pos) (tI X.K (rng1F fa)) := by
  refine ⟨fun pins s σ H R I ⟨ρ, S, F, ι, xs, S', sr, e1, q⟩ => ?_⟩
  refine (pi_range1 hg hm (aCons ha aNil hs) (star_of hs [] X.env)).run pins s σ H R I ?_
  unfold rng1F at e1
  split at e1
  · rename_i j S1 h1
    split at e1
    · rename_i hj; cases e1
      refine ⟨ρ, S, F, ι, [.int j], _, sr, by simp [consF, h1, nilF]; rfl, fun vs F1 ι1 H1 r1 s1 x1 => ?_⟩
      cases r1 with
      | cons r rr => cases rr; cases r; exact ⟨j, rfl, (in62_of hj).1, (in62_of hj).2, q _ F1 ι1 H1 it_range s1 x1⟩
    · cases e1
  · cases e1
theorem iRng2 (hg : Gl X "range") (hm : X.mg "range" = none) (ha : PE X a (tV X.K fa)) (hb : PE X b (tV X.K fb)) (hs : notStar a = true) (hs2 : notStar b = true) : PI X tg (.Call (.Name "range" p) [a, b] [] pos) (tI X.K (rng2F fa fb)) := by
  refine ⟨fun pins s σ H R I ⟨ρ, S, F, ι, xs, S', sr, e1, q⟩ => ?_⟩
  refine (pi_range2 hg hm (aCons ha (aCons hb aNil hs2) hs) (by rw [star_of hs [b] X.env, star_of hs2 [] X.env]; rfl) (star_of hs2 [] X.env)).run pins s σ H R I ?_
  unfold rng2F at e1
  split at e1
  · rename_i i S1 h1
    split at e1
    · rename_i j S2 h2
      split at e1
      · rename_i hj; cases e1
        simp only [Bool.and_eq_true] at hj
        refine ⟨ρ, S, F, ι, [.int i, .int j], _, sr, by simp [consF, h1, h2, nilF]; rfl, fun vs F1 ι1 H1 r1 s1 x1 => ?_⟩
        cases r1 with
        | cons r rr =>
          cases rr with
          | cons r' rr => cases rr; cases r; cases r'; exact ⟨i, j, rfl, ⟨(in62_of hj.1).1, (in62_of hj.1).2, (in62_of hj.2).1, (in62_of hj.2).2⟩, q _ F1 ι1 H1 it_range s1 x1⟩
      · cases e1
    · cases e1
  · cases e1
theorem iRng3 (hg : Gl X "range") (hm : X.mg "range" = none) (ha : PE X a (tV X.K fa)) (hb : PE X b (tV X.K fb)) (hc : PE X c (tV X.K fc)) (hs : notStar a = true) (hs2 : notStar b = true) (hs3 : notStar c = true) : PI X tg (.Call (.Name "range" p) [a, b, c] [] pos) (tI X.K (rng3F fa fb fc)) := by
  refine ⟨fun pins s σ H R I ⟨ρ, S, F, ι, xs, S', sr, e1, q⟩ => ?_⟩
  refine (pi_range3 hg hm (aCons ha (aCons hb (aCons hc aNil hs3) hs2) hs) (star_of hs [b, c] X.env) (by rw [star_of hs2 [c] X.env, star_of hs3 [] X.env]; rfl)).run pins s σ H R I ?_
  unfold rng3F at e1
  split at e1
  · rename_i i S1 h1
    split at e1
    · rename_i j S2 h2
      split at e1
      · rename_i k S3 h3
        split at e1
        · rename_i hj; cases e1
          simp only [Bool.and_eq_true, decide_eq_true_eq] at hj
          refine ⟨ρ, S, F, ι, [.int i, .int j, .int k], _, sr, by simp [consF, h1, h2, h3, nilF]; rfl, fun vs F1 ι1 H1 r1 s1 x1 => ?_⟩
          cases r1 with
          | cons r rr =>
            cases rr with
            | cons r' rr =>
              cases rr with
              | cons r'' rr => cases rr; cases r; cases r'; cases r''; exact ⟨i, j, k, _, rfl, ⟨hj.1.1, hj.1.2, hj.2, rangeSize_toNat i j k⟩, q _ F1 ι1 H1 it_rangeC s1 x1⟩
        · cases e1
      · cases e1
    · cases e1
  · cases e1
end
end CH
set_option Elab.async false
set_option linter.all false
set_option maxRecDepth 100000
set_option maxHeartbeats 1000000
/-! targets, comprehensions -/
namespace CH
open PySem PySem.Spec PyProof.Rows L2
section
variable {K : PySem.W.Frag} {ρ ρ' : Env'} {S S' : Sto} {F F' F'' : Addr → Prop} {ι ι' ι'' : List Addr} {σ : L2.St} {H H' H'' : Hp} {i j : Nat} {d : D} {v : V} {a : Addr}
theorem get_set_some {α : Type} {l : List (Option α)} {i j : Nat} {x : Option α} {y : α} (h : (l.set i x)[j]? = some (some y)) : (i = j ∧ x = some y) ∨ (i ≠ j ∧ l[j]? = some (some y)) := by
  by_cases e : i = j
  · subst e
    by_cases hl : i < l.length
    · rw [List.getElem?_set_self hl] at h; cases h; exact .inl ⟨rfl, rfl⟩
    · rw [List.getElem?_eq_none (by simpa using hl)] at h; cases h
  · rw [List.getElem?_set_ne e] at h; exact .inr ⟨e, h⟩
theorem SR.set (s : SR K ρ S F ι σ H) (r : Rp K F ι H v d) : SR K (ρ.set i (some (false, d))) S F ι (σ.set i (some v)) H where
  ss := s.ss
  len := by simp [s.len]
  val := fun j e h => by
    rcases get_set_some h with ⟨rfl, h'⟩ | ⟨n, h⟩
    · cases h'
      have hl : i < (σ.set i (some v)).length := by
        have := (List.getElem?_eq_some_iff.mp h).1
        simp at this; simp [← s.len, this]
      exact ⟨v, by rw [List.getElem?_set_self (by simpa using hl)], r⟩
    · rw [List.getElem?_set_ne n]; exact s.val j e h
  own := fun j e h => by
    rcases get_set_some h with ⟨rfl, h'⟩ | ⟨n, h⟩
    · cases h'
    · rw [List.getElem?_set_ne n]; exact s.own j e h
  ap := fun j k a e f h1 h2 h3 h4 => by
    rcases get_set_some h1 with ⟨rfl, h⟩ | ⟨n, h⟩
    · cases h
    rcases get_set_some h2 with ⟨rfl, h'⟩ | ⟨n', h'⟩
    · cases h'
    rw [List.getElem?_set_ne n] at h3
    rw [List.getElem?_set_ne n'] at h4
    exact s.ap j k a e f h h' h3 h4
theorem SR.own_set (s : SR K ρ S F ι σ H) (h : OwnA (ρ.set i (some (false, d))) (σ.set i (some v)) a) : OwnA ρ σ a := by
  obtain ⟨j, e, h1, h2⟩ := h
  rcases get_set_some h1 with ⟨rfl, h'⟩ | ⟨n, h⟩
  · cases h'
  · rw [List.getElem?_set_ne n] at h2; exact ⟨j, e, h, h2⟩
/-- a new object in a slot -/
theorem SR.setO (s : SR K ρ S F ι σ H) (r : OwnRp K F ι H a d) (n1 : ¬ F a) (n2 : a ∉ ι) (n3 : ¬ OwnA ρ σ a) : SR K (ρ.set i (some (true, d))) S F ι (σ.set i (some (.ref a))) H where
  ss := s.ss
  len := by simp [s.len]
  val := fun j e h => by
    rcases get_set_some h with ⟨rfl, h'⟩ | ⟨n, h⟩
    · cases h'
    · rw [List.getElem?_set_ne n]; exact s.val j e h
  own := fun j e h => by
    rcases get_set_some h with ⟨rfl, h'⟩ | ⟨n, h⟩
    · cases h'
      have hl : i < σ.length := by
        have := (List.getElem?_eq_some_iff.mp h).1
        simp at this; rw [← s.len]; exact this
      exact ⟨a, by rw [List.getElem?_set_self hl], r, n1, n2⟩
    · rw [List.getElem?_set_ne n]; exact s.own j e h
  ap := fun j k b e f h1 h2 h3 h4 => by
    rcases get_set_some h1 with ⟨rfl, h⟩ | ⟨n, h⟩
    · rcases get_set_some h2 with ⟨rfl, h'⟩ | ⟨n', h'⟩
      · rfl
      · rcases get_set_some h3 with ⟨_, h5⟩ | ⟨n5, _⟩
        · cases h5
          rw [List.getElem?_set_ne n'] at h4
          exact absurd ⟨k, f, h', h4⟩ n3
        · exact absurd rfl n5
    · rw [List.getElem?_set_ne n] at h3
      rcases get_set_some h2 with ⟨rfl, h'⟩ | ⟨n', h'⟩
      · rcases get_set_some h4 with ⟨_, h5⟩ | ⟨n5, _⟩
        · cases h5
          exact absurd ⟨j, e, h, h3⟩ n3
        · exact absurd rfl n5
      · rw [List.getElem?_set_ne n'] at h4
        exact s.ap j k b e f h h' h3 h4
theorem SR.own_setO (s : SR K ρ S F ι σ H) {b : Addr} (h : OwnA (ρ.set i (some (true, d))) (σ.set i (some (.ref a))) b) : OwnA ρ σ b ∨ b = a := by
  obtain ⟨j, e, h1, h2⟩ := h
  rcases get_set_some h1 with ⟨rfl, h⟩ | ⟨n, h⟩
  · rcases get_set_some h2 with ⟨_, h'⟩ | ⟨n, _⟩
    · cases h'; exact .inr rfl
    · exact absurd rfl n
  · rw [List.getElem?_set_ne n] at h2; exact .inl ⟨j, e, h, h2⟩
theorem SR.unset (s : SR K ρ S F ι σ H) : SR K (ρ.set i none) S F ι (σ.set i none) H where
  ss := s.ss
  len := by simp [s.len]
  val := fun j e h => by
    rcases get_set_some h with ⟨rfl, h'⟩ | ⟨n, h⟩
    · cases h'
    · rw [List.getElem?_set_ne n]; exact s.val j e h
  own := fun j e h => by
    rcases get_set_some h with ⟨rfl, h'⟩ | ⟨n, h⟩
    · cases h'
    · rw [List.getElem?_set_ne n]; exact s.own j e h
  ap := fun j k a e f h1 h2 h3 h4 => by
    rcases get_set_some h1 with ⟨rfl, h⟩ | ⟨n, h⟩
    · cases h
    rcases get_set_some h2 with ⟨rfl, h'⟩ | ⟨n', h'⟩
    · cases h'
    rw [List.getElem?_set_ne n] at h3
    rw [List.getElem?_set_ne n'] at h4
    exact s.ap j k a e f h h' h3 h4
theorem SR.wipe (s : SR K ρ S F ι σ H) : ∀ vs : List Nat, SR K (wipeE ρ vs) S F ι (L2.wipe σ vs) H
  | [] => s
  | v :: vs => (SR.wipe s vs).unset
end
mutual
/-- the target's slots -/
def tgS : Tg → List Nat
  | .nm i => [i]
  | .tup l => tgSs l
def tgSs : Tgs → List Nat
  | .nil => []
  | .cons t l => tgS t ++ tgSs l
end
def tG (K : PySem.W.Frag) (bnd : D → Env' → Option Env') (ts : List Nat) : TG := fun v σ H Q => ∃ ρ S F ι d ρ', SR K ρ S F ι σ H ∧ Rp K F ι H v d ∧ bnd d ρ = some ρ' ∧
  ∀ σ', SR K ρ' S F ι σ' H → (∀ a, OwnA ρ' σ' a → OwnA ρ σ a) → (∀ vs, (∀ j ∈ ts, j ∈ vs) → wipe σ' vs = wipe σ vs) → Q σ' H
def tGs (K : PySem.W.Frag) (bnd : List D → Env' → Option Env') (ts : List Nat) : TGs := fun v σ H Q => ∃ ρ S F ι d ρ', SR K ρ S F ι σ H ∧ RpA K F ι H v d ∧ bnd d ρ = some ρ' ∧
  ∀ σ', SR K ρ' S F ι σ' H → (∀ a, OwnA ρ' σ' a → OwnA ρ σ a) → (∀ vs, (∀ j ∈ ts, j ∈ vs) → wipe σ' vs = wipe σ vs) → Q σ' H
theorem wipe_set {σ : L2.St} {i : Nat} {x : Option V} : ∀ {vs : List Nat}, i ∈ vs → wipe (σ.set i x) vs = wipe σ vs
  | [], h => by cases h
  | v :: vs, h => by
    unfold wipe
    by_cases e : i ∈ vs
    · rw [wipe_set e]
    · have e2 : v = i := by rcases List.mem_cons.mp h with h | h; exact h.symm; exact absurd h e
      subst e2
      apply List.ext_getElem?
      intro j
      by_cases ej : v = j
      · subst ej
        by_cases hl : v < σ.length
        · rw [List.getElem?_set_self (by rw [wipe_length, List.length_set]; exact hl), List.getElem?_set_self (by rw [wipe_length]; exact hl)]
        · rw [List.getElem?_eq_none (by rw [List.length_set, wipe_length, List.length_set]; omega), List.getElem?_eq_none (by rw [List.length_set, wipe_length]; omega)]
      · rw [List.getElem?_set_ne ej, List.getElem?_set_ne ej]
        by_cases ev : j ∈ vs
        · exact wipe_in ev
        · rw [wipe_out ev, wipe_out ev, List.getElem?_set_ne ej]
where
  wipe_in {σ : L2.St} {i : Nat} {x : Option V} {j : Nat} : ∀ {vs : List Nat}, j ∈ vs → (wipe (σ.set i x) vs)[j]? = (wipe σ vs)[j]?
  | [], h => by cases h
  | v :: vs, h => by
    unfold wipe
    by_cases e : v = j
    · subst e
      by_cases hl : v < σ.length
      · rw [List.getElem?_set_self (by rw [wipe_length, List.length_set]; exact hl), List.getElem?_set_self (by rw [wipe_length]; exact hl)]
      · rw [List.getElem?_eq_none (by rw [List.length_set, wipe_length, List.length_set]; omega), List.getElem?_eq_none (by rw [List.length_set, wipe_length]; omega)]
    · rw [List.getElem?_set_ne e, List.getElem?_set_ne e]
      exact wipe_in (by rcases List.mem_cons.mp h with h | h; exact absurd h.symm e; exact h)
theorem wipe_at {σ : L2.St} {j : Nat} : ∀ {vs : List Nat}, j ∈ vs → (wipe σ vs)[j]? = if j < σ.length then some none else none
  | [], h => by cases h
  | v :: vs, h => by
    unfold wipe
    by_cases e : v = j
    · subst e
      by_cases hl : v < σ.length
      · rw [List.getElem?_set_self (by rw [wipe_length]; exact hl), if_pos hl]
      · rw [List.getElem?_eq_none (by rw [List.length_set, wipe_length]; omega), if_neg hl]
    · rw [List.getElem?_set_ne e]
      exact wipe_at (by rcases List.mem_cons.mp h with h | h; exact absurd h.symm e; exact h)
theorem wipe_idem {σ : L2.St} {vs : List Nat} : wipe (wipe σ vs) vs = wipe σ vs := by
  apply List.ext_getElem?
  intro j
  by_cases h : j ∈ vs
  · rw [wipe_at h, wipe_at h, wipe_length]
  · rw [wipe_out h]
section
variable {X : Cx} {pos : Pos}
theorem PG.imp {tg : Expr} {t t' : TG} (h : PG X tg t) (i : ∀ v σ H Q, t' v σ H Q → t v σ H Q) : PG X tg t' := ⟨fun pins s σ H v u Q I r q => h.run pins s σ H v u Q I r (i v σ H Q q)⟩
theorem PGs.imp {tg : List Expr} {t t' : TGs} (h : PGs X tg t) (i : ∀ v σ H Q, t' v σ H Q → t v σ H Q) : PGs X tg t' := ⟨fun pins s σ H v u Q I r q => h.run pins s σ H v u Q I r (i v σ H Q q)⟩
theorem setS_inv {ρ ρ' : Env'} {i : Nat} {o : Bool} {d : D} (h : setS ρ i o d = some ρ') : i < ρ.length ∧ ρ' = ρ.set i (some (o, d)) := by
  unfold setS at h
  split at h
  · rename_i hl; cases h; exact ⟨hl, rfl⟩
  · cases h
theorem gNm {i : Nat} {x : Str} (hN : X.N.Nodup) (hi : X.N[i]? = some x) (hx : Loc X.env.scope x) (hf : X.fn x = true ∨ X.env.scope.names.lookup x = some .local) : PG X (.Name x pos) (tG X.K (bindT (.nm i)) (tgS (.nm i))) :=
  PG.imp (pg_name hN hi hx hf) fun v σ H Q ⟨ρ, S, F, ι, d, ρ', sr, r, e, q⟩ => by
    obtain ⟨hl, rfl⟩ := setS_inv e
    exact q _ (sr.set r) (fun a h => sr.own_set h) fun vs h => wipe_set (h i (by simp [tgS]))
theorem gsNil : PGs X [] (tGs X.K (bindTs .nil) (tgSs .nil)) := PGs.imp pgs_nil fun v σ H Q ⟨ρ, S, F, ι, d, ρ', sr, r, e, q⟩ => by
  cases r with
  | nil => cases e; exact ⟨rfl, q σ sr (fun _ h => h) fun _ _ => rfl⟩
  | cons => cases e
theorem assignEach_of {t : Expr} (h : notStar t = true) (es : List Expr) (env : Env) : assignEach (t :: es) env = (false, assign t env) :: assignEach es env := by cases t <;> first | rfl | cases h
theorem gsCons {t : Expr} {es : List Expr} {T : Tg} {L : Tgs} (h1 : PG X t (tG X.K (bindT T) (tgS T))) (h2 : PGs X es (tGs X.K (bindTs L) (tgSs L))) (hs : notStar t = true) : PGs X (t :: es) (tGs X.K (bindTs (.cons T L)) (tgSs (.cons T L))) :=
  PGs.imp (pgs_cons h1 h2 (by rw [assignEach_of hs]; rfl)) fun v σ H Q ⟨ρ, S, F, ι, d, ρ', sr, r, e, q⟩ => by
    cases r with
    | nil => cases e
    | @cons v0 vs0 d0 ds0 r rr =>
      have e' : (match bindT T d0 ρ with
        | some ρ1 => bindTs L ds0 ρ1
        | none => none) = some ρ' := e
      split at e'
      · rename_i ρ1 e1
        refine ⟨v0, vs0, rfl, ρ, S, F, ι, d0, ρ1, sr, r, e1, fun σ1 sr1 o1 w1 => ⟨ρ1, S, F, ι, ds0, ρ', sr1, rr, e', fun σ2 sr2 o2 w2 => q σ2 sr2 (fun a h => o1 a (o2 a h)) fun vs h => ?_⟩⟩
        rw [w2 vs (fun j hj => h j (by simp [tgSs, hj])), w1 vs (fun j hj => h j (by simp [tgSs, hj]))]
      · cases e'
/-- how many -/
def tgsN : Tgs → Nat
  | .nil => 0
  | .cons _ l => tgsN l + 1
theorem bindTs_n : ∀ (L : Tgs) {ds : List D} {ρ ρ' : Env'}, bindTs L ds ρ = some ρ' → ds.length = tgsN L
  | .nil, [], _, _, _ => rfl
  | .nil, _ :: _, _, _, h => by simp [bindTs] at h
  | .cons _ _, [], _, _, h => by simp [bindTs] at h
  | .cons T L, d :: ds, ρ, ρ', h => by
    simp only [bindTs] at h
    split at h
    · simp [tgsN, bindTs_n L h]
    · cases h
theorem gTupD {es : List Expr} {k : Nat} {L : Tgs} (hc : X.calm = true) (h : PGs X es (tGs X.K (bindTs L) (tgSs L))) (hn : es.length = tgsN L) (hs : es.all notStar = true) : PG X (.Tuple es k pos) (tG X.K (bindT (.tup L)) (tgS (.tup L))) := by
  have hall : ∀ es : List Expr, es.all notStar = true → (assignEach es X.env).length = es.length ∧ (assignEach es X.env).findIdx? (·.1) = none := by
    intro es
    induction es with
    | nil => intro _; exact ⟨rfl, rfl⟩
    | cons e es ih =>
      intro hs
      simp only [List.all_cons, Bool.and_eq_true] at hs
      obtain ⟨i1, i2⟩ := ih hs.2
      rw [assignEach_of hs.1]
      exact ⟨by simp [i1], by simp [List.findIdx?_cons, i2]⟩
  refine PG.imp (pg_tup hc h (hall es hs).1 (hall es hs).2) fun v σ H Q ⟨ρ, S, F, ι, d, ρ', sr, r, e, q⟩ => ?_
  cases r with
  | tup hf r => exact ⟨_, _, rfl, hf.sq, by rw [r.length, hn]; exact bindTs_n L e, ρ, S, F, ι, _, ρ', sr, r, e, q⟩
  | _ => simp [bindT] at e
end
/-! ### comprehensions -/
/-- the tests of a clause -/
abbrev tTs := tT
section
variable {K : PySem.W.Frag} {O F F' F'' : Addr → Prop} {ι ι' ι'' : List Addr} {H H' H'' : Hp} {S S' : Sto} {a : Addr} {u : HO}
theorem Ss.upd (s : Ss K S F ι H) (hF : ¬ F a) (ha : a ∉ ι) : Ss K S F ι (upd H a u) :=
  ⟨fun b z => by
      by_cases e : b = a
      · rw [e, upd_same]; exact fun q => nomatch q
      · rw [upd_ne e]; exact s.dom b z, s.iF, s.nd, s.len, fun n b d h1 h2 =>
    (s.st n b d h1 h2).kept ⟨fun _ z => z, fun b o f h => by rw [upd_ne (by rintro rfl; exact hF f)]; exact h, [], by simp⟩ (fun o q => by rw [upd_ne (by rintro rfl; exact ha (List.mem_of_getElem? h1))]; exact q)⟩
theorem Kept.upd (hF : ¬ F a) : Kept F ι H F ι (upd H a u) := ⟨fun _ z => z, fun b o f h => by rw [upd_ne (by rintro rfl; exact hF f)]; exact h, [], by simp⟩
theorem Ext.updNew (x : Ext O F ι H F' ι' H') (ha : H a = none) : Ext O F ι H F' ι' (upd H' a u) :=
  ⟨x.f, x.fn, fun b o q hi ho => by rw [upd_ne (ne_of_none q ha)]; exact x.h b o q hi ho,
    fun b q => by
      by_cases e : b = a
      · rw [e, upd_same]; exact fun z => nomatch z
      · rw [upd_ne e]; exact x.th b q, x.i, x.inew⟩
/-- the new list as the comprehension goes -/
structure Lc (K : PySem.W.Frag) (F0 : Addr → Prop) (ι0 : List Addr) (H0 : Hp) (F1 : Addr → Prop) (ι1 : List Addr) (H1 : Hp) (S : Sto) (F : Addr → Prop) (ι : List Addr) (H : Hp) (D : Addr) (acc : List V) (ds : List PyData) : Prop where
  s : Ss K S F ι H
  k : Kept F1 ι1 H1 F ι H
  x : Ext0 F0 ι0 H0 F ι H
  d : H D = some (.lst acc)
  r : RpA K F ι H acc ds
  n1 : ¬ F D
  n2 : D ∉ ι
theorem Lc.ext {F0 ι0 H0 F1 ι1 H1 D acc ds} (l : Lc K F0 ι0 H0 F1 ι1 H1 S F ι H D acc ds) (x : Ext0 F ι H F' ι' H') (s : Ss K S' F' ι' H') : Lc K F0 ι0 H0 F1 ι1 H1 S' F' ι' H' D acc ds :=
  have k := Ext0.kept l.s x
  ⟨s, l.k.trans k, l.x.trans x, x.h D _ l.d l.n2 id, l.r.kept k, fun z => by
    rcases x.fn D z with z | z | z
    · exact l.n1 z
    · rw [l.d] at z; cases z
    · exact z, fun z => by
    rcases x.inew D z with z | z
    · exact l.n2 z
    · rw [l.d] at z; cases z⟩
theorem Lc.app {F0 ι0 H0 F1 ι1 H1 D acc ds y e} (l : Lc K F0 ι0 H0 F1 ι1 H1 S F ι H D acc ds) (hD : H0 D = none) (r : Rp K F ι H y e) : Lc K F0 ι0 H0 F1 ι1 H1 S F ι (L2.upd H D (.lst (acc ++ [y]))) D (acc ++ [y]) (ds ++ [e]) :=
  have k : Kept F ι H F ι (L2.upd H D (.lst (acc ++ [y]))) := Kept.upd l.n1
  ⟨l.s.upd l.n1 l.n2, l.k.trans k, l.x.updNew hD, upd_same, (l.r.append (.cons r .nil)).kept k, l.n1, l.n2⟩
theorem Lc.start {F0 ι0 H0 F1 ι1 H1 D} (s : Ss K S F1 ι1 H1) (x : Ext0 F0 ι0 H0 F1 ι1 H1) (hD : H1 D = none) : Lc K F0 ι0 H0 F1 ι1 H1 S F1 ι1 (L2.upd H1 D (.lst [])) D [] [] :=
  have n1 : ¬ F1 D := fun z => s.dom D z hD
  have n2 : D ∉ ι1 := fun z => s.there z hD
  ⟨s.upd n1 n2, Kept.upd n1, x.updNew (x.free hD), upd_same, .nil, n1, n2⟩
end
def lcF (it : ListF) (t : Tg) (ft fe : RunF) (own : List Nat) : RunF := fun ρ S => match it ρ S with
    | none => none
    | some (xs, S1) => (compF (bindT t) ft fe (wipeE ρ own) xs S1).bind fun p => if p.1.length ≤ lim then some (.list p.1, p.2) else none
section
variable {K : PySem.W.Frag}
theorem lc_read {it : ListF} {t : Tg} {ft fe : RunF} {own : List Nat} (hs : ∀ j ∈ tgS t, j ∈ own) {σ H Q} (h : tN K (lcF it t ft fe own) σ H Q) : tLc (tI K it) (tG K (bindT t) (tgS t)) (tT K ft) (tV K fe) own σ H Q := by
  obtain ⟨ρ, S, F, ι, d, S', sr, e1, q⟩ := h
  unfold lcF at e1
  split at e1
  · cases e1
  · rename_i xs S1 h1
    simp only [Option.bind_eq_some_iff] at e1
    obtain ⟨⟨ds, S2⟩, h2, h3⟩ := e1
    split at h3
    · rename_i hlen
      cases h3
      refine ⟨ρ, S, F, ι, xs, S1, sr, h1, fun J F1 ι1 H1 ok s1 x1 D hD => ?_⟩
      have srw := sr.wipe own
      refine ⟨fun i m H' => m = xs.length - i ∧ i ≤ xs.length ∧ ∃ Sc Fc ιc acc dacc rest, Lc K F ι H F1 ι1 H1 Sc Fc ιc H' D acc dacc ∧ compF (bindT t) ft fe (wipeE ρ own) (xs.drop i) Sc = some (rest, S2) ∧ ds = dacc ++ rest,
        ⟨xs.length, by simp, Nat.zero_le _, S1, F1, ι1, [], [], ds, Lc.start s1 x1 hD, h2, rfl⟩, ?_⟩
      rintro i m H' ⟨rfl, hi, Sc, Fc, ιc, acc, dacc, rest, l, hrest, hds⟩
      by_cases hlt : i < xs.length
      · refine .inr ⟨ok.goes i _ _ _ l.k hlt, fun H2 => ∃ Sc Fc ιc acc dacc rest, Lc K F ι H F1 ι1 H1 Sc Fc ιc H2 D acc dacc ∧ compF (bindT t) ft fe (wipeE ρ own) (xs.drop (i + 1)) Sc = some (rest, S2) ∧ ds = dacc ++ rest,
          fun H2 p => ⟨xs.length - (i + 1), by omega, rfl, hlt, p⟩, fun x H2 y => ?_⟩
        obtain ⟨dx, F2, hx, rx, s2, x2⟩ := ok.yields i _ _ _ x H2 Sc l.k l.s hlt y
        have l2 := l.ext x2 s2
        rw [List.drop_eq_getElem_cons hlt] at hrest
        have hx' : xs[i] = dx := by rw [List.getElem?_eq_getElem hlt] at hx; cases hx; rfl
        rw [hx'] at hrest
        simp only [compF] at hrest
        split at hrest
        · cases hrest
        · rename_i ρ1 hb
          refine ⟨wipeE ρ own, Sc, F2, ιc, dx, ρ1, srw.ext l2.x s2, rx, hb, fun σ2 sr2 _ hw => ⟨(hw own hs).trans wipe_idem, ?_⟩⟩
          split at hrest
          · rename_i S3 ht
            refine ⟨ρ1, Sc, F2, ιc, false, S3, sr2, ht, fun F3 ι3 H3 s3 x3 => ?_⟩
            exact iteF ⟨S3, F3, ι3, acc, dacc, rest, l2.ext x3 s3, hrest, hds⟩
          · rename_i S3 ht
            refine ⟨ρ1, Sc, F2, ιc, true, S3, sr2, ht, fun F3 ι3 H3 s3 x3 => iteT ?_⟩
            split at hrest
            · cases hrest
            · rename_i de S4 he
              split at hrest
              · cases hrest
              · rename_i es S5 hr
                cases hrest
                refine ⟨ρ1, S3, F3, ι3, de, S4, sr2.ext x3 s3, he, fun v F4 ι4 H4 r4 s4 x4 => ?_⟩
                have l4 := (l2.ext x3 s3).ext x4 s4
                refine ⟨acc, l4.d, ?_, S4, F4, ι4, acc ++ [v], dacc ++ [de], es, l4.app (x1.free hD) r4, hr, by rw [hds]; simp⟩
                have : acc.length = dacc.length := l.r.length
                have : ds.length = dacc.length + es.length + 1 := by rw [hds]; simp; omega
                show acc.length < 16777216
                have : ds.length ≤ 16777216 := hlen
                omega
          · cases hrest
      · have e : i = xs.length := by omega
        subst e
        rw [List.drop_length] at hrest
        simp only [compF] at hrest
        cases hrest
        refine .inl ⟨ok.stops _ _ _ l.k, q (.ref D) Fc ιc H' (.inl ⟨rfl, D, rfl, .lst l.d (by rw [hds]; simpa using l.r), l.n1, l.n2, x1.free hD⟩) l.s l.x⟩
    · cases h3
end
end CH
set_option Elab.async false
set_option linter.all false
set_option maxRecDepth 100000
set_option maxHeartbeats 1000000
/-! comprehensions with two clauses; of dicts -/
namespace CH
open PySem PySem.Spec PyProof.Rows L2
section
variable {K : PySem.W.Frag} {ρ : Env'} {S S' : Sto} {F F' F'' : Addr → Prop} {ι ι' ι'' : List Addr} {σ : L2.St} {H H' H'' : Hp} {i j : Nat} {d : PyData} {v : V} {a D : Addr} {u : HO}
theorem SR.own_unset (h : OwnA (ρ.set i none) (σ.set i none) a) : OwnA ρ σ a := by
  obtain ⟨j, e, h1, h2⟩ := h
  rcases get_set_some h1 with ⟨rfl, h⟩ | ⟨n, h⟩
  · cases h
  · rw [List.getElem?_set_ne n] at h2; exact ⟨j, e, h, h2⟩
theorem own_wipe : ∀ {vs : List Nat}, OwnA (wipeE ρ vs) (L2.wipe σ vs) a → OwnA ρ σ a
  | [], h => h
  | v :: vs, h => own_wipe (vs := vs) (SR.own_unset h)
theorem SR.upd (s : SR K ρ S F ι σ H) (n1 : ¬ F D) (n2 : D ∉ ι) (n3 : ¬ OwnA ρ σ D) : SR K ρ S F ι σ (upd H D u) :=
  ⟨s.ss.upd n1 n2, s.len, fun i d h => by
      obtain ⟨v, h1, h2⟩ := s.val i d h
      exact ⟨v, h1, h2.kept (Kept.upd n1)⟩, fun i d h => by
      obtain ⟨a, h1, h2, h3, h4⟩ := s.own i d h
      refine ⟨a, h1, h2.kept (Kept.upd n1) (fun o q => ?_), h3, h4⟩
      rw [upd_ne (by rintro rfl; exact n3 ⟨i, d, h, h1⟩)]; exact q, s.ap⟩
end
def comp2In (it2 : ListF) (t2 : Tg) (ft2 fe : RunF) (own2 : List Nat) : Env' → Sto → Option (List D × Sto) := fun ρ1 S2 => match it2 ρ1 S2 with
        | none => none
        | some (ys, S3) => compF (bindT t2) ft2 fe (wipeE ρ1 own2) ys S3
def lc2F (it : ListF) (t : Tg) (ft : RunF) (it2 : ListF) (t2 : Tg) (ft2 fe : RunF) (own own2 : List Nat) : RunF := fun ρ S => match it ρ S with
    | none => none
    | some (xs, S1) => (comp2F (bindT t) ft (comp2In it2 t2 ft2 fe own2) (wipeE ρ own) xs S1).bind fun p => if p.1.length ≤ lim then some (.list p.1, p.2) else none
section
variable {K : PySem.W.Frag}
theorem lc2_read {it it2 : ListF} {t t2 : Tg} {ft ft2 fe : RunF} {own own2 : List Nat} (hs : ∀ j ∈ tgS t, j ∈ own) (hs2 : ∀ j ∈ tgS t2, j ∈ own2) {σ H Q} (h : tN K (lc2F it t ft it2 t2 ft2 fe own own2) σ H Q) :
    tLc2 (tI K it) (tG K (bindT t) (tgS t)) (tT K ft) (tI K it2) (tG K (bindT t2) (tgS t2)) (tT K ft2) (tV K fe) own own2 σ H Q := by
  obtain ⟨ρ, S, F, ι, d, S', sr, e1, q⟩ := h
  unfold lc2F at e1
  split at e1
  · cases e1
  · rename_i xs S1 h1
    simp only [Option.bind_eq_some_iff] at e1
    obtain ⟨⟨ds, S2⟩, h2, h3⟩ := e1
    split at h3
    · rename_i hlen
      cases h3
      refine ⟨ρ, S, F, ι, xs, S1, sr, h1, fun J F1 ι1 H1 ok s1 x1 D hD => ?_⟩
      have srw := sr.wipe own
      refine ⟨fun i m H' => m = xs.length - i ∧ i ≤ xs.length ∧ ∃ Sc Fc ιc acc dacc rest, Lc K F ι H F1 ι1 H1 Sc Fc ιc H' D acc dacc ∧ comp2F (bindT t) ft (comp2In it2 t2 ft2 fe own2) (wipeE ρ own) (xs.drop i) Sc = some (rest, S2) ∧ ds = dacc ++ rest,
        ⟨xs.length, by simp, Nat.zero_le _, S1, F1, ι1, [], [], ds, Lc.start s1 x1 hD, h2, rfl⟩, ?_⟩
      rintro i m H' ⟨rfl, hi, Sc, Fc, ιc, acc, dacc, rest, l, hrest, hds⟩
      by_cases hlt : i < xs.length
      · refine .inr ⟨ok.goes i _ _ _ l.k hlt, fun H2 => ∃ Sc Fc ιc acc dacc rest, Lc K F ι H F1 ι1 H1 Sc Fc ιc H2 D acc dacc ∧ comp2F (bindT t) ft (comp2In it2 t2 ft2 fe own2) (wipeE ρ own) (xs.drop (i + 1)) Sc = some (rest, S2) ∧ ds = dacc ++ rest,
          fun H2 p => ⟨xs.length - (i + 1), by omega, rfl, hlt, p⟩, fun x H2 y => ?_⟩
        obtain ⟨dx, F2, hx, rx, s2, x2⟩ := ok.yields i _ _ _ x H2 Sc l.k l.s hlt y
        have l2 := l.ext x2 s2
        rw [List.drop_eq_getElem_cons hlt] at hrest
        have hx' : xs[i] = dx := by rw [List.getElem?_eq_getElem hlt] at hx; cases hx; rfl
        rw [hx'] at hrest
        simp only [comp2F] at hrest
        split at hrest
        · cases hrest
        · rename_i ρ1 hb
          refine ⟨wipeE ρ own, Sc, F2, ιc, dx, ρ1, srw.ext l2.x s2, rx, hb, fun σ2 sr2 ho2 hw => ⟨(hw own hs).trans wipe_idem, ?_⟩⟩
          split at hrest
          · rename_i S3 ht
            refine ⟨ρ1, Sc, F2, ιc, false, S3, sr2, ht, fun F3 ι3 H3 s3 x3 => ?_⟩
            exact iteF ⟨S3, F3, ι3, acc, dacc, rest, l2.ext x3 s3, hrest, hds⟩
          · rename_i S3 ht
            refine ⟨ρ1, Sc, F2, ιc, true, S3, sr2, ht, fun F3 ι3 H3 s3 x3 => iteT ?_⟩
            split at hrest
            · cases hrest
            · rename_i irest S4 he
              split at hrest
              · cases hrest
              · rename_i es S5 hr
                cases hrest
                unfold comp2In at he
                split at he
                · cases he
                · rename_i ys S6 hy
                  have l3 := l2.ext x3 s3
                  refine ⟨ρ1, S3, F3, ι3, ys, S6, sr2.ext x3 s3, hy, fun J1 F4 ι4 H4 ok4 s4 x4 => ?_⟩
                  have nD : ¬ OwnA (wipeE ρ1 own2) (wipe σ2 own2) D := fun z => (sr.there (own_wipe (ho2 _ (own_wipe z)))) (x1.free hD)
                  refine ⟨fun j k Hz => k = ys.length - j ∧ j ≤ ys.length ∧ ∃ Sc Fc ιc acc dacc irest, Lc K F ι H F1 ι1 H1 Sc Fc ιc Hz D acc dacc ∧ Kept F4 ι4 H4 Fc ιc Hz ∧ SR K (wipeE ρ1 own2) Sc Fc ιc (wipe σ2 own2) Hz ∧
                    compF (bindT t2) ft2 fe (wipeE ρ1 own2) (ys.drop j) Sc = some (irest, S4) ∧ ds = dacc ++ (irest ++ es), ⟨ys.length, by simp, Nat.zero_le _, S6, F4, ι4, acc, dacc, irest, l3.ext x4 s4, .refl, ((sr2.ext x3 s3).ext x4 s4).wipe own2, he, hds⟩, ?_⟩
                  rintro j k H5 ⟨rfl, hj, Sj, Fj, ιj, accj, daccj, irestj, lj, kj, srj, hrj, hdj⟩
                  by_cases hjt : j < ys.length
                  · refine .inr ⟨ok4.goes j _ _ _ kj hjt, fun H6 => ∃ Sc Fc ιc acc dacc irest, Lc K F ι H F1 ι1 H1 Sc Fc ιc H6 D acc dacc ∧ Kept F4 ι4 H4 Fc ιc H6 ∧ SR K (wipeE ρ1 own2) Sc Fc ιc (wipe σ2 own2) H6 ∧
                      compF (bindT t2) ft2 fe (wipeE ρ1 own2) (ys.drop (j + 1)) Sc = some (irest, S4) ∧ ds = dacc ++ (irest ++ es), fun H6 p => ⟨ys.length - (j + 1), by omega, rfl, hjt, p⟩, fun w H6 yw => ?_⟩
                    obtain ⟨dw, F6, hw6, rw6, s6, x6⟩ := ok4.yields j _ _ _ w H6 Sj kj lj.s hjt yw
                    rw [List.drop_eq_getElem_cons hjt] at hrj
                    have hw' : ys[j] = dw := by rw [List.getElem?_eq_getElem hjt] at hw6; cases hw6; rfl
                    rw [hw'] at hrj
                    simp only [compF] at hrj
                    split at hrj
                    · cases hrj
                    · rename_i ρ2 hb2
                      have k6 := kj.trans (Ext0.kept lj.s x6)
                      refine ⟨wipeE ρ1 own2, Sj, F6, ιj, dw, ρ2, srj.ext x6 s6, rw6, hb2, fun σ3 sr3 ho3 hw3 => ⟨(hw3 own2 hs2).trans wipe_idem, ?_⟩⟩
                      have l6 := lj.ext x6 s6
                      have sr6 := srj.ext x6 s6
                      split at hrj
                      · rename_i S7 ht7
                        refine ⟨ρ2, Sj, F6, ιj, false, S7, sr3, ht7, fun F7 ι7 H7 s7 x7 => ?_⟩
                        exact iteF ⟨S7, F7, ι7, accj, daccj, irestj, l6.ext x7 s7, k6.trans (Ext0.kept s6 x7), sr6.ext x7 s7, hrj, hdj⟩
                      · rename_i S7 ht7
                        refine ⟨ρ2, Sj, F6, ιj, true, S7, sr3, ht7, fun F7 ι7 H7 s7 x7 => iteT ?_⟩
                        split at hrj
                        · cases hrj
                        · rename_i de S8 he8
                          split at hrj
                          · cases hrj
                          · rename_i fs S9 hr9
                            cases hrj
                            refine ⟨ρ2, S7, F7, ι7, de, S8, sr3.ext x7 s7, he8, fun v F8 ι8 H8 r8 s8 x8 => ?_⟩
                            have l8 := (l6.ext x7 s7).ext x8 s8
                            refine ⟨accj, l8.d, ?_, S8, F8, ι8, accj ++ [v], daccj ++ [de], fs, l8.app (x1.free hD) r8, ((k6.trans (Ext0.kept s6 x7)).trans (Ext0.kept s7 x8)).trans (Kept.upd l8.n1), ((sr6.ext x7 s7).ext x8 s8).upd l8.n1 l8.n2 nD, hr9, by rw [hdj]; simp⟩
                            have e1 : accj.length = daccj.length := lj.r.length
                            have e2 : ds.length = daccj.length + (fs.length + es.length) + 1 := by rw [hdj]; simp; omega
                            show accj.length < 16777216
                            have : ds.length ≤ 16777216 := hlen
                            omega
                      · cases hrj
                  · have e : j = ys.length := by omega
                    subst e
                    rw [List.drop_length] at hrj
                    simp only [compF] at hrj
                    cases hrj
                    exact .inl ⟨ok4.stops _ _ _ kj, _, Fj, ιj, accj, daccj, es, lj, hr, by simpa using hdj⟩
          · cases hrest
      · have e : i = xs.length := by omega
        subst e
        rw [List.drop_length] at hrest
        simp only [comp2F] at hrest
        cases hrest
        refine .inl ⟨ok.stops _ _ _ l.k, q (.ref D) Fc ιc H' (.inl ⟨rfl, D, rfl, .lst l.d (by rw [hds]; simpa using l.r), l.n1, l.n2, x1.free hD⟩) l.s l.x⟩
    · cases h3
end
/-! ### dicts -/
theorem decide_keyD {k k' : Key} : (toKK (keyD k') = some (.k k)) ↔ k' = k := by
  rw [toKK_keyD]
  constructor
  · intro h; cases h; rfl
  · rintro rfl; rfl
section
variable {K : PySem.W.Frag} {F F' F'' : Addr → Prop} {ι ι' ι'' : List Addr} {H H' H'' : Hp} {S S' : Sto}
theorem RpK.map {kvs : List (Key × V)} {ps : List (PyData × PyData)} {k : Key} {v : V} {d : PyData} (r : RpK K F ι H kvs ps) (rv : Rp K F ι H v d) : RpK K F ι H (kvs.map fun kv => if kv.1 = k then (kv.1, v) else kv) (ps.map fun p => if toKK p.1 = some (.k k) then (p.1, d) else p) := by
  induction ps generalizing kvs with
  | nil => cases r; exact .nil
  | cons p ps ih =>
    cases r with
    | @cons k' v' _ d' _ h t =>
      simp only [List.map_cons]
      by_cases e : k' = k
      · rw [if_pos e, if_pos (decide_keyD.mpr e)]; exact .cons rv (ih t)
      · rw [if_neg e, if_neg (fun z => e (decide_keyD.mp z))]; exact .cons h (ih t)
theorem RpK.any {kvs : List (Key × V)} {ps : List (PyData × PyData)} {k : Key} (r : RpK K F ι H kvs ps) : (kvs.any fun kv => decide (kv.1 = k)) = (ps.any fun p => decide (toKK p.1 = some (.k k))) := by
  induction ps generalizing kvs with
  | nil => cases r; rfl
  | cons p ps ih =>
    cases r with
    | @cons k' v' _ d' _ h t =>
      simp only [List.any_cons, ih t]
      congr 1
      by_cases e : k' = k
      · simp [e, toKK_keyD]
      · simp [e, toKK_keyD]
theorem RpK.append {kvs kvs2 : List (Key × V)} {ps ps2 : List (PyData × PyData)} (r : RpK K F ι H kvs ps) (r2 : RpK K F ι H kvs2 ps2) : RpK K F ι H (kvs ++ kvs2) (ps ++ ps2) := by
  induction ps generalizing kvs with
  | nil => cases r; exact r2
  | cons p ps ih => cases r with | cons h t => exact .cons h (ih t)
theorem RpK.put {kvs : List (Key × V)} {ps : List (PyData × PyData)} {k : Key} {v : V} {d : PyData} (r : RpK K F ι H kvs ps) (rv : Rp K F ι H v d) : RpK K F ι H (putK kvs k v) (putD (.k k) (keyD k) d ps) := by
  unfold putK putD
  rw [r.any]
  by_cases h : (ps.any fun p => decide (toKK p.1 = some (.k k))) = true
  · rw [if_pos h, if_pos h]; exact r.map rv
  · rw [if_neg h, if_neg h]; exact r.append (.cons rv .nil)
theorem Rp.key {v : V} {k : Key} (h : Rp K F ι H v (keyD k)) : v = kV k := by
  rcases k with k | k <;> (cases h; rfl)
structure Dc (K : PySem.W.Frag) (F0 : Addr → Prop) (ι0 : List Addr) (H0 : Hp) (F1 : Addr → Prop) (ι1 : List Addr) (H1 : Hp) (S : Sto) (F : Addr → Prop) (ι : List Addr) (H : Hp) (D : Addr) (acc : List (Key × V)) (ds : List (PyData × PyData)) : Prop where
  s : Ss K S F ι H
  k : Kept F1 ι1 H1 F ι H
  x : Ext0 F0 ι0 H0 F ι H
  d : H D = some (.dK acc)
  r : RpK K F ι H acc ds
  n1 : ¬ F D
  n2 : D ∉ ι
theorem Dc.ext {F0 ι0 H0 F1 ι1 H1 D acc ds} (l : Dc K F0 ι0 H0 F1 ι1 H1 S F ι H D acc ds) (x : Ext0 F ι H F' ι' H') (s : Ss K S' F' ι' H') : Dc K F0 ι0 H0 F1 ι1 H1 S' F' ι' H' D acc ds :=
  have k := Ext0.kept l.s x
  ⟨s, l.k.trans k, l.x.trans x, x.h D _ l.d l.n2 id, l.r.kept k, fun z => by
    rcases x.fn D z with z | z | z
    · exact l.n1 z
    · rw [l.d] at z; cases z
    · exact z, fun z => by
    rcases x.inew D z with z | z
    · exact l.n2 z
    · rw [l.d] at z; cases z⟩
theorem Dc.app {F0 ι0 H0 F1 ι1 H1 D acc ds y e k} (l : Dc K F0 ι0 H0 F1 ι1 H1 S F ι H D acc ds) (hD : H0 D = none) (r : Rp K F ι H y e) : Dc K F0 ι0 H0 F1 ι1 H1 S F ι (L2.upd H D (.dK (putK acc k y))) D (putK acc k y) (putD (.k k) (keyD k) e ds) :=
  have kk : Kept F ι H F ι (L2.upd H D (.dK (putK acc k y))) := Kept.upd l.n1
  ⟨l.s.upd l.n1 l.n2, l.k.trans kk, l.x.updNew hD, upd_same, (l.r.put r).kept kk, l.n1, l.n2⟩
theorem Dc.start {F0 ι0 H0 F1 ι1 H1 D} (s : Ss K S F1 ι1 H1) (x : Ext0 F0 ι0 H0 F1 ι1 H1) (hD : H1 D = none) : Dc K F0 ι0 H0 F1 ι1 H1 S F1 ι1 (L2.upd H1 D (.dK [])) D [] [] :=
  have n1 : ¬ F1 D := fun z => s.dom D z hD
  have n2 : D ∉ ι1 := fun z => s.there z hD
  ⟨s.upd n1 n2, Kept.upd n1, x.updNew (x.free hD), upd_same, .nil, n1, n2⟩
end
def dcF (it : ListF) (t : Tg) (ft fk fv : RunF) (own : List Nat) : RunF := fun ρ S => match it ρ S with
    | none => none
    | some (xs, S1) => (dcompF (bindT t) ft fk fv (wipeE ρ own) [] xs S1).map fun p => (.dict p.1, p.2)
section
variable {K : PySem.W.Frag}
theorem dc_read {it : ListF} {t : Tg} {ft fk fv : RunF} {own : List Nat} (hs : ∀ j ∈ tgS t, j ∈ own) {σ H Q} (h : tN K (dcF it t ft fk fv own) σ H Q) : tDc (tI K it) (tG K (bindT t) (tgS t)) (tT K ft) (tV K fk) (tV K fv) own σ H Q := by
  obtain ⟨ρ, S, F, ι, d, S', sr, e1, q⟩ := h
  unfold dcF at e1
  split at e1
  · cases e1
  · rename_i xs S1 h1
    simp only [Option.map_eq_some_iff] at e1
    obtain ⟨⟨ds, S2⟩, h2, h3⟩ := e1
    cases h3
    refine ⟨ρ, S, F, ι, xs, S1, sr, h1, fun J F1 ι1 H1 ok s1 x1 D hD => ?_⟩
    have srw := sr.wipe own
    refine ⟨fun i m H' => m = xs.length - i ∧ i ≤ xs.length ∧ ∃ Sc Fc ιc acc dacc, Dc K F ι H F1 ι1 H1 Sc Fc ιc H' D acc dacc ∧ dcompF (bindT t) ft fk fv (wipeE ρ own) dacc (xs.drop i) Sc = some (ds, S2),
      ⟨xs.length, by simp, Nat.zero_le _, S1, F1, ι1, [], [], Dc.start s1 x1 hD, h2⟩, ?_⟩
    rintro i m H' ⟨rfl, hi, Sc, Fc, ιc, acc, dacc, l, hrest⟩
    by_cases hlt : i < xs.length
    · refine .inr ⟨ok.goes i _ _ _ l.k hlt, fun H2 => ∃ Sc Fc ιc acc dacc, Dc K F ι H F1 ι1 H1 Sc Fc ιc H2 D acc dacc ∧ dcompF (bindT t) ft fk fv (wipeE ρ own) dacc (xs.drop (i + 1)) Sc = some (ds, S2),
        fun H2 p => ⟨xs.length - (i + 1), by omega, rfl, hlt, p⟩, fun x H2 y => ?_⟩
      obtain ⟨dx, F2, hx, rx, s2, x2⟩ := ok.yields i _ _ _ x H2 Sc l.k l.s hlt y
      have l2 := l.ext x2 s2
      rw [List.drop_eq_getElem_cons hlt] at hrest
      have hx' : xs[i] = dx := by rw [List.getElem?_eq_getElem hlt] at hx; cases hx; rfl
      rw [hx'] at hrest
      simp only [dcompF] at hrest
      split at hrest
      · cases hrest
      · rename_i ρ1 hb
        refine ⟨wipeE ρ own, Sc, F2, ιc, dx, ρ1, srw.ext l2.x s2, rx, hb, fun σ2 sr2 _ hw => ⟨(hw own hs).trans wipe_idem, ?_⟩⟩
        split at hrest
        · rename_i S3 ht
          refine ⟨ρ1, Sc, F2, ιc, false, S3, sr2, ht, fun F3 ι3 H3 s3 x3 => ?_⟩
          exact iteF ⟨S3, F3, ι3, acc, dacc, l2.ext x3 s3, hrest⟩
        · rename_i S3 ht
          refine ⟨ρ1, Sc, F2, ιc, true, S3, sr2, ht, fun F3 ι3 H3 s3 x3 => iteT ?_⟩
          split at hrest
          · cases hrest
          · rename_i dk S4 hk
            split at hrest
            · cases hrest
            · rename_i dv S5 hv
              split at hrest
              · cases hrest
              · rename_i kk hkk
                split at hrest
                · rename_i hz
                  refine ⟨ρ1, S3, F3, ι3, dk, S4, sr2.ext x3 s3, hk, fun yk F4 ι4 H4 r4 s4 x4 => ⟨ρ1, S4, F4, ι4, dv, S5, (sr2.ext x3 s3).ext x4 s4, hv, fun yv F5 ι5 H5 r5 s5 x5 => ?_⟩⟩
                  have l5 := ((l2.ext x3 s3).ext x4 s4).ext x5 s5
                  have ek := toKey_inv hkk
                  subst ek
                  exact ⟨acc, kk, r4.key, l5.d, by rw [l.r.length]; exact hz, S5, F5, ι5, _, _, l5.app (x1.free hD) r5, hrest⟩
                · cases hrest
        · cases hrest
    · have e : i = xs.length := by omega
      subst e
      rw [List.drop_length] at hrest
      simp only [dcompF] at hrest
      cases hrest
      exact .inl ⟨ok.stops _ _ _ l.k, q (.ref D) Fc ιc H' (.inl ⟨rfl, D, rfl, .dic l.d l.r, l.n1, l.n2, x1.free hD⟩) l.s l.x⟩
end
end CH
set_option Elab.async false
set_option linter.all false
set_option maxRecDepth 100000
set_option maxHeartbeats 1000000
/-! statements -/
namespace CH
open PySem PySem.Spec PyProof.Rows L2
/-- what a statement leaves as it was -/
structure Al (ρ : Env') (σ : L2.St) (F : Addr → Prop) (ι : List Addr) (H : Hp) (ρ' : Env') (σ' : L2.St) (F' : Addr → Prop) (ι' : List Addr) (H' : Hp) : Prop where
  x : Ext (OwnA ρ σ) F ι H F' ι' H'
  o : ∀ a, OwnA ρ' σ' a → OwnA ρ σ a ∨ H a = none
section
variable {K : PySem.W.Frag} {ρ ρ1 ρ' : Env'} {S S1 S' : Sto} {F F1 F' : Addr → Prop} {ι ι1 ι' : List Addr} {σ σ1 σ' : L2.St} {H H1 H' : Hp} {i n : Nat} {d d' : D} {v : V} {a : Addr} {u : HO}
theorem Al.refl : Al ρ σ F ι H ρ σ F ι H := ⟨.refl, fun _ h => .inl h⟩
theorem Al.trans (p : Al ρ σ F ι H ρ1 σ1 F1 ι1 H1) (q : Al ρ1 σ1 F1 ι1 H1 ρ' σ' F' ι' H') : Al ρ σ F ι H ρ' σ' F' ι' H' :=
  ⟨p.x.trans2 q.x p.o, fun a h => by
    rcases q.o a h with z | z
    · exact p.o a z
    · exact .inr (p.x.free z)⟩
theorem Al.of0 (x : Ext0 F ι H F' ι' H') : Al ρ σ F ι H ρ σ F' ι' H' := ⟨x.wide (fun _ z => z.elim), fun _ h => .inl h⟩
/-- .. and the slots' own are among the old -/
theorem Al.of (x : Ext0 F ι H F' ι' H') (o : ∀ a, OwnA ρ' σ' a → OwnA ρ σ a) : Al ρ σ F ι H ρ' σ' F' ι' H' := ⟨x.wide (fun _ z => z.elim), fun a h => .inl (o a h)⟩
theorem Al.kept (s : SR K ρ S F ι σ H) (p : Al ρ σ F ι H ρ' σ' F' ι' H') : Kept F ι H F' ι' H' := Ext.kept p.x s.ss.iF fun a h => (s.ownA h).elim fun _ z => z.2.1
end
def EndS (K : PySem.W.Frag) (D : Ends) (fl : Fl) (σ' : L2.St) (F' : Addr → Prop) (ι' : List Addr) (H' : Hp) : Prop := match fl with
  | .nx => D.nx σ' H'
  | .bk => D.bk σ' H'
  | .ct => D.ct σ' H'
  | .rt d => ∀ v, Rp K F' ι' H' v d → D.rt v H'
def tS (K : PySem.W.Frag) (f : ExecF) : TS := fun D σ H => ∃ ρ S F ι fl ρ' S', SR K ρ S F ι σ H ∧ f ρ S = some (fl, ρ', S') ∧
  ∀ σ' F' ι' H', SR K ρ' S' F' ι' σ' H' → Al ρ σ F ι H ρ' σ' F' ι' H' → EndS K D fl σ' F' ι' H'
section
variable {K : PySem.W.Frag} {ρ ρ1 ρ' : Env'} {S S1 S' : Sto} {F F1 F' : Addr → Prop} {ι ι1 ι' : List Addr} {σ σ1 σ' : L2.St} {H H1 H' : Hp} {i n : Nat} {d d' o : D} {v : V} {a : Addr} {u : HO}
/-! ### freezing -/
theorem SR.freeze (s : SR K ρ S F ι σ H) (h1 : ρ[i]? = some (some (true, d))) (h2 : σ[i]? = some (some (.ref a))) (h : H' a ≠ none) (hk : ∀ b, b ≠ a → H' b = H b) (r : Rp K (fun b => F b ∨ b = a) ι H' (.ref a) d) : SR K (ρ.set i (some (false, d))) S (fun b => F b ∨ b = a) ι σ H' := by
  obtain ⟨a', e1, ho, n1, n2⟩ := s.own i d h1
  have : a' = a := by rw [h2] at e1; cases e1; rfl
  subst this
  have k : Kept F ι H (fun b => F b ∨ b = a') ι H' := ⟨fun _ z => .inl z, fun b o f q => by rw [hk b (by rintro rfl; exact n1 f)]; exact q, [], by simp⟩
  refine ⟨⟨fun b z => ?_, fun b hb z => z.elim (s.ss.iF b hb) (fun e => n2 (e ▸ hb)), s.ss.nd, s.ss.len, fun m b e q1 q2 => ?_⟩, by simp [s.len], fun j e q => ?_, fun j e q => ?_, fun j k b e f q1 q2 q3 q4 => ?_⟩
  · by_cases e : b = a'
    · rw [e]; exact h
    · rw [hk b e]; exact z.elim (s.ss.dom b) (fun z => absurd z e)
  · exact (s.ss.st m b e q1 q2).kept k (fun o q => by rw [hk b (by rintro rfl; exact n2 (List.mem_of_getElem? q1))]; exact q)
  · rcases get_set_some q with ⟨rfl, q'⟩ | ⟨n, q⟩
    · cases q'; exact ⟨_, h2, r⟩
    · obtain ⟨v, e1, e2⟩ := s.val j e q
      exact ⟨v, e1, e2.kept k⟩
  · rcases get_set_some q with ⟨rfl, q'⟩ | ⟨n, q⟩
    · cases q'
    · obtain ⟨b, g1, e2, e3, e4⟩ := s.own j e q
      have ne : b ≠ a' := by rintro rfl; exact n (s.ap i j b d e h1 q h2 g1)
      exact ⟨b, g1, e2.kept k (fun o q => by rw [hk b ne]; exact q), fun z => z.elim e3 (fun z => ne z), e4⟩
  · rcases get_set_some q1 with ⟨rfl, q'⟩ | ⟨n, q1⟩
    · cases q'
    rcases get_set_some q2 with ⟨rfl, q'⟩ | ⟨n, q2⟩
    · cases q'
    exact s.ap j k b e f q1 q2 q3 q4
theorem own_freeze (h : OwnA (ρ.set i (some (false, d))) σ a) : OwnA ρ σ a := by
  obtain ⟨j, e, h1, h2⟩ := h
  rcases get_set_some h1 with ⟨rfl, h⟩ | ⟨n, h⟩
  · cases h
  · exact ⟨j, e, h, h2⟩
theorem al_freeze (s : SR K ρ S F ι σ H) (h1 : ρ[i]? = some (some (true, d))) (h2 : σ[i]? = some (some (.ref a))) (h : H' a ≠ none) (hk : ∀ b, b ≠ a → H' b = H b) : Al ρ σ F ι H (ρ.set i (some (false, d))) σ (fun b => F b ∨ b = a) ι H' := by
  have ow : OwnA ρ σ a := ⟨i, d, h1, h2⟩
  refine ⟨⟨fun b z => .inl z, fun b z => z.elim .inl (fun e => .inr (.inr (e ▸ ow))), fun b o q _ n => ?_, fun b q => ?_, ⟨[], by simp⟩, fun b z => .inl z⟩, fun b z => .inl (own_freeze z)⟩
  · rw [hk b (by rintro rfl; exact n ow)]; exact q
  · by_cases e : b = a
    · rw [e]; exact h
    · rw [hk b e]; exact q
end
section
variable {X : Cx} {pins : List (Addr × Obj)} {ρ ρ1 ρ' : Env'} {S S1 S' : Sto} {F F1 F' : Addr → Prop} {ι ι1 ι' : List Addr} {σ σ1 σ' : L2.St} {H H1 H' : Hp} {s : Shared}
theorem frz1_step (I : Inv X pins σ H s) (sr : SR X.K ρ S F ι σ H) (i : Nat) : ∃ H' F', Inv X pins σ H' s ∧ SR X.K (frz1 ρ i) S F' ι σ H' ∧ Al ρ σ F ι H (frz1 ρ i) σ F' ι H' := by
  unfold frz1
  split
  · rename_i d h1
    obtain ⟨a, h2, ho, n1, n2⟩ := sr.own i d h1
    cases ho with
    | lst q r =>
      have hn : H a ≠ none := by rw [q]; exact fun z => nomatch z
      exact ⟨H, _, I, sr.freeze h1 h2 hn (fun _ _ => rfl) (.lst (.inl ⟨.inr rfl, .inl q⟩) (r.kept ⟨fun _ z => .inl z, fun _ _ _ z => z, [], by simp⟩)), al_freeze sr h1 h2 hn fun _ _ => rfl⟩
    | dic q r =>
      obtain ⟨od, I2⟩ := I.lock q True.intro
      rename_i kvs ps
      have hn : upd H a (.frz od (.dK kvs)) a ≠ none := by rw [upd_same]; exact fun z => nomatch z
      exact ⟨_, _, I2, sr.freeze h1 h2 hn (fun _ z => upd_ne z) (.dic (.inr rfl) upd_same (r.kept (Kept.lock sr.ss n1))), al_freeze sr h1 h2 hn fun _ z => upd_ne z⟩
    | dit q r =>
      obtain ⟨od, I2⟩ := I.lock q True.intro
      rename_i kvs ps
      have hn : upd H a (.frz od (.dT kvs)) a ≠ none := by rw [upd_same]; exact fun z => nomatch z
      exact ⟨_, _, I2, sr.freeze h1 h2 hn (fun _ z => upd_ne z) (.dit (.inr rfl) upd_same (r.kept (Kept.lock sr.ss n1))), al_freeze sr h1 h2 hn fun _ z => upd_ne z⟩
  · exact ⟨H, F, I, sr, .refl⟩
theorem frz_step (l : List Nat) : ∀ {ρ : Env'} {F : Addr → Prop} {H : Hp}, Inv X pins σ H s → SR X.K ρ S F ι σ H → ∃ H' F', Inv X pins σ H' s ∧ SR X.K (frz ρ l) S F' ι σ H' ∧ Al ρ σ F ι H (frz ρ l) σ F' ι H' := by
  induction l with
  | nil => intro ρ F H I sr; exact ⟨H, F, I, sr, .refl⟩
  | cons i l ih =>
    intro ρ F H I sr
    obtain ⟨H1, F1, I1, s1, a1⟩ := frz1_step I sr i
    obtain ⟨H2, F2, I2, s2, a2⟩ := ih I1 s1
    exact ⟨H2, F2, I2, s2, a1.trans a2⟩
theorem PS.imp {st : Stmt} {t t' : TS} (h : PS X st t) (i : ∀ D σ H, t' D σ H → t D σ H) : PS X st t' := ⟨fun pins s σ H D I q => h.run pins s σ H D I (i D σ H q)⟩
theorem PSs.imp {st : List Stmt} {t t' : TS} (h : PSs X st t) (i : ∀ D σ H, t' D σ H → t D σ H) : PSs X st t' := ⟨fun pins s σ H D I q => h.run pins s σ H D I (i D σ H q)⟩
theorem sFrz {st : Stmt} {f : ExecF} (l : List Nat) (h : PS X st (tS X.K f)) : PS X st (tS X.K fun ρ S => f (frz ρ l) S) := by
  refine ⟨fun pins s σ H D I ⟨ρ, S, F, ι, fl, ρ', S', sr, e, q⟩ => ?_⟩
  obtain ⟨H2, F2, I2, s2, a2⟩ := frz_step l I sr
  exact h.run pins s σ H2 D I2 ⟨frz ρ l, S, F2, ι, fl, ρ', S', s2, e, fun σ' F' ι' H' s' a' => q σ' F' ι' H' s' (a2.trans a')⟩
end
section
variable {X : Cx} {pos pos' : Pos} {e c : Expr} {fa fe : RunF} {K : PySem.W.Frag} {tg : Expr}
/-! ### stores -/
def asgF (bnd : D → Env' → Option Env') (fe : RunF) : ExecF := fun ρ S => match fe ρ S with
    | none => none
    | some (d, S1) => (bnd d ρ).map fun ρ1 => (.nx, ρ1, S1)
theorem asgF_inv {bnd : D → Env' → Option Env'} {ρ S fl ρ' S'} (h : asgF bnd fe ρ S = some (fl, ρ', S')) : ∃ d, fe ρ S = some (d, S') ∧ bnd d ρ = some ρ' ∧ fl = .nx := by
  unfold asgF at h
  split at h
  · cases h
  · rename_i d S1 h1
    simp only [Option.map_eq_some_iff, Prod.mk.injEq] at h
    obtain ⟨ρ1, h2, rfl, rfl, rfl⟩ := h
    exact ⟨d, h1, h2, rfl⟩
/-- target = a value -/
theorem sAsg {T : Tg} (he : PE X e (tV X.K fe)) (hg : PG X tg (tG X.K (bindT T) (tgS T))) (hs : swapsWithSole [tg] e pos.line X.env = pure false) (hw : swappedStores [tg] e X.env = pure none) (hn : notStar tg = true) : PS X (.Assign [tg] e pos) (tS X.K (asgF (bindT T) fe)) :=
  PS.imp (ps_asg he hg hs hw (by rw [assignEach_of hn]; rfl)) fun D σ H ⟨ρ, S, F, ι, fl, ρ', S', sr, e1, q⟩ => by
    obtain ⟨d, h1, h2, rfl⟩ := asgF_inv e1
    exact ⟨ρ, S, F, ι, d, S', sr, h1, fun v F1 ι1 H1 r1 s1 x1 => ⟨ρ, S', F1, ι1, d, ρ', sr.ext x1 s1, r1, h2, fun σ' sr' o' _ => q σ' F1 ι1 H1 sr' (.of x1 o')⟩⟩
/-- a new list or dict in a name -/
def bindO (i : Nat) : D → Env' → Option Env' := fun d ρ => setS ρ i (isCont d) d
theorem asgO_read {i : Nat} {D σ H} (h : tS K (asgF (bindO i) fe) D σ H) : tAsg (tN K fe) (gName i) D σ H := by
  obtain ⟨ρ, S, F, ι, fl, ρ', S', sr, e1, q⟩ := h
  obtain ⟨d, h1, h2, rfl⟩ := asgF_inv e1
  obtain ⟨hi, rfl⟩ := setS_inv h2
  refine ⟨ρ, S, F, ι, d, S', sr, h1, fun v F1 ι1 H1 r1 s1 x1 => ?_⟩
  have sr1 := sr.ext x1 s1
  rcases r1 with ⟨hc, a, rfl, o, n1, n2, n3⟩ | ⟨hc, r⟩
  · rw [hc] at q
    have nO : ¬ OwnA ρ σ a := fun z => sr.there z n3
    exact q _ F1 ι1 H1 (sr1.setO o n1 n2 nO) ⟨x1.wide fun _ z => z.elim, fun b z => by
      rcases sr.own_setO z with z | z
      · exact .inl z
      · exact .inr (z ▸ n3)⟩
  · rw [hc] at q
    exact q _ F1 ι1 H1 (sr1.set r) (.of x1 fun a h => sr.own_set h)
theorem sNew {i : Nat} {x : Str} {pos' : Pos} (hN : X.N.Nodup) (hi : X.N[i]? = some x) (hx : Loc X.env.scope x) (he : PE X e (tN X.K fe)) (hs : swapsWith e (some (.Name x pos')) pos.line X.env = pure false) (hf : X.fn x = true ∨ X.env.scope.names.lookup x = some .local) :
    PS X (.Assign [.Name x pos'] e pos) (tS X.K (asgF (bindO i) fe)) := PS.imp (ps_set hN hi hx he hs hf) fun _ _ _ => asgO_read
/-! ### changes of an object -/
theorem SR.chgOwn {ρ : Env'} {S : Sto} {F : Addr → Prop} {ι : List Addr} {σ : L2.St} {H : Hp} {i : Nat} {d d' : D} {a : Addr} {u : HO} (s : SR K ρ S F ι σ H) (h1 : ρ[i]? = some (some (true, d))) (h2 : σ[i]? = some (some (.ref a))) (o : OwnRp K F ι (L2.upd H a u) a d') : SR K (ρ.set i (some (true, d'))) S F ι σ (L2.upd H a u) ∧ Al ρ σ F ι H (ρ.set i (some (true, d'))) σ F ι (L2.upd H a u) := by
  obtain ⟨a', e1, ho, n1, n2⟩ := s.own i d h1
  have : a' = a := by rw [h2] at e1; cases e1; rfl
  subst this
  have hi : i < ρ.length := (List.getElem?_eq_some_iff.mp h1).1
  have ow : OwnA ρ σ a' := ⟨i, d, h1, h2⟩
  have k : Kept F ι H F ι (L2.upd H a' u) := Kept.upd n1
  have oo : ∀ b, OwnA (ρ.set i (some (true, d'))) σ b → OwnA ρ σ b := fun b z => by
    obtain ⟨j, e, q1, q2⟩ := z
    rcases get_set_some q1 with ⟨rfl, q⟩ | ⟨n, q⟩
    · exact ⟨i, d, h1, q2⟩
    · exact ⟨j, e, q, q2⟩
  refine ⟨⟨s.ss.upd n1 n2, by simp [s.len], fun j e q => ?_, fun j e q => ?_, fun j k b e f q1 q2 q3 q4 => ?_⟩, ⟨⟨fun _ z => z, fun _ z => .inl z, fun b o q _ n => ?_, fun b q => ?_, ⟨[], by simp⟩, fun _ z => .inl z⟩, fun b z => .inl (oo b z)⟩⟩
  · rcases get_set_some q with ⟨rfl, q'⟩ | ⟨n, q⟩
    · cases q'
    · obtain ⟨v, e1, e2⟩ := s.val j e q
      exact ⟨v, e1, e2.kept k⟩
  · rcases get_set_some q with ⟨rfl, q'⟩ | ⟨n, q⟩
    · cases q'; exact ⟨_, h2, o, n1, n2⟩
    · obtain ⟨b, g1, e2, e3, e4⟩ := s.own j e q
      have ne : b ≠ a' := by rintro rfl; exact n (s.ap i j b d e h1 q h2 g1)
      exact ⟨b, g1, e2.kept k (fun o q => by rw [upd_ne ne]; exact q), e3, e4⟩
  · have old : ∀ {j e}, (ρ.set i (some (true, d')))[j]? = some (some (true, e)) → ∃ e', ρ[j]? = some (some (true, e')) := fun {j e} q => by
      rcases get_set_some q with ⟨rfl, q'⟩ | ⟨n, q⟩
      · exact ⟨d, h1⟩
      · exact ⟨e, q⟩
    obtain ⟨e', q1⟩ := old q1
    obtain ⟨f', q2⟩ := old q2
    exact s.ap j k b e' f' q1 q2 q3 q4
  · rw [upd_ne (by rintro rfl; exact n ow)]; exact q
  · by_cases e : b = a'
    · rw [e, upd_same]; exact fun z => nomatch z
    · rw [upd_ne e]; exact q
theorem nodup_get {α : Type} {l : List α} (h : l.Nodup) {n m : Nat} (hn : n < l.length) (hm : m < l.length) (e : l[n] = l[m]) : n = m := by
  rw [List.nodup_iff_pairwise_ne, List.pairwise_iff_getElem] at h
  rcases Nat.lt_trichotomy n m with q | q | q
  · exact absurd e (h n m hn hm q)
  · exact q
  · exact absurd e.symm (h m n hm hn q)
theorem SR.chgLoc {ρ : Env'} {S : Sto} {F : Addr → Prop} {ι : List Addr} {σ : L2.St} {H : Hp} {n : Nat} {d' : D} {a : Addr} {u : HO} (s : SR K ρ S F ι σ H) (h1 : ι[n]? = some a) (o : OwnRp K F ι (L2.upd H a u) a d') : SR K ρ (S.set n d') F ι σ (L2.upd H a u) ∧ Al ρ σ F ι H ρ σ F ι (L2.upd H a u) := by
  have hm := List.mem_of_getElem? h1
  have n1 : ¬ F a := s.ss.iF a hm
  have k : Kept F ι H F ι (L2.upd H a u) := Kept.upd n1
  have dom : ∀ b, H b ≠ none → L2.upd H a u b ≠ none := fun b q => by
    by_cases e : b = a
    · rw [e, upd_same]; exact fun z => nomatch z
    · rw [upd_ne e]; exact q
  refine ⟨⟨⟨fun b z => dom b (s.ss.dom b z), s.ss.iF, s.ss.nd, by simp [s.ss.len], fun m b e q1 q2 => ?_⟩, s.len, fun j e q => ?_, fun j e q => ?_, s.ap⟩, ⟨⟨fun _ z => z, fun _ z => .inl z, fun b o q hi _ => ?_, fun b q => dom b q, ⟨[], by simp⟩, fun _ z => .inl z⟩, fun b z => .inl z⟩⟩
  · by_cases e : n = m
    · subst e
      rw [h1] at q1; cases q1
      by_cases hl : n < S.length
      · rw [List.getElem?_set_self hl] at q2; cases q2; exact o
      · rw [List.getElem?_eq_none (by simpa using hl)] at q2; cases q2
    · rw [List.getElem?_set_ne e] at q2
      have ne : b ≠ a := by
        rintro rfl
        obtain ⟨z1, z2⟩ := List.getElem?_eq_some_iff.mp h1
        obtain ⟨z3, z4⟩ := List.getElem?_eq_some_iff.mp q1
        exact e (nodup_get s.ss.nd z1 z3 (z2.trans z4.symm))
      exact (s.ss.st m b _ q1 q2).kept k (fun o q => by rw [upd_ne ne]; exact q)
  · obtain ⟨v, e1, e2⟩ := s.val j e q
    exact ⟨v, e1, e2.kept k⟩
  · obtain ⟨b, e1, e2, e3, e4⟩ := s.own j e q
    exact ⟨b, e1, e2.kept k (fun o q => by rw [upd_ne (by rintro rfl; exact e4 hm)]; exact q), e3, e4⟩
  · rw [upd_ne (by rintro rfl; exact hi hm)]; exact q
/-- the object that a slot bears -/
theorem chg_inv {ρ S i f ρ' S'} {F : Addr → Prop} {ι : List Addr} {σ : L2.St} {H : Hp} (s : SR K ρ S F ι σ H) (h : chg ρ S i f = some (ρ', S')) : ∃ a d d', σ[i]? = some (some (.ref a)) ∧ OwnRp K F ι H a d ∧ ¬ F a ∧ f d = some d' ∧
    ∀ u, OwnRp K F ι (upd H a u) a d' → SR K ρ' S' F ι σ (upd H a u) ∧ Al ρ σ F ι H ρ' σ F ι (upd H a u) := by
  unfold chg at h
  split at h
  · rename_i d h1
    simp only [Option.map_eq_some_iff, Prod.mk.injEq] at h
    obtain ⟨d', h2, rfl, rfl⟩ := h
    obtain ⟨a, e1, o, n1, n2⟩ := s.own i d h1
    exact ⟨a, d, d', e1, o, n1, h2, fun u hu => s.chgOwn h1 e1 hu⟩
  · rename_i d h1
    split at h
    · rename_i n h2
      split at h
      · rename_i o h3
        simp only [Option.map_eq_some_iff, Prod.mk.injEq] at h
        obtain ⟨d', h4, rfl, rfl⟩ := h
        obtain ⟨v, e1, r⟩ := s.val i d h1
        obtain ⟨a, rfl, hι⟩ := r.loc_of h2
        exact ⟨a, o, d', e1, s.ss.st n a o hι h3, s.ss.iF a (List.mem_of_getElem? hι), h4, fun u hu => s.chgLoc hι hu⟩
      · cases h
    · cases h
  · cases h
def appF (i : Nat) (fe : RunF) : ExecF := fun ρ S => if isLst ρ S i then (match fe ρ S with
    | none => none
    | some (v, S1) => (chg ρ S1 i fun o => appAt o v).map fun p => (.nx, p.1, p.2)) else none
theorem isLst_inv {ρ S i} {F : Addr → Prop} {ι : List Addr} {σ : L2.St} {H : Hp} (s : SR K ρ S F ι σ H) (h : isLst ρ S i = true) : ∃ a xs, σ[i]? = some (some (.ref a)) ∧ H a = some (.lst xs) := by
  unfold isLst at h
  split at h
  · rename_i l h1
    obtain ⟨a, e1, o, n1, n2⟩ := s.own i _ h1
    cases o with
    | lst q r => exact ⟨a, _, e1, q⟩
  · rename_i d h1
    split at h
    · rename_i n h2
      split at h
      · rename_i l h3
        obtain ⟨v, e1, r⟩ := s.val i d h1
        obtain ⟨a, rfl, hι⟩ := r.loc_of h2
        have o := s.ss.st n a _ hι h3
        cases o with
        | lst q r => exact ⟨a, _, e1, q⟩
      · cases h
    · cases h
  · cases h
/-- name.append(e) -/
theorem sApp {i : Nat} {x : Str} {p apos cpos spos : Pos} (hx : PE X (.Name x p) (tVar i)) (he : PE X e (tV X.K fe)) (hs : notStar e = true) (hline : (apos.endLine == cpos.line) = true)
    (hbase : attributeBase (.Name x p) "append" X.env (eval (.Name x p) X.env) = eval (.Name x p) X.env) : PS X (.Expr (.Call (.Attribute (.Name x p) "append" apos) [e] [] cpos) spos) (tS X.K (appF i fe)) :=
  PS.imp (ps_expr (pe_bm PySem.F.plainAttrs_list PySem.F.slot_list_append PySem.F.type_list_append mt_append hx (aCons he aNil hs) hbase (by rw [star_of hs [] X.env]; rfl) hline (star_of hs [] X.env) rfl)) fun D σ H ⟨ρ, S, F, ι, fl, ρ', S', sr, e1, q⟩ => by
    unfold appF at e1
    split at e1
    · rename_i hl
      obtain ⟨a, xs, h1, h2⟩ := isLst_inv sr hl
      refine ⟨_, h1, .inl ⟨rfl, _, .of h2⟩, ?_⟩
      split at e1
      · cases e1
      · rename_i d S1 h3
        refine ⟨ρ, S, F, ι, [d], S1, sr, by simp [consF, h3, nilF], fun vs F1 ι1 H1 r1 s1 x1 => ?_⟩
        simp only [Option.map_eq_some_iff] at e1
        obtain ⟨⟨ρ2, S2⟩, h4, h5⟩ := e1
        cases h5
        obtain ⟨a', d0, d1, g1, g2, g3, g4, g5⟩ := chg_inv (sr.ext x1 s1) h4
        have : a' = a := by rw [h1] at g1; cases g1; rfl
        subst this
        cases r1 with
        | @cons v _ _ _ r rr =>
          cases rr
          unfold appAt at g4
          split at g4
          · rename_i l
            split at g4
            · rename_i hz; cases g4
              cases g2 with
              | lst w1 w2 =>
                obtain ⟨z1, z2⟩ := g5 (.lst (_ ++ [v])) (.lst upd_same ((w2.append (.cons r .nil)).kept (Kept.upd g3)))
                refine ⟨a', _, v, rfl, rfl, w1, by rw [w2.length]; exact hz, q σ F1 ι1 _ z1 ((Al.of0 x1).trans z2)⟩
            · cases g4
          · cases g4
    · cases e1
end
end CH
set_option Elab.async false
set_option linter.all false
set_option maxRecDepth 100000
set_option maxHeartbeats 1000000
/-! statements, the rest -/
namespace CH
open PySem PySem.Spec PyProof.Rows L2
theorem decide_tupD {k k' : List Key} : (toKK (.tuple (k'.map keyD)) = some (.t k)) ↔ k' = k := by
  rw [toKK_tup]
  constructor
  · intro h; cases h; rfl
  · rintro rfl; rfl
section
variable {K : PySem.W.Frag} {F F' F'' : Addr → Prop} {ι ι' ι'' : List Addr} {H H' H'' : Hp} {S S' : Sto}
theorem RpT.map {kvs : List (List Key × V)} {ps : List (PyData × PyData)} {k : List Key} {v : V} {d : PyData} (r : RpT K F ι H kvs ps) (rv : Rp K F ι H v d) : RpT K F ι H (kvs.map fun kv => if kv.1 = k then (kv.1, v) else kv) (ps.map fun p => if toKK p.1 = some (.t k) then (p.1, d) else p) := by
  induction ps generalizing kvs with
  | nil => cases r; exact .nil
  | cons p ps ih =>
    cases r with
    | @cons k' v' _ d' _ h t =>
      simp only [List.map_cons]
      by_cases e : k' = k
      · rw [if_pos e, if_pos (decide_tupD.mpr e)]; exact .cons rv (ih t)
      · rw [if_neg e, if_neg (fun z => e (decide_tupD.mp z))]; exact .cons h (ih t)
theorem RpT.any {kvs : List (List Key × V)} {ps : List (PyData × PyData)} {k : List Key} (r : RpT K F ι H kvs ps) : (kvs.any fun kv => decide (kv.1 = k)) = (ps.any fun p => decide (toKK p.1 = some (.t k))) := by
  induction ps generalizing kvs with
  | nil => cases r; rfl
  | cons p ps ih =>
    cases r with
    | @cons k' v' _ d' _ h t =>
      simp only [List.any_cons, ih t]
      congr 1
      by_cases e : k' = k
      · simp [e, toKK_tup]
      · simp [e, toKK_tup]
theorem RpT.append {kvs kvs2 : List (List Key × V)} {ps ps2 : List (PyData × PyData)} (r : RpT K F ι H kvs ps) (r2 : RpT K F ι H kvs2 ps2) : RpT K F ι H (kvs ++ kvs2) (ps ++ ps2) := by
  induction ps generalizing kvs with
  | nil => cases r; exact r2
  | cons p ps ih => cases r with | cons h t => exact .cons h (ih t)
theorem RpT.put {kvs : List (List Key × V)} {ps : List (PyData × PyData)} {k : List Key} {v : V} {d : PyData} (r : RpT K F ι H kvs ps) (rv : Rp K F ι H v d) : RpT K F ι H (putK kvs k v) (putD (.t k) (.tuple (k.map keyD)) d ps) := by
  unfold putK putD
  rw [r.any]
  by_cases h : (ps.any fun p => decide (toKK p.1 = some (.t k))) = true
  · rw [if_pos h, if_pos h]; exact r.map rv
  · rw [if_neg h, if_neg h]; exact r.append (.cons rv .nil)
theorem put_mark (kk : KK) (k v : PyData) (ps : List (PyData × PyData)) : putD kk k v (dtM :: ps) = dtM :: putD kk k v ps := by
  have e : ¬ (toKK dtM.1 = some kk) := by show ¬ (toKK .none = some kk); simp [toKK, toKey]
  have ea : (List.any (dtM :: ps) fun p => decide (toKK p.1 = some kk)) = (List.any ps fun p => decide (toKK p.1 = some kk)) := by
    rw [List.any_cons, decide_eq_false e, Bool.false_or]
  unfold putD
  rw [ea, List.map_cons, if_neg e]
  by_cases h : (List.any ps fun p => decide (toKK p.1 = some kk)) = true
  · rw [if_pos h, if_pos h]
  · rw [if_neg h, if_neg h]; rfl
theorem RpT.length {kvs : List (List Key × V)} {ps : List (PyData × PyData)} (r : RpT K F ι H kvs ps) : kvs.length = ps.length := by
  induction ps generalizing kvs with
  | nil => cases r; rfl
  | cons p ps ih => cases r with | cons h t => simp [ih t]
end
section
variable {X : Cx} {pos pos' : Pos} {e c k : Expr} {fa fe fk : RunF} {K : PySem.W.Frag} {tg : Expr}
theorem pset_or {t u : TSet} (h1 : PSet X t) (h2 : PSet X u) : PSet X fun o i v H Q => t o i v H Q ∨ u o i v H Q := fun pins s σ H o i v ov iv w Q I r1 r2 r3 h =>
  h.elim (h1 pins s σ H o i v ov iv w Q I r1 r2 r3) (h2 pins s σ H o i v ov iv w Q I r1 r2 r3)
def subF (i : Nat) (fe fk : RunF) : ExecF := fun ρ S => match fe ρ S with
    | none => none
    | some (v, S1) => match fk ρ S1 with
      | none => none
      | some (kd, S2) => (chg ρ S2 i fun o => putAt o kd v).map fun p => (.nx, p.1, p.2)
theorem put_step {F : Addr → Prop} {ι : List Addr} {H : Hp} {a : Addr} {o kd vd d' : PyData} {y v : V} {S : Sto} (ho : OwnRp K F ι H a o) (n1 : ¬ F a) (rk : Rp K F ι H y kd) (hk : isLoc kd = none) (rv : Rp K F ι H v vd) (h : putAt o kd vd = some d') :
    ∃ u, OwnRp K F ι (upd H a u) a d' ∧ ∀ Q : Hp → Prop, Q (upd H a u) → rSetL (.ref a) y v H Q ∨ rSetD (.ref a) y v H Q := by
  unfold putAt at h
  split at h
  · rename_i l i
    split at h
    · rename_i hi; cases h
      cases rk
      cases ho with
      | lst q r =>
        rename_i xs
        refine ⟨.lst (xs.set i.toNat v), .lst upd_same ((r.set _ rv).kept (Kept.upd n1)), fun Q hq => .inl ⟨a, xs, i, i.toNat, rfl, rfl, q, ?_, hq⟩⟩
        unfold ixN
        rw [if_pos hi.1, if_pos (by rw [r.length]; exact hi.2)]
    · cases h
  · rename_i ps kd
    split at h
    · rename_i kk hkk
      split at h
      · rename_i hi; cases h
        obtain ⟨h1, h2⟩ := hi
        rcases toKK_inv hkk with ⟨k, rfl, rfl⟩ | ⟨ks, rfl, rfl⟩
        · have ey := rk.key
          subst ey
          cases ho with
          | dic q r =>
            rename_i kvs
            exact ⟨.dK (putK kvs k v), .dic upd_same ((r.put rv).kept (Kept.upd n1)), fun Q hq => .inr ⟨a, _, rfl, .k q (by rw [r.length]; exact h2), hq⟩⟩
          | dit q r => cases h1
        · cases ho with
          | dic q r => rw [r.notDt] at h1; cases h1
          | dit q r =>
            rename_i kvs qs
            rw [put_mark]
            cases rk with
            | tup hf ra =>
              have ex := ra.keys
              subst ex
              exact ⟨.dT (putK kvs ks v), .dit upd_same ((r.put rv).kept (Kept.upd n1)), fun Q hq => .inr ⟨a, _, rfl, .t q hf.2 (by rw [r.length]; show _ < 16777216; have h3 : qs.length + 1 < 16777216 := h2; omega), hq⟩⟩
      · cases h
    · cases h
  · cases h
/-- name[k] = e -/
theorem sSub {i : Nat} {x : Str} {p : Pos} (hu : X.A.units + 1 < cLine) (hx : PE X (.Name x p) (tVar i)) (hk : PE X k (tV X.K fk)) (he : PE X e (tV X.K fe))
    (ha : ∀ v, assign (.Subscript (.Name x p) k pos') X.env v = (do
      let ov ← holding [v] (eval (.Name x p) X.env)
      let iv ← holding [v, ov] (eval k X.env)
      standAt pos'
      holding [v, ov, iv] (setItem ov iv v)
      release [v, ov, iv] [])) (hs : swapsWithSole [.Subscript (.Name x p) k pos'] e pos.line X.env = pure false) (hw : swappedStores [.Subscript (.Name x p) k pos'] e X.env = pure none) :
    PS X (.Assign [.Subscript (.Name x p) k pos'] e pos) (tS X.K (subF i fe fk)) :=
  PS.imp (ps_asg he (pg_sub hx hk (pset_or set_list (set_dict hu)) ha) hs hw rfl) fun D σ H ⟨ρ, S, F, ι, fl, ρ', S', sr, e1, q⟩ => by
    unfold subF at e1
    split at e1
    · cases e1
    · rename_i vd S1 h1
      split at e1
      · cases e1
      · rename_i kd S2 h2
        simp only [Option.map_eq_some_iff] at e1
        obtain ⟨⟨ρ2, S3⟩, h3, h4⟩ := e1
        cases h4
        have hb : ∃ a, σ[i]? = some (some (.ref a)) := by
          unfold chg at h3
          split at h3
          · rename_i d g1; exact (sr.own i d g1).elim fun a z => ⟨a, z.1⟩
          · rename_i d g1
            split at h3
            · rename_i n g2
              obtain ⟨v, w1, w2⟩ := sr.val i d g1
              obtain ⟨a, rfl, _⟩ := w2.loc_of g2
              exact ⟨a, w1⟩
            · cases h3
          · cases h3
        obtain ⟨a0, ha0⟩ := hb
        refine ⟨ρ, S, F, ι, vd, S1, sr, h1, fun v F1 ι1 H1 r1 s1 x1 => ⟨_, ha0, ρ, S1, F1, ι1, kd, S2, sr.ext x1 s1, h2, fun y F2 ι2 H2 r2 s2 x2 => ?_⟩⟩
        obtain ⟨a, d0, d1, g1, g2, g3, g4, g5⟩ := chg_inv (sr.ext (x1.trans x2) s2) h3
        have : a0 = a := by rw [ha0] at g1; cases g1; rfl
        subst this
        have hkl : isLoc kd = none := by
          cases hq : isLoc kd with
          | none => rfl
          | some n =>
            obtain ⟨i, rfl, _⟩ := isLoc_eq hq
            unfold putAt at g4
            cases d0 <;> simp [toKK, toKey] at g4
        obtain ⟨u, z1, z2⟩ := put_step (S := S2) g2 g3 r2 hkl (r1.kept (Ext0.kept s1 x2)) g4
        obtain ⟨z3, z4⟩ := g5 u z1
        exact z2 _ (q σ F2 ι2 _ z3 ((Al.of0 (x1.trans x2)).trans z4))
/-! ### plain statements -/
def exprF (fe : RunF) : ExecF := fun ρ S => match fe ρ S with
    | none => none
    | some (_, S1) => some (.nx, ρ, S1)
theorem sExpr (he : PE X e (tV X.K fe)) (hs : swapsWith e none pos.line X.env = pure false) : PS X (.Expr e pos) (tS X.K (exprF fe)) :=
  PS.imp (ps_expr he hs) fun D σ H ⟨ρ, S, F, ι, fl, ρ', S', sr, e1, q⟩ => by
    unfold exprF at e1
    split at e1
    · cases e1
    · rename_i d S1 h1; cases e1
      exact ⟨_, S, F, ι, d, _, sr, h1, fun v F1 ι1 H1 r1 s1 x1 => q σ F1 ι1 H1 (sr.ext x1 s1) (.of0 x1)⟩
def retF (fe : RunF) : ExecF := fun ρ S => match fe ρ S with
    | none => none
    | some (d, S1) => some (.rt d, ρ, S1)
theorem sRet (he : PE X e (tV X.K fe)) : PS X (.Return (some e) pos) (tS X.K (retF fe)) :=
  PS.imp (ps_ret he) fun D σ H ⟨ρ, S, F, ι, fl, ρ', S', sr, e1, q⟩ => by
    unfold retF at e1
    split at e1
    · cases e1
    · rename_i d S1 h1; cases e1
      exact ⟨_, S, F, ι, d, _, sr, h1, fun v F1 ι1 H1 r1 s1 x1 => q σ F1 ι1 H1 (sr.ext x1 s1) (.of0 x1) v r1⟩
theorem sRetN : PS X (.Return none pos) (tS X.K fun ρ S => some (.rt .none, ρ, S)) := PS.imp ps_retN fun D σ H ⟨ρ, S, F, ι, fl, ρ', S', sr, e1, q⟩ => by
  cases e1; exact q σ F ι H sr .refl .non .non
theorem sPass : PS X (.Pass pos) (tS X.K fun ρ S => some (.nx, ρ, S)) := PS.imp ps_pass fun D σ H ⟨ρ, S, F, ι, fl, ρ', S', sr, e1, q⟩ => by
  cases e1; exact q σ F ι H sr .refl
theorem sDoc {x : Str} {j pos pos'} : PS X (.Expr (.Constant (.str x) j pos) pos') (tS X.K fun ρ S => some (.nx, ρ, S)) := PS.imp ps_doc fun D σ H ⟨ρ, S, F, ι, fl, ρ', S', sr, e1, q⟩ => by
  cases e1; exact q σ F ι H sr .refl
theorem sBrk : PS X (.Break pos) (tS X.K fun ρ S => some (.bk, ρ, S)) := PS.imp ps_break fun D σ H ⟨ρ, S, F, ι, fl, ρ', S', sr, e1, q⟩ => by
  cases e1; exact q σ F ι H sr .refl
theorem sCnt : PS X (.Continue pos) (tS X.K fun ρ S => some (.ct, ρ, S)) := PS.imp ps_continue fun D σ H ⟨ρ, S, F, ι, fl, ρ', S', sr, e1, q⟩ => by
  cases e1; exact q σ F ι H sr .refl
theorem ssNil : PSs X [] (tS X.K fun ρ S => some (.nx, ρ, S)) := PSs.imp pss_nil fun D σ H ⟨ρ, S, F, ι, fl, ρ', S', sr, e1, q⟩ => by
  cases e1; exact q σ F ι H sr .refl
def seqS (f g : ExecF) : ExecF := fun ρ S => match f ρ S with
    | some (.nx, ρ1, S1) => g ρ1 S1
    | r => r
theorem ssCons {st : Stmt} {l : List Stmt} {f g : ExecF} (h1 : PS X st (tS X.K f)) (h2 : PSs X l (tS X.K g)) : PSs X (st :: l) (tS X.K (seqS f g)) :=
  PSs.imp (pss_cons h1 h2) fun D σ H ⟨ρ, S, F, ι, fl, ρ', S', sr, e1, q⟩ => by
    unfold seqS at e1
    split at e1
    · rename_i ρ1 S1 h
      exact ⟨ρ, S, F, ι, .nx, ρ1, S1, sr, h, fun σ1 F1 ι1 H1 s1 a1 => ⟨ρ1, S1, F1, ι1, fl, ρ', S', s1, e1, fun σ2 F2 ι2 H2 s2 a2 => q σ2 F2 ι2 H2 s2 (a1.trans a2)⟩⟩
    · rename_i hn
      refine ⟨ρ, S, F, ι, fl, ρ', S', sr, e1, fun σ1 F1 ι1 H1 s1 a1 => ?_⟩
      have := q σ1 F1 ι1 H1 s1 a1
      cases fl with
      | nx => exact absurd e1 (hn _ _)
      | bk => exact this
      | ct => exact this
      | rt d => exact this
def ifF (fc : RunF) (f g : ExecF) : ExecF := fun ρ S => match fc ρ S with
    | some (.bool true, S1) => f ρ S1
    | some (.bool false, S1) => g ρ S1
    | _ => none
theorem sIf {a b : List Stmt} {fc : RunF} {f g : ExecF} (hc : PT X c (tT X.K fc)) (ha : PSs X a (tS X.K f)) (hb : PSs X b (tS X.K g)) : PS X (.If c a b pos) (tS X.K (ifF fc f g)) :=
  PS.imp (ps_if hc ha hb) fun D σ H ⟨ρ, S, F, ι, fl, ρ', S', sr, e1, q⟩ => by
    unfold ifF at e1
    split at e1
    · rename_i S1 h
      exact ⟨ρ, S, F, ι, true, S1, sr, h, fun F1 ι1 H1 s1 x1 => iteT ⟨ρ, S1, F1, ι1, fl, ρ', S', sr.ext x1 s1, e1, fun σ2 F2 ι2 H2 s2 a2 => q σ2 F2 ι2 H2 s2 ((Al.of0 x1).trans a2)⟩⟩
    · rename_i S1 h
      exact ⟨ρ, S, F, ι, false, S1, sr, h, fun F1 ι1 H1 s1 x1 => iteF ⟨ρ, S1, F1, ι1, fl, ρ', S', sr.ext x1 s1, e1, fun σ2 F2 ι2 H2 s2 a2 => q σ2 F2 ι2 H2 s2 ((Al.of0 x1).trans a2)⟩⟩
    · cases e1
/-! ### for -/
def forF (it : ListF) (bnd : D → Env' → Option Env') (body : ExecF) : ExecF := fun ρ S => match it ρ S with
    | none => none
    | some (xs, S1) => loopF bnd body xs ρ S1
theorem sFor {iter : Expr} {body : List Stmt} {it : ListF} {T : Tg} {f : ExecF} (hp : PassesOwn (model X.prog X.w) X.A X.env X.xe) (hc : X.calm = true) (hi : PI X tg iter (tI X.K it)) (hg : PG X tg (tG X.K (bindT T) (tgS T))) (hb : PSs X body (tS X.K f)) (hs : ∀ x, foldedSetIterable iter X.env x = pure x) :
    PS X (.For tg iter body [] pos) (tS X.K (forF it (bindT T) f)) := PS.imp (ps_for hp hc hi hg hb hs) fun D σ H ⟨ρ, S, F, ι, fl, ρ', S', sr, e1, q⟩ => by
  unfold forF at e1
  split at e1
  · cases e1
  · rename_i xs S1 h1
    refine ⟨ρ, S, F, ι, xs, S1, sr, h1, fun J F1 ι1 H1 ok s1 x1 => ?_⟩
    have sr1 := sr.ext x1 s1
    refine ⟨fun i m σ' H' => m = xs.length - i ∧ i ≤ xs.length ∧ ∃ ρ2 S2 F2 ι2, SR X.K ρ2 S2 F2 ι2 σ' H' ∧ Al ρ σ F1 ι1 H1 ρ2 σ' F2 ι2 H' ∧ loopF (bindT T) f (xs.drop i) ρ2 S2 = some (fl, ρ', S'),
      ⟨xs.length, by simp, Nat.zero_le _, ρ, S1, F1, ι1, sr1, .refl, e1⟩, ?_⟩
    rintro i m σ' H' ⟨rfl, hi, ρ2, S2, F2, ι2, sr2, al2, hrun⟩
    have k2 := al2.kept sr1
    by_cases hlt : i < xs.length
    · refine .inr ⟨ok.goes i _ _ _ k2 hlt, fun σ' H' => ∃ ρ2 S2 F2 ι2, SR X.K ρ2 S2 F2 ι2 σ' H' ∧ Al ρ σ F1 ι1 H1 ρ2 σ' F2 ι2 H' ∧ loopF (bindT T) f (xs.drop (i + 1)) ρ2 S2 = some (fl, ρ', S'),
        fun σ' H' p => ⟨xs.length - (i + 1), by omega, rfl, hlt, p⟩, fun x H3 y => ?_⟩
      obtain ⟨dx, F3, hx, rx, s3, x3⟩ := ok.yields i _ _ _ x H3 S2 k2 sr2.ss hlt y
      rw [List.drop_eq_getElem_cons hlt] at hrun
      have hx' : xs[i] = dx := by rw [List.getElem?_eq_getElem hlt] at hx; cases hx; rfl
      rw [hx'] at hrun
      simp only [loopF] at hrun
      split at hrun
      · cases hrun
      · rename_i ρ3 hb3
        refine ⟨ρ2, S2, F3, ι2, dx, ρ3, sr2.ext x3 s3, rx, hb3, fun σ4 sr4 o4 _ => ?_⟩
        have al4 : Al ρ σ F1 ι1 H1 ρ3 σ4 F3 ι2 H3 := al2.trans (.of x3 o4)
        split at hrun
        · rename_i ρ5 S5 h5
          exact ⟨ρ3, S2, F3, ι2, .nx, ρ5, S5, sr4, h5, fun σ6 F6 ι6 H6 sr6 al6 => ⟨ρ5, S5, F6, ι6, sr6, al4.trans al6, hrun⟩⟩
        · rename_i ρ5 S5 h5
          exact ⟨ρ3, S2, F3, ι2, .ct, ρ5, S5, sr4, h5, fun σ6 F6 ι6 H6 sr6 al6 => ⟨ρ5, S5, F6, ι6, sr6, al4.trans al6, hrun⟩⟩
        · rename_i ρ5 S5 h5
          cases hrun
          exact ⟨ρ3, S2, F3, ι2, .bk, _, _, sr4, h5, fun σ6 F6 ι6 H6 sr6 al6 => q σ6 F6 ι6 H6 sr6 ((Al.of0 x1).trans (al4.trans al6))⟩
        · rename_i d5 ρ5 S5 h5
          cases hrun
          exact ⟨ρ3, S2, F3, ι2, .rt d5, _, _, sr4, h5, fun σ6 F6 ι6 H6 sr6 al6 => q σ6 F6 ι6 H6 sr6 ((Al.of0 x1).trans (al4.trans al6))⟩
        · cases hrun
    · have e : i = xs.length := by omega
      subst e
      rw [List.drop_length] at hrun
      simp only [loopF] at hrun
      cases hrun
      exact .inl ⟨ok.stops _ _ _ k2, q σ' F2 ι2 H' sr2 ((Al.of0 x1).trans al2)⟩
/-! ### while -/
/-- a test, names frozen ahead of it -/
def tTz (K : PySem.W.Frag) (l : List Nat) (f : RunF) : TT := fun σ H Q => ∃ ρ S F ι c S', SR K ρ S F ι σ H ∧ f (frz ρ l) S = some (.bool c, S') ∧
  ∀ F' ι' H', SR K (frz ρ l) S' F' ι' σ H' → Al ρ σ F ι H (frz ρ l) σ F' ι' H' → Q c H'
theorem PT.frz {l : List Nat} {f : RunF} (h : PT X c (tT X.K f)) : PT X c (tTz X.K l f) := by
  refine ⟨fun pins s σ H Q I ⟨ρ, S, F, ι, c, S', sr, e, q⟩ => ?_⟩
  obtain ⟨H2, F2, I2, s2, a2⟩ := frz_step l I sr
  exact h.run pins s σ H2 Q I2 ⟨CH.frz ρ l, S, F2, ι, c, S', s2, e, fun F' ι' H' s' x' => q F' ι' H' (s2.ext x' s') (a2.trans (.of0 x'))⟩
def testF (l : List Nat) (fc : RunF) : Env' → Sto → Option (D × Env' × Sto) := fun ρ S => (fc (frz ρ l) S).map fun p => (p.1, frz ρ l, p.2)
theorem sWhile {body : List Stmt} {l : List Nat} {fc : RunF} {f : ExecF} {n : Nat} (hp : PassesOwn (model X.prog X.w) X.A X.env X.xe) (hc : PT X c (tT X.K fc)) (hb : PSs X body (tS X.K f)) :
    PS X (.While c body [] pos) (tS X.K (whileF (testF l fc) f n)) := PS.imp (ps_while hp (PT.frz (l := l) hc) hb) fun D σ H ⟨ρ, S, F, ι, fl, ρ', S', sr, e1, q⟩ => by
  refine ⟨fun m σ' H' => ∃ ρ2 S2 F2 ι2, SR X.K ρ2 S2 F2 ι2 σ' H' ∧ Al ρ σ F ι H ρ2 σ' F2 ι2 H' ∧ whileF (testF l fc) f m ρ2 S2 = some (fl, ρ', S'), ⟨n, ρ, S, F, ι, sr, .refl, e1⟩, ?_⟩
  rintro m σ' H' ⟨ρ2, S2, F2, ι2, sr2, al2, hrun⟩
  cases m with
  | zero => cases hrun
  | succ m =>
    simp only [whileF] at hrun
    split at hrun
    · rename_i ρ3 S3 h3
      cases hrun
      unfold testF at h3
      simp only [Option.map_eq_some_iff, Prod.mk.injEq] at h3
      obtain ⟨⟨d, S4⟩, h4, rfl, rfl, rfl⟩ := h3
      exact ⟨ρ2, S2, F2, ι2, false, S4, sr2, h4, fun F5 ι5 H5 sr5 al5 => iteF (q σ' F5 ι5 H5 sr5 (al2.trans al5))⟩
    · rename_i ρ3 S3 h3
      unfold testF at h3
      simp only [Option.map_eq_some_iff, Prod.mk.injEq] at h3
      obtain ⟨⟨d, S4⟩, h4, rfl, rfl, rfl⟩ := h3
      refine ⟨ρ2, S2, F2, ι2, true, S4, sr2, h4, fun F5 ι5 H5 sr5 al5 => iteT ⟨fun σ' H' => ∃ ρ2 S2 F2 ι2, SR X.K ρ2 S2 F2 ι2 σ' H' ∧ Al ρ σ F ι H ρ2 σ' F2 ι2 H' ∧ whileF (testF l fc) f m ρ2 S2 = some (fl, ρ', S'), fun σ6 H6 p => ⟨m, Nat.lt_succ_self m, p⟩, ?_⟩⟩
      have al6 := al2.trans al5
      split at hrun
      · rename_i ρ5 S5 h5
        exact ⟨_, S4, F5, ι5, .nx, ρ5, S5, sr5, h5, fun σ6 F6 ι6 H6 sr6 al7 => ⟨ρ5, S5, F6, ι6, sr6, al6.trans al7, hrun⟩⟩
      · rename_i ρ5 S5 h5
        exact ⟨_, S4, F5, ι5, .ct, ρ5, S5, sr5, h5, fun σ6 F6 ι6 H6 sr6 al7 => ⟨ρ5, S5, F6, ι6, sr6, al6.trans al7, hrun⟩⟩
      · rename_i ρ5 S5 h5
        cases hrun
        exact ⟨_, S4, F5, ι5, .bk, _, _, sr5, h5, fun σ6 F6 ι6 H6 sr6 al7 => q σ6 F6 ι6 H6 sr6 (al6.trans al7)⟩
      · rename_i d5 ρ5 S5 h5
        cases hrun
        exact ⟨_, S4, F5, ι5, .rt d5, _, _, sr5, h5, fun σ6 F6 ι6 H6 sr6 al7 => q σ6 F6 ι6 H6 sr6 (al6.trans al7)⟩
      · cases hrun
    · cases hrun
/-! ### a, b = x, y -/
def parF (l : List Nat) (fl : ListF) : ExecF := fun ρ S => match fl ρ S with
    | none => none
    | some (ds, S1) => (setAll l ds ρ).map fun ρ1 => (.nx, ρ1, S1)
theorem SR.set2 {ρ : Env'} {S : Sto} {F : Addr → Prop} {ι : List Addr} {σ : L2.St} {H : Hp} {i : Nat} {d : D} {v : V} {F' ι' H'} (s : SR K ρ S F' ι' σ H') (r : Rp K F' ι' H' v d) (x : Al ρ σ F ι H ρ σ F' ι' H') : True := trivial
theorem sPar2 {i j : Nat} {x y : Str} {a b : Expr} {fl : ListF} {px py pt : Pos} {kt k2 pt2} (hc : X.calm = true) (hN : X.N.Nodup) (hi : X.N[i]? = some x) (hj : X.N[j]? = some y) (hij : i ≠ j)
    (hx : X.env.scope.names.lookup x = some .local) (hy : X.env.scope.names.lookup y = some .local) (ha : PA X [a, b] (tA X.K fl))
    (hw : swappedStores [.Tuple [.Name x px, .Name y py] kt pt] (.Tuple [a, b] k2 pt2) X.env = pure (some [x, y])) :
    PS X (.Assign [.Tuple [.Name x px, .Name y py] kt pt] (.Tuple [a, b] k2 pt2) pos) (tS X.K (parF [i, j] fl)) :=
  PS.imp (ps_par hc hN hi hj hij hx hy ha hw) fun D σ H ⟨ρ, S, F, ι, fl, ρ', S', sr, e1, q⟩ => by
    unfold parF at e1
    split at e1
    · cases e1
    · rename_i ds S1 h1
      simp only [Option.map_eq_some_iff] at e1
      obtain ⟨ρ1, h2, h3⟩ := e1
      cases h3
      refine ⟨ρ, S, F, ι, ds, _, sr, h1, fun vs F1 ι1 H1 r1 s1 x1 => ?_⟩
      cases r1 with
      | nil => cases h2
      | cons ra rr =>
        cases rr with
        | nil => simp only [setAll] at h2; split at h2 <;> cases h2
        | cons rb rr =>
          cases rr with
          | cons rc rr => simp only [setAll] at h2; split at h2 <;> (try cases h2); split at h2 <;> cases h2
          | nil =>
            simp only [setAll] at h2
            split at h2
            · rename_i ρ2 g1
              split at h2
              · rename_i ρ3 g2
                cases h2
                obtain ⟨_, rfl⟩ := setS_inv g1
                obtain ⟨_, rfl⟩ := setS_inv g2
                have sr1 := sr.ext x1 s1
                exact ⟨_, _, rfl, q _ F1 ι1 H1 ((sr1.set ra).set rb) (.of x1 fun a h => sr.own_set ((sr1.set ra).own_set h))⟩
              · cases h2
            · cases h2
theorem sPar3 {i j l : Nat} {x y z : Str} {a b c : Expr} {fl : ListF} {px py pz pt pos : Pos} {kt k2 pt2} (hc : X.calm = true) (hN : X.N.Nodup) (hi : X.N[i]? = some x) (hj : X.N[j]? = some y) (hl : X.N[l]? = some z) (hij : i ≠ j) (hil : i ≠ l) (hjl : j ≠ l)
    (hx : X.env.scope.names.lookup x = some .local) (hy : X.env.scope.names.lookup y = some .local) (hz : X.env.scope.names.lookup z = some .local) (ha : PA X [a, b, c] (tA X.K fl))
    (hw : swappedStores [.Tuple [.Name x px, .Name y py, .Name z pz] kt pt] (.Tuple [a, b, c] k2 pt2) X.env = pure (some [x, y, z])) :
    PS X (.Assign [.Tuple [.Name x px, .Name y py, .Name z pz] kt pt] (.Tuple [a, b, c] k2 pt2) pos) (tS X.K (parF [i, j, l] fl)) :=
  PS.imp (ps_par3 hc hN hi hj hl hij hil hjl hx hy hz ha hw) fun D σ H ⟨ρ, S, F, ι, fl, ρ', S', sr, e1, q⟩ => by
    unfold parF at e1
    split at e1
    · cases e1
    · rename_i ds S1 h1
      simp only [Option.map_eq_some_iff] at e1
      obtain ⟨ρ1, h2, h3⟩ := e1
      cases h3
      refine ⟨ρ, S, F, ι, ds, _, sr, h1, fun vs F1 ι1 H1 r1 s1 x1 => ?_⟩
      have e3 : ∃ d1 d2 d3 ρ2 ρ3, ds = [d1, d2, d3] ∧ setS ρ i false d1 = some ρ2 ∧ setS ρ2 j false d2 = some ρ3 ∧ setS ρ3 l false d3 = some ρ' := by
        match ds, h2 with
        | [], h2 => cases h2
        | [_], h2 => simp only [setAll] at h2; split at h2 <;> cases h2
        | [_, _], h2 => simp only [setAll] at h2; split at h2 <;> (try cases h2); split at h2 <;> cases h2
        | [d1, d2, d3], h2 =>
          simp only [setAll] at h2
          split at h2
          · rename_i ρ2 g1
            split at h2
            · rename_i ρ3 g2
              split at h2
              · rename_i ρ4 g3; cases h2; exact ⟨d1, d2, d3, ρ2, ρ3, rfl, g1, g2, g3⟩
              · cases h2
            · cases h2
          · cases h2
        | _ :: _ :: _ :: _ :: _, h2 =>
          simp only [setAll] at h2
          split at h2 <;> (try cases h2)
          split at h2 <;> (try cases h2)
          split at h2 <;> cases h2
      obtain ⟨d1, d2, d3, ρ2, ρ3, rfl, g1, g2, g3⟩ := e3
      obtain ⟨_, rfl⟩ := setS_inv g1
      obtain ⟨_, rfl⟩ := setS_inv g2
      obtain ⟨_, rfl⟩ := setS_inv g3
      have sr1 := sr.ext x1 s1
      cases r1 with
      | cons ra rr =>
        cases rr with
        | cons rb rr =>
          cases rr with
          | cons rc rr =>
            cases rr
            exact ⟨_, _, _, rfl, q _ F1 ι1 H1 (((sr1.set ra).set rb).set rc) (.of x1 fun a h => sr.own_set ((sr1.set ra).own_set (((sr1.set ra).set rb).own_set h)))⟩
end
end CH
set_option Elab.async false
set_option linter.all false
set_option maxRecDepth 100000
set_option maxHeartbeats 1000000
/-! built-in functions -/
namespace PySem.W
open PySem PySem.Calls PyProof.Rows
mutual
theorem ch_lives {h : Heap} : ∀ (d : PyData) (v : Value) (as : List Addr), d.plain = true → Reads h v d as → ∀ b ∈ as, ∃ o, h.get? b = some o
  | .none, _, _, _, r, _, hb => by cases r; cases hb
  | .bool _, _, _, _, r, _, hb => by cases r; cases hb
  | .int _, _, _, _, r, _, hb => by cases r; cases hb
  | .str _, _, _, _, r, _, hb => by cases r; cases hb
  | .list xs, _, _, hp, r, b, hb => by
    cases r with
    | list ho hc hd rs =>
      rcases List.mem_cons.mp hb with e | hb
      · rw [e]; exact ⟨_, ho⟩
      · exact ch_livesAll xs _ _ (by simpa [PyData.plain] using hp) rs b hb
  | .tuple xs, _, _, hp, r, b, hb => by
    cases r with
    | tuple ho hc hd rs => exact ch_livesAll xs _ _ (by simpa [PyData.plain] using hp) rs b hb
  | .dict _, _, _, hp, _, _, _ => by simp [PyData.plain] at hp
theorem ch_livesAll {h : Heap} : ∀ (ds : List PyData) (vs : List Value) (as : List Addr), PyData.plainAll ds = true → ReadsAll h vs ds as → ∀ b ∈ as, ∃ o, h.get? b = some o
  | [], _, _, _, r, _, hb => by cases r; cases hb
  | d :: ds, _, _, hp, r, b, hb => by
    simp only [PyData.plainAll, Bool.and_eq_true] at hp
    cases r with
    | cons r1 r2 =>
      rcases List.mem_append.mp hb with hb | hb
      · exact ch_lives d _ _ hp.1 r1 b hb
      · exact ch_livesAll ds _ _ hp.2 r2 b hb
end
section
variable {prog : Program} {w : World} {A : Around} {E : Value → Shared → Prop} {s : Shared} {β : Type} {vs : List Value} {bs : List β} {enc : β → PyData} {R : Value → β → Prop}
/-- sorted(t), t a tuple -/
theorem ch_sorted_tuple {l : Addr} {Q : Value → Shared → Prop} (hl : s.heap.IsTuple l vs.toArray) (e : EachIs R vs bs) (er : EachIs (fun v b => ∃ as, Reads s.heap v (enc b) as ∧ ∀ a ∈ as, ∃ o, s.heap.get? a = some o) vs bs) (hal : AllAlike (bs.map enc)) (hk : Sortable (bs.map enc)) (hL : bs.length ≤ sizeLine)
    (hu : ∀ b, b ∈ bs → A.units + 2 + (enc b).depth < cLine)
    (h : ∀ (h1 h' : Heap) (out : List Value) (ep : Nat), (∀ b o, s.heap.get? b = some o → h1.get? b = some o) → (∀ b o, h1.get? b = some o → h'.get? b = some o) → h'.get? h1.objs.size = some (seqObj "list" out.toArray ep) → out.length = bs.length → EachIs R out (bs.mergeSort (dataLe false enc)) → Q (.ref h1.objs.size) { s with heap := h' }) :
    wpAny (model prog w) A (call (.builtin "sorted") [.ref l]) Q E s := by
  obtain ⟨o, ho, hc, n, hd⟩ := hl
  refine call_function_entry kind_sorted plain_sorted entry_sorted (args_sorted1 _) ?_
  unfold Builtin.«sorted»
  refine wpAny_bind (m := checkCount "sorted" 1 1 _) (wpAny_pure ?_)
  refine wpAny_bind (wpAny_collect_seq l (T := "tuple") (.inr rfl) ho hc hd (fun h1 hk1 => ?_) (by rw [List.size_toArray, e.length]; exact hL))
  refine wpAny_bind (wpAny_newList ?_ (by rw [e.length]; exact hL))
  have hlen := e.length
  have old : ∀ b o, s.heap.get? b = some o → (h1.push { cls := .type "list", data := .seq vs.toArray }).get? b = some o := fun b o q => Heap.get?_push_of_some _ (hk1 b o q)
  refine wpAny_bind (wpAny_holding (wpAny_mono (list_sort_data (A := A.in1) (s := { s with heap := h1.push { cls := .type "list", data := .seq vs.toArray } }) (a := h1.objs.size) (n := 0) (R := R) (enc := enc) (bs := bs) (vs := vs) (Q := fun _ s' => Q (.ref h1.objs.size) s') (E := E) ?_ e ?_ hal hk hL ?_ ?_) (fun _ s' q => ?_) fun _ _ q => q))
  · exact Heap.get?_push_size _ rfl
  · refine er.mono fun v b ⟨as, r, hlv⟩ => ⟨as, PyProof.Rows.Reads.keeps old r, fun z => ?_⟩
    obtain ⟨ob, hob⟩ := hlv _ z
    exact absurd (Heap.lt_size (hk1 _ _ hob)) (Nat.lt_irrefl _)
  · intro b hb
    have := hu b hb
    show A.units + 1 + 1 + _ < _
    omega
  · intro out hout eout
    obtain ⟨ep, hat⟩ := PyProof.Rows.sortedHeap_at (h := h1.push { cls := .type "list", data := .seq vs.toArray }) (a := h1.objs.size) (vs := vs) (n := 0) (out := out.toArray) (Heap.get?_push_size _ rfl)
    refine h h1 _ out ep hk1 (fun b o q => ?_) hat hout eout
    have hlt := Heap.lt_size q
    have q2 : (h1.push { cls := .type "list", data := .seq vs.toArray }).get? b = some o := Heap.get?_push_of_some _ q
    rw [PyProof.Rows.sortedHeap_old (Nat.ne_of_lt hlt) (Heap.lt_size q2)]
    exact q2
  · exact wpAny_pure ⟨_, rfl, q⟩
end
end PySem.W
namespace CH
open PySem PySem.Spec PyProof.Rows L2
def rBi (K : PySem.W.Frag) (g : List D → Option D) : List V → Hp → VK → Prop := fun vs H Q => ∃ S F ι ds c, Ss K S F ι H ∧ RpDs K F ι H vs ds ∧ g ds = some c ∧ ∀ v F' H', RpN K F' ι H H' v c → Ss K S F' ι H' → Ext0 F ι H F' ι H' → Q v H'
theorem CallR.imp {X : Cx} {f : Value} {r r' : List V → Hp → VK → Prop} (h : CallR X f r) (i : ∀ vs H Q, r' vs H Q → r vs H Q) : CallR X f r' := fun pins s σ H xs us Q I rs q => h pins s σ H xs us Q I rs (i xs H Q q)
section
variable {X : Cx}
theorem RpDs.one {K F ι H vs d} (h : RpDs K F ι H vs [d]) : ∃ v, vs = [v] ∧ RpD K F ι H v d := by
  cases h with
  | cons h t => cases t; exact ⟨_, rfl, h⟩
theorem RpDs.two {K F ι H vs d e} (h : RpDs K F ι H vs [d, e]) : ∃ v w, vs = [v, w] ∧ RpD K F ι H v d ∧ RpD K F ι H w e := by
  cases h with
  | cons h t =>
    cases t with
    | cons h2 t => cases t; exact ⟨_, _, rfl, h, h2⟩
theorem b_len : CallR X (.builtin "len") (rBi X.K (biD .len)) := CallR.imp call_len fun vs H Q ⟨S, F, ι, ds, c, ss, rd, e, q⟩ => by
  unfold biD at e
  split at e <;> first | (cases e; done) | skip
  all_goals try (rename_i hb; cases hb; done)
  · rename_i l _; cases e
    obtain ⟨v, rfl, r⟩ := rd.one
    obtain ⟨a, xs, rfl, hs, ra⟩ := r.list
    exact ⟨_, _, rfl, .inl ⟨_, hs, rfl⟩, by rw [ra.length]; exact q _ F H (.flat (.int _) rfl) ss .refl⟩
  · rename_i l _; cases e
    obtain ⟨v, rfl, r⟩ := rd.one
    obtain ⟨a, xs, rfl, hs, ra⟩ := r.tuple
    exact ⟨_, _, rfl, .inr ⟨_, hs.sq, rfl⟩, by rw [ra.length]; exact q _ F H (.flat (.int _) rfl) ss .refl⟩
  · rename_i z _
    split at e
    · rename_i hz; cases e
      obtain ⟨v, rfl, r⟩ := rd.one
      have := r.str; subst this
      exact ⟨_, _, rfl, ⟨hz, rfl⟩, q _ F H (.flat (.int _) rfl) ss .refl⟩
    · cases e
theorem b_abs : CallR X (.builtin "abs") (rBi X.K (biD .abs)) := CallR.imp call_abs fun vs H Q ⟨S, F, ι, ds, c, ss, rd, e, q⟩ => by
  match ds, e with
  | [.int i], e =>
    cases e
    obtain ⟨v, rfl, r⟩ := rd.one
    have := r.int; subst this
    exact ⟨i, rfl, q _ F H (.flat (.int _) rfl) ss .refl⟩
theorem b_int : CallR X (.type "int") (rBi X.K (biD .int)) := CallR.imp call_int1 fun vs H Q ⟨S, F, ι, ds, c, ss, rd, e, q⟩ => by
  match ds, e with
  | [.int i], e =>
    cases e
    obtain ⟨v, rfl, r⟩ := rd.one
    have := r.int; subst this
    exact .inl ⟨i, rfl, q _ F H (.flat (.int _) rfl) ss .refl⟩
  | [.bool i], e =>
    cases e
    obtain ⟨v, rfl, r⟩ := rd.one
    have := r.bool; subst this
    exact .inr ⟨i, rfl, q _ F H (.flat (.int _) rfl) ss .refl⟩
theorem b_str : CallR X (.type "str") (rBi X.K (biD .str)) := CallR.imp call_str_int fun vs H Q ⟨S, F, ι, ds, c, ss, rd, e, q⟩ => by
  match ds, e with
  | [.int i], e =>
    have e' : (if i.natAbs.log2 < 1920 then some (PyData.str (toString i)) else none) = some c := e
    split at e'
    · rename_i hz; cases e'
      obtain ⟨v, rfl, r⟩ := rd.one
      have := r.int; subst this
      exact ⟨i, rfl, hz, q _ F H (.flat (.str _) rfl) ss .refl⟩
    · cases e'
theorem items_inv {d : D} {l : List D} (h : itemsOf d = some l) : d = .list l ∨ d = .tuple l := by
  unfold itemsOf at h
  split at h
  · cases h; exact .inl rfl
  · cases h; exact .inr rfl
  · cases h
theorem b_list : CallR X (.type "list") (rBi X.K (biD .list)) := CallR.imp call_list_of fun vs H Q ⟨S, F, ι, ds, c, ss, rd, e, q⟩ => by
  obtain ⟨d, l, rfl, hl, rfl⟩ : ∃ d l, ds = [d] ∧ itemsOf d = some l ∧ c = .list l := by
    unfold biD at e
    split at e <;> first | (rename_i h; cases h; done) | (cases e; done) | skip
    rename_i d h
    simp only [Option.map_eq_some_iff] at e
    obtain ⟨l, h1, rfl⟩ := e
    exact ⟨d, l, rfl, h1, rfl⟩
  obtain ⟨v, rfl, r⟩ := rd.one
  rcases items_inv hl with rfl | rfl
  · obtain ⟨a, xs, rfl, hs, ra⟩ := r.list
    exact ⟨_, _, rfl, .inl hs, fun p hp => by obtain ⟨n1, n2, n3⟩ := newL ss ra hp; exact q _ _ _ n1 n2 n3⟩
  · obtain ⟨a, xs, rfl, hs, ra⟩ := r.tuple
    exact ⟨_, _, rfl, .inr hs.sq, fun p hp => by obtain ⟨n1, n2, n3⟩ := newL ss ra hp; exact q _ _ _ n1 n2 n3⟩
theorem b_tuple : CallR X (.type "tuple") (rBi X.K (biD .tuple)) := CallR.imp call_tuple_of fun vs H Q ⟨S, F, ι, ds, c, ss, rd, e, q⟩ => by
  obtain ⟨d, l, rfl, hl, rfl⟩ : ∃ d l, ds = [d] ∧ itemsOf d = some l ∧ c = .tuple l := by
    unfold biD at e
    split at e <;> first | (rename_i h; cases h; done) | (cases e; done) | skip
    rename_i d h
    simp only [Option.map_eq_some_iff] at e
    obtain ⟨l, h1, rfl⟩ := e
    exact ⟨d, l, rfl, h1, rfl⟩
  obtain ⟨v, rfl, r⟩ := rd.one
  rcases items_inv hl with rfl | rfl
  · obtain ⟨a, xs, rfl, hs, ra⟩ := r.list
    exact ⟨_, _, rfl, .inl ⟨hs, fun p hp => by obtain ⟨n1, n2, n3⟩ := newT ss ra hp; exact q _ _ _ n1 n2 n3⟩⟩
  · obtain ⟨a, xs, rfl, hs, ra⟩ := r.tuple
    exact ⟨_, _, rfl, .inr ⟨hs.sq, q _ F H (.flat (.tup hs ra) rfl) ss .refl⟩⟩
theorem intsOf_map : ∀ {l : List D} {ns : List Int}, intsOf l = some ns → l = ns.map .int
  | [], _, h => by cases h; rfl
  | .int i :: r, ns, h => by
    simp only [intsOf, Option.map_eq_some_iff] at h
    obtain ⟨ms, h1, rfl⟩ := h
    rw [intsOf_map h1]; rfl
theorem RpA.ofInts {K F ι H} : ∀ {ns : List Int} {xs : List V}, RpA K F ι H xs (ns.map .int) → xs = ns.map .int
  | [], _, h => by cases h; rfl
  | n :: ns, _, h => by
    cases h with
    | cons h t => cases h; rw [RpA.ofInts t]; rfl
theorem b_sum (hc : X.calm = true) : CallR X (.builtin "sum") (rBi X.K (biD .sum)) := CallR.imp (cr_sum hc) fun vs H Q ⟨S, F, ι, ds, c, ss, rd, e, q⟩ => by
  match ds, e with
  | [.list l], e =>
    have e' : ((intsOf l).map fun ns => PyData.int ns.sum) = some c := e
    simp only [Option.map_eq_some_iff] at e'
    obtain ⟨ns, h1, rfl⟩ := e'
    obtain ⟨v, rfl, r⟩ := rd.one
    obtain ⟨a, xs, rfl, hs, ra⟩ := r.list
    rw [intsOf_map h1] at ra
    rw [ra.ofInts] at hs
    exact ⟨a, ns, rfl, hs, q _ F H (.flat (.int _) rfl) ss .refl⟩
theorem bools_map : ∀ {l : List D} {ns : List Bool}, bools l = some ns → l = ns.map .bool
  | [], _, h => by cases h; rfl
  | .bool i :: r, ns, h => by
    simp only [bools, Option.map_eq_some_iff] at h
    obtain ⟨ms, h1, rfl⟩ := h
    rw [bools_map h1]; rfl
theorem bools_plain : ∀ (ns : List Bool), PyData.plainAll (ns.map .bool) = true
  | [] => rfl
  | b :: r => by show (true && PyData.plainAll (r.map .bool)) = true; rw [bools_plain r]; rfl
theorem bools_any (ns : List Bool) : (ns.map PyData.bool).any PyData.truthy = ns.any id := by
  rw [List.any_map]; rfl
theorem bools_all (ns : List Bool) : (ns.map PyData.bool).all PyData.truthy = ns.all id := by
  rw [List.all_map]; rfl
theorem bools_fits (ns : List Bool) : ∀ x ∈ ns.map PyData.bool, x.fits63 := fun x hx => by
  obtain ⟨b, _, rfl⟩ := List.mem_map.mp hx
  exact trivial
/-- a list's readings, for the data rules -/
theorem list_reads {pins : List (Addr × Obj)} {σ : L2.St} {H : Hp} {s : Shared} {F : Addr → Prop} {ι : List Addr} {a : Addr} {xs : List V} {l : List D} (I : Inv X pins σ H s) (hs : SqL X.K H a xs) (ra : RpA X.K F ι H xs l) (hp : PyData.plainAll l = true) :
    ∃ (its : List Value) (as : List Addr), Vals xs its ∧ s.heap.IsList a its.toArray ∧ ReadsAll s.heap its l as ∧ xs.length ≤ sizeLine := by
  obtain ⟨its, rv, pl, hz⟩ := I.list hs
  obtain ⟨as, hr⟩ := RpA.reads I l xs its hp ra rv
  exact ⟨its, as, rv, pl.isList, hr, hz⟩
theorem b_any (hc : X.calm = true) : CallR X (.builtin "any") (rBi X.K (biD .any)) := by
  intro pins s σ H vs us Q I rs ⟨S, F, ι, ds, c, ss, rd, e, q⟩
  match ds, e with
  | [.list l], e =>
    have e' : ((bools l).map fun ns => PyData.bool (ns.any id)) = some c := e
    simp only [Option.map_eq_some_iff] at e'
    obtain ⟨ns, h1, rfl⟩ := e'
    obtain ⟨v, rfl, r⟩ := rd.one
    obtain ⟨a, xs, rfl, hs, ra⟩ := r.list
    have el := bools_map h1
    subst el
    obtain ⟨u, rfl, ru⟩ := rs.one
    cases ru
    obtain ⟨its, as, rv, pl, hr, hz⟩ := list_reads I hs ra (bools_plain ns)
    refine PySem.W.any_list_data (I.ok.hd hc) pl hr (bools_plain ns) (bools_fits ns) fun h' tk hk => ?_
    rw [bools_any]
    exact ⟨.bl _, H, I.kept hk, rfl, q _ F H (.flat (.bl _) rfl) ss .refl⟩
theorem b_all (hc : X.calm = true) : CallR X (.builtin "all") (rBi X.K (biD .all)) := by
  intro pins s σ H vs us Q I rs ⟨S, F, ι, ds, c, ss, rd, e, q⟩
  match ds, e with
  | [.list l], e =>
    have e' : ((bools l).map fun ns => PyData.bool (ns.all id)) = some c := e
    simp only [Option.map_eq_some_iff] at e'
    obtain ⟨ns, h1, rfl⟩ := e'
    obtain ⟨v, rfl, r⟩ := rd.one
    obtain ⟨a, xs, rfl, hs, ra⟩ := r.list
    have el := bools_map h1
    subst el
    obtain ⟨u, rfl, ru⟩ := rs.one
    cases ru
    obtain ⟨its, as, rv, pl, hr, hz⟩ := list_reads I hs ra (bools_plain ns)
    refine PySem.W.all_list_data (I.ok.hd hc) pl hr (bools_plain ns) (bools_fits ns) fun h' tk hk => ?_
    rw [bools_all]
    exact ⟨.bl _, H, I.kept hk, rfl, q _ F H (.flat (.bl _) rfl) ss .refl⟩
/-! least, greatest, sorted -/
theorem okMin_of {l : List D} (h : okMin l = true) : PySem.W.AlikeAll l ∧ PyData.plainAll l = true ∧ PyData.depthAll l ≤ 60 := by
  unfold okMin allAlike okDs at h
  simp only [Bool.and_eq_true, List.all_eq_true] at h
  obtain ⟨⟨h1, h2⟩, h3, h4⟩ := h
  exact ⟨⟨fun x hx y hy => h1 x hx y hy, fun x hx e => by have := h2 x hx; rw [e] at this; cases this⟩, h3, Nat.le_of_ble_eq_true h4⟩
/-- the value read at an index -/
theorem RpA.readAt {pins : List (Addr × Obj)} {σ : L2.St} {H : Hp} {s : Shared} {F : Addr → Prop} {ι : List Addr} (I : Inv X pins σ H s) {xs : List V} {l : List D} {its : List Value} {i : Nat} {v : Value} {m : D} {bs : List Addr} {h' : Heap} (ra : RpA X.K F ι H xs l) (hp : PyData.plainAll l = true) (rv : Vals xs its) (hv : its[i]? = some v)
    (hk : ∀ b o, s.heap.get? b = some o → h'.get? b = some o) (hm : Reads h' v m bs) : ∃ x, Rp X.K F ι H x m ∧ RelV x v := by
  induction its generalizing xs l i with
  | nil => cases hv
  | cons u its ih =>
    cases rv with
    | cons r1 r2 =>
      cases ra with
      | cons a1 a2 =>
        simp only [PyData.plainAll, Bool.and_eq_true] at hp
        cases i with
        | zero =>
          simp at hv; subst hv
          obtain ⟨as, q⟩ := Rp.reads I _ _ _ hp.1 a1 r1
          obtain ⟨e, _⟩ := PyProof.Rows.Reads.keeps hk q |>.unique _ _ hm
          subst e
          exact ⟨_, a1, r1⟩
        | succ i => simp at hv; exact ih a2 hp.2 r2 hv
theorem min_go (hc : X.calm = true) (hu : X.A.units + 66 < cLine) {pins : List (Addr × Obj)} {s : Shared} {σ : L2.St} {H : Hp} {a : Addr} {xs : List V} {l : List D} {c : D} {F : Addr → Prop} {ι : List Addr} {Q : VK} (I : Inv X pins σ H s) (hs : SqL X.K H a xs) (ra : RpA X.K F ι H xs l) (e : minL l = some c)
    (q : ∀ x, Rp X.K F ι H x c → Q x H) : wpAny (model X.prog X.w) X.A (call (.builtin "min") [.ref a]) (EP X pins σ Q) X.xe s := by
  cases l with
  | nil => cases e
  | cons y ys =>
    have e' : (if okMin (y :: ys) then some (PySem.W.minD y ys) else none) = some c := e
    split at e'
    · rename_i hok; cases e'
      obtain ⟨h1, h2, h3⟩ := okMin_of hok
      obtain ⟨its, as, rv, pl, hr, hz⟩ := list_reads I hs ra h2
      refine PySem.W.min_list_data (I.ok.hd hc) pl hr h1 (by omega) fun i v h' tk bs hv hm hk => ?_
      obtain ⟨x, rx, ru⟩ := ra.readAt I h2 rv (by simpa using hv) hk hm
      exact ⟨x, H, I.kept hk, ru, q x rx⟩
    · cases e'
theorem max_go (hc : X.calm = true) (hu : X.A.units + 66 < cLine) {pins : List (Addr × Obj)} {s : Shared} {σ : L2.St} {H : Hp} {a : Addr} {xs : List V} {l : List D} {c : D} {F : Addr → Prop} {ι : List Addr} {Q : VK} (I : Inv X pins σ H s) (hs : SqL X.K H a xs) (ra : RpA X.K F ι H xs l) (e : maxL l = some c)
    (q : ∀ x, Rp X.K F ι H x c → Q x H) : wpAny (model X.prog X.w) X.A (call (.builtin "max") [.ref a]) (EP X pins σ Q) X.xe s := by
  cases l with
  | nil => cases e
  | cons y ys =>
    have e' : (if okMin (y :: ys) then some (PySem.W.maxD y ys) else none) = some c := e
    split at e'
    · rename_i hok; cases e'
      obtain ⟨h1, h2, h3⟩ := okMin_of hok
      obtain ⟨its, as, rv, pl, hr, hz⟩ := list_reads I hs ra h2
      refine PySem.W.max_list_data (I.ok.hd hc) pl hr h1 (by omega) fun i v h' tk bs hv hm hk => ?_
      obtain ⟨x, rx, ru⟩ := ra.readAt I h2 rv (by simpa using hv) hk hm
      exact ⟨x, H, I.kept hk, ru, q x rx⟩
    · cases e'
end
end CH
set_option Elab.async false
set_option linter.all false
set_option maxRecDepth 100000
set_option maxHeartbeats 1000000
/-! built-in functions, the rest -/
namespace CH
open PySem PySem.Spec PyProof.Rows L2
section
variable {X : Cx}
theorem CallR.or {f : Value} {r r' : List V → Hp → VK → Prop} (h : CallR X f r) (h' : CallR X f r') : CallR X f fun vs H Q => r vs H Q ∨ r' vs H Q := fun pins s σ H xs us Q I rs q => q.elim (h pins s σ H xs us Q I rs) (h' pins s σ H xs us Q I rs)
/-- an item of what is frozen is a result -/
theorem b_min (hc : X.calm = true) (hu : X.A.units + 66 < cLine) : CallR X (.builtin "min") (fun vs H Q => ∃ S F ι ds c, Ss X.K S F ι H ∧ RpDs X.K F ι H vs ds ∧ biD .min ds = some c ∧ ∀ v, Rp X.K F ι H v c → Q v H) := by
  intro pins s σ H vs us Q I rs ⟨S, F, ι, ds, c, ss, rd, e, q⟩
  match ds, e with
  | [.list l], e =>
    obtain ⟨v, rfl, r⟩ := rd.one
    obtain ⟨a, xs, rfl, hs, ra⟩ := r.list
    obtain ⟨u, rfl, ru⟩ := rs.one
    cases ru
    exact min_go hc hu I hs ra e q
  | [.int a, .int b], e =>
    cases e
    obtain ⟨v, w, rfl, r1, r2⟩ := rd.two
    have := r1.int; subst this
    have := r2.int; subst this
    exact call_min2 hc pins s σ H _ us Q I rs ⟨a, b, rfl, q _ (.int _)⟩
theorem b_max (hc : X.calm = true) (hu : X.A.units + 66 < cLine) : CallR X (.builtin "max") (fun vs H Q => ∃ S F ι ds c, Ss X.K S F ι H ∧ RpDs X.K F ι H vs ds ∧ biD .max ds = some c ∧ ∀ v, Rp X.K F ι H v c → Q v H) := by
  intro pins s σ H vs us Q I rs ⟨S, F, ι, ds, c, ss, rd, e, q⟩
  match ds, e with
  | [.list l], e =>
    obtain ⟨v, rfl, r⟩ := rd.one
    obtain ⟨a, xs, rfl, hs, ra⟩ := r.list
    obtain ⟨u, rfl, ru⟩ := rs.one
    cases ru
    exact max_go hc hu I hs ra e q
  | [.int a, .int b], e =>
    cases e
    obtain ⟨v, w, rfl, r1, r2⟩ := rd.two
    have := r1.int; subst this
    have := r2.int; subst this
    exact call_max2 hc pins s σ H _ us Q I rs ⟨a, b, rfl, q _ (.int _)⟩
/-- min(l, default=d) -/
def minDfD (l : List D) (y c : D) : Prop := (l = [] ∧ c = y) ∨ (l ≠ [] ∧ minL l = some c)
theorem b_minD (hc : X.calm = true) (hu : X.A.units + 66 < cLine) : CallRK X (.builtin "min") [Str.ofString "default"] (fun vs zs H Q => ∃ S F ι a xs l z y c, Ss X.K S F ι H ∧ vs = [.ref a] ∧ SqL X.K H a xs ∧ RpA X.K F ι H xs l ∧ zs = [z] ∧ Rp X.K F ι H z y ∧ minDfD l y c ∧ ∀ v, Rp X.K F ι H v c → Q v H) := by
  intro pins s σ H vs zs us ws Q I rs rz ⟨S, F, ι, a, xs, l, z, y, c, ss, e1, hs, ra, e2, ry, hm, q⟩
  subst e1 e2
  obtain ⟨u, rfl, ru⟩ := rs.one
  obtain ⟨w, rfl, rw⟩ := rz.one
  cases ru
  have hp : PyData.plainAll l = true ∧ PyData.depthAll l ≤ 60 ∧ PySem.W.AlikeAll l := by
    rcases hm with ⟨rfl, _⟩ | ⟨hn, hm⟩
    · exact ⟨rfl, Nat.zero_le _, ⟨(fun x hx => by cases hx), (fun x hx => by cases hx)⟩⟩
    · cases l with
      | nil => exact absurd rfl hn
      | cons p ps =>
        have e' : (if okMin (p :: ps) then some (PySem.W.minD p ps) else none) = some c := hm
        split at e'
        · rename_i hok
          obtain ⟨h1, h2, h3⟩ := okMin_of hok
          exact ⟨h2, h3, h1⟩
        · cases e'
  obtain ⟨its, as, rv, pl, hr, hz⟩ := list_reads I hs ra hp.1
  refine PySem.W.min_list_default (I.ok.hd hc) pl hr hp.2.2 (by have := hp.2.1; omega) (fun e h' tk hk => ?_) fun y' ys i v h' tk bs e hv hmn hk => ?_
  · rcases hm with ⟨_, rfl⟩ | ⟨hn, _⟩
    · exact ⟨z, H, I.kept hk, rw, q z ry⟩
    · exact absurd e hn
  · rcases hm with ⟨e3, _⟩ | ⟨_, hm⟩
    · rw [e3] at e; cases e
    · subst e
      have e' : (if okMin (y' :: ys) then some (PySem.W.minD y' ys) else none) = some c := hm
      split at e'
      · cases e'
        obtain ⟨x, rx, ru⟩ := ra.readAt I hp.1 rv (by simpa using hv) hk hmn
        exact ⟨x, H, I.kept hk, ru, q x rx⟩
      · cases e'
/-! sorted -/
theorem okSort_of {l : List D} (h : okSort l = true) : PySem.W.AllAlike l ∧ PySem.W.Sortable l ∧ PyData.plainAll l = true ∧ PyData.depthAll l ≤ 60 := by
  unfold okSort allAlike okDs at h
  simp only [Bool.and_eq_true, List.all_eq_true, Bool.or_eq_true] at h
  obtain ⟨⟨h1, h2⟩, h3, h4⟩ := h
  refine ⟨fun x hx y hy => h1 x hx y hy, ?_, h3, Nat.le_of_ble_eq_true h4⟩
  rcases h2 with h2 | h2
  · refine .inl fun d hd => ?_
    have := h2 d hd
    unfold isT1 at this
    split at this
    · exact ⟨_, _, rfl⟩
    · cases this
  · refine .inr fun d hd => ?_
    have := h2 d hd
    unfold isO1 at this
    split at this
    · cases this
    · cases this
    · rename_i n1 n2
      exact ⟨fun e => n2 e, fun xs e => n1 xs e⟩
theorem depth_mem : ∀ {l : List D} {d : D}, d ∈ l → d.depth ≤ PyData.depthAll l
  | x :: xs, d, h => by
    rcases List.mem_cons.mp h with e | h
    · subst e; simp only [PyData.depthAll]; omega
    · have := depth_mem h; simp only [PyData.depthAll]; omega
/-- what the items stand for -/
def StandsFor (K : PySem.W.Frag) (F : Addr → Prop) (ι : List Addr) (H : Hp) (u : Value) (d : D) : Prop := ∃ x, RelV x u ∧ Rp K F ι H x d
theorem each_of {K F ι H} : ∀ {xs : List V} {l : List D} {its : List Value}, RpA K F ι H xs l → Vals xs its → PySem.W.EachIs (StandsFor K F ι H) its l
  | [], _, _, .nil, .nil => .nil
  | _ :: _, _, _, .cons h t, .cons r rr => .cons ⟨_, r, h⟩ (each_of t rr)
theorem of_each {K F ι H} : ∀ {l : List D} {out : List Value}, PySem.W.EachIs (StandsFor K F ι H) out l → ∃ xs, RpA K F ι H xs l ∧ Vals xs out
  | [], _, .nil => ⟨[], .nil, .nil⟩
  | _ :: _, _, .cons ⟨x, r, h⟩ t => let ⟨xs, a, b⟩ := of_each t; ⟨x :: xs, .cons h a, .cons r b⟩
theorem each_reads {pins : List (Addr × Obj)} {σ : L2.St} {H : Hp} {s : Shared} {F : Addr → Prop} {ι : List Addr} (I : Inv X pins σ H s) : ∀ {xs : List V} {l : List D} {its : List Value}, PyData.plainAll l = true → RpA X.K F ι H xs l → Vals xs its →
    PySem.W.EachIs (fun v d => ∃ as, Reads s.heap v d as ∧ ∀ a ∈ as, ∃ o, s.heap.get? a = some o) its l
  | [], _, _, _, .nil, .nil => .nil
  | _ :: _, _, _, hp, .cons h t, .cons r rr => by
    simp only [PyData.plainAll, Bool.and_eq_true] at hp
    obtain ⟨as, q⟩ := Rp.reads I _ _ _ hp.1 h r
    exact .cons ⟨as, q, PySem.W.ch_lives _ _ _ hp.1 q⟩ (each_reads I hp.2 t rr)
theorem sorted_len {l : List D} : (l.mergeSort (PySem.W.dataLe false id)).length = l.length := List.length_mergeSort _
theorem b_sorted (hu : X.A.units + 66 < cLine) : CallR X (.builtin "sorted") (rBi X.K (biD .sorted)) := by
  intro pins s σ H vs us Q I rs ⟨S, F, ι, ds, c, ss, rd, e, q⟩
  obtain ⟨d, l, rfl, hl, c', hs, rfl⟩ : ∃ d l, ds = [d] ∧ itemsOf d = some l ∧ ∃ c', sortL l = some c' ∧ c = .list c' := by
    unfold biD at e
    split at e <;> first | (rename_i h; cases h; done) | (cases e; done) | skip
    rename_i d h
    simp only [Option.bind_eq_some_iff, Option.map_eq_some_iff] at e
    obtain ⟨l, h1, c', h2, rfl⟩ := e
    exact ⟨d, l, rfl, h1, c', h2, rfl⟩
  unfold sortL at hs
  split at hs
  · rename_i hok
    cases hs
    obtain ⟨g1, g2, g3, g4⟩ := okSort_of hok
    obtain ⟨v, rfl, r⟩ := rd.one
    obtain ⟨u, rfl, ru⟩ := rs.one
    have hb : ∀ b, b ∈ l → X.A.units + 2 + (id b : D).depth < cLine := fun b hb => by
      have := depth_mem hb
      show X.A.units + 2 + b.depth < cLine
      omega
    rcases items_inv hl with rfl | rfl
    · obtain ⟨a, xs, rfl, hsq, ra⟩ := r.list
      cases ru
      obtain ⟨its, rv, pl, hz⟩ := I.list hsq
      have er := each_reads I g3 ra rv
      refine PySem.W.sorted_data (enc := id) (bs := l) pl.isList (each_of ra rv) (er.mono fun _ _ ⟨as, q, _⟩ => ⟨as, q⟩) (by rw [List.map_id]; exact g1) (by rw [List.map_id]; exact g2) (by rw [← ra.length]; exact hz) hb fun out ho eo => ?_
      obtain ⟨ys, ry, vy⟩ := of_each eo
      obtain ⟨ep, he'⟩ := PyProof.Rows.sortedAll_at s.heap its out.toArray
      have hn : H (s.heap.objs.size + 1) = none := I.hok.fresh (Nat.le_succ _)
      obtain ⟨n1, n2, n3⟩ := newL ss ry hn
      exact ⟨.ref _, upd H (s.heap.objs.size + 1) (.lst ys), I.laid (t' := s.toks) (fun _ _ => PyProof.Rows.sortedAll_old) (Nat.le_succ _) ⟨by rw [ry.length, sorted_len, ← ra.length]; exact hz, out, ep, vy, he'⟩, rfl, q _ _ _ n1 n2 n3⟩
    · obtain ⟨a, xs, rfl, hsq, ra⟩ := r.tuple
      cases ru
      obtain ⟨its, rv, pl, hz⟩ := I.tuple hsq.sq
      have er := each_reads I g3 ra rv
      refine PySem.W.ch_sorted_tuple (enc := id) (bs := l) pl (each_of ra rv) er (by rw [List.map_id]; exact g1) (by rw [List.map_id]; exact g2) (by rw [← ra.length]; exact hz) hb fun h1 h' out ep k1 k2 hat ho eo => ?_
      obtain ⟨ys, ry, vy⟩ := of_each eo
      have I1 : Inv X pins σ H { s with heap := h1 } := I.kept (t' := s.toks) k1
      have hn : H h1.objs.size = none := I1.hok.fresh (Nat.le_refl _)
      obtain ⟨n1, n2, n3⟩ := newL ss ry hn
      exact ⟨.ref _, upd H h1.objs.size (.lst ys), I1.laid (t' := s.toks) k2 (Nat.le_refl _) ⟨by rw [ry.length, sorted_len, ← ra.length]; exact hz, out, ep, vy, hat⟩, rfl, q _ _ _ n1 n2 n3⟩
  · cases hs
end
/-! isinstance -/
def tyN : Ty → String
  | .bool => "bool" | .int => "int" | .str => "str" | .list => "list" | .tuple => "tuple" | .dict => "dict"
/-- the type's own name -/
def tyO : D → String
  | .none => "NoneType" | .bool _ => "bool" | .int _ => "int" | .str _ => "str" | .list _ => "list" | .tuple _ => "tuple" | .dict _ => "dict"
theorem kit_all : ∀ (a : String), a ∈ ["NoneType", "bool", "int", "str", "list", "tuple", "dict"] → ∀ t : Ty, kitB a (tyN t) = some (decide ((a, t) ∈ [("bool", Ty.bool), ("bool", .int), ("int", .int), ("str", .str), ("list", .list), ("tuple", .tuple), ("dict", .dict)])) := by
  intro a ha t
  simp only [List.mem_cons, List.not_mem_nil, or_false] at ha
  rcases ha with rfl | rfl | rfl | rfl | rfl | rfl | rfl <;> cases t <;> decide +kernel
theorem kit_D (d : D) (t : Ty) : kitB (tyO d) (tyN t) = some (tyD d t) := by
  have h := kit_all (tyO d) (by cases d <;> simp [tyO]) t
  rw [h]
  cases d <;> cases t <;> rfl
theorem kitAny_D {K : PySem.W.Frag} (d : D) : ∀ ts : List Ty, PySem.W.kitAny K (.type (tyO d)) (ts.map fun t => .type (tyN t)) = some (ts.any (tyD d))
  | [] => rfl
  | t :: ts => kitAny_cons (kit_ty (kit_D d t)) (fun e => by rw [kitAny_D d ts]; simp [e]) fun e => by simp [e]
theorem tyX_of {K F ι H v d} (h : RpD K F ι H v d) (hd : ∀ ps, d = .dict ps → isDt ps = false) : TyX K H v (.type (tyO d)) := by
  obtain ⟨_, h | ⟨a, rfl, o⟩⟩ := h
  · cases h with
    | non => exact .base .non
    | bl => exact .base (.bl _)
    | int => exact .base (.int _)
    | str => exact .base (.str _)
    | lst h r =>
      rcases h with ⟨_, h | ⟨o, h⟩⟩ | ⟨o, its, n, h1, h2, _⟩
      · exact .base (.lst h)
      · exact .base (.frz h)
      · exact .kList h1 h2
    | tup h r => exact .base (.tup h.2)
    | dic f h r => exact .fDict h
    | dit f h r => exact absurd (hd _ rfl) (by simp [isDt, dtM])
    | loc h => rename_i hl; cases hl
  · cases o with
    | lst h r => exact .base (.lst h)
    | dic h r => exact .base (.dK h)
    | dit h r => exact .base (.dT h)
end CH
set_option Elab.async false
set_option linter.all false
set_option maxRecDepth 100000
set_option maxHeartbeats 1000000
/-! calls of built-in functions, as expressions; names, constants -/
namespace CH
open PySem PySem.Spec PyProof.Rows L2
def biF (b : Bi) (fl : ListF) : RunF := fun ρ S => match fl ρ S with
    | none => none
    | some (ds, S1) => ((derefs S1 ds).bind (biD b)).map (·, S1)
theorem biF_inv {b : Bi} {fl : ListF} {ρ S d S'} (h : biF b fl ρ S = some (d, S')) : ∃ ds ds', fl ρ S = some (ds, S') ∧ derefs S' ds = some ds' ∧ biD b ds' = some d := by
  unfold biF at h
  split at h
  · cases h
  · rename_i ds S1 h1
    simp only [Option.map_eq_some_iff, Prod.mk.injEq, Option.bind_eq_some_iff] at h
    obtain ⟨c, ⟨x', h2, h3⟩, rfl, rfl⟩ := h
    exact ⟨ds, x', h1, h2, h3⟩
theorem bi_read {K : PySem.W.Frag} {b : Bi} {fl : ListF} {σ H Q} (h : tN K (biF b fl) σ H Q) : tCB (rBi K (biD b)) (tBs K fl) σ H Q := by
  obtain ⟨ρ, S, F, ι, d, S', sr, e1, q⟩ := h
  obtain ⟨ds, ds', h1, h2, h3⟩ := biF_inv e1
  exact ⟨ρ, S, F, ι, ds, S', sr, h1, fun vs F1 ι1 H1 r1 s1 x1 => ⟨S', F1, ι1, ds', d, s1, r1.deref s1 h2, h3, fun v F2 H2 r2 s2 x2 => q v F2 ι1 H2 (r2.back x1) s2 (x1.trans x2)⟩⟩
def rBv (K : PySem.W.Frag) (g : List D → Option D) : List V → Hp → VK → Prop := fun vs H Q => ∃ S F ι ds c, Ss K S F ι H ∧ RpDs K F ι H vs ds ∧ g ds = some c ∧ ∀ v, Rp K F ι H v c → Q v H
theorem bv_read {K : PySem.W.Frag} {b : Bi} {fl : ListF} {σ H Q} (h : tV K (biF b fl) σ H Q) : tCB (rBv K (biD b)) (tBs K fl) σ H Q := by
  obtain ⟨ρ, S, F, ι, d, S', sr, e1, q⟩ := h
  obtain ⟨ds, ds', h1, h2, h3⟩ := biF_inv e1
  exact ⟨ρ, S, F, ι, ds, S', sr, h1, fun vs F1 ι1 H1 r1 s1 x1 => ⟨S', F1, ι1, ds', d, s1, r1.deref s1 h2, h3, fun v r2 => q v F1 ι1 H1 r2 s1 x1⟩⟩
section
variable {X : Cx} {a b c e : Expr} {es : List Expr} {fa fb fc : RunF} {fl : ListF} {p pos : Pos} {x : Str} {id T : String}
theorem plain_of {l : List Expr} (hl : l.all notStar = true) (env : Env) (pos : Pos) : (backTo pos (starEach l env)).any (·.1) = false := by
  induction l with
  | nil => rfl
  | cons e l ih =>
    simp only [List.all_cons, Bool.and_eq_true] at hl
    rw [star_of hl.1]
    have := ih hl.2
    simp only [backTo, List.map_cons, List.any_cons, Bool.false_or] at this ⊢
    exact this
theorem nBiB {g : Bi} (hc : CallR X (.builtin id) (rBi X.K (biD g))) (hg : Gl X x) (hm : X.mg x = none) (hv : bootBuiltins x = some (.builtin id)) (ha : PA X (e :: es) (tBs X.K fl)) (hs : (e :: es).all notStar = true) (hn : x ≠ "__name__") (hdb : (x == ("__debug__" : Str)) = false) :
    PE X (.Call (.Name x p) (e :: es) [] pos) (tN X.K (biF g fl)) := by
  have hs' := hs
  simp only [List.all_cons, Bool.and_eq_true] at hs
  exact PE.imp (pe_callB hc hg hm hv ha hn hdb (star_of hs.1 es X.env) (plain_of hs.2 X.env pos)) fun _ _ _ => bi_read
theorem nBiT {g : Bi} (hc : CallR X (.type T) (rBi X.K (biD g))) (hg : Gl X x) (hm : X.mg x = none) (hv : bootBuiltins x = some (.type T)) (ha : PA X (e :: es) (tBs X.K fl)) (hs : (e :: es).all notStar = true) (hn : x ≠ "__name__") (hdb : (x == ("__debug__" : Str)) = false) :
    PE X (.Call (.Name x p) (e :: es) [] pos) (tN X.K (biF g fl)) := by
  simp only [List.all_cons, Bool.and_eq_true] at hs
  exact PE.imp (pe_callTy hc hg hm hv ha hn hdb (star_of hs.1 es X.env) (plain_of hs.2 X.env pos)) fun _ _ _ => bi_read
theorem vBiB {g : Bi} (hc : CallR X (.builtin id) (rBv X.K (biD g))) (hg : Gl X x) (hm : X.mg x = none) (hv : bootBuiltins x = some (.builtin id)) (ha : PA X (e :: es) (tBs X.K fl)) (hs : (e :: es).all notStar = true) (hn : x ≠ "__name__") (hdb : (x == ("__debug__" : Str)) = false) :
    PE X (.Call (.Name x p) (e :: es) [] pos) (tV X.K (biF g fl)) := by
  simp only [List.all_cons, Bool.and_eq_true] at hs
  exact PE.imp (pe_callB hc hg hm hv ha hn hdb (star_of hs.1 es X.env) (plain_of hs.2 X.env pos)) fun _ _ _ => bv_read
/-! isinstance -/
theorem nIsi1 {t : Ty} {px : Pos} (hg : Gl X "isinstance") (hm : X.mg "isinstance" = none) (ha : PE X a (tB X.K fa)) (hs : notStar a = true) (hgt : Gl X (tyN t)) (hmt : X.mg (tyN t) = none) :
    PE X (.Call (.Name "isinstance" p) [a, .Name (tyN t) px] [] pos) (tN X.K (biF (.inst [t]) (consF fa nilF))) := by
  have ht : PE X (.Name (tyN t) px) (tC (.ty (tyN t))) := pe_bltn hgt hmt (by cases t <;> decide +kernel) (show Value.type (tyN t) = Value.type (tyN t) from rfl) (by cases t <;> decide) (by cases t <;> decide)
  refine PE.imp (pe_callB call_isi hg hm PyProof.Rows.boot_isinstance (pa_cons ha (pa_cons ht pa_nil (star_of (by rfl) [] X.env)) (star_of hs _ X.env)) (by decide) (by decide) (star_of hs _ X.env) rfl) fun σ H Q ⟨ρ, S, F, ι, d, S', sr, e1, q⟩ => ?_
  obtain ⟨ds, ds', h1, h2, h3⟩ := biF_inv e1
  obtain ⟨d0, S1, es, h4, h5, rfl⟩ := consF_inv h1
  cases h5
  refine ⟨ρ, S, F, ι, d0, S', sr, h4, fun v F1 ι1 H1 r1 s1 x1 => ?_⟩
  simp only [derefs] at h2
  split at h2
  · rename_i d1 xs g1 g2
    cases g2; cases h2
    have h3' : (if noDt d1 then some (PyData.bool ([t].any (tyD d1))) else none) = some d := h3
    split at h3'
    · rename_i hd; cases h3'
      have rd := r1.deref s1 g1
      refine ⟨v, .ty (tyN t), .type (tyO d1), .type (tyN t), tyD d1 t, rfl, .ty _, tyX_of rd (fun ps e => by subst e; simpa [noDt] using hd), kit_ty (kit_D d1 t), ?_⟩
      have : ([t].any (tyD d1)) = tyD d1 t := by simp
      rw [this] at q
      exact q _ F1 ι1 H1 (.flat (.bl _) rfl) s1 x1
    · cases h3'
  · cases h2
theorem nIsi2 {t u : Ty} {px py pt : Pos} {k : Nat} (hg : Gl X "isinstance") (hm : X.mg "isinstance" = none) (ha : PE X a (tB X.K fa)) (hs : notStar a = true) (hgt : Gl X (tyN t)) (hmt : X.mg (tyN t) = none) (hgu : Gl X (tyN u)) (hmu : X.mg (tyN u) = none) :
    PE X (.Call (.Name "isinstance" p) [a, .Tuple [.Name (tyN t) px, .Name (tyN u) py] k pt] [] pos) (tN X.K (biF (.inst [t, u]) (consF fa nilF))) := by
  have hT : ∀ t px, Gl X (tyN t) → X.mg (tyN t) = none → PE X (.Name (tyN t) px) (tC (.ty (tyN t))) := fun t px hgt hmt => pe_bltn hgt hmt (by cases t <;> decide +kernel) (show Value.type (tyN t) = Value.type (tyN t) from rfl) (by cases t <;> decide) (by cases t <;> decide)
  refine PE.imp (pe_callB call_isiT hg hm PyProof.Rows.boot_isinstance (pa_cons ha (pa_cons (pe_tup (pa_cons (hT t px hgt hmt) (pa_cons (hT u py hgu hmu) pa_nil))) pa_nil (star_of (by rfl) [] X.env)) (star_of hs _ X.env)) (by decide) (by decide) (star_of hs _ X.env) rfl) fun σ H Q ⟨ρ, S, F, ι, d, S', sr, e1, q⟩ => ?_
  obtain ⟨ds, ds', h1, h2, h3⟩ := biF_inv e1
  obtain ⟨d0, S1, es, h4, h5, rfl⟩ := consF_inv h1
  cases h5
  refine ⟨ρ, S, F, ι, d0, S', sr, h4, fun v F1 ι1 H1 r1 s1 x1 => ?_⟩
  simp only [derefs] at h2
  split at h2
  · rename_i d1 xs g1 g2
    cases g2; cases h2
    have h3' : (if noDt d1 then some (PyData.bool ([t, u].any (tyD d1))) else none) = some d := h3
    split at h3'
    · rename_i hd; cases h3'
      refine ⟨by show 2 ≤ sizeLine; decide, fun q0 hq0 => ?_⟩
      have x2 := ext_newO (F := F1) (ι := ι1) (o := .tup [V.ty (tyN t), V.ty (tyN u)]) hq0
      have s2 := s1.newO (o := .tup [V.ty (tyN t), V.ty (tyN u)]) hq0
      have rd := (r1.ext s1 x2).deref s2 g1
      exact ⟨v, q0, _, .type (tyO d1), [.type (tyN t), .type (tyN u)], _, rfl, upd_same, .cons (.ty _) (.cons (.ty _) .nil), tyX_of rd (fun ps e => by subst e; simpa [noDt] using hd), kitAny_D d1 [t, u], q _ F1 ι1 _ (.flat (.bl _) rfl) s2 (x1.trans x2)⟩
    · cases h3'
  · cases h2
/-! names and constants -/
theorem varV {i : Nat} (hN : X.N[i]? = some x) (hv : Vis X.env.scope x) (hd : (x == ("__debug__" : Str)) = false) (hcd : (x == ("__classdict__" : Str)) = false) : PE X (.Name x pos) (tV X.K fun ρ S => (getS ρ i).map (·, S)) :=
  PE.imp (pe_var hN hv hd hcd) fun σ H Q ⟨ρ, S, F, ι, d, S', sr, e1, q⟩ => by
    replace e1 : (getS ρ i).map (·, S) = some (d, S') := e1
    simp only [Option.map_eq_some_iff, Prod.mk.injEq] at e1
    obtain ⟨d', e1, rfl, rfl⟩ := e1
    unfold getS at e1
    split at e1
    · rename_i d' h1
      cases e1
      obtain ⟨v, h2, r⟩ := sr.val i _ h1
      exact ⟨v, h2, q v F ι H r sr.ss .refl⟩
    · cases e1
theorem varB {i : Nat} (hN : X.N[i]? = some x) (hv : Vis X.env.scope x) (hd : (x == ("__debug__" : Str)) = false) (hcd : (x == ("__classdict__" : Str)) = false) : PE X (.Name x pos) (tB X.K fun ρ S => (getB ρ i).map (·, S)) :=
  PE.imp (pe_var hN hv hd hcd) fun σ H Q ⟨ρ, S, F, ι, d, S', sr, e1, q⟩ => by
    replace e1 : (getB ρ i).map (·, S) = some (d, S') := e1
    simp only [Option.map_eq_some_iff, Prod.mk.injEq] at e1
    obtain ⟨d', e1, rfl, rfl⟩ := e1
    unfold getB at e1
    split at e1
    · rename_i o d' h1
      cases e1
      cases o with
      | false =>
        obtain ⟨v, h2, r⟩ := sr.val i _ h1
        exact ⟨v, h2, q v F ι H (.inl r) sr.ss .refl⟩
      | true =>
        obtain ⟨a, h2, o, n1, n2⟩ := sr.own i _ h1
        exact ⟨_, h2, q _ F ι H (.inr ⟨a, rfl, o, n2⟩) sr.ss .refl⟩
    · cases e1
def varF (i : Nat) : Md → RunF := fun m ρ S => match m with
  | .V => (getS ρ i).map (·, S)
  | m => fin m ((getB ρ i).map (·, S))
theorem evVar {i : Nat} (hN : X.N[i]? = some x) (hv : Vis X.env.scope x) (hd : (x == ("__debug__" : Str)) = false) (hcd : (x == ("__classdict__" : Str)) = false) : EvM X (.Name x pos) (varF i) :=
  ⟨varV hN hv hd hcd, varB hN hv hd hcd, B2T (varB hN hv hd hcd) fun _ => rfl⟩
/-- a written constant -/
def atomV : D → Option V
  | .none => some .non
  | .bool b => some (.bl b)
  | .int i => some (.int i)
  | .str s => some (.str s)
  | _ => none
theorem rp_atom {K F ι H d v} (h : atomV d = some v) : Rp K F ι H v d := by
  unfold atomV at h
  split at h <;> first | (cases h; constructor; done) | cases h
theorem vCst {d : D} {v : V} (he : PE X e (tC v)) (h : atomV d = some v) : PE X e (tV X.K fun _ S => some (d, S)) :=
  PE.imp he fun σ H Q ⟨ρ, S, F, ι, d, S', sr, e1, q⟩ => by cases e1; exact q v F ι H (rp_atom h) sr.ss .refl
/-! dict(list of pairs), min(.., default=..) -/
theorem pairs_inv {K F ι H} : ∀ {l : List D} {xs : List V} {ps : List (D × D)}, pairsOf l = some ps → RpA K F ι H xs l →
    ∃ (as : List Addr) (kvs : List (Key × V)), xs = as.map V.ref ∧ Paired (fun p kv => SqT K H p [kV kv.1, kv.2]) as kvs ∧ RpK K F ι H kvs ps
  | [], _, _, h, .nil => by cases h; exact ⟨[], [], rfl, .nil, .nil⟩
  | d :: r, _, ps, h, .cons rd rr => by
    unfold pairsOf at h
    split at h
    · rename_i heq; cases heq
    · rename_i k v r' heq
      cases heq
      split at h
      · rename_i kk ps' h1 h2
        cases h
        have ek := toKey_inv h1
        subst ek
        cases rd with
        | tup hf ra =>
          cases ra with
          | cons r1 r2 =>
            cases r2 with
            | cons r2 r3 =>
              cases r3
              have := r1.key; subst this
              obtain ⟨as, kvs, rfl, hp, hk⟩ := pairs_inv h2 rr
              exact ⟨_ :: as, (kk, _) :: kvs, rfl, .cons hf.sq hp, .cons r2 hk⟩
      · cases h
    · cases h
theorem merge_inv {K F ι H} {ps : List (D × D)} : ∀ {acc m : List (D × D)} {kvs ka : List (Key × V)}, mergeD acc ps = some m → RpK K F ι H ka acc → RpK K F ι H kvs ps → RpK K F ι H (mergeK ka kvs) m := by
  induction ps with
  | nil => intro acc m kvs ka h ra r; cases r; cases h; exact ra
  | cons p ps ih =>
    intro acc m kvs ka h ra r
    cases r with
    | @cons k v vs d _ rv rr =>
      simp only [mergeD, toKK_keyD] at h
      show RpK K F ι H (mergeK (putK ka k v) vs) m
      exact ih h (ra.put rv) rr
theorem b_dict (hc : X.calm = true) : CallR X (.type "dict") (rBi X.K (biD .dict)) := CallR.imp (call_dictP hc) fun vs H Q ⟨S, F, ι, ds, c, ss, rd, e, q⟩ => by
  obtain ⟨l, ps, m, rfl, h1, h2, rfl⟩ : ∃ l ps m, ds = [.list l] ∧ pairsOf l = some ps ∧ mergeD [] ps = some m ∧ c = .dict m := by
    unfold biD at e
    split at e <;> first | (rename_i h; cases h; done) | (cases e; done) | skip
    rename_i l h
    simp only [Option.bind_eq_some_iff, Option.map_eq_some_iff] at e
    obtain ⟨ps, h1, m, h2, rfl⟩ := e
    exact ⟨l, ps, m, rfl, h1, h2, rfl⟩
  obtain ⟨v, rfl, r⟩ := rd.one
  obtain ⟨a, xs, rfl, hs, ra⟩ := r.list
  obtain ⟨as, kvs, rfl, hp, hk⟩ := pairs_inv h1 ra
  refine ⟨a, as, kvs, rfl, hs, hp, fun p hp => ?_⟩
  obtain ⟨n1, n2, n3⟩ := newDk ss (merge_inv h2 .nil hk) hp
  exact q _ _ _ n1 n2 n3
def minDfF (fa fd : RunF) : RunF := fun ρ S => match fa ρ S with
    | some (x, S1) => match fd ρ S1 with
      | none => none
      | some (y, S2) => match deref S2 x with
        | some (.list []) => some (y, S2)
        | some (.list l) => (minL l).map (·, S2)
        | _ => none
    | _ => none
theorem vMinD {kp : Pos} (hc : X.calm = true) (hu : X.A.units + 66 < cLine) (hg : Gl X "min") (hm : X.mg "min" = none) (ha : PE X a (tB X.K fa)) (hb : PE X b (tV X.K fb)) (hs : notStar a = true) :
    PE X (.Call (.Name "min" p) [a] [⟨some "default", b, kp⟩] pos) (tV X.K (minDfF fa fb)) := by
  refine PE.imp (pe_callBK (b_minD hc hu) hg hm PyProof.Rows.boot_min (bCons ha bNil hs) (pk_cons hb pk_nil) (by decide) (by decide) (by rw [star_of hs [] X.env]; rfl) (plain_of (by simpa using hs) X.env pos) rfl rfl rfl) fun σ H Q ⟨ρ, S, F, ι, d, S', sr, e1, q⟩ => ?_
  unfold minDfF at e1
  split at e1
  · rename_i x S1 h1
    split at e1
    · cases e1
    · rename_i y S2 h2
      have key : ∃ l, deref S2 x = some (.list l) ∧ minDfD l y d ∧ S2 = S' := by
        split at e1
        · rename_i h3; cases e1; exact ⟨_, h3, .inl ⟨rfl, rfl⟩, rfl⟩
        · rename_i l hn h3
          simp only [Option.map_eq_some_iff, Prod.mk.injEq] at e1
          obtain ⟨c, h4, rfl, rfl⟩ := e1
          exact ⟨l, h3, .inr ⟨fun e => hn (by rw [e]), h4⟩, rfl⟩
        · cases e1
      obtain ⟨l, h3, h4, rfl⟩ := key
      refine ⟨ρ, S, F, ι, [x], S1, sr, by simp [consF, h1, nilF], fun vs F1 ι1 H1 r1 s1 x1 => ?_⟩
      cases r1 with
      | cons r rr =>
        cases rr
        refine ⟨ρ, S1, F1, ι1, y, S2, sr.ext x1 s1, h2, fun z F2 ι2 H2 r2 s2 x2 => ?_⟩
        obtain ⟨a, xs, rfl, hq, ra⟩ := ((r.ext s1 x2).deref s2 h3).list
        exact ⟨S2, F2, ι2, a, xs, l, z, y, d, s2, rfl, hq, ra, rfl, r2, h4, fun v rv => q v F2 ι2 H2 rv s2 (x1.trans x2)⟩
  · cases e1
end
end CH
set_option Elab.async false
set_option linter.all false
set_option maxRecDepth 100000
set_option maxHeartbeats 1000000
/-! calls of the program's own defs; comprehensions as expressions and as stores -/
namespace CH
open PySem PySem.Spec PyProof.Rows L2
/-! ### own defs -/
def spD (K : PySem.W.Frag) (C : CallF) (f : Str) : Sp := fun vs H Q _ => ∃ S F ι ds d S', Ss K S F ι H ∧ RpA K F ι H vs ds ∧ C f ds S = some (d, S') ∧ ∀ v F' ι' H', Rp K F' ι' H' v d → Ss K S' F' ι' H' → Ext0 F ι H F' ι' H' → Q v H'
structure Fns (P : Program) (w : World) (K : PySem.W.Frag) (mg : Str → Option Value) (base : Heap) (C : CallF) (k : Nat) (fs : List (Str × Nat)) : Prop where
  fn : ∀ f n, (f, n) ∈ fs → ∃ (a : Addr) (fd : FuncData) (ps : List Str), mg f = some (.ref a) ∧ PySem.W.keepIn K (.ref a) = true ∧ Binds K fd ps [] ∧ FnOk P w K mg base CX0 k a fd ps (spD K C f)
def callF (C : CallF) (f : Str) (fl : ListF) : RunF := fun ρ S => match fl ρ S with
    | none => none
    | some (ds, S1) => C f ds S1
section
variable {X : Cx} {a b c e tg iter : Expr} {es : List Expr} {fa fb fc : RunF} {fl : ListF} {p pos : Pos} {x f : Str} {C : CallF} {k n : Nat} {fs : List (Str × Nat)}
theorem vCall (F : Fns X.prog X.w X.K X.mg X.base C k fs) (hr : Room k X.A) (hg : Gl X f) (hm : (f, n) ∈ fs) (ha : PA X (e :: es) (tA X.K fl)) (hs : (e :: es).all notStar = true) (hdb : (f == ("__debug__" : Str)) = false) : PE X (.Call (.Name f p) (e :: es) [] pos) (tV X.K (callF C f fl)) := by
  obtain ⟨ad, fd, ps, h1, h2, h3, h4⟩ := F.fn f n hm
  simp only [List.all_cons, Bool.and_eq_true] at hs
  refine PE.imp (pe_call h4 hr hg h1 h2 h3 .nil pass0 ha hdb (star_of hs.1 es X.env) (plain_of hs.2 X.env pos)) fun σ H Q ⟨ρ, S, F, ι, d, S', sr, e1, q⟩ => ?_
  unfold callF at e1
  split at e1
  · cases e1
  · rename_i ds S1 g1
    refine ⟨ρ, S, F, ι, ds, S1, sr, g1, fun vs F1 ι1 H1 r1 s1 x1 => ?_⟩
    show spD X.K C f (vs ++ []) H1 Q E0
    rw [List.append_nil]
    exact ⟨S1, F1, ι1, ds, d, S', s1, r1, e1, fun v F2 ι2 H2 r2 s2 x2 => q v F2 ι2 H2 r2 s2 (x1.trans x2)⟩
theorem vCall0 (F : Fns X.prog X.w X.K X.mg X.base C k fs) (hr : Room k X.A) (hg : Gl X f) (hm : (f, n) ∈ fs) (hdb : (f == ("__debug__" : Str)) = false) : PE X (.Call (.Name f p) [] [] pos) (tV X.K (callF C f nilF)) := by
  obtain ⟨ad, fd, ps, h1, h2, h3, h4⟩ := F.fn f n hm
  refine PE.imp (pe_call0 h4 hr hg h1 h2 h3 .nil pass0 hdb) fun σ H Q ⟨ρ, S, F, ι, d, S', sr, e1, q⟩ => ?_
  exact ⟨S, F, ι, [], d, S', sr.ss, .nil, e1, q⟩
/-! ### comprehensions -/
/-- name = e, e a comprehension that stores by itself -/
def AsgP (X : Cx) (e : Expr) (f : RunF) : Prop := ∀ (i : Nat) (y : Str) (py spos : Pos), X.N[i]? = some y → X.env.scope.names.lookup y = some .local → swapsWith e (some (.Name y py)) spos.line X.env = pure true →
  PS X (.Assign [.Name y py] e spos) (tS X.K (asgF (bindO i) f))
theorem asg_imp {K : PySem.W.Frag} {t : TE} {f : RunF} {i : Nat} (h : ∀ σ H Q, tN K f σ H Q → t σ H Q) {D σ H} (q : tS K (asgF (bindO i) f) D σ H) : tAsg t (gName i) D σ H := h _ _ _ (asgO_read q)
section
variable {elt kx vx tg1 iter1 : Expr} {ifs ifs1 : List Expr} {scope : Scope} {own : List (Str × Nat)} {it it1 : ListF} {t t1 : Tg} {ft ft1 fe fk fv : RunF} {own1 : List Nat}
theorem nLc (hc : X.calm = true) (hN : X.N.Nodup) (hi : PI X tg iter (tI X.K it)) (ok : BlkOk X.N X.env.scope scope own) (hs : ∀ j ∈ tgS t, j ∈ own.map (·.2))
    (hg : ∀ (s : Shared) (H : Hp) (C : Addr) (cl : List (Str × Addr)) (fp : List Addr), PG (X.blk s H scope (compEnvC scope cl C X.env) fp) tg (tG X.K (bindT t) (tgS t))) (ht : ∀ (s : Shared) (H : Hp) (C : Addr) (cl : List (Str × Addr)) (fp : List Addr), PTs (X.blk s H scope (compEnvC scope cl C X.env) fp) ifs (tT X.K ft))
    (he : ∀ (s : Shared) (H : Hp) (C : Addr) (cl : List (Str × Addr)) (fp : List Addr), PE (X.blk s H scope (compEnvC scope cl C X.env) fp) elt (tV X.K fe)) (hf : ∀ x, foldedSetIterable iter X.env x = pure x) :
    PE X (.ListComp elt [⟨tg, iter, ifs, 0⟩] scope pos) (tN X.K (lcF it t ft fe (own.map (·.2)))) ∧ AsgP X (.ListComp elt [⟨tg, iter, ifs, 0⟩] scope pos) (lcF it t ft fe (own.map (·.2))) :=
  ⟨PE.imp (pe_lc hc hN hi ok hg ht he hf) fun _ _ _ => lc_read hs, fun i y py spos hy hyl hsw => PS.imp (ps_setLc hc hN hy hyl hsw hi ok hg ht he hf) fun _ _ _ => asg_imp fun _ _ _ => lc_read hs⟩
theorem nLc2 (hc : X.calm = true) (hN : X.N.Nodup) (hi : PI X tg iter (tI X.K it)) (ok : BlkOk X.N X.env.scope scope own) (hv : ∀ i ∈ own1, i ∈ own.map (·.2)) (hs : ∀ j ∈ tgS t, j ∈ own.map (·.2)) (hs1 : ∀ j ∈ tgS t1, j ∈ own1)
    (hg : ∀ (s : Shared) (H : Hp) (C : Addr) (cl : List (Str × Addr)) (fp : List Addr), PG (X.blk s H scope (compEnvC scope cl C X.env) fp) tg (tG X.K (bindT t) (tgS t))) (ht : ∀ (s : Shared) (H : Hp) (C : Addr) (cl : List (Str × Addr)) (fp : List Addr), PTs (X.blk s H scope (compEnvC scope cl C X.env) fp) ifs (tT X.K ft))
    (hi1 : ∀ (s : Shared) (H : Hp) (C : Addr) (cl : List (Str × Addr)) (fp : List Addr), PI (X.blk s H scope (compEnvC scope cl C X.env) fp) tg1 iter1 (tI X.K it1))
    (hg1 : ∀ (s : Shared) (H : Hp) (C : Addr) (cl : List (Str × Addr)) (fp : List Addr), PG (X.blk s H scope (compEnvC scope cl C X.env) fp) tg1 (tG X.K (bindT t1) (tgS t1))) (ht1 : ∀ (s : Shared) (H : Hp) (C : Addr) (cl : List (Str × Addr)) (fp : List Addr), PTs (X.blk s H scope (compEnvC scope cl C X.env) fp) ifs1 (tT X.K ft1))
    (he : ∀ (s : Shared) (H : Hp) (C : Addr) (cl : List (Str × Addr)) (fp : List Addr), PE (X.blk s H scope (compEnvC scope cl C X.env) fp) elt (tV X.K fe)) (hf : ∀ x, foldedSetIterable iter X.env x = pure x) (hf1 : ∀ env x, foldedSetIterable iter1 env x = pure x) :
    PE X (.ListComp elt [⟨tg, iter, ifs, 0⟩, ⟨tg1, iter1, ifs1, 0⟩] scope pos) (tN X.K (lc2F it t ft it1 t1 ft1 fe (own.map (·.2)) own1)) ∧ AsgP X (.ListComp elt [⟨tg, iter, ifs, 0⟩, ⟨tg1, iter1, ifs1, 0⟩] scope pos) (lc2F it t ft it1 t1 ft1 fe (own.map (·.2)) own1) :=
  ⟨PE.imp (pe_lc2 hc hN hi ok hv hg ht hi1 hg1 ht1 he hf hf1) fun _ _ _ => lc2_read hs hs1, fun i y py spos hy hyl hsw => PS.imp (ps_setLc2 hc hN hy hyl hsw hi ok hv hg ht hi1 hg1 ht1 he hf hf1) fun _ _ _ => asg_imp fun _ _ _ => lc2_read hs hs1⟩
theorem ps_setDc {i : Nat} {y : Str} {py spos : Pos} {wi : TI} {g : TG} {tt : TT} {tk tv : TE} (hc : X.calm = true) (hN : X.N.Nodup) (hy : X.N[i]? = some y) (hyl : X.env.scope.names.lookup y = some .local)
    (hsw : swapsWith (.DictComp kx vx [⟨tg, iter, ifs, 0⟩] scope pos) (some (.Name y py)) spos.line X.env = pure true) (hi : PI X tg iter wi) (ok : BlkOk X.N X.env.scope scope own)
    (hg : ∀ (s : Shared) (H : Hp) (C : Addr) (cl : List (Str × Addr)) (fp : List Addr), PG (X.blk s H scope (compEnvC scope cl C X.env) fp) tg g) (ht : ∀ (s : Shared) (H : Hp) (C : Addr) (cl : List (Str × Addr)) (fp : List Addr), PTs (X.blk s H scope (compEnvC scope cl C X.env) fp) ifs tt)
    (hk : ∀ (s : Shared) (H : Hp) (C : Addr) (cl : List (Str × Addr)) (fp : List Addr), PE (X.blk s H scope (compEnvC scope cl C X.env) fp) kx tk)
    (he : ∀ (s : Shared) (H : Hp) (C : Addr) (cl : List (Str × Addr)) (fp : List Addr), PE (X.blk s H scope (compEnvC scope cl C X.env) fp) vx tv) (hs : ∀ x, foldedSetIterable iter X.env x = pure x) :
    PS X (.Assign [.Name y py] (.DictComp kx vx [⟨tg, iter, ifs, 0⟩] scope pos) spos) (tAsg (tDc wi g tt tk tv (own.map (·.2))) (gName i)) := by
  refine ⟨fun pins s σ H D I h => ?_⟩
  rw [exec_Assign_Name_used _ _ _ _ hsw]
  refine wpAny_bind (wpAny_standAt (wpAny_bind ?_))
  show wpAny _ X.A (do let _ ← comprehension (.DictComp kx vx [⟨tg, iter, ifs, 0⟩] scope pos) scope X.env (firstIterPos [⟨tg, iter, ifs, 0⟩] pos) newDict false (eval iter X.env) (some (assign (.Name y py) X.env))) _ _ s
  have h : tDc wi g tt tk tv (own.map (·.2)) σ H (fun x H1 => gName i x σ H1 D.nx) := h
  refine wpAny_bind (thn (dc_core (Qf := fun _ s' => SP X pins D .next s') hc hN I hi ok hg ht hk he hs h fun L C s' m H' I' q hn f => ?_) fun _ s' hq => wpAny_pure (wpAny_pure hq))
  show wpAny _ _ (assign (.Name y py) X.env (.ref L)) _ _ _
  refine wpAny_assign_Name (store_ok2 (v := V.ref L) I' hN hy (.inl hyl) rfl (fun s2 I2 ⟨a, sb, ha⟩ => ?_) (.inr hyl))
  obtain ⟨f0, f1, f2, f3, f4, f5⟩ := f
  have haC : C ≠ a := by
    rcases ha with z | z
    · rw [z]; exact f1
    · exact fun e => f4 y a z e.symm
  refine ⟨m, hn.sameBut sb haC, fun h3 sb3 => ?_⟩
  exact ⟨_, H', I2.turned (t' := s2.toks) (fun b o hb e => (sb3.2 b hb).trans e) f0 f1 f3 f4 f5, q⟩
theorem nDc (hc : X.calm = true) (hN : X.N.Nodup) (hi : PI X tg iter (tI X.K it)) (ok : BlkOk X.N X.env.scope scope own) (hs : ∀ j ∈ tgS t, j ∈ own.map (·.2))
    (hg : ∀ (s : Shared) (H : Hp) (C : Addr) (cl : List (Str × Addr)) (fp : List Addr), PG (X.blk s H scope (compEnvC scope cl C X.env) fp) tg (tG X.K (bindT t) (tgS t))) (ht : ∀ (s : Shared) (H : Hp) (C : Addr) (cl : List (Str × Addr)) (fp : List Addr), PTs (X.blk s H scope (compEnvC scope cl C X.env) fp) ifs (tT X.K ft))
    (hk : ∀ (s : Shared) (H : Hp) (C : Addr) (cl : List (Str × Addr)) (fp : List Addr), PE (X.blk s H scope (compEnvC scope cl C X.env) fp) kx (tV X.K fk))
    (he : ∀ (s : Shared) (H : Hp) (C : Addr) (cl : List (Str × Addr)) (fp : List Addr), PE (X.blk s H scope (compEnvC scope cl C X.env) fp) vx (tV X.K fv)) (hf : ∀ x, foldedSetIterable iter X.env x = pure x) :
    PE X (.DictComp kx vx [⟨tg, iter, ifs, 0⟩] scope pos) (tN X.K (dcF it t ft fk fv (own.map (·.2)))) ∧ AsgP X (.DictComp kx vx [⟨tg, iter, ifs, 0⟩] scope pos) (dcF it t ft fk fv (own.map (·.2))) :=
  ⟨PE.imp (pe_dc hc hN hi ok hg ht hk he hf) fun _ _ _ => dc_read hs, fun i y py spos hy hyl hsw => PS.imp (ps_setDc hc hN hy hyl hsw hi ok hg ht hk he hf) fun _ _ _ => asg_imp fun _ _ _ => dc_read hs⟩
theorem tsNil : PTs X [] (tT X.K fun _ S => some (.bool true, S)) := ⟨fun pins s σ H Q I ⟨ρ, S, F, ι, c, S', sr, e1, q⟩ => pts_nil.run pins s σ H Q I (by cases e1; exact q F ι H sr.ss .refl)⟩
theorem tsOne (h : PT X c (tT X.K fc)) : PTs X [c] (tT X.K fc) := pts_one h
end
end
end CH
set_option Elab.async false
set_option linter.all false
set_option maxRecDepth 100000
set_option maxHeartbeats 2000000
/-! the text against the small language: a check, and what it gives -/
namespace CH
open PySem PySem.Spec PyProof.Rows L2
structure Inf where
  N : List Str
  sc : Scope
  bl : Option Scope
  free : List Str
  fs : List (Str × Nat)
  ks : List (Str × D)
def Inf.cel (I : Inf) (x : Str) : Bool := match I.bl with
  | none => true
  | some s => s.names.lookup x == some .cell
def Inf.blk (I : Inf) (s : Scope) : Inf := { I with sc := relS s I.sc, bl := some s }
structure Good (X : Cx) (I : Inf) (C : CallF) (k : Nat) : Prop where
  hN : X.N = I.N
  nd : I.N.Nodup
  sc : X.env.scope = I.sc
  fn : ∀ x, I.cel x = true → X.fn x = true
  calm : X.calm = true
  room : Room k X.A
  free : ∀ x, x ∈ I.free → X.mg x = none
  fns : Fns X.prog X.w X.K X.mg X.base C k I.fs
  ks : ∀ x d, (x, d) ∈ I.ks → ∃ u v, X.mg x = some u ∧ RelV v u ∧ atomV d = some v
  xe : X.xe = fun _ _ => False
theorem Good.blk {X : Cx} {I : Inf} {C : CallF} {k : Nat} (G : Good X I C k) (s : Shared) (H : Hp) (scope : Scope) (Ca : Addr) (cl : List (Str × Addr)) (fp : List Addr) : Good (X.blk s H scope (compEnvC scope cl Ca X.env) fp) (I.blk scope) C k :=
  ⟨G.hN, G.nd, by show relabel scope X.env = relS scope I.sc; rw [← G.sc]; rfl, fun x h => h, G.calm, G.room, G.free, G.fns, G.ks, rfl⟩
/-! ### small checks -/
def visB (sc : Scope) (x : Str) : Bool := match sc.names.lookup x with
  | some .local => true
  | some .cell => true
  | some .free => true
  | _ => false
def locB (sc : Scope) (x : Str) : Bool := match sc.names.lookup x with
  | some .local => true
  | some .cell => true
  | _ => false
def plocB (sc : Scope) (x : Str) : Bool := match sc.names.lookup x with
  | some .local => true
  | _ => false
def gloB (sc : Scope) (x : Str) : Bool := match sc.names.lookup x with
  | some .globalImplicit => true
  | _ => false
def okName (x : Str) : Bool := !(x == ("__debug__" : Str)) && !(x == ("__classdict__" : Str)) && !(decide (x = ("__name__" : Str)))
def gbl (I : Inf) (x : Str) : Bool := gloB I.sc x && decide (x ∈ I.free)
section
variable {X : Cx} {I : Inf} {C : CallF} {k : Nat} {x : Str}
theorem vis_of (G : Good X I C k) (h : visB I.sc x = true) : Vis X.env.scope x := by
  rw [G.sc]; unfold visB at h
  split at h
  · exact .inl (by assumption)
  · exact .inr (.inl (by assumption))
  · exact .inr (.inr (by assumption))
  · cases h
theorem loc_of (G : Good X I C k) (h : locB I.sc x = true) : Loc X.env.scope x := by
  rw [G.sc]; unfold locB at h
  split at h
  · exact .inl (by assumption)
  · exact .inr (by assumption)
  · cases h
theorem ploc_of (G : Good X I C k) (h : plocB I.sc x = true) : X.env.scope.names.lookup x = some .local := by
  rw [G.sc]; unfold plocB at h
  split at h
  · assumption
  · cases h
theorem glo_of (G : Good X I C k) (h : gloB I.sc x = true) : Gl X x := by
  unfold Gl Env.kindOf; rw [G.sc]; unfold gloB at h
  split at h
  · assumption
  · cases h
theorem okName_of (h : okName x = true) : (x == ("__debug__" : Str)) = false ∧ (x == ("__classdict__" : Str)) = false ∧ x ≠ "__name__" := by
  unfold okName at h
  simp only [Bool.and_eq_true, Bool.not_eq_true', decide_eq_false_iff_not] at h
  exact ⟨h.1.1, h.1.2, h.2⟩
theorem gbl_of (G : Good X I C k) (h : gbl I x = true) : Gl X x ∧ X.mg x = none := by
  unfold gbl at h
  simp only [Bool.and_eq_true, decide_eq_true_eq] at h
  exact ⟨glo_of G h.1, G.free x h.2⟩
theorem Good.hu (G : Good X I C k) : X.A.units + 66 < cLine := by have := G.room.un; omega
end
def isComp : Ex → Bool
  | .comp .. => true
  | .comp2 .. => true
  | .dcomp .. => true
  | _ => false
/-- what a checked expression gives -/
structure Snd (X : Cx) (e : Expr) (f : Md → RunF) (isN isC : Bool) : Prop where
  m : EvM X e f
  n : isN = true → PE X e (tN X.K (f .V))
  c : isC = true → AsgP X e (f .V)
def cstB (d : D) : Const → Bool
  | .none => match d with | .none => true | _ => false
  | .bool b => match d with | .bool b' => b == b' | _ => false
  | .int i => match d with | .int j => decide (i = j) | _ => false
  | .str s => match d with | .str t => decide (s = t) | _ => false
  | _ => false
def mkOwn (N : List Str) (own : List Nat) : List (Str × Nat) := own.map fun i => (N.getD i ⟨#[]⟩, i)
theorem mkOwn_snd (N : List Str) (own : List Nat) : (mkOwn N own).map (·.2) = own := by
  unfold mkOwn; rw [List.map_map]; simp [Function.comp_def]
/-- built-in functions: name, number of arguments -/
def biOk : Bi → Str → Nat → Bool
  | .len, x, n => decide (x = "len") && n == 1
  | .abs, x, n => decide (x = "abs") && n == 1
  | .int, x, n => decide (x = "int") && n == 1
  | .str, x, n => decide (x = "str") && n == 1
  | .list, x, n => decide (x = "list") && n == 1
  | .tuple, x, n => decide (x = "tuple") && n == 1
  | .sorted, x, n => decide (x = "sorted") && n == 1
  | .min, x, n => decide (x = "min") && decide (0 < n)
  | .max, x, n => decide (x = "max") && decide (0 < n)
  | .sum, x, n => decide (x = "sum") && n == 1
  | .any, x, n => decide (x = "any") && n == 1
  | .all, x, n => decide (x = "all") && n == 1
  | .dict, x, n => decide (x = "dict") && n == 1
  | _, _, _ => false
def noSet : Expr → Bool
  | .Set .. => false
  | _ => true
theorem folded_of {e : Expr} (h : noSet e = true) (env : Env) (x : Value) : foldedSetIterable e env x = pure x := by cases e <;> first | rfl | cases h
def noSlice : Expr → Bool
  | .Name .. => true
  | .Constant .. => true
  | .BinOp .. => true
  | .UnaryOp .. => true
  | .Call .. => true
  | .Subscript .. => true
  | .IfExp .. => true
  | .Tuple .. => true
  | _ => false
theorem plainIx_of {e : Expr} (h : noSlice e = true) : PlainIx e := by
  intro o i
  cases e <;> first | rfl | cases h
def exsLen : Exs → Nat
  | .nil => 0
  | .cons _ l => exsLen l + 1
/-! ### targets -/
def ckT : Nat → Inf → Expr → Tg → Bool
  | 0, _, _, _ => false
  | _ + 1, I, .Name x _, .nm i => decide (I.N[i]? = some x) && locB I.sc x && (I.cel x || plocB I.sc x)
  | n + 1, I, .Tuple es _ _, .tup l => es.all notStar && decide (es.length = tgsN l) && go n I es l
  | _ + 1, _, _, _ => false
where
  go : Nat → Inf → List Expr → Tgs → Bool
  | 0, _, _, _ => false
  | _ + 1, _, [], .nil => true
  | n + 1, I, e :: es, .cons t l => ckT n I e t && go n I es l
  | _ + 1, _, _, _ => false
theorem ckT_ok : ∀ (n : Nat), (∀ (X : Cx) (I : Inf) (C : CallF) (k : Nat), Good X I C k → ∀ e t, ckT n I e t = true → PG X e (tG X.K (bindT t) (tgS t))) ∧
    (∀ (X : Cx) (I : Inf) (C : CallF) (k : Nat), Good X I C k → ∀ es l, es.all notStar = true → ckT.go n I es l = true → PGs X es (tGs X.K (bindTs l) (tgSs l)))
  | 0 => ⟨fun _ _ _ _ _ _ _ h => by simp [ckT] at h, fun _ _ _ _ _ _ _ _ h => by simp [ckT.go] at h⟩
  | n + 1 => by
    obtain ⟨i1, i2⟩ := ckT_ok n
    refine ⟨fun X I C k G e t h => ?_, fun X I C k G es l hs h => ?_⟩
    · unfold ckT at h
      split at h <;> first | (rename_i h0; cases h0; done) | skip
      · rename_i n' I' x p i _
        simp only [Bool.and_eq_true, decide_eq_true_eq, Bool.or_eq_true] at h
        exact gNm (by rw [G.hN]; exact G.nd) (by rw [G.hN]; exact h.1.1) (loc_of G h.1.2) (h.2.imp (G.fn _) (ploc_of G))
      · rename_i n' I' es kk p l h0
        cases h0
        simp only [Bool.and_eq_true, decide_eq_true_eq] at h
        exact gTupD G.calm (i2 X _ C k G es l h.1.1 h.2) h.1.2 h.1.1
      · cases h
    · unfold ckT.go at h
      split at h <;> first | (rename_i h0; cases h0; done) | skip
      · exact gsNil
      · rename_i n' I' e es t l h0
        cases h0
        simp only [Bool.and_eq_true, List.all_cons] at h hs
        exact gsCons (i1 X _ C k G e t h.1) (i2 X _ C k G es l hs.2 h.2) hs.1
      · cases h
end CH
set_option Elab.async false
set_option linter.all false
set_option maxRecDepth 100000
set_option maxHeartbeats 2000000
/-! the check of expressions -/
namespace CH
open PySem PySem.Spec PyProof.Rows L2
def atomEq : D → D → Bool
  | .none, .none => true
  | .bool a, .bool b => a == b
  | .int a, .int b => decide (a = b)
  | .str a, .str b => decide (a = b)
  | _, _ => false
theorem atomEq_of {a b : D} (h : atomEq a b = true) : a = b := by
  unfold atomEq at h
  split at h
  · rfl
  · simp at h; rw [h]
  · simp at h; rw [h]
  · simp at h; rw [h]
  · cases h
mutual
def ck : Nat → Inf → Expr → Ex → Bool
  | 0, _, _, _ => false
  | n + 1, I, e, E => match E with
    | .cst d => (match e with
      | .Constant c _ _ => cstB d c
      | .Name x _ => gloB I.sc x && (I.ks.any fun p => decide (p.1 = x) && atomEq p.2 d) && okName x
      | _ => false)
    | .var i => (match e with
      | .Name x _ => decide (I.N[i]? = some x) && visB I.sc x && okName x
      | _ => false)
    | .bin o a b => (match e with
      | .BinOp a' op b' _ => decide (op = opB o) && ck n I a' a && ck n I b' b
      | _ => false)
    | .neg a => (match e with
      | .UnaryOp .USub a' _ => ck n I a' a
      | _ => false)
    | .cmp o a b => (match e with
      | .Compare a' [op] [b'] _ => decide (op = opC o) && ck n I a' a && ck n I b' b && noSet b'
      | _ => false)
    | .chain o o' a b c => (match e with
      | .Compare a' [op, op'] [b', c'] _ => decide (op = opC o) && decide (op' = opC o') && ck n I a' a && ck n I b' b && ck n I c' c && noSet c'
      | _ => false)
    | .and a b => (match e with
      | .BoolOp .And l _ => decide (2 ≤ l.length) && ckA n I l (.and a b)
      | _ => false)
    | .or a b => (match e with
      | .BoolOp .Or l _ => decide (2 ≤ l.length) && ckO n I l (.or a b)
      | _ => false)
    | .not a => (match e with
      | .UnaryOp .Not a' _ => ck n I a' a
      | _ => false)
    | .ite t a b => (match e with
      | .IfExp t' a' b' _ => ck n I t' t && ck n I a' a && ck n I b' b
      | _ => false)
    | .tup l => (match e with
      | .Tuple es _ _ => cks n I es l
      | _ => false)
    | .lst l => (match e with
      | .List es _ => cks n I es l
      | _ => false)
    | .loc l => (match e with
      | .List es _ => cks n I es l
      | _ => false)
    | .locd => (match e with
      | .Dict [] [] _ => true
      | _ => false)
    | .dct l => (match e with
      | .Dict [] [] _ => (match l with | .nil => true | _ => false)
      | _ => false)
    | .dcT => (match e with
      | .Dict [] [] _ => true
      | _ => false)
    | .idx a b => (match e with
      | .Subscript a' b' _ => ck n I a' a && ck n I b' b && noSlice b'
      | _ => false)
    | .slice a lo hi => (match e with
      | .Subscript a' (.Slice lo' hi' none _) _ => ck n I a' a && ckP n I lo' lo && ckP n I hi' hi
      | _ => false)
    | .call f l => (match e with
      | .Call (.Name f' _) es [] _ => decide (f' = f) && gloB I.sc f && okName f && decide ((f, es.length) ∈ I.fs) && cks n I es l
      | _ => false)
    | .bi (.inst ts) l => (match e, l with
      | .Call (.Name x _) [a', T] [] _, .cons a .nil => decide (x = "isinstance") && gbl I x && ck n I a' a && notStar a' && (match ts, T with
        | [t], .Name y _ => decide (y = tyN t) && gbl I y
        | [t, u], .Tuple [.Name y _, .Name z _] _ _ => decide (y = tyN t) && gbl I y && decide (z = tyN u) && gbl I z
        | _, _ => false)
      | _, _ => false)
    | .bi b l => (match e with
      | .Call (.Name x _) (e0 :: es) [] _ => biOk b x (e0 :: es).length && gbl I x && okName x && cks n I (e0 :: es) l
      | _ => false)
    | .minDf a d => (match e with
      | .Call (.Name x _) [a'] [⟨some y, d', _⟩] _ => decide (x = "min") && decide (y = "default") && gbl I x && ck n I a' a && ck n I d' d && notStar a'
      | _ => false)
    | .comp elt t it ifs own => (match e with
      | .ListComp elt' [⟨tg, iter, ifs', 0⟩] scope _ => blkC I.N I.sc scope (mkOwn I.N own) && (tgS t).all (fun j => decide (j ∈ own)) && noSet iter && cki n I tg iter it && ckT n (I.blk scope) tg t && ckf n (I.blk scope) ifs' ifs && ck n (I.blk scope) elt' elt
      | _ => false)
    | .comp2 elt t it ifs t2 it2 ifs2 own own2 => (match e with
      | .ListComp elt' [⟨tg, iter, ifs', 0⟩, ⟨tg2, iter2, ifs2', 0⟩] scope _ => blkC I.N I.sc scope (mkOwn I.N own) && (tgS t).all (fun j => decide (j ∈ own)) && own2.all (fun j => decide (j ∈ own)) && (tgS t2).all (fun j => decide (j ∈ own2)) && noSet iter && noSet iter2 &&
          cki n I tg iter it && ckT n (I.blk scope) tg t && ckf n (I.blk scope) ifs' ifs && cki n (I.blk scope) tg2 iter2 it2 && ckT n (I.blk scope) tg2 t2 && ckf n (I.blk scope) ifs2' ifs2 && ck n (I.blk scope) elt' elt
      | _ => false)
    | .dcomp k v t it ifs own => (match e with
      | .DictComp k' v' [⟨tg, iter, ifs', 0⟩] scope _ => blkC I.N I.sc scope (mkOwn I.N own) && (tgS t).all (fun j => decide (j ∈ own)) && noSet iter && cki n I tg iter it && ckT n (I.blk scope) tg t && ckf n (I.blk scope) ifs' ifs && ck n (I.blk scope) k' k && ck n (I.blk scope) v' v
      | _ => false)
    | _ => false
def ckA : Nat → Inf → List Expr → Ex → Bool
  | 0, _, _, _ => false
  | n + 1, I, l, E => match l with
    | [] => false
    | [a'] => ck n I a' E
    | a' :: rest => (match E with
      | .and a b => ck n I a' a && ckA n I rest b
      | _ => false)
def ckO : Nat → Inf → List Expr → Ex → Bool
  | 0, _, _, _ => false
  | n + 1, I, l, E => match l with
    | [] => false
    | [a'] => ck n I a' E
    | a' :: rest => (match E with
      | .or a b => ck n I a' a && ckO n I rest b
      | _ => false)
def ckP : Nat → Inf → Option Expr → Ex → Bool
  | 0, _, _, _ => false
  | n + 1, I, o, E => match o, E with
    | none, .cst .none => true
    | some e, .asInt x => ck n I e x
    | _, _ => false
def cks : Nat → Inf → List Expr → Exs → Bool
  | 0, _, _, _ => false
  | n + 1, I, l, L => match l, L with
    | [], .nil => true
    | e :: es, .cons E Es => notStar e && ck n I e E && cks n I es Es
    | _, _ => false
def ckf : Nat → Inf → List Expr → Exs → Bool
  | 0, _, _, _ => false
  | n + 1, I, l, L => match l, L with
    | [], .nil => true
    | [e], .cons E .nil => ck n I e E
    | _, _ => false
def cki : Nat → Inf → Expr → Expr → Ix → Bool
  | 0, _, _, _, _ => false
  | n + 1, I, tg, e, J => match J with
    | .seq E => ck n I e E
    | .rng1 b => (match e with
      | .Call (.Name x _) [b'] [] _ => decide (x = "range") && gbl I x && ck n I b' b && notStar b'
      | _ => false)
    | .rng2 a b => (match e with
      | .Call (.Name x _) [a', b'] [] _ => decide (x = "range") && gbl I x && ck n I a' a && notStar a' && ck n I b' b && notStar b'
      | _ => false)
    | .rng3 a b c => (match e with
      | .Call (.Name x _) [a', b', c'] [] _ => decide (x = "range") && gbl I x && ck n I a' a && notStar a' && ck n I b' b && notStar b' && ck n I c' c && notStar c'
      | _ => false)
    | .enm a => (match e, tg with
      | .Call (.Name x _) [a'] [] _, .Tuple _ _ _ => decide (x = "enumerate") && gbl I x && ck n I a' a && notStar a'
      | _, _ => false)
    | .zip a b => (match e, tg with
      | .Call (.Name x _) [a', b'] [] _, .Tuple _ _ _ => decide (x = "zip") && gbl I x && ck n I a' a && notStar a' && ck n I b' b && notStar b'
      | _, _ => false)
end
end CH
set_option Elab.async false
set_option linter.all false
set_option maxRecDepth 100000
set_option maxHeartbeats 4000000
/-! what a checked expression does -/
namespace CH
open PySem PySem.Spec PyProof.Rows L2
structure SndAll (n : Nat) : Prop where
  e : ∀ (X : Cx) (I : Inf) (C : CallF) (k : Nat), Good X I C k → ∀ e E, ck n I e E = true → Snd X e (run C E) (isNew E) (isComp E)
  a : ∀ (X : Cx) (I : Inf) (C : CallF) (k : Nat), Good X I C k → ∀ l E pos, ckA n I l E = true → l ≠ [] ∧ EvW X (.BoolOp .And l pos) (run C E)
  o : ∀ (X : Cx) (I : Inf) (C : CallF) (k : Nat), Good X I C k → ∀ l E pos, ckO n I l E = true → l ≠ [] ∧ EvW X (.BoolOp .Or l pos) (run C E)
  p : ∀ (X : Cx) (I : Inf) (C : CallF) (k : Nat), Good X I C k → ∀ o E, ckP n I o E = true → PO X o (tP X.K (run C E .V))
  s : ∀ (X : Cx) (I : Inf) (C : CallF) (k : Nat), Good X I C k → ∀ es L, cks n I es L = true → PA X es (tA X.K (runs C L .V)) ∧ PA X es (tBs X.K (runs C L .B)) ∧ es.all notStar = true
  f : ∀ (X : Cx) (I : Inf) (C : CallF) (k : Nat), Good X I C k → ∀ es L, ckf n I es L = true → PTs X es (tT X.K (runTs C L))
  i : ∀ (X : Cx) (I : Inf) (C : CallF) (k : Nat), Good X I C k → ∀ tg e J, cki n I tg e J = true → PI X tg e (tI X.K (runIt C J))
section
variable {X : Cx} {I : Inf} {C : CallF} {k n : Nat}
theorem Snd.ofV {e : Expr} {f : RunF} {g : Md → RunF} (h : PE X e (tV X.K f)) (he : ∀ whole, isTrue e X.env whole = (do let v ← whole; standAt e.pos; holding [v] (truthy v))) (hg : g = fun m ρ S => fin m (f ρ S)) : Snd X e g false false :=
  ⟨by rw [hg]; exact evV h he, fun z => absurd z (by decide), fun z => absurd z (by decide)⟩
theorem Snd.ofN {e : Expr} {f : RunF} {g : Md → RunF} {b : Bool} (h : PE X e (tN X.K f)) (he : ∀ whole, isTrue e X.env whole = (do let v ← whole; standAt e.pos; holding [v] (truthy v))) (hg : g = fun m ρ S => fin m (f ρ S)) : Snd X e g b false :=
  ⟨by rw [hg]; exact evV (N2V h) he, fun _ => by rw [hg]; exact h, fun z => absurd z (by decide)⟩
theorem Snd.ofC {e : Expr} {f : RunF} {g : Md → RunF} (h : PE X e (tN X.K f) ∧ AsgP X e f) (he : ∀ whole, isTrue e X.env whole = (do let v ← whole; standAt e.pos; holding [v] (truthy v))) (hg : g = fun m ρ S => fin m (f ρ S)) : Snd X e g true true :=
  ⟨by rw [hg]; exact evV (N2V h.1) he, fun _ => by rw [hg]; exact h.1, fun _ => by rw [hg]; exact h.2⟩
theorem noSet_marks {op : CmpOp} {e : Expr} (h : noSet e = true) : behindInMarks op e = false := by cases e <;> first | rfl | cases h
theorem noSet_last {op op' : CmpOp} {b e : Expr} (h : noSet e = true) : lastMarks [op, op'] [b, e] = false := by
  show behindInMarks op' e = false
  exact noSet_marks h
theorem cst_of {d : D} {c : Const} {j : Nat} {p : Pos} (h : cstB d c = true) : ∃ v, PE X (.Constant c j p) (tC v) ∧ atomV d = some v := by
  unfold cstB at h
  split at h
  · split at h
    · exact ⟨_, pe_non, rfl⟩
    · cases h
  · split at h
    · simp at h; subst h; exact ⟨_, pe_bl, rfl⟩
    · cases h
  · split at h
    · simp at h; subst h; exact ⟨_, pe_int, rfl⟩
    · cases h
  · split at h
    · simp at h; subst h; exact ⟨_, pe_str, rfl⟩
    · cases h
  · cases h
/-! the language's own equations -/
theorem run_cst (d : D) : run C (.cst d) = fun m ρ S => fin m (some (d, S)) := by funext m ρ S; first | rfl | (simp only [run]; done) | (simp only [run]; rfl)
theorem run_var (i : Nat) : run C (.var i) = varF i := by funext m ρ S; cases m <;> first | rfl | (simp only [run, varF]; done) | (simp only [run, varF]; rfl)
theorem run_bin (o : Bo) (a b : Ex) : run C (.bin o a b) = fun m ρ S => fin m (two (run C a .B) (run C b .B) (binD o) ρ S) := by funext m ρ S; first | rfl | (simp only [run]; done) | (simp only [run]; rfl)
theorem run_neg (a : Ex) : run C (.neg a) = fun m ρ S => fin m (one (run C a .B) negD ρ S) := by funext m ρ S; first | rfl | (simp only [run]; done) | (simp only [run]; rfl)
theorem run_cmp (o : Co) (a b : Ex) : run C (.cmp o a b) = fun m ρ S => fin m (two (run C a .B) (run C b .B) (fun x y => (cmpD o x y).map .bool) ρ S) := by funext m ρ S; first | rfl | (simp only [run]; done) | (simp only [run]; rfl)
theorem run_chain (o o' : Co) (a b c : Ex) : run C (.chain o o' a b c) = fun m ρ S => fin m (chainF o o' (run C a .B) (run C b .B) (run C c .B) ρ S) := by funext m ρ S; first | rfl | (simp only [run, chainF]; done) | (simp only [run, chainF]; rfl)
theorem run_and (a b : Ex) : run C (.and a b) = andM (run C a) (run C b) := by funext m ρ S; cases m <;> first | rfl | (simp only [run, andM, andT, andV]; done) | (simp only [run, andM, andT, andV]; rfl)
theorem run_or (a b : Ex) : run C (.or a b) = orM (run C a) (run C b) := by funext m ρ S; cases m <;> first | rfl | (simp only [run, orM, orT, orV]; done) | (simp only [run, orM, orT, orV]; rfl)
theorem run_ite (t a b : Ex) : run C (.ite t a b) = fun m => iteF' (run C t .T) (run C a m) (run C b m) := by funext m ρ S; first | rfl | (simp only [run, iteF']; done) | (simp only [run, iteF']; rfl)
theorem run_tup (l : Exs) : run C (.tup l) = fun m ρ S => fin m (tupF (runs C l .V) ρ S) := by funext m ρ S; first | rfl | (simp only [run, tupF]; done) | (simp only [run, tupF]; rfl)
theorem run_lst (l : Exs) : run C (.lst l) = fun m ρ S => fin m (lstF (runs C l .V) ρ S) := by funext m ρ S; first | rfl | (simp only [run, lstF]; done) | (simp only [run, lstF]; rfl)
theorem run_loc (l : Exs) : run C (.loc l) = fun m ρ S => fin m (locF (runs C l .V) ρ S) := by funext m ρ S; first | rfl | (simp only [run, locF]; done) | (simp only [run, locF]; rfl)
theorem run_idx (a b : Ex) : run C (.idx a b) = fun m ρ S => fin m (two (run C a .B) (run C b .B) idxD ρ S) := by funext m ρ S; first | rfl | (simp only [run]; done) | (simp only [run]; rfl)
theorem run_slice (a b c : Ex) : run C (.slice a b c) = fun m ρ S => fin m (sliceF (run C a .B) (run C b .V) (run C c .V) ρ S) := by funext m ρ S; first | rfl | (simp only [run, sliceF]; done) | (simp only [run, sliceF]; rfl)
theorem run_call (f : Str) (l : Exs) : run C (.call f l) = fun m ρ S => fin m (callF C f (runs C l .V) ρ S) := by funext m ρ S; first | rfl | (simp only [run, callF]; done) | (simp only [run, callF]; rfl)
theorem run_bi (b : Bi) (l : Exs) : run C (.bi b l) = fun m ρ S => fin m (biF b (runs C l .B) ρ S) := by funext m ρ S; first | rfl | (simp only [run, biF]; done) | (simp only [run, biF]; rfl)
theorem run_minDf (a b : Ex) : run C (.minDf a b) = fun m ρ S => fin m (minDfF (run C a .B) (run C b .V) ρ S) := by funext m ρ S; first | rfl | (simp only [run, minDfF]; done) | (simp only [run, minDfF]; rfl)
theorem run_comp (elt : Ex) (t : Tg) (it : Ix) (ifs : Exs) (own : List Nat) : run C (.comp elt t it ifs own) = fun m ρ S => fin m (lcF (runIt C it) t (runTs C ifs) (run C elt .V) own ρ S) := by funext m ρ S; first | rfl | (simp only [run, lcF]; done) | (simp only [run, lcF]; rfl)
theorem run_comp2 (elt : Ex) (t : Tg) (it : Ix) (ifs : Exs) (t2 : Tg) (it2 : Ix) (ifs2 : Exs) (own own2 : List Nat) : run C (.comp2 elt t it ifs t2 it2 ifs2 own own2) = fun m ρ S => fin m (lc2F (runIt C it) t (runTs C ifs) (runIt C it2) t2 (runTs C ifs2) (run C elt .V) own own2 ρ S) := by funext m ρ S; first | rfl | (simp only [run, lc2F, comp2In]; done) | (simp only [run, lc2F, comp2In]; rfl)
theorem run_dcomp (kx vx : Ex) (t : Tg) (it : Ix) (ifs : Exs) (own : List Nat) : run C (.dcomp kx vx t it ifs own) = fun m ρ S => fin m (dcF (runIt C it) t (runTs C ifs) (run C kx .V) (run C vx .V) own ρ S) := by funext m ρ S; first | rfl | (simp only [run, dcF]; done) | (simp only [run, dcF]; rfl)
theorem runs_nil (m : Md) : runs C .nil m = nilF := by funext ρ S; first | rfl | (simp only [runs, nilF]; done) | (simp only [runs, nilF]; rfl)
theorem runs_cons (e : Ex) (l : Exs) (m : Md) : runs C (.cons e l) m = consF (run C e m) (runs C l m) := by funext ρ S; first | rfl | (simp only [runs, consF]; done) | (simp only [runs, consF]; rfl)
theorem runTs_nil : runTs C .nil = fun _ S => some (.bool true, S) := by funext ρ S; first | rfl | (simp only [runTs]; done) | (simp only [runTs]; rfl)
theorem runIt_seq (e : Ex) : runIt C (.seq e) = seqF (run C e .V) := by funext ρ S; first | rfl | (simp only [runIt, seqF]; done) | (simp only [runIt, seqF]; rfl)
theorem runIt_enm (e : Ex) : runIt C (.enm e) = enmF (run C e .V) := by funext ρ S; first | rfl | (simp only [runIt, enmF]; done) | (simp only [runIt, enmF]; rfl)
theorem runIt_zip (e f : Ex) : runIt C (.zip e f) = zipF (run C e .V) (run C f .V) := by funext ρ S; first | rfl | (simp only [runIt, zipF]; done) | (simp only [runIt, zipF]; rfl)
theorem runIt_rng1 (e : Ex) : runIt C (.rng1 e) = rng1F (run C e .V) := by funext ρ S; first | rfl | (simp only [runIt, rng1F]; done) | (simp only [runIt, rng1F]; rfl)
theorem runIt_rng2 (e f : Ex) : runIt C (.rng2 e f) = rng2F (run C e .V) (run C f .V) := by funext ρ S; first | rfl | (simp only [runIt, rng2F]; done) | (simp only [runIt, rng2F]; rfl)
theorem runIt_rng3 (e f g : Ex) : runIt C (.rng3 e f g) = rng3F (run C e .V) (run C f .V) (run C g .V) := by funext ρ S; first | rfl | (simp only [runIt, rng3F]; done) | (simp only [runIt, rng3F]; rfl)
end
end CH
set_option Elab.async false
set_option linter.all false
set_option maxRecDepth 100000
set_option maxHeartbeats 4000000
/-! soundness of the check of expressions -/
namespace CH
open PySem PySem.Spec PyProof.Rows L2
theorem own_sub {t : Tg} {own : List Nat} {N : List Str} (h : (tgS t).all (fun j => decide (j ∈ own)) = true) : ∀ j ∈ tgS t, j ∈ (mkOwn N own).map (·.2) := by
  rw [mkOwn_snd]; simpa using h
theorem sndA {n : Nat} (A : SndAll n) : ∀ (X : Cx) (I : Inf) (C : CallF) (k : Nat), Good X I C k → ∀ l E pos, ckA (n + 1) I l E = true → l ≠ [] ∧ EvW X (.BoolOp .And l pos) (run C E) := by
  intro X I C k G l E pos h
  unfold ckA at h
  split at h
  · cases h
  · exact ⟨by simp, evAnd1 (A.e X I C k G _ _ h).m⟩
  · rename_i a' rest hne
    split at h
    · rename_i a b
      simp only [Bool.and_eq_true] at h
      obtain ⟨h1, h2⟩ := A.a X I C k G rest b pos h.2
      refine ⟨by simp, ?_⟩
      cases rest with
      | nil => exact absurd rfl h1
      | cons r rs => rw [run_and]; exact evAnd (A.e X I C k G _ _ h.1).m h2
    · cases h
theorem sndO {n : Nat} (A : SndAll n) : ∀ (X : Cx) (I : Inf) (C : CallF) (k : Nat), Good X I C k → ∀ l E pos, ckO (n + 1) I l E = true → l ≠ [] ∧ EvW X (.BoolOp .Or l pos) (run C E) := by
  intro X I C k G l E pos h
  unfold ckO at h
  split at h
  · cases h
  · exact ⟨by simp, evOr1 (A.e X I C k G _ _ h).m⟩
  · rename_i a' rest hne
    split at h
    · rename_i a b
      simp only [Bool.and_eq_true] at h
      obtain ⟨h1, h2⟩ := A.o X I C k G rest b pos h.2
      refine ⟨by simp, ?_⟩
      cases rest with
      | nil => exact absurd rfl h1
      | cons r rs => rw [run_or]; exact evOr (A.e X I C k G _ _ h.1).m h2
    · cases h
theorem sndP {n : Nat} (A : SndAll n) : ∀ (X : Cx) (I : Inf) (C : CallF) (k : Nat), Good X I C k → ∀ o E, ckP (n + 1) I o E = true → PO X o (tP X.K (run C E .V)) := by
  intro X I C k G o E h
  unfold ckP at h
  split at h
  · exact pNone
  · exact pSome (A.e X I C k G _ _ h).m.v
  · cases h
theorem sndS {n : Nat} (A : SndAll n) : ∀ (X : Cx) (I : Inf) (C : CallF) (k : Nat), Good X I C k → ∀ es L, cks (n + 1) I es L = true → PA X es (tA X.K (runs C L .V)) ∧ PA X es (tBs X.K (runs C L .B)) ∧ es.all notStar = true := by
  intro X I C k G es L h
  unfold cks at h
  split at h
  · exact ⟨by rw [runs_nil]; exact aNil, by rw [runs_nil]; exact bNil, rfl⟩
  · simp only [Bool.and_eq_true] at h
    obtain ⟨⟨h1, h2⟩, h3⟩ := h
    have m := (A.e X I C k G _ _ h2).m
    obtain ⟨g1, g2, g3⟩ := A.s X I C k G _ _ h3
    exact ⟨by rw [runs_cons]; exact aCons m.v g1 h1, by rw [runs_cons]; exact bCons m.b g2 h1, by simp [h1, g3]⟩
  · cases h
theorem PTs.imp {X : Cx} {es : List Expr} {t t' : TT} (h : PTs X es t) (i : ∀ σ H Q, t' σ H Q → t σ H Q) : PTs X es t' := ⟨fun pins s σ H Q I q => h.run pins s σ H Q I (i σ H Q q)⟩
theorem sndF {n : Nat} (A : SndAll n) : ∀ (X : Cx) (I : Inf) (C : CallF) (k : Nat), Good X I C k → ∀ es L, ckf (n + 1) I es L = true → PTs X es (tT X.K (runTs C L)) := by
  intro X I C k G es L h
  unfold ckf at h
  split at h
  · rw [runTs_nil]; exact tsNil
  · rename_i e E
    refine PTs.imp (tsOne (A.e X I C k G _ _ h).m.t) fun σ H Q ⟨ρ, S, F, ι, c, S', sr, e1, q⟩ => ⟨ρ, S, F, ι, c, S', sr, ?_, q⟩
    have e2 : (match run C E .T ρ S with
      | some (.bool false, S1) => some (PyData.bool false, S1)
      | some (.bool true, S1) => some (PyData.bool true, S1)
      | _ => none) = some (.bool c, S') := e1
    split at e2
    · rename_i h1; cases e2; exact h1
    · rename_i h1; cases e2; exact h1
    · cases e2
  · cases h
theorem sndI {n : Nat} (A : SndAll n) : ∀ (X : Cx) (I : Inf) (C : CallF) (k : Nat), Good X I C k → ∀ tg e J, cki (n + 1) I tg e J = true → PI X tg e (tI X.K (runIt C J)) := by
  intro X I C k G tg e J h
  unfold cki at h
  split at h
  · rw [runIt_seq]; exact iSeq (A.e X I C k G _ _ h).m.v
  · split at h
    · simp only [Bool.and_eq_true, decide_eq_true_eq] at h
      obtain ⟨⟨⟨rfl, h2⟩, h3⟩, h4⟩ := h
      obtain ⟨g1, g2⟩ := gbl_of G h2
      rw [runIt_rng1]; exact iRng1 g1 g2 (A.e X I C k G _ _ h3).m.v h4
    · cases h
  · split at h
    · simp only [Bool.and_eq_true, decide_eq_true_eq] at h
      obtain ⟨⟨⟨⟨⟨rfl, h2⟩, h3⟩, h4⟩, h5⟩, h6⟩ := h
      obtain ⟨g1, g2⟩ := gbl_of G h2
      rw [runIt_rng2]; exact iRng2 g1 g2 (A.e X I C k G _ _ h3).m.v (A.e X I C k G _ _ h5).m.v h4 h6
    · cases h
  · split at h
    · simp only [Bool.and_eq_true, decide_eq_true_eq] at h
      obtain ⟨⟨⟨⟨⟨⟨⟨rfl, h2⟩, h3⟩, h4⟩, h5⟩, h6⟩, h7⟩, h8⟩ := h
      obtain ⟨g1, g2⟩ := gbl_of G h2
      rw [runIt_rng3]; exact iRng3 g1 g2 (A.e X I C k G _ _ h3).m.v (A.e X I C k G _ _ h5).m.v (A.e X I C k G _ _ h7).m.v h4 h6 h8
    · cases h
  · split at h
    · simp only [Bool.and_eq_true, decide_eq_true_eq] at h
      obtain ⟨⟨⟨rfl, h2⟩, h3⟩, h4⟩ := h
      obtain ⟨g1, g2⟩ := gbl_of G h2
      rw [runIt_enm]; exact iEnm g1 g2 (A.e X I C k G _ _ h3).m.v h4
    · cases h
  · split at h
    · simp only [Bool.and_eq_true, decide_eq_true_eq] at h
      obtain ⟨⟨⟨⟨⟨rfl, h2⟩, h3⟩, h4⟩, h5⟩, h6⟩ := h
      obtain ⟨g1, g2⟩ := gbl_of G h2
      rw [runIt_zip]; exact iZip g1 g2 (A.e X I C k G _ _ h3).m.v (A.e X I C k G _ _ h5).m.v h4 h6
    · cases h
theorem sndBi {n : Nat} {X : Cx} {I : Inf} {C : CallF} {k : Nat} (G : Good X I C k) {b : Bi} {x : Str} {e0 : Expr} {es : List Expr} {fl : ListF} {p pos : Pos} (hb : biOk b x (e0 :: es).length = true) (hg : gbl I x = true) (ho : okName x = true) (ha : PA X (e0 :: es) (tBs X.K fl)) (hs : (e0 :: es).all notStar = true) :
    Snd X (.Call (.Name x p) (e0 :: es) [] pos) (fun m ρ S => fin m (biF b fl ρ S)) (isNew (.bi b .nil)) false := by
  obtain ⟨g1, g2⟩ := gbl_of G hg
  obtain ⟨n1, n2, n3⟩ := okName_of ho
  have mk : PE X (.Call (.Name x p) (e0 :: es) [] pos) (tN X.K (biF b fl)) → Snd X (.Call (.Name x p) (e0 :: es) [] pos) (fun m ρ S => fin m (biF b fl ρ S)) (isNew (.bi b .nil)) false := fun h => Snd.ofN h (fun _ => rfl) rfl
  cases b <;> simp only [biOk, Bool.and_eq_true, decide_eq_true_eq] at hb
  case len => obtain ⟨rfl, _⟩ := hb; exact mk (nBiB b_len g1 g2 boot_len ha hs n3 n1)
  case abs => obtain ⟨rfl, _⟩ := hb; exact mk (nBiB b_abs g1 g2 (by decide +kernel) ha hs n3 n1)
  case int => obtain ⟨rfl, _⟩ := hb; exact mk (nBiT b_int g1 g2 PyProof.Rows.boot_int ha hs n3 n1)
  case str => obtain ⟨rfl, _⟩ := hb; exact mk (nBiT b_str g1 g2 PyProof.Rows.boot_str ha hs n3 n1)
  case list => obtain ⟨rfl, _⟩ := hb; exact mk (nBiT b_list g1 g2 PyProof.Rows.boot_list ha hs n3 n1)
  case tuple => obtain ⟨rfl, _⟩ := hb; exact mk (nBiT b_tuple g1 g2 PyProof.Rows.boot_tuple ha hs n3 n1)
  case sorted => obtain ⟨rfl, _⟩ := hb; exact mk (nBiB (b_sorted G.hu) g1 g2 PyProof.Rows.boot_sorted ha hs n3 n1)
  case sum => obtain ⟨rfl, _⟩ := hb; exact mk (nBiB (b_sum G.calm) g1 g2 PyProof.Rows.boot_sum ha hs n3 n1)
  case any => obtain ⟨rfl, _⟩ := hb; exact mk (nBiB (b_any G.calm) g1 g2 PyProof.Rows.boot_any ha hs n3 n1)
  case all => obtain ⟨rfl, _⟩ := hb; exact mk (nBiB (b_all G.calm) g1 g2 PyProof.Rows.boot_all ha hs n3 n1)
  case dict => obtain ⟨rfl, _⟩ := hb; exact mk (nBiT (b_dict G.calm) g1 g2 PyProof.Rows.boot_dict ha hs n3 n1)
  case min => obtain ⟨rfl, _⟩ := hb; exact Snd.ofV (vBiB (b_min G.calm G.hu) g1 g2 PyProof.Rows.boot_min ha hs n3 n1) (fun _ => rfl) rfl
  case max => obtain ⟨rfl, _⟩ := hb; exact Snd.ofV (vBiB (b_max G.calm G.hu) g1 g2 PyProof.Rows.boot_max ha hs n3 n1) (fun _ => rfl) rfl
  all_goals cases hb
theorem run_not {C : CallF} (a : Ex) : run C (.not a) = (fun m ρ S => match m with
    | .T => (match run C a .T ρ S with
      | some (.bool c, S1) => some (.bool (!c), S1)
      | _ => none)
    | _ => one (run C a .B) (fun x => (truD x).map fun c => .bool (!c)) ρ S) := by funext m ρ S; cases m <;> rfl
theorem sndE {n : Nat} (A : SndAll n) : ∀ (X : Cx) (I : Inf) (C : CallF) (k : Nat), Good X I C k → ∀ e E, ck (n + 1) I e E = true → Snd X e (run C E) (isNew E) (isComp E) := by
  intro X I C k G e E h
  have E1 := fun (e : Expr) (E : Ex) (h : ck n I e E = true) => (A.e X I C k G e E h).m
  unfold ck at h
  split at h
  · -- cst
    rw [run_cst]
    split at h
    · obtain ⟨v, h1, h2⟩ := cst_of h
      exact Snd.ofV (vCst h1 h2) (fun _ => rfl) rfl
    · simp only [Bool.and_eq_true, List.any_eq_true, decide_eq_true_eq] at h
      obtain ⟨⟨h1, ⟨x', d'⟩, hm, rfl, h3⟩, h4⟩ := h
      have := atomEq_of h3; subst this
      obtain ⟨u, v, g1, g2, g3⟩ := G.ks _ _ hm
      exact Snd.ofV (vCst (pe_glob (glo_of G h1) g1 g2 (okName_of h4).1) g3) (fun _ => rfl) rfl
    · cases h
  · -- var
    rw [run_var]
    split at h
    · simp only [Bool.and_eq_true, decide_eq_true_eq] at h
      exact ⟨evVar (by rw [G.hN]; exact h.1.1) (vis_of G h.1.2) (okName_of h.2).1 (okName_of h.2).2.1, fun z => (Bool.false_ne_true z).elim, fun z => (Bool.false_ne_true z).elim⟩
    · cases h
  · rw [run_bin]
    split at h
    · simp only [Bool.and_eq_true, decide_eq_true_eq] at h
      obtain ⟨⟨rfl, h2⟩, h3⟩ := h
      exact Snd.ofN (nBin _ (E1 _ _ h2).b (E1 _ _ h3).b) (fun _ => rfl) rfl
    · cases h
  · rw [run_neg]
    split at h
    · exact Snd.ofN (nNeg (E1 _ _ h).b) (fun _ => rfl) rfl
    · cases h
  · rw [run_cmp]
    split at h
    · simp only [Bool.and_eq_true, decide_eq_true_eq] at h
      obtain ⟨⟨⟨rfl, h2⟩, h3⟩, h4⟩ := h
      exact ⟨evCmp G.hu _ (E1 _ _ h2).b (E1 _ _ h3).b (noSet_marks h4), fun z => (Bool.false_ne_true z).elim, fun z => (Bool.false_ne_true z).elim⟩
    · cases h
  · rw [run_chain]
    split at h
    · simp only [Bool.and_eq_true, decide_eq_true_eq] at h
      obtain ⟨⟨⟨⟨⟨rfl, rfl⟩, h2⟩, h3⟩, h4⟩, h5⟩ := h
      exact ⟨evChain G.hu _ _ (E1 _ _ h2).b (E1 _ _ h3).b (E1 _ _ h4).b (noSet_last h5), fun z => (Bool.false_ne_true z).elim, fun z => (Bool.false_ne_true z).elim⟩
    · cases h
  · split at h
    · simp only [Bool.and_eq_true] at h
      exact ⟨(A.a X I C k G _ _ _ h.2).2.m, fun z => (Bool.false_ne_true z).elim, fun z => (Bool.false_ne_true z).elim⟩
    · cases h
  · split at h
    · simp only [Bool.and_eq_true] at h
      exact ⟨(A.o X I C k G _ _ _ h.2).2.m, fun z => (Bool.false_ne_true z).elim, fun z => (Bool.false_ne_true z).elim⟩
    · cases h
  · split at h
    · rw [run_not]; exact ⟨evNot (E1 _ _ h), fun z => (Bool.false_ne_true z).elim, fun z => (Bool.false_ne_true z).elim⟩
    · cases h
  · rw [run_ite]
    split at h
    · simp only [Bool.and_eq_true] at h
      exact ⟨evIf (E1 _ _ h.1.1) (E1 _ _ h.1.2) (E1 _ _ h.2), fun z => (Bool.false_ne_true z).elim, fun z => (Bool.false_ne_true z).elim⟩
    · cases h
  · rw [run_tup]
    split at h
    · exact Snd.ofN (nTup (A.s X I C k G _ _ h).1) (fun _ => rfl) rfl
    · cases h
  · rw [run_lst]
    split at h
    · exact Snd.ofN (nLst (A.s X I C k G _ _ h).1) (fun _ => rfl) rfl
    · cases h
  · rw [run_loc]
    split at h
    · exact Snd.ofV (vLoc (A.s X I C k G _ _ h).1) (fun _ => rfl) rfl
    · cases h
  · split at h
    · exact Snd.ofV vLocd (fun _ => rfl) rfl
    · cases h
  · split at h
    · split at h
      · exact Snd.ofN nDc0 (fun _ => rfl) rfl
      · cases h
    · cases h
  · split at h
    · exact Snd.ofN nDcT (fun _ => rfl) rfl
    · cases h
  · rw [run_idx]
    split at h
    · simp only [Bool.and_eq_true] at h
      exact Snd.ofV (vIdx G.hu (E1 _ _ h.1.1).b (E1 _ _ h.1.2).b (plainIx_of h.2)) (fun _ => rfl) rfl
    · cases h
  · rw [run_slice]
    split at h
    · simp only [Bool.and_eq_true] at h
      exact Snd.ofN (nSlice (E1 _ _ h.1.1).b (A.p X I C k G _ _ h.1.2) (A.p X I C k G _ _ h.2)) (fun _ => rfl) rfl
    · cases h
  · rw [run_call]
    split at h
    · rename_i f' p0 es p1
      simp only [Bool.and_eq_true, decide_eq_true_eq] at h
      obtain ⟨⟨⟨⟨rfl, h2⟩, h3⟩, h4⟩, h5⟩ := h
      obtain ⟨g1, g2, g3⟩ := A.s X I C k G _ _ h5
      cases es with
      | nil =>
        rename_i l _
        have el : l = .nil := by
          cases n with
          | zero => simp [cks] at h5
          | succ n => unfold cks at h5; split at h5 <;> first | rfl | (rename_i q; cases q; done) | (cases h5; done)
        subst el
        rw [runs_nil]
        exact Snd.ofV (vCall0 G.fns G.room (glo_of G h2) h4 (okName_of h3).1) (fun _ => rfl) rfl
      | cons e0 es => exact Snd.ofV (vCall G.fns G.room (glo_of G h2) h4 g1 g3 (okName_of h3).1) (fun _ => rfl) rfl
    · cases h
  · rw [run_bi]
    split at h
    · rename_i x p0 a' T p1 a
      simp only [Bool.and_eq_true, decide_eq_true_eq] at h
      obtain ⟨⟨⟨⟨rfl, h2⟩, h3⟩, h4⟩, h5⟩ := h
      obtain ⟨g1, g2⟩ := gbl_of G h2
      rw [runs_cons, runs_nil]
      split at h5
      · simp only [Bool.and_eq_true, decide_eq_true_eq] at h5
        obtain ⟨rfl, h6⟩ := h5
        obtain ⟨q1, q2⟩ := gbl_of G h6
        exact Snd.ofN (nIsi1 g1 g2 (E1 _ _ h3).b h4 q1 q2) (fun _ => rfl) rfl
      · simp only [Bool.and_eq_true, decide_eq_true_eq] at h5
        obtain ⟨⟨⟨rfl, h6⟩, rfl⟩, h7⟩ := h5
        obtain ⟨q1, q2⟩ := gbl_of G h6
        obtain ⟨q3, q4⟩ := gbl_of G h7
        exact Snd.ofN (nIsi2 g1 g2 (E1 _ _ h3).b h4 q1 q2 q3 q4) (fun _ => rfl) rfl
      · cases h5
    · cases h
  · rw [run_bi]
    split at h
    · simp only [Bool.and_eq_true] at h
      obtain ⟨⟨⟨h1, h2⟩, h3⟩, h4⟩ := h
      obtain ⟨g1, g2, g3⟩ := A.s X I C k G _ _ h4
      rename_i b l _ _ x0 p0 e0 es0 p1
      have := sndBi (n := n) (p := p0) (pos := p1) G h1 h2 h3 g2 g3
      cases b <;> exact this
    · cases h
  · rw [run_minDf]
    split at h
    · simp only [Bool.and_eq_true, decide_eq_true_eq] at h
      obtain ⟨⟨⟨⟨⟨rfl, rfl⟩, h2⟩, h3⟩, h4⟩, h5⟩ := h
      obtain ⟨g1, g2⟩ := gbl_of G h2
      exact Snd.ofV (vMinD G.calm G.hu g1 g2 (E1 _ _ h3).b (E1 _ _ h4).v h5) (fun _ => rfl) rfl
    · cases h
  · rw [run_comp]
    split at h
    · rename_i elt t it ifs own _ elt' tg iter ifs' scope p1
      simp only [Bool.and_eq_true] at h
      obtain ⟨⟨⟨⟨⟨⟨h1, h2⟩, h3⟩, h4⟩, h5⟩, h6⟩, h7⟩ := h
      have ok : BlkOk X.N X.env.scope scope (mkOwn I.N own) := by rw [G.hN, G.sc]; exact blkOk_by h1
      have r := nLc (pos := p1) G.calm (by rw [G.hN]; exact G.nd) (A.i X I C k G _ _ _ h4) ok (own_sub h2) (fun s H Ca cl fp => (ckT_ok n).1 _ _ C k (G.blk s H scope Ca cl fp) _ _ h5)
        (fun s H Ca cl fp => A.f _ _ C k (G.blk s H scope Ca cl fp) _ _ h6) (fun s H Ca cl fp => (A.e _ _ C k (G.blk s H scope Ca cl fp) _ _ h7).m.v) (folded_of h3 _)
      rw [mkOwn_snd] at r
      exact Snd.ofC r (fun _ => rfl) rfl
    · cases h
  · rw [run_comp2]
    split at h
    · rename_i elt t it ifs t2 it2 ifs2 own own2 _ elt' tg iter ifs' tg2 iter2 ifs2' scope p1
      simp only [Bool.and_eq_true] at h
      obtain ⟨⟨⟨⟨⟨⟨⟨⟨⟨⟨⟨⟨h1, h2⟩, h3⟩, h4⟩, h5⟩, h6⟩, h7⟩, h8⟩, h9⟩, h10⟩, h11⟩, h12⟩, h13⟩ := h
      have ok : BlkOk X.N X.env.scope scope (mkOwn I.N own) := by rw [G.hN, G.sc]; exact blkOk_by h1
      have r := nLc2 (pos := p1) (own1 := own2) G.calm (by rw [G.hN]; exact G.nd) (A.i X I C k G _ _ _ h7) ok (by rw [mkOwn_snd]; simpa using h3) (own_sub h2) (by simpa using h4) (fun s H Ca cl fp => (ckT_ok n).1 _ _ C k (G.blk s H scope Ca cl fp) _ _ h8)
        (fun s H Ca cl fp => A.f _ _ C k (G.blk s H scope Ca cl fp) _ _ h9) (fun s H Ca cl fp => A.i _ _ C k (G.blk s H scope Ca cl fp) _ _ _ h10) (fun s H Ca cl fp => (ckT_ok n).1 _ _ C k (G.blk s H scope Ca cl fp) _ _ h11)
        (fun s H Ca cl fp => A.f _ _ C k (G.blk s H scope Ca cl fp) _ _ h12) (fun s H Ca cl fp => (A.e _ _ C k (G.blk s H scope Ca cl fp) _ _ h13).m.v) (folded_of h5 _) (fun env => folded_of h6 env)
      rw [mkOwn_snd] at r
      exact Snd.ofC r (fun _ => rfl) rfl
    · cases h
  · rw [run_dcomp]
    split at h
    · rename_i k0 v0 t it ifs own _ k' v' tg iter ifs' scope p1
      simp only [Bool.and_eq_true] at h
      obtain ⟨⟨⟨⟨⟨⟨⟨h1, h2⟩, h3⟩, h4⟩, h5⟩, h6⟩, h7⟩, h8⟩ := h
      have ok : BlkOk X.N X.env.scope scope (mkOwn I.N own) := by rw [G.hN, G.sc]; exact blkOk_by h1
      have r := nDc (pos := p1) G.calm (by rw [G.hN]; exact G.nd) (A.i X I C k G _ _ _ h4) ok (own_sub h2) (fun s H Ca cl fp => (ckT_ok n).1 _ _ C k (G.blk s H scope Ca cl fp) _ _ h5)
        (fun s H Ca cl fp => A.f _ _ C k (G.blk s H scope Ca cl fp) _ _ h6) (fun s H Ca cl fp => (A.e _ _ C k (G.blk s H scope Ca cl fp) _ _ h7).m.v) (fun s H Ca cl fp => (A.e _ _ C k (G.blk s H scope Ca cl fp) _ _ h8).m.v) (folded_of h3 _)
      rw [mkOwn_snd] at r
      exact Snd.ofC r (fun _ => rfl) rfl
    · cases h
  · cases h
theorem snd_all : ∀ n, SndAll n
  | 0 => ⟨fun _ _ _ _ _ _ _ h => by simp [ck] at h, fun _ _ _ _ _ _ _ _ h => by simp [ckA] at h, fun _ _ _ _ _ _ _ _ h => by simp [ckO] at h, fun _ _ _ _ _ _ _ h => by simp [ckP] at h, fun _ _ _ _ _ _ _ h => by simp [cks] at h, fun _ _ _ _ _ _ _ h => by simp [ckf] at h, fun _ _ _ _ _ _ _ _ h => by simp [cki] at h⟩
  | n + 1 => have A := snd_all n; ⟨sndE A, sndA A, sndO A, sndP A, sndS A, sndF A, sndI A⟩
end CH
set_option Elab.async false
set_option linter.all false
set_option maxRecDepth 100000
set_option maxHeartbeats 4000000
/-! the check of statements -/
namespace CH
open PySem PySem.Spec PyProof.Rows L2
/-! ### stores that swap -/
def namesOf (sc : Scope) (ts : List Expr) : List Str :=
  ts.filterMap fun
    | .Name id pos => if sc.names.lookup id == some .local && pos.line == (ts.head?.map (·.pos.line)).getD 0 then some id else none
    | _ => none
def isStar : Expr → Bool
  | .Starred .. => true
  | _ => false
def swp (sc : Scope) (ts vs : List Expr) : Option (Option (List Str)) :=
  if !(ts.length == 2 || ts.length == 3) || vs.length != ts.length then some none
  else if vs.any isStar then some none
  else if (namesOf sc ts).length != ts.length || (namesOf sc ts).eraseDups.length != (namesOf sc ts).length then some none
  else if vs.all (foldedForSure 8) then some none
  else if vs.all (constantsAlone 8) then none
  else some (some (namesOf sc ts))
theorem swp_eq (env : Env) (ts vs : List Expr) (k k2 : Nat) (p p2 : Pos) : swappedStores [.Tuple ts k p] (.Tuple vs k2 p2) env =
    (if (!(ts.length == 2 || ts.length == 3) || vs.length != ts.length || env.blockKind != .function) = true then pure none
    else if (vs.any isStar) = true then pure none
    else if ((namesOf env.scope ts).length != ts.length || (namesOf env.scope ts).eraseDups.length != (namesOf env.scope ts).length) = true then pure none
    else if (vs.all (foldedForSure 8)) = true then pure none
    else if (vs.all (constantsAlone 8)) = true then (do unsupported "assign.tuple-of-constant-expressions:order-of-the-stores"; pure (some (namesOf env.scope ts)))
    else pure (some (namesOf env.scope ts))) := by
  rfl
theorem swp_ok {env : Env} {ts vs : List Expr} {k k2 : Nat} {p p2 : Pos} {r : Option (List Str)} (hk : env.scope.kind = .function) (h : swp env.scope ts vs = some r) : swappedStores [.Tuple ts k p] (.Tuple vs k2 p2) env = pure r := by
  have hb : env.blockKind = .function := by unfold Env.blockKind; rw [hk]; rfl
  have hb2 : (env.blockKind != .function) = false := by rw [hb]; rfl
  unfold swp at h
  rw [swp_eq, hb2, Bool.or_false]
  split at h
  · rename_i h1; cases h; rw [if_pos h1]
  · rename_i h1
    rw [if_neg h1]
    split at h
    · rename_i h2; cases h; rw [if_pos h2]
    · rename_i h2
      rw [if_neg h2]
      split at h
      · rename_i h3; cases h; rw [if_pos h3]
      · rename_i h3
        rw [if_neg h3]
        split at h
        · rename_i h4; cases h; rw [if_pos h4]
        · rename_i h4
          rw [if_neg h4]
          split at h
          · cases h
          · rename_i h5; cases h; rw [if_neg h5]
def compE : Expr → Option (Scope × Pos)
  | .ListComp _ _ s p => some (s, p)
  | .SetComp _ _ s p => some (s, p)
  | .DictComp _ _ _ s p => some (s, p)
  | _ => none
theorem swaps_none {e : Expr} (h : compE e = none) (t : Option Expr) (l : Nat) (env : Env) : swapsWith e t l env = pure false := by
  cases e <;> first | rfl | cases h
theorem swaps_other {e tg : Expr} (h : (match tg with | .Name .. => false | _ => true) = true) (l : Nat) (env : Env) : swapsWithSole [tg] e l env = pure false := by
  show swapsWith e (some tg) l env = pure false
  cases tg <;> first | (cases h; done) | skip
  all_goals (cases e <;> rfl)
theorem stores_none {e tg : Expr} (h : (match e with | .Tuple .. => false | _ => true) = true) (env : Env) : swappedStores [tg] e env = pure none := by
  cases e <;> first | (cases h; done) | skip
  all_goals (cases tg <;> rfl)
theorem stores_name {x : Str} {p : Pos} {e : Expr} (env : Env) : swappedStores [.Name x p] e env = pure none := by cases e <;> rfl
/-- does the comprehension store by itself? -/
def swB (sc : Scope) (c : Scope × Pos) (x : Str) (px : Pos) : Bool :=
  plocB sc x && px.line == c.2.line && !(c.1.names.any fun (n, k) => n == x && (k == .local || k == .cell))
theorem swaps_comp {env : Env} {e : Expr} {c : Scope × Pos} {x : Str} {px : Pos} {l : Nat} (hk : env.scope.kind = .function) (h : compE e = some c) : swapsWith e (some (.Name x px)) l env = pure (swB env.scope c x px) := by
  have hb : env.blockKind = .function := by unfold Env.blockKind; rw [hk]; rfl
  have hp : (env.kindOf x == some .local) = plocB env.scope x := by
    unfold Env.kindOf plocB
    cases env.scope.names.lookup x with
    | none => rfl
    | some k => cases k <;> rfl
  cases e <;> first | (cases h; done) | skip
  all_goals
    cases h
    unfold swapsWith swB
    simp only [hb, hp, Expr.pos]
    rfl
/-! ### statements -/
def isLine (a b : Pos) : Bool := a.endLine == b.line
def strC : Const → Bool
  | .str _ => true
  | _ => false
mutual
def ckS : Nat → Inf → Stmt → Sx → Bool
  | 0, _, _, _ => false
  | n + 1, I, st, s => match s with
    | .asg (.nm i) E => (match st with
      | .Assign [.Name x px] e _ => decide (I.N[i]? = some x) && locB I.sc x && (I.cel x || plocB I.sc x) && ck n I e E && (match compE e with
        | none => true
        | some c => isComp E || !(swB I.sc c x px))
      | _ => false)
    | .asg (.tup l) E => (match st with
      | .Assign [.Tuple ts k p] e _ => ckT n I (.Tuple ts k p) (.tup l) && ck n I e E && (match e with
        | .Tuple vs _ _ => decide (swp I.sc ts vs = some none)
        | _ => true)
      | _ => false)
    | .sub i kx E => (match st with
      | .Assign [.Subscript (.Name x _) k' _] e _ => decide (I.N[i]? = some x) && visB I.sc x && okName x && ck n I k' kx && ck n I e E && noSlice k'
      | _ => false)
    | .par l es => (match st, l with
      | .Assign [.Tuple [.Name x px, .Name y py] _ _] (.Tuple [a, b] _ _) _, [i, j] => decide (I.N[i]? = some x) && decide (I.N[j]? = some y) && decide (i ≠ j) && plocB I.sc x && plocB I.sc y && cks n I [a, b] es && decide (swp I.sc [.Name x px, .Name y py] [a, b] = some (some [x, y]))
      | .Assign [.Tuple [.Name x px, .Name y py, .Name z pz] _ _] (.Tuple [a, b, c] _ _) _, [i, j, q] => decide (I.N[i]? = some x) && decide (I.N[j]? = some y) && decide (I.N[q]? = some z) && decide (i ≠ j) && decide (i ≠ q) && decide (j ≠ q) && plocB I.sc x && plocB I.sc y && plocB I.sc z &&
          cks n I [a, b, c] es && decide (swp I.sc [.Name x px, .Name y py, .Name z pz] [a, b, c] = some (some [x, y, z]))
      | _, _ => false)
    | .app i E => (match st with
      | .Expr (.Call (.Attribute (.Name x _) m ap) [e] [] cp) _ => decide (m = "append") && decide (I.N[i]? = some x) && visB I.sc x && okName x && ck n I e E && notStar e && isLine ap cp
      | _ => false)
    | .expr E => (match st with
      | .Expr e _ => ck n I e E && (match compE e with | none => true | _ => false)
      | _ => false)
    | .ret E => (match st with
      | .Return (some e) _ => ck n I e E
      | _ => false)
    | .retN => (match st with
      | .Return none _ => true
      | _ => false)
    | .ifS c a b => (match st with
      | .If c' a' b' _ => ck n I c' c && ckSs n I a' a && ckSs n I b' b
      | _ => false)
    | .forS t it b => (match st with
      | .For tg iter b' [] _ => cki n I tg iter it && ckT n I tg t && ckSs n I b' b && noSet iter
      | _ => false)
    | .whileS c b => (match st with
      | .While c' b' [] _ => ck n I c' c && ckSs n I b' b
      | _ => false)
    | .brk => (match st with
      | .Break _ => true
      | _ => false)
    | .cnt => (match st with
      | .Continue _ => true
      | _ => false)
    | .pass => (match st with
      | .Pass _ => true
      | .Expr (.Constant c _ _) _ => strC c
      | _ => false)
def ckSs : Nat → Inf → List Stmt → Sxs → Bool
  | 0, _, _, _ => false
  | n + 1, I, l, L => match l, L with
    | [], .nil => true
    | st :: r, .cons s L => ckS n I st s && ckSs n I r L
    | _, _ => false
end
structure StAll (n : Nat) : Prop where
  s : ∀ (X : Cx) (I : Inf) (C : CallF) (k : Nat), Good X I C k → X.env.scope.kind = .function → ∀ st s, ckS n I st s = true → PS X st (tS X.K (exec C s))
  l : ∀ (X : Cx) (I : Inf) (C : CallF) (k : Nat), Good X I C k → X.env.scope.kind = .function → ∀ st s, ckSs n I st s = true → PSs X st (tS X.K (execs C s))
theorem exec_asgO {C : CallF} {i : Nat} {E : Ex} (h : isNew E = true) : exec C (.asg (.nm i) E) = fun ρ S => asgF (bindO i) (run C E .V) (frz ρ (esc E .V)) S := by
  funext ρ S
  have e : ∀ d, (isNew E && isCont d) = isCont d := fun d => by rw [h, Bool.true_and]
  simp only [exec, asgF, bindO, e]
  try (cases run C E .V (frz ρ (esc E .V)) S <;> rfl)
theorem exec_asgV {C : CallF} {i : Nat} {E : Ex} (h : isNew E = false) : exec C (.asg (.nm i) E) = fun ρ S => asgF (bindT (.nm i)) (run C E .V) (frz ρ (esc E .V)) S := by
  funext ρ S
  have e : ∀ d, (isNew E && isCont d) = false := fun d => by rw [h, Bool.false_and]
  simp only [exec, asgF, bindT, e]
  try (cases run C E .V (frz ρ (esc E .V)) S <;> rfl)
theorem exec_asgT {C : CallF} {l : Tgs} {E : Ex} : exec C (.asg (.tup l) E) = fun ρ S => asgF (bindT (.tup l)) (run C E .V) (frz ρ (esc E .V)) S := by
  funext ρ S
  simp only [exec, asgF]
  try (cases run C E .V (frz ρ (esc E .V)) S <;> rfl)
theorem exec_sub {C : CallF} {i : Nat} {kx E : Ex} : exec C (.sub i kx E) = fun ρ S => subF i (run C E .V) (run C kx .V) (frz ρ (esc E .V ++ esc kx .V)) S := by funext ρ S; rfl
theorem exec_par {C : CallF} {l : List Nat} {es : Exs} : exec C (.par l es) = fun ρ S => parF l (runs C es .V) (frz ρ (escs es .V)) S := by funext ρ S; rfl
theorem exec_app {C : CallF} {i : Nat} {E : Ex} : exec C (.app i E) = fun ρ S => appF i (run C E .V) (frz ρ (esc E .V)) S := by funext ρ S; rfl
theorem exec_expr {C : CallF} {E : Ex} : exec C (.expr E) = fun ρ S => exprF (run C E .V) (frz ρ (esc E .V)) S := by funext ρ S; rfl
theorem exec_ret {C : CallF} {E : Ex} : exec C (.ret E) = fun ρ S => retF (run C E .V) (frz ρ (esc E .V)) S := by funext ρ S; rfl
theorem exec_if {C : CallF} {c : Ex} {a b : Sxs} : exec C (.ifS c a b) = fun ρ S => ifF (run C c .T) (execs C a) (execs C b) (frz ρ (esc c .T)) S := by funext ρ S; rfl
theorem exec_for {C : CallF} {t : Tg} {it : Ix} {b : Sxs} : exec C (.forS t it b) = fun ρ S => forF (runIt C it) (bindT t) (execs C b) (frz ρ (escI it)) S := by funext ρ S; rfl
theorem exec_while {C : CallF} {c : Ex} {b : Sxs} : exec C (.whileS c b) = whileF (testF (esc c .T) (run C c .T)) (execs C b) fuelW := by funext ρ S; rfl
theorem execs_cons {C : CallF} {s : Sx} {l : Sxs} : execs C (.cons s l) = seqS (exec C s) (execs C l) := by funext ρ S; rfl
theorem stS {n : Nat} (A : StAll n) : ∀ (X : Cx) (I : Inf) (C : CallF) (k : Nat), Good X I C k → X.env.scope.kind = .function → ∀ st s, ckS (n + 1) I st s = true → PS X st (tS X.K (exec C s)) := by
  intro X I C k G hk st s h
  have hN : X.N.Nodup := by rw [G.hN]; exact G.nd
  have hp : PassesOwn (model X.prog X.w) X.A X.env X.xe := by rw [G.xe]; exact PassesOwn.never
  have E1 := fun (e : Expr) (E : Ex) (h : ck n I e E = true) => (snd_all n).e X I C k G e E h
  unfold ckS at h
  split at h
  · split at h
    · rename_i i E _ x px e p1
      simp only [Bool.and_eq_true, decide_eq_true_eq, Bool.or_eq_true] at h
      obtain ⟨⟨⟨⟨h1, h2⟩, h3⟩, h4⟩, h5⟩ := h
      have hi : X.N[i]? = some x := by rw [G.hN]; exact h1
      have hf : X.fn x = true ∨ X.env.scope.names.lookup x = some .local := h3.imp (G.fn _) (ploc_of G)
      have sn := E1 _ _ h4
      have plain : swapsWith e (some (.Name x px)) p1.line X.env = pure false → PS X (.Assign [.Name x px] e p1) (tS X.K (exec C (.asg (.nm i) E))) := fun hs => by
        cases hE : isNew E with
        | true => rw [exec_asgO hE]; exact sFrz _ (sNew hN hi (loc_of G h2) (sn.n hE) hs hf)
        | false => rw [exec_asgV hE]; exact sFrz _ (sAsg (T := .nm i) sn.m.v (gNm hN hi (loc_of G h2) hf) hs (stores_name _) rfl)
      split at h5
      · rename_i hc; exact plain (swaps_none hc _ _ _)
      · rename_i c hc
        cases hw : swB I.sc c x px with
        | false => exact plain (by rw [swaps_comp hk hc, G.sc, hw])
        | true =>
          have hC : isComp E = true := by simpa [hw] using h5
          have hE : isNew E = true := by cases E <;> first | rfl | cases hC
          have hl : X.env.scope.names.lookup x = some .local := ploc_of G (by unfold swB at hw; simp only [Bool.and_eq_true] at hw; exact hw.1.1)
          rw [exec_asgO hE]
          exact sFrz _ (sn.c hC i x px p1 hi hl (by rw [swaps_comp hk hc, G.sc, hw]))
    · cases h
  · split at h
    · rename_i l E _ ts kk p e p1
      simp only [Bool.and_eq_true] at h
      obtain ⟨⟨h1, h2⟩, h3⟩ := h
      rw [exec_asgT]
      refine sFrz _ (sAsg (T := .tup l) (E1 _ _ h2).m.v ((ckT_ok n).1 X I C k G _ _ h1) (swaps_other rfl _ _) ?_ rfl)
      split at h3
      · simp only [decide_eq_true_eq] at h3
        exact swp_ok hk (by rw [G.sc]; exact h3)
      · rename_i hne
        exact stores_none (by cases e <;> first | rfl | exact absurd rfl (hne _ _ _)) _
    · cases h
  · split at h
    · rename_i i kx E _ x p k' p0 e p1
      simp only [Bool.and_eq_true, decide_eq_true_eq] at h
      obtain ⟨⟨⟨⟨⟨h1, h2⟩, h3⟩, h4⟩, h5⟩, h6⟩ := h
      rw [exec_sub]
      exact sFrz _ (sSub (by have := G.hu; omega) (pe_var (by rw [G.hN]; exact h1) (vis_of G h2) (okName_of h3).1 (okName_of h3).2.1) (E1 _ _ h4).m.v (E1 _ _ h5).m.v (fun v => by cases k' <;> first | rfl | cases h6) (swaps_other rfl _ _) (by cases e <;> rfl))
    · cases h
  · split at h
    · simp only [Bool.and_eq_true, decide_eq_true_eq] at h
      obtain ⟨⟨⟨⟨⟨⟨h1, h2⟩, h3⟩, h4⟩, h5⟩, h6⟩, h7⟩ := h
      rw [exec_par]
      exact sFrz _ (sPar2 G.calm hN (by rw [G.hN]; exact h1) (by rw [G.hN]; exact h2) h3 (ploc_of G h4) (ploc_of G h5) ((snd_all n).s X I C k G _ _ h6).1 (swp_ok hk (by rw [G.sc]; exact h7)))
    · simp only [Bool.and_eq_true, decide_eq_true_eq] at h
      obtain ⟨⟨⟨⟨⟨⟨⟨⟨⟨⟨h1, h2⟩, h3⟩, h4⟩, h5⟩, h6⟩, h7⟩, h8⟩, h9⟩, h10⟩, h11⟩ := h
      rw [exec_par]
      exact sFrz _ (sPar3 G.calm hN (by rw [G.hN]; exact h1) (by rw [G.hN]; exact h2) (by rw [G.hN]; exact h3) h4 h5 h6 (ploc_of G h7) (ploc_of G h8) (ploc_of G h9) ((snd_all n).s X I C k G _ _ h10).1 (swp_ok hk (by rw [G.sc]; exact h11)))
    · cases h
  · split at h
    · simp only [Bool.and_eq_true, decide_eq_true_eq] at h
      obtain ⟨⟨⟨⟨⟨⟨rfl, h1⟩, h2⟩, h3⟩, h4⟩, h5⟩, h6⟩ := h
      rw [exec_app]
      exact sFrz _ (sApp (pe_var (by rw [G.hN]; exact h1) (vis_of G h2) (okName_of h3).1 (okName_of h3).2.1) (E1 _ _ h4).m.v h5 h6 rfl)
    · cases h
  · split at h
    · simp only [Bool.and_eq_true] at h
      rw [exec_expr]
      refine sFrz _ (sExpr (E1 _ _ h.1).m.v (swaps_none ?_ _ _ _))
      have h2 := h.2
      split at h2
      · assumption
      · cases h2
    · cases h
  · split at h
    · rw [exec_ret]; exact sFrz _ (sRet (E1 _ _ h).m.v)
    · cases h
  · split at h
    · exact sRetN
    · cases h
  · split at h
    · simp only [Bool.and_eq_true] at h
      rw [exec_if]; exact sFrz _ (sIf (E1 _ _ h.1.1).m.t (A.l X I C k G hk _ _ h.1.2) (A.l X I C k G hk _ _ h.2))
    · cases h
  · split at h
    · simp only [Bool.and_eq_true] at h
      rw [exec_for]; exact sFrz _ (sFor hp G.calm ((snd_all n).i X I C k G _ _ _ h.1.1.1) ((ckT_ok n).1 X I C k G _ _ h.1.1.2) (A.l X I C k G hk _ _ h.1.2) (folded_of h.2 _))
    · cases h
  · split at h
    · simp only [Bool.and_eq_true] at h
      rw [exec_while]; exact sWhile hp (E1 _ _ h.1).m.t (A.l X I C k G hk _ _ h.2)
    · cases h
  · split at h
    · exact sBrk
    · cases h
  · split at h
    · exact sCnt
    · cases h
  · split at h
    · exact sPass
    · rename_i c _ _ _
      cases c <;> first | exact sDoc | cases h
    · cases h
theorem st_all : ∀ n, StAll n
  | 0 => ⟨fun _ _ _ _ _ _ _ _ h => by simp [ckS] at h, fun _ _ _ _ _ _ _ _ h => by simp [ckSs] at h⟩
  | n + 1 => by
    have A := st_all n
    refine ⟨stS A, fun X I C k G hk st s h => ?_⟩
    unfold ckSs at h
    split at h
    · exact ssNil
    · simp only [Bool.and_eq_true] at h
      rw [execs_cons]; exact ssCons (A.s X I C k G hk _ _ h.1) (A.l X I C k G hk _ _ h.2)
    · cases h
end CH
set_option Elab.async false
set_option linter.all false
set_option maxRecDepth 100000
set_option maxHeartbeats 4000000
/-! all the defs of a program -/
namespace CH
open PySem PySem.Spec PyProof.Rows L2
/-- a look at the names of a def's scope -/
def scC (N P : List Str) (sc : Scope) : Bool :=
  decide (sc.kind = .function) && !sc.isCoroutine && !sc.isGenerator && decide N.Nodup && decide (N.take P.length = P) && P.all (fun x => decide (sc.names.lookup x = some .local) || decide (sc.names.lookup x = some .cell)) && sc.names.all (fun y => !decide (y.2 = .free))
theorem fnScope_by {N P : List Str} {sc : Scope} (h : scC N P sc = true) : FnScope N P sc := by
  unfold scC at h
  simp only [Bool.and_eq_true, Bool.not_eq_true', decide_eq_true_eq, List.all_eq_true, Bool.or_eq_true, decide_eq_false_iff_not] at h
  obtain ⟨⟨⟨⟨⟨⟨h1, h2⟩, h3⟩, h4⟩, h5⟩, h6⟩, h7⟩ := h
  exact ⟨h1, h2, h3, h4, h5, h6, h7⟩
/-- a def: its names, and what it is in the small language -/
structure Df where
  fd : Fd
  N : List Str
def Df.ps (d : Df) : List Str := d.N.take d.fd.nps
def Df.inf (free : List Str) (fs : List (Str × Nat)) (ks : List (Str × D)) (d : Df) (sc : Scope) : Inf := ⟨d.N, sc, none, free, fs, ks⟩
def dfOk (free : List Str) (fs : List (Str × Nat)) (ks : List (Str × D)) (d : Df) (sc : Scope) (body : List Stmt) : Bool :=
  scC d.N d.ps sc && decide (d.N.length = d.fd.nsl) && decide (d.fd.nps ≤ d.fd.nsl) && ckSs 400 (d.inf free fs ks sc) body d.fd.body
/-- the slots at the entry -/
theorem start_sr {K : PySem.W.Frag} {S : Sto} {F : Addr → Prop} {ι : List Addr} {H : Hp} {vs : List V} {ds : List D} {N : List Str} {n : Nat} (s : Ss K S F ι H) (r : RpA K F ι H vs ds) (hn : n = N.length - vs.length) :
    SR K (ds.map (fun x => some (false, x)) ++ List.replicate n none) S F ι (L2.start N vs) H ∧ ∀ a, ¬ OwnA (ds.map (fun x => some (false, x)) ++ List.replicate n none) (L2.start N vs) a := by
  subst hn
  have hl := r.length
  have hget : ∀ (i : Nat) (b : Bool) (d : D), (ds.map (fun x => some (false, x)) ++ List.replicate (N.length - vs.length) none)[i]? = some (some (b, d)) → b = false ∧ ds[i]? = some d := fun i b d h => by
    by_cases hi : i < ds.length
    · rw [List.getElem?_append_left (by simpa using hi), List.getElem?_map] at h
      cases e : ds[i]? with
      | none => rw [e] at h; cases h
      | some d' => rw [e] at h; cases h; exact ⟨rfl, rfl⟩
    · rw [List.getElem?_append_right (by simpa using hi), List.getElem?_replicate] at h
      split at h <;> cases h
  refine ⟨⟨s, by unfold L2.start; simp [hl], fun i d h => ?_, fun i d h => ?_, fun i j a d e h => ?_⟩, fun a ⟨i, d, h, _⟩ => ?_⟩
  · obtain ⟨_, h⟩ := hget i _ d h
    obtain ⟨v, h1, h2⟩ := r.get h
    have hi : i < vs.length := (List.getElem?_eq_some_iff.mp h1).1
    exact ⟨v, by unfold L2.start; rw [List.getElem?_append_left (by simpa using hi), List.getElem?_map, h1]; rfl, h2⟩
  · exact absurd (hget i _ d h).1 (by decide)
  · exact absurd (hget i _ d h).1 (by decide)
  · exact absurd (hget i _ d h).1 (by decide)
/-- the facts about one def -/
structure DfAt (K : PySem.W.Frag) (mg : Str → Option Value) (d : Df) : Prop where
  at_ : ∃ (a : Addr) (fd : FuncData) (params : Arguments) (body : List Stmt) (scope : Scope) (free : List Str) (fs : List (Str × Nat)) (ks : List (Str × D)), FunD K d.fd.name d.fd.name params body scope [] [] a fd ∧ mg d.fd.name = some (.ref a) ∧ Binds K fd d.ps []
section
variable {P : Program} {w : World} {K : PySem.W.Frag} {mg : Str → Option Value} {base : Heap}
/-- what is known of a def -/
structure Known (K : PySem.W.Frag) (mg : Str → Option Value) (free : List Str) (fs : List (Str × Nat)) (ks : List (Str × D)) (d : Df) (a : Addr) (fd : FuncData) : Prop where
  f : ∃ (params : Arguments) (body : List Stmt) (scope : Scope), FunD K d.fd.name d.fd.name params body scope [] [] a fd ∧ dfOk free fs ks d scope body = true
  g : mg d.fd.name = some (.ref a)
  b : Binds K fd d.ps []
/-- one def keeps its promise if the defs it calls do, one level below -/
theorem df_ok {free : List Str} {fs : List (Str × Nat)} {ks : List (Str × D)} {G : List Fd} {d : Df} {a : Addr} {fd : FuncData} {n : Nat} (kn : Known K mg free fs ks d a fd) (hG : G.find? (fun e => decide (e.name = d.fd.name)) = some d.fd)
    (hfree : ∀ x, x ∈ free → mg x = none) (hks : ∀ x c, (x, c) ∈ ks → ∃ u v, mg x = some u ∧ RelV v u ∧ atomV c = some v) (F : Fns P w K mg base (callN G n) n fs) :
    FnOk P w K mg base CX0 (n + 1) a fd d.ps (spD K (callN G (n + 1)) d.fd.name) := by
  obtain ⟨params, body, scope, hF, hok⟩ := kn.f
  unfold dfOk at hok
  simp only [Bool.and_eq_true, decide_eq_true_eq] at hok
  obtain ⟨⟨⟨h1, h2⟩, h3⟩, h4⟩ := hok
  have S := fnScope_by h1
  have hps : d.ps.length = d.fd.nps := by unfold Df.ps; rw [List.length_take]; omega
  have inv : ∀ {ds : List D} {S0 : Sto} {v : D} {S1 : Sto}, callN G (n + 1) d.fd.name ds S0 = some (v, S1) → ds.length = d.fd.nps ∧ ∃ fl ρ', execs (callN G n) d.fd.body (ds.map (fun x => some (false, x)) ++ List.replicate (d.fd.nsl - d.fd.nps) none) S0 = some (fl, ρ', S1) ∧ ((fl = .rt v) ∨ (fl = .nx ∧ v = .none)) := fun {ds S0 v S1} h => by
    simp only [callN, hG] at h
    split at h
    · rename_i hl
      refine ⟨hl, ?_⟩
      split at h
      · rename_i v' ρ' S' h5; cases h; exact ⟨_, _, h5, .inl rfl⟩
      · rename_i ρ' S' h5; cases h; exact ⟨_, _, h5, .inr ⟨rfl, rfl⟩⟩
      · cases h
    · cases h
  refine hF.ok S (fun vs H Q E ⟨S0, F0, ι, ds, v, S1, ss, r, e, _⟩ => ?_) fun cdv A outer s H vs Q E hr ⟨S0, F0, ι, ds, v, S1, ss, r, e, q⟩ => ?_
  · rw [r.length, (inv e).1, hps]
  · obtain ⟨hl, fl, ρ', hx, hfl⟩ := inv e
    have G0 : Good (cxOf CX0 P w K mg base d.N d.fd.name scope a cdv A outer s H E).nox (d.inf free fs ks scope) (callN G n) n := ⟨rfl, S.nd, rfl, fun _ _ => rfl, rfl, hr, hfree, F, hks, rfl⟩
    refine ⟨tS K (execs (callN G n) d.fd.body), PSs.nox ((st_all 400).l _ _ _ _ G0 S.kind _ _ h4), ?_⟩
    obtain ⟨sr, no⟩ := start_sr (N := d.N) (n := d.fd.nsl - d.fd.nps) ss r (by rw [r.length, hl, h2])
    refine ⟨_, S0, F0, ι, fl, ρ', S1, sr, hx, fun σ' F' ι' H' sr' al => ?_⟩
    have x : Ext0 F0 ι H F' ι' H' := al.x.wide fun b z => no b z
    rcases hfl with rfl | ⟨rfl, rfl⟩
    · exact fun v' rv => q v' F' ι' H' rv sr'.ss x
    · exact q .non F' ι' H' .non sr'.ss x
theorem no0 {G : List Fd} {f : Str} {vs : List V} {H : Hp} {Q : VK} {E : XK} (h : spD K (callN G 0) f vs H Q E) : False := by
  obtain ⟨_, _, _, _, _, _, _, _, e, _⟩ := h
  cases e
/-- all of them -/
theorem fns_all {free : List Str} {fs : List (Str × Nat)} {ks : List (Str × D)} {ds : List Df} (hfs : ∀ f n, (f, n) ∈ fs → ∃ d ∈ ds, d.fd.name = f) (hG : ∀ d ∈ ds, (ds.map (·.fd)).find? (fun e => decide (e.name = d.fd.name)) = some d.fd) (kn : ∀ d ∈ ds, ∃ a fd, Known K mg free fs ks d a fd)
    (hfree : ∀ x, x ∈ free → mg x = none) (hks : ∀ x c, (x, c) ∈ ks → ∃ u v, mg x = some u ∧ RelV v u ∧ atomV c = some v) : ∀ n, Fns P w K mg base (callN (ds.map (·.fd)) n) n fs
  | 0 => ⟨fun f m hm => by
      obtain ⟨d, hd, rfl⟩ := hfs f m hm
      obtain ⟨a, fd, k⟩ := kn d hd
      refine ⟨a, fd, d.ps, k.g, k.f.elim fun _ z => z.elim fun _ z => z.elim fun _ z => z.1.kp, k.b, ⟨fun vs H Q E h => (no0 h).elim, fun _ _ _ _ _ _ _ _ _ _ _ _ _ h => (no0 h).elim⟩⟩⟩
  | n + 1 => ⟨fun f m hm => by
      obtain ⟨d, hd, rfl⟩ := hfs f m hm
      obtain ⟨a, fd, k⟩ := kn d hd
      exact ⟨a, fd, d.ps, k.g, k.f.elim fun _ z => z.elim fun _ z => z.elim fun _ z => z.1.kp, k.b, df_ok k (hG d hd) hfree hks (fns_all hfs hG kn hfree hks n)⟩⟩
/-- the law's def, called with a list of ints -/
theorem law_sp {C : CallF} {H : Hp} {a : Addr} {ns : List Int} {S' : Sto} (hS : SqL K H a (ns.map V.int)) (h : C "law" [.list (ns.map .int)] [] = some (.bool true, S')) : spD K C "law" [.ref a] H (fun v _ => v = .bl true) fun _ _ _ => False := by
  have ra : ∀ (F : Addr → Prop) (ns : List Int), RpA K F [] H (ns.map V.int) (ns.map PyData.int) := fun F ns => by
    induction ns with
    | nil => exact .nil
    | cons n ns ih => exact .cons (.int n) ih
  have fin : ∀ F : Addr → Prop, (∀ b, F b → H b ≠ none) → FzL K F H a (ns.map V.int) → spD K C "law" [.ref a] H (fun v _ => v = .bl true) fun _ _ _ => False := fun F hF hz =>
    ⟨[], F, [], [.list (ns.map .int)], .bool true, S', ⟨hF, (fun _ h => nomatch h), List.nodup_nil, rfl, (fun n b d h => nomatch h)⟩, .cons (.lst hz (ra F ns)) .nil, h, fun v F' ι' H' r _ _ => by cases r; rfl⟩
  rcases hS with hS | hS
  · refine fin (fun b => b = a) (fun b e => ?_) (.inl ⟨rfl, hS⟩)
    rw [e]
    rcases hS with h | ⟨o, h⟩
    · rw [h]; exact fun z => nomatch z
    · rw [h]; exact fun z => nomatch z
  · exact fin (fun _ => False) (fun _ h => h.elim) (.inr hS)
end
end CH
set_option Elab.async false
set_option linter.all false
set_option maxRecDepth 100000
/-! defs that many laws share -/
namespace CH
open PySem PySem.Spec PyProof.Rows L2
def b_is_integer : Sxs := (.cons (.ret (.and (.bi (.inst [.int]) (.cons (.var 0) .nil)) (.not (.bi (.inst [.bool]) (.cons (.var 0) .nil)))))
  .nil)
def b_is_number : Sxs := (.cons (.ret (.and (.call "is_integer" (.cons (.var 0) .nil)) (.and (.cmp .ge (.var 0) (.var 1)) (.or (.cmp .is (.var 2) (.cst .none)) (.cmp .le (.var 0) (.var 2))))))
  .nil)
def b_is_name : Sxs := (.cons (.ifS (.or (.not (.bi (.inst [.str]) (.cons (.var 0) .nil))) (.not (.chain .le .le (.cst (.int 1)) (.bi .len (.cons (.var 0) .nil)) (.cst (.int 8))))) (.cons (.ret (.cst (.bool false)))
  .nil) .nil)
  (.cons (.ret (.bi .all (.cons (.comp (.cmp .isin (.var 1) (.cst (.str "abcdefghijklmnopqrstuvwxyz"))) (.nm 1) (.seq (.var 0)) .nil [1]) .nil)))
  .nil))
def b__law_draw : Sxs := (.cons (.ret (.loc (.cons (.bi .list (.cons (.var 0) .nil)) (.cons (.cst (.int 0)) (.cons (.cst (.int 0)) (.cons (.cst (.int 17)) .nil))))))
  .nil)
def b__law_next : Sxs := (.cons (.ifS (.cmp .gt (.idx (.var 0) (.cst (.int 2))) (.cst (.int 0))) (.cons (.asg (.nm 2) (.bin .mod (.bi .int (.cons (.idx (.var 0) (.cst (.int 2))) .nil)) (.var 1)))
  (.cons (.sub 0 (.cst (.int 2)) (.bin .fdiv (.idx (.var 0) (.cst (.int 2))) (.var 1)))
  (.cons (.ret (.var 2))
  .nil))) .nil)
  (.cons (.ifS (.cmp .lt (.idx (.var 0) (.cst (.int 1))) (.bi .len (.cons (.idx (.var 0) (.cst (.int 0))) .nil))) (.cons (.asg (.nm 3) (.bi .abs (.cons (.idx (.idx (.var 0) (.cst (.int 0))) (.idx (.var 0) (.cst (.int 1)))) .nil)))
  (.cons (.sub 0 (.cst (.int 1)) (.bin .add (.idx (.var 0) (.cst (.int 1))) (.cst (.int 1))))
  (.cons (.ifS (.cmp .ge (.var 3) (.bin .pow (.cst (.int 10)) (.cst (.int 18)))) (.cons (.sub 0 (.cst (.int 2)) (.bin .fdiv (.var 3) (.var 1)))
  (.cons (.ret (.bin .mod (.bi .int (.cons (.var 3) .nil)) (.var 1)))
  .nil)) .nil)
  (.cons (.sub 0 (.cst (.int 3)) (.bin .mod (.bi .int (.cons (.bin .add (.bin .add (.bin .mul (.idx (.var 0) (.cst (.int 3))) (.cst (.int 48271))) (.var 3)) (.cst (.int 11))) .nil)) (.cst (.int 2147483647))))
  .nil)))) (.cons (.sub 0 (.cst (.int 3)) (.bin .mod (.bi .int (.cons (.bin .add (.bin .mul (.idx (.var 0) (.cst (.int 3))) (.cst (.int 48271))) (.cst (.int 12345))) .nil)) (.cst (.int 2147483647))))
  .nil))
  (.cons (.ret (.bin .mod (.bin .fdiv (.bi .int (.cons (.bin .mod (.bin .mul (.idx (.var 0) (.cst (.int 3))) (.cst (.int 69621))) (.cst (.int 2147483629))) .nil)) (.cst (.int 7))) (.var 1)))
  .nil)))
def b__law_same : Sxs := (.cons (.ifS (.bi (.inst [.list, .tuple]) (.cons (.var 1) .nil)) (.cons (.ifS (.or (.cmp .ne (.bi (.inst [.list]) (.cons (.var 1) .nil)) (.bi (.inst [.list]) (.cons (.var 0) .nil))) (.cmp .ne (.bi (.inst [.tuple]) (.cons (.var 1) .nil)) (.bi (.inst [.tuple]) (.cons (.var 0) .nil)))) (.cons (.ret (.cst (.bool false)))
  .nil) .nil)
  (.cons (.ifS (.cmp .ne (.bi .len (.cons (.var 0) .nil)) (.bi .len (.cons (.var 1) .nil))) (.cons (.ret (.cst (.bool false)))
  .nil) .nil)
  (.cons (.ret (.bi .all (.cons (.comp (.call "_law_same" (.cons (.idx (.var 0) (.var 2)) (.cons (.idx (.var 1) (.var 2)) .nil))) (.nm 2) (.rng1 (.bi .len (.cons (.var 1) .nil))) .nil [2]) .nil)))
  .nil))) .nil)
  (.cons (.ifS (.cmp .is (.var 1) (.cst .none)) (.cons (.ret (.cmp .is (.var 0) (.cst .none)))
  .nil) .nil)
  (.cons (.ifS (.cmp .ne (.bi (.inst [.bool]) (.cons (.var 1) .nil)) (.bi (.inst [.bool]) (.cons (.var 0) .nil))) (.cons (.ret (.cst (.bool false)))
  .nil) .nil)
  (.cons (.ifS (.bi (.inst [.str]) (.cons (.var 1) .nil)) (.cons (.ret (.and (.bi (.inst [.str]) (.cons (.var 0) .nil)) (.cmp .eq (.var 0) (.var 1))))
  .nil) .nil)
  (.cons (.ret (.and (.bi (.inst [.int]) (.cons (.var 0) .nil)) (.cmp .eq (.var 0) (.var 1))))
  .nil)))))
end CH
set_option Elab.async false
set_option linter.all false
set_option maxRecDepth 100000
set_option maxHeartbeats 4000000
/-! reckoning in the small language -/
namespace CH
open PySem PySem.Spec PyProof.Rows L2
abbrev Has (G : List Fd) (f : Str) (n m : Nat) (b : Sxs) : Prop := G.find? (fun d => decide (d.name = f)) = some ⟨f, n, m, b⟩
def retV (r : Option (Fl × Env' × Sto)) : Option (D × Sto) := match r with
  | some (.rt v, _, S') => some (v, S')
  | some (.nx, _, S') => some (.none, S')
  | _ => none
theorem call_has {G : List Fd} {f : Str} {n m : Nat} {b : Sxs} (h : Has G f n m b) (k : Nat) {ds : List D} (S : Sto) (hl : ds.length = n) : callN G (k + 1) f ds S = retV (execs (callN G k) b (ds.map (fun x => some (false, x)) ++ List.replicate (m - n) none) S) := by
  simp only [callN, h]
  rw [if_pos hl]
  rfl
section
variable {S : Sto} {C : CallF}
@[simp] theorem deref_none : deref S .none = some .none := rfl
@[simp] theorem deref_int (i : Int) : deref S (.int i) = some (.int i) := rfl
@[simp] theorem deref_bool (i : Bool) : deref S (.bool i) = some (.bool i) := rfl
@[simp] theorem deref_str (i : Str) : deref S (.str i) = some (.str i) := rfl
@[simp] theorem deref_list (l : List D) : deref S (.list l) = some (.list l) := rfl
@[simp] theorem deref_tuple (l : List D) : deref S (.tuple l) = some (.tuple l) := rfl
@[simp] theorem deref_loc (n : Nat) : deref S (locD n) = S[n]? := rfl
@[simp] theorem fin_V (r : Option (D × Sto)) : fin .V r = r := rfl
@[simp] theorem fin_B (r : Option (D × Sto)) : fin .B r = r := rfl
@[simp] theorem fin_Tb (b : Bool) : fin .T (some (.bool b, S)) = some (.bool b, S) := rfl
theorem fin_T' {d : D} {b : Bool} (h : (deref S d).bind truD = some b) : fin .T (some (d, S)) = some (.bool b, S) := by
  show ((deref S d).bind truD).map _ = _
  rw [h]; rfl
end
section
variable {G : List Fd} {k : Nat} {S : Sto}
def isIntD : D → Bool
  | .int _ => true
  | _ => false
@[simp] theorem truD_bool (b : Bool) : truD (.bool b) = some b := rfl
theorem deref_of {d : D} (hd : isLoc d = none) : deref S d = some d := by unfold deref; rw [hd]
theorem is_integer_ok (h : Has G "is_integer" 1 1 b_is_integer) (d : D) (hd : isLoc d = none) (hn : noDt d = true) : callN G (k + 1) "is_integer" [d] S = some (.bool (isIntD d), S) := by
  have hdr : deref S d = some d := deref_of hd
  rw [call_has h k S rfl]
  have t1 : tyD d .int = (match d with | .int _ => true | .bool _ => true | _ => false) := by cases d <;> rfl
  have t2 : tyD d .bool = (match d with | .bool _ => true | _ => false) := by cases d <;> rfl
  simp only [b_is_integer, execs, exec, run, runs, frz, frz1, esc, escs, getB, derefs, biD, hn, one, List.map, List.foldl, List.append, List.replicate, List.cons_append, List.nil_append, List.getElem?_cons_zero, Option.map, fin_V, fin_B, hdr, Option.bind, List.any, t1, t2, if_true, Bool.or_false, deref_bool, truD_bool]
  cases d <;> rfl
/-- an int between -/
theorem is_number_ok (h1 : Has G "is_integer" 1 1 b_is_integer) (h : Has G "is_number" 3 3 b_is_number) (d : D) (a b : Int) (hd : isLoc d = none) (hn : noDt d = true) : callN G (k + 2) "is_number" [d, .int a, .int b] S = some (.bool (match d with | .int i => decide (a ≤ i) && decide (i ≤ b) | _ => false), S) := by
  rw [call_has h (k + 1) S rfl]
  have hdr : deref S d = some d := deref_of hd
  simp only [b_is_number, execs, exec, run, runs, frz, frz1, esc, escs, getS, getB, derefs, is_integer_ok h1 d hd hn, two, one, List.map, List.foldl, List.append, List.replicate, List.cons_append, List.nil_append, List.getElem?_cons_zero, List.getElem?_cons_succ, Option.map, fin_V, fin_B, hdr, Option.bind, if_true, Bool.or_false, deref_bool, deref_int, deref_none, truD_bool, cmpD, isD]
  cases d with
  | int i =>
    by_cases h1 : a ≤ i
    · by_cases h2 : i ≤ b <;> simp [isIntD, cmpD, deref_int, h1, h2, retV]
    · simp [isIntD, cmpD, deref_int, h1, retV]
  | _ => rfl
end
end CH
set_option Elab.async false
set_option linter.all false
set_option maxRecDepth 100000
set_option maxHeartbeats 4000000
/-! steps; the laws' own helpers: draws -/
namespace CH
open PySem PySem.Spec PyProof.Rows L2
section
variable {C : CallF} {ρ ρ1 : Env'} {S S1 S2 S3 : Sto} {c a b e : Ex} {s : Sx} {l x y : Sxs} {d d' : D} {i : Nat}
/-! ### statements, one at a time -/
theorem ex_nx (h : exec C s ρ S = some (.nx, ρ1, S1)) : execs C (.cons s l) ρ S = execs C l ρ1 S1 := by simp only [execs, h]
theorem ex_rt (h : exec C s ρ S = some (.rt d, ρ1, S1)) : execs C (.cons s l) ρ S = some (.rt d, ρ1, S1) := by simp only [execs, h]
theorem ex_bk (h : exec C s ρ S = some (.bk, ρ1, S1)) : execs C (.cons s l) ρ S = some (.bk, ρ1, S1) := by simp only [execs, h]
theorem ex_ct (h : exec C s ρ S = some (.ct, ρ1, S1)) : execs C (.cons s l) ρ S = some (.ct, ρ1, S1) := by simp only [execs, h]
theorem ex_nil : execs C .nil ρ S = some (.nx, ρ, S) := rfl
/-- the first statement is a test -/
theorem if_t (h : run C c .T (frz ρ (esc c .T)) S = some (.bool true, S1)) : exec C (.ifS c x y) ρ S = execs C x (frz ρ (esc c .T)) S1 := by simp only [exec, h]
theorem if_f (h : run C c .T (frz ρ (esc c .T)) S = some (.bool false, S1)) : exec C (.ifS c x y) ρ S = execs C y (frz ρ (esc c .T)) S1 := by simp only [exec, h]
theorem if_b {t : Bool} (h : run C c .T (frz ρ (esc c .T)) S = some (.bool t, S1)) : exec C (.ifS c x y) ρ S = if t then execs C x (frz ρ (esc c .T)) S1 else execs C y (frz ρ (esc c .T)) S1 := by
  cases t <;> simp only [exec, h] <;> rfl
theorem asg_v (h : run C e .V (frz ρ (esc e .V)) S = some (d, S1)) (hi : i < (frz ρ (esc e .V)).length) : exec C (.asg (.nm i) e) ρ S = some (.nx, (frz ρ (esc e .V)).set i (some (isNew e && isCont d, d)), S1) := by
  simp only [exec, h, setS]; rw [if_pos hi]; rfl
theorem asg_t {l : Tgs} (h : run C e .V (frz ρ (esc e .V)) S = some (d, S1)) (hb : bindT (.tup l) d (frz ρ (esc e .V)) = some ρ1) : exec C (.asg (.tup l) e) ρ S = some (.nx, ρ1, S1) := by
  simp only [exec, h, hb]; rfl
theorem ret_v (h : run C e .V (frz ρ (esc e .V)) S = some (d, S1)) : exec C (.ret e) ρ S = some (.rt d, frz ρ (esc e .V), S1) := by simp only [exec, h]
theorem for_v {t : Tg} {it : Ix} {xs : List D} (h : runIt C it (frz ρ (escI it)) S = some (xs, S1)) : exec C (.forS t it x) ρ S = loopF (bindT t) (execs C x) xs (frz ρ (escI it)) S1 := by simp only [exec, h]
end
section
variable {C : CallF} {ρ ρ1 : Env'} {S S1 S2 S3 : Sto} {kx e : Ex} {v kd : D} {i : Nat}
theorem sub_v (h : run C e .V (frz ρ (esc e .V ++ esc kx .V)) S = some (v, S1)) (h2 : run C kx .V (frz ρ (esc e .V ++ esc kx .V)) S1 = some (kd, S2)) (h3 : chg (frz ρ (esc e .V ++ esc kx .V)) S2 i (fun o => putAt o kd v) = some (ρ1, S3)) : exec C (.sub i kx e) ρ S = some (.nx, ρ1, S3) := by
  simp only [exec, h, h2, h3]; rfl
/-- the store's object is changed -/
theorem chg_loc {n : Nat} {o o' : D} {f : D → Option D} (h1 : ρ[i]? = some (some (false, locD n))) (h2 : S[n]? = some o) (h3 : f o = some o') : chg ρ S i f = some (ρ, S.set n o') := by
  unfold chg; rw [h1]; simp only [isLoc_loc, h2, h3]; rfl
theorem chg_own {o o' : D} {f : D → Option D} (h1 : ρ[i]? = some (some (true, o))) (h3 : f o = some o') : chg ρ S i f = some (ρ.set i (some (true, o')), S) := by
  unfold chg; rw [h1]; simp only [h3]; rfl
end
/-! ### expressions: rules for simp -/
section
variable {C : CallF} {ρ ρ1 : Env'} {S S1 S2 S3 : Sto} {a b c : Ex} {m : Md} {d : D}
@[simp] theorem r_cst : run C (.cst d) m ρ S = fin m (some (d, S)) := by simp only [run]
@[simp] theorem r_varV {i : Nat} : run C (.var i) .V ρ S = (getS ρ i).map (·, S) := by simp only [run]
@[simp] theorem r_varB {i : Nat} : run C (.var i) .B ρ S = (getB ρ i).map (·, S) := rfl
@[simp] theorem r_varT {i : Nat} : run C (.var i) .T ρ S = fin .T ((getB ρ i).map (·, S)) := rfl
@[simp] theorem r_bin {o : Bo} : run C (.bin o a b) m ρ S = fin m (two (run C a .B) (run C b .B) (binD o) ρ S) := by simp only [run]
@[simp] theorem r_neg : run C (.neg a) m ρ S = fin m (one (run C a .B) negD ρ S) := by simp only [run]
@[simp] theorem r_cmp {o : Co} : run C (.cmp o a b) m ρ S = fin m (two (run C a .B) (run C b .B) (fun x y => (cmpD o x y).map .bool) ρ S) := by simp only [run]
@[simp] theorem r_idx : run C (.idx a b) m ρ S = fin m (two (run C a .B) (run C b .B) idxD ρ S) := by simp only [run]
@[simp] theorem r_bi {o : Bi} {l : Exs} : run C (.bi o l) m ρ S = fin m (biF o (runs C l .B) ρ S) := by simp only [run]; rfl
@[simp] theorem r_call {f : Str} {l : Exs} : run C (.call f l) m ρ S = fin m (callF C f (runs C l .V) ρ S) := by simp only [run]; rfl
@[simp] theorem r_tup {l : Exs} : run C (.tup l) m ρ S = fin m (tupF (runs C l .V) ρ S) := by simp only [run]; rfl
@[simp] theorem r_lst {l : Exs} : run C (.lst l) m ρ S = fin m (lstF (runs C l .V) ρ S) := by simp only [run]; rfl
@[simp] theorem r_ite {t : Ex} : run C (.ite t a b) m ρ S = iteF' (run C t .T) (run C a m) (run C b m) ρ S := by simp only [run]; rfl
@[simp] theorem r_notT : run C (.not a) .T ρ S = (match run C a .T ρ S with
    | some (.bool c, S1) => some (.bool (!c), S1)
    | _ => none) := rfl
@[simp] theorem r_notV : run C (.not a) .V ρ S = one (run C a .B) (fun x => (truD x).map fun c => .bool (!c)) ρ S := by simp only [run]
@[simp] theorem r_notB : run C (.not a) .B ρ S = one (run C a .B) (fun x => (truD x).map fun c => .bool (!c)) ρ S := by simp only [run]
@[simp] theorem r_andT : run C (.and a b) .T ρ S = andT (run C a .T) (run C b .T) ρ S := by simp only [run]; rfl
@[simp] theorem r_orT : run C (.or a b) .T ρ S = orT (run C a .T) (run C b .T) ρ S := by simp only [run]; rfl
@[simp] theorem r_andV : run C (.and a b) .V ρ S = andV (run C a .V) (run C b .V) ρ S := by simp only [run]; rfl
@[simp] theorem r_orV : run C (.or a b) .V ρ S = orV (run C a .V) (run C b .V) ρ S := by simp only [run]; rfl
@[simp] theorem r_slice : run C (.slice a b c) m ρ S = fin m (sliceF (run C a .B) (run C b .V) (run C c .V) ρ S) := by simp only [run]; rfl
@[simp] theorem r_asInt : run C (.asInt a) .V ρ S = asIntF (run C a .V) ρ S := by simp only [run]; rfl
@[simp] theorem r_comp {elt : Ex} {t : Tg} {it : Ix} {ifs : Exs} {own : List Nat} : run C (.comp elt t it ifs own) m ρ S = fin m (lcF (runIt C it) t (runTs C ifs) (run C elt .V) own ρ S) := by simp only [run]; rfl
@[simp] theorem r_dcomp {kx vx : Ex} {t : Tg} {it : Ix} {ifs : Exs} {own : List Nat} : run C (.dcomp kx vx t it ifs own) m ρ S = fin m (dcF (runIt C it) t (runTs C ifs) (run C kx .V) (run C vx .V) own ρ S) := by simp only [run]; rfl
@[simp] theorem rs_nil : runs C .nil m ρ S = some ([], S) := by simp only [runs]
@[simp] theorem rs_cons {l : Exs} : runs C (.cons a l) m ρ S = consF (run C a m) (runs C l m) ρ S := by simp only [runs]; rfl
@[simp] theorem ri_seq : runIt C (.seq a) ρ S = seqF (run C a .V) ρ S := by simp only [runIt]; rfl
@[simp] theorem ri_enm : runIt C (.enm a) ρ S = enmF (run C a .V) ρ S := by simp only [runIt]; rfl
@[simp] theorem ri_zip : runIt C (.zip a b) ρ S = zipF (run C a .V) (run C b .V) ρ S := by simp only [runIt]; rfl
@[simp] theorem ri_rng1 : runIt C (.rng1 a) ρ S = rng1F (run C a .V) ρ S := by simp only [runIt]; rfl
@[simp] theorem ri_rng2 : runIt C (.rng2 a b) ρ S = rng2F (run C a .V) (run C b .V) ρ S := by simp only [runIt]; rfl
@[simp] theorem rt_nil : runTs C .nil ρ S = some (.bool true, S) := by simp only [runTs]
@[simp] theorem rt_one : runTs C (.cons a .nil) ρ S = (match run C a .T ρ S with
    | some (.bool false, S1) => some (.bool false, S1)
    | some (.bool true, S1) => some (.bool true, S1)
    | _ => none) := rfl
@[simp] theorem isCont_int (i : Int) : isCont (.int i) = false := rfl
@[simp] theorem isCont_bool (i : Bool) : isCont (.bool i) = false := rfl
@[simp] theorem isCont_str (i : Str) : isCont (.str i) = false := rfl
@[simp] theorem isCont_none : isCont .none = false := rfl
@[simp] theorem isCont_tuple (l : List D) : isCont (.tuple l) = false := rfl
@[simp] theorem isCont_list (l : List D) : isCont (.list l) = true := rfl
@[simp] theorem isCont_dict (l : List (D × D)) : isCont (.dict l) = true := rfl
@[simp] theorem isLoc_locD (n : Nat) : isLoc (locD n) = some n := rfl
@[simp] theorem bin_add_int (a b : Int) : binD .add (.int a) (.int b) = some (.int (a + b)) := rfl
@[simp] theorem bin_sub_int (a b : Int) : binD .sub (.int a) (.int b) = some (.int (a - b)) := rfl
@[simp] theorem cmp_gt_int (a b : Int) : cmpD .gt (.int a) (.int b) = some (decide (b < a)) := rfl
@[simp] theorem cmp_ge_int (a b : Int) : cmpD .ge (.int a) (.int b) = some (decide (b ≤ a)) := rfl
@[simp] theorem cmp_lt_int (a b : Int) : cmpD .lt (.int a) (.int b) = some (decide (a < b)) := rfl
@[simp] theorem cmp_le_int (a b : Int) : cmpD .le (.int a) (.int b) = some (decide (a ≤ b)) := rfl
theorem bin_mul_int {a b : Int} (h : small a = true ∨ small b = true) : binD .mul (.int a) (.int b) = some (.int (a * b)) := by
  show (if (small a || small b) = true then some (PyData.int (a * b)) else none) = _
  rw [if_pos (by simpa using h)]
theorem bin_mod_int {a b : Int} (h : b ≠ 0) : binD .mod (.int a) (.int b) = some (.int (a.fmod b)) := by
  show (if b ≠ 0 then some (PyData.int (a.fmod b)) else none) = _
  rw [if_pos h]
theorem bin_fdiv_int {a b : Int} (h : b ≠ 0) (h2 : b.natAbs < 1073741824) : binD .fdiv (.int a) (.int b) = some (.int (a.fdiv b)) := by
  show (if b ≠ 0 ∧ b.natAbs < 1073741824 then some (PyData.int (a.fdiv b)) else none) = _
  rw [if_pos ⟨h, h2⟩]
end
/-! ### draws -/
/-- the drawer's object -/
def WfDraw (o : D) : Prop := ∃ (ns : List Int) (pos w seed : Int), o = .list [.list (ns.map .int), .int pos, .int w, .int seed] ∧ 0 ≤ pos ∧ 0 ≤ w ∧ 0 ≤ seed ∧ seed < 2147483647 ∧ ns.length ≤ 63
section
variable {G : List Fd} {k : Nat} {S : Sto}
theorem draw_ok (h : Has G "_law_draw" 1 1 b__law_draw) (ns : List Int) (hn : ns.length ≤ 63) : ∃ o, callN G (k + 1) "_law_draw" [.list (ns.map .int)] S = some (locD S.length, S ++ [o]) ∧ WfDraw o := by
  rw [call_has h k S rfl]
  refine ⟨.list [.list (ns.map .int), .int 0, .int 0, .int 17], ?_, ns, 0, 0, 17, rfl, by omega, by omega, by omega, by omega, hn⟩
  rfl
theorem atI_nat {α : Type} {l : List α} {i : Int} (h0 : 0 ≤ i) (h1 : i < l.length) : L2.atI l i = l[i.toNat]? := by
  unfold L2.atI ixN
  rw [if_pos h0, if_pos h1]; rfl
theorem small_of_lt {a : Int} (h : -(18446744073709551616) < a) (h2 : a < 18446744073709551616) : small a = true := by
  unfold small; simp [h, h2]
/-- the drawer is asked: any of 0 .. m - 1 -/
theorem next_ok (h : Has G "_law_next" 2 4 b__law_next) {n : Nat} {o : D} (hS : S[n]? = some o) (ho : WfDraw o) {m : Int} (h0 : 0 < m) (h1 : m < 1073741824) :
    ∃ v o', callN G (k + 1) "_law_next" [locD n, .int m] S = some (.int v, S.set n o') ∧ 0 ≤ v ∧ v < m ∧ WfDraw o' := by
  rw [call_has h k S rfl]
  obtain ⟨ns, pos, w, seed, rfl, p0, w0, s0, s1, hl⟩ := ho
  have hn : n < S.length := (List.getElem?_eq_some_iff.mp hS).1
  have e2 : idxD (.list [.list (ns.map .int), .int pos, .int w, .int seed]) (.int 2) = some (.int w) := rfl
  have e0 : idxD (.list [.list (ns.map .int), .int pos, .int w, .int seed]) (.int 0) = some (.list (ns.map .int)) := rfl
  have e1 : idxD (.list [.list (ns.map .int), .int pos, .int w, .int seed]) (.int 1) = some (.int pos) := rfl
  have e3 : idxD (.list [.list (ns.map .int), .int pos, .int w, .int seed]) (.int 3) = some (.int seed) := rfl
  have hm : m ≠ 0 := by omega
  have hm2 : m.natAbs < 1073741824 := by omega
  have put : ∀ (j : Nat) (a b c d x : D), j < 4 → putAt (.list [a, b, c, d]) (.int j) x = some (.list ([a, b, c, d].set j x)) := fun j a b c d x hj => by
    show (if (0 : Int) ≤ j ∧ (j : Int) < 4 then _ else _) = _
    rw [if_pos ⟨by omega, by omega⟩]; rfl
  unfold b__law_next
  by_cases hw : 0 < w
  · refine ⟨w.fmod m, .list [.list (ns.map .int), .int pos, .int (w.fdiv m), .int seed], ?_, Int.fmod_nonneg w0 (by omega), Int.fmod_lt_of_pos w (by omega), ns, pos, _, seed, rfl, p0, Int.fdiv_nonneg w0 (by omega), s0, s1, hl⟩
    rw [ex_rt (ρ1 := [some (false, locD n), some (false, .int m), some (false, .int (w.fmod m)), none]) (d := .int (w.fmod m)) (S1 := S.set n (.list [.list (ns.map .int), .int pos, .int (w.fdiv m), .int seed]))]
    · rfl
    rw [if_t (S1 := S) (by simp [esc, frz, two, getB, hS, e2, hw])]
    rw [ex_nx (asg_v (d := .int (w.fmod m)) (S1 := S) (by simp [esc, escs, frz, frz1, two, getB, hS, e2, consF, biF, derefs, biD, bin_mod_int hm]) (by simp [frz, esc, escs]))]
    rw [ex_nx (sub_v (v := .int (w.fdiv m)) (kd := .int 2) (S1 := S) (S2 := S) (by simp [esc, escs, frz, frz1, two, getB, hS, e2, bin_fdiv_int hm hm2]) (by simp) (chg_loc rfl hS (put 2 _ _ _ _ _ (by omega))))]
    rw [ex_rt (ret_v (d := .int (w.fmod m)) (S1 := S.set n (.list [.list (ns.map .int), .int pos, .int (w.fdiv m), .int seed])) rfl)]
    rfl
  · have fin : ∀ (ρ : Env') (o : D) (sd : Int) (T : Sto), T[n]? = some (.list [.list (ns.map .int), o, .int w, .int sd]) → 0 ≤ sd → sd < 2147483647 → ρ[0]? = some (some (false, locD n)) → ρ[1]? = some (some (false, .int m)) →
        run (callN G k) (.bin .mod (.bin .fdiv (.bi .int (.cons (.bin .mod (.bin .mul (.idx (.var 0) (.cst (.int 3))) (.cst (.int 69621))) (.cst (.int 2147483629))) .nil)) (.cst (.int 7))) (.var 1)) .V ρ T = some (.int ((((sd * 69621).fmod 2147483629).fdiv 7).fmod m), T) := fun ρ o sd T hT a1 a2 r0 r1 => by
      have e3' : idxD (.list [.list (ns.map .int), o, .int w, .int sd]) (.int 3) = some (.int sd) := rfl
      simp [two, getB, r0, r1, hT, e3', consF, biF, derefs, biD, bin_mul_int (.inl (small_of_lt (a := sd) (by omega) (by omega))), bin_mod_int (a := sd * 69621) (b := 2147483629) (by omega), bin_fdiv_int (b := 7) (by omega) (by omega), bin_mod_int hm]
    have rng : ∀ x : Int, 0 ≤ ((x.fmod 2147483629).fdiv 7).fmod m ∧ ((x.fmod 2147483629).fdiv 7).fmod m < m := fun x =>
      ⟨Int.fmod_nonneg (Int.fdiv_nonneg (Int.fmod_nonneg_of_pos x (by omega)) (by omega)) (by omega), Int.fmod_lt_of_pos _ h0⟩
    rw [ex_nx (s := .ifS (.cmp .gt (.idx (.var 0) (.cst (.int 2))) (.cst (.int 0))) _ _) (ρ1 := [some (false, locD n), some (false, .int m), none, none]) (S1 := S) (by
      rw [if_f (S1 := S) (by simp [esc, frz, two, getB, hS, e2, hw])]
      rfl)]
    by_cases hp : pos < ns.length
    · have hlen : pos.toNat < ns.length := by omega
      have hc : L2.atI (ns.map PyData.int) pos = some (.int ns[pos.toNat]) := by
        rw [atI_nat p0 (by simpa using hp)]; simp [hlen]
      have ec : idxD (.list (ns.map .int)) (.int pos) = some (.int ns[pos.toNat]) := hc
      generalize hcell : (if ns[pos.toNat] < 0 then -ns[pos.toNat] else ns[pos.toNat]) = cell
      have c0 : 0 ≤ cell := by rw [← hcell]; split <;> omega
      have hcell2 : (if ns[pos.toNat]'hlen < 0 then PyData.int (-ns[pos.toNat]'hlen) else PyData.int (ns[pos.toNat]'hlen)) = .int cell := by rw [← hcell]; split <;> rfl
      have T1 : (S.set n (.list [.list (ns.map .int), .int (pos + 1), .int w, .int seed]))[n]? = some (.list [.list (ns.map .int), .int (pos + 1), .int w, .int seed]) := List.getElem?_set_self hn
      have bdy : ∀ (Z : Sxs), execs (callN G k) (.cons (.asg (.nm 3) (.bi .abs (.cons (.idx (.idx (.var 0) (.cst (.int 0))) (.idx (.var 0) (.cst (.int 1)))) .nil)))
          (.cons (.sub 0 (.cst (.int 1)) (.bin .add (.idx (.var 0) (.cst (.int 1))) (.cst (.int 1)))) Z)) [some (false, locD n), some (false, .int m), none, none] S =
          execs (callN G k) Z [some (false, locD n), some (false, .int m), none, some (false, .int cell)] (S.set n (.list [.list (ns.map .int), .int (pos + 1), .int w, .int seed])) := fun Z => by
        rw [ex_nx (asg_v (d := .int cell) (S1 := S) (by simp [esc, escs, frz, frz1, two, getB, hS, e0, e1, ec, consF, biF, derefs, biD, hcell2, hcell]) (by simp [frz, esc, escs]))]
        exact ex_nx (sub_v (v := .int (pos + 1)) (kd := .int 1) (S1 := S) (S2 := S) (by simp [esc, escs, frz, frz1, two, getB, hS, e1, isNew]) (by simp) (chg_loc rfl hS (put 1 _ _ _ _ _ (by omega))))
      by_cases hbig : 1000000000000000000 ≤ cell
      · refine ⟨cell.fmod m, .list [.list (ns.map .int), .int (pos + 1), .int (cell.fdiv m), .int seed], ?_, Int.fmod_nonneg c0 (by omega), Int.fmod_lt_of_pos _ h0, ns, _, _, _, rfl, by omega, Int.fdiv_nonneg c0 (by omega), s0, s1, hl⟩
        rw [ex_rt (ρ1 := [some (false, locD n), some (false, .int m), none, some (false, .int cell)]) (d := .int (cell.fmod m)) (S1 := S.set n (.list [.list (ns.map .int), .int (pos + 1), .int (cell.fdiv m), .int seed]))]
        · rfl
        rw [if_t (S1 := S) (by simp [esc, escs, frz, frz1, two, getB, hS, e0, e1, consF, biF, derefs, biD, hp])]
        refine (bdy _).trans ?_
        rw [ex_rt (ρ1 := [some (false, locD n), some (false, .int m), none, some (false, .int cell)]) (d := .int (cell.fmod m)) (S1 := S.set n (.list [.list (ns.map .int), .int (pos + 1), .int (cell.fdiv m), .int seed]))]
        rw [if_t (S1 := S.set n (.list [.list (ns.map .int), .int (pos + 1), .int w, .int seed])) (by
          have : binD .pow (.int 10) (.int 18) = some (.int 1000000000000000000) := by rfl
          simp [esc, escs, frz, frz1, two, getB, this, hbig])]
        rw [ex_nx (sub_v (v := .int (cell.fdiv m)) (kd := .int 2) (S1 := S.set n (.list [.list (ns.map .int), .int (pos + 1), .int w, .int seed])) (S2 := S.set n (.list [.list (ns.map .int), .int (pos + 1), .int w, .int seed])) (by simp [esc, escs, frz, frz1, two, getB, bin_fdiv_int hm hm2]) (by simp) (chg_loc rfl T1 (put 2 _ _ _ _ _ (by omega))))]
        rw [List.set_set]
        exact ex_rt (ret_v (d := .int (cell.fmod m)) (by simp [esc, escs, frz, frz1, two, getB, consF, biF, derefs, biD, bin_mod_int hm]))
      · have b3 : small seed = true := small_of_lt (by omega) (by omega)
        refine ⟨((((seed * 48271 + cell + 11).fmod 2147483647 * 69621).fmod 2147483629).fdiv 7).fmod m, .list [.list (ns.map .int), .int (pos + 1), .int w, .int ((seed * 48271 + cell + 11).fmod 2147483647)], ?_, (rng _).1, (rng _).2, ns, _, _, _, rfl, by omega, w0, Int.fmod_nonneg_of_pos _ (by omega), Int.fmod_lt_of_pos _ (by omega), hl⟩
        have T2 : (S.set n (.list [.list (ns.map .int), .int (pos + 1), .int w, .int ((seed * 48271 + cell + 11).fmod 2147483647)]))[n]? = some (.list [.list (ns.map .int), .int (pos + 1), .int w, .int ((seed * 48271 + cell + 11).fmod 2147483647)]) := List.getElem?_set_self hn
        rw [ex_nx (ρ1 := [some (false, locD n), some (false, .int m), none, some (false, .int cell)]) (S1 := S.set n (.list [.list (ns.map .int), .int (pos + 1), .int w, .int ((seed * 48271 + cell + 11).fmod 2147483647)]))]
        · rw [ex_rt (ret_v (fin _ _ _ _ T2 (Int.fmod_nonneg_of_pos _ (by omega)) (Int.fmod_lt_of_pos _ (by omega)) rfl rfl))]
          rfl
        rw [if_t (S1 := S) (by simp [esc, escs, frz, frz1, two, getB, hS, e0, e1, consF, biF, derefs, biD, hp])]
        refine (bdy _).trans ?_
        rw [ex_nx (ρ1 := [some (false, locD n), some (false, .int m), none, some (false, .int cell)]) (S1 := S.set n (.list [.list (ns.map .int), .int (pos + 1), .int w, .int seed])) (by
          rw [if_f (S1 := S.set n (.list [.list (ns.map .int), .int (pos + 1), .int w, .int seed])) (by
            have : binD .pow (.int 10) (.int 18) = some (.int 1000000000000000000) := by rfl
            simp [esc, escs, frz, frz1, two, getB, this, hbig])]
          rfl)]
        have e3' : idxD (.list [.list (ns.map .int), .int (pos + 1), .int w, .int seed]) (.int 3) = some (.int seed) := rfl
        rw [ex_nx (sub_v (v := .int ((seed * 48271 + cell + 11).fmod 2147483647)) (kd := .int 3) (S1 := S.set n (.list [.list (ns.map .int), .int (pos + 1), .int w, .int seed])) (S2 := S.set n (.list [.list (ns.map .int), .int (pos + 1), .int w, .int seed])) (by simp [esc, escs, frz, frz1, two, getB, T1, hn, e3', consF, biF, derefs, biD, bin_mul_int (.inl b3), bin_mod_int (b := 2147483647) (by omega)]) (by simp) (chg_loc rfl T1 (put 3 _ _ _ _ _ (by omega))))]
        rw [List.set_set]; rfl
    · have b3 : small seed = true := small_of_lt (by omega) (by omega)
      refine ⟨((((seed * 48271 + 12345).fmod 2147483647 * 69621).fmod 2147483629).fdiv 7).fmod m, .list [.list (ns.map .int), .int pos, .int w, .int ((seed * 48271 + 12345).fmod 2147483647)], ?_, (rng _).1, (rng _).2, ns, _, _, _, rfl, by omega, w0, Int.fmod_nonneg_of_pos _ (by omega), Int.fmod_lt_of_pos _ (by omega), hl⟩
      have T2 : (S.set n (.list [.list (ns.map .int), .int pos, .int w, .int ((seed * 48271 + 12345).fmod 2147483647)]))[n]? = some (.list [.list (ns.map .int), .int pos, .int w, .int ((seed * 48271 + 12345).fmod 2147483647)]) := List.getElem?_set_self hn
      rw [ex_nx (ρ1 := [some (false, locD n), some (false, .int m), none, none]) (S1 := S.set n (.list [.list (ns.map .int), .int pos, .int w, .int ((seed * 48271 + 12345).fmod 2147483647)]))]
      · rw [ex_rt (ret_v (fin _ _ _ _ T2 (Int.fmod_nonneg_of_pos _ (by omega)) (Int.fmod_lt_of_pos _ (by omega)) rfl rfl))]
        rfl
      rw [if_f (S1 := S) (by simp [esc, escs, frz, frz1, two, getB, hS, e0, e1, consF, biF, derefs, biD, hp])]
      rw [ex_nx (sub_v (v := .int ((seed * 48271 + 12345).fmod 2147483647)) (kd := .int 3) (S1 := S) (S2 := S) (by simp [esc, escs, frz, frz1, two, getB, hS, e3, consF, biF, derefs, biD, bin_mul_int (.inl b3), bin_mod_int (b := 2147483647) (by omega)]) (by simp) (chg_loc rfl hS (put 3 _ _ _ _ _ (by omega))))]
      rfl
end
end CH
set_option Elab.async false
set_option linter.all false
set_option maxRecDepth 100000
set_option maxHeartbeats 4000000
/-! loops and comprehensions over data; equality -/
namespace CH
open PySem PySem.Spec PyProof.Rows L2
inductive All2 {α β : Type} (R : α → β → Prop) : List α → List β → Prop
  | nil : All2 R [] []
  | cons {a b as bs} : R a b → All2 R as bs → All2 R (a :: as) (b :: bs)
section
variable {T : Type} {enc : T → D} {bnd : D → Env' → Option Env'} {tst elt : RunF} {ρ : Env'} {S : Sto} {body : ExecF} {d : D}
theorem compF_T (p : T → Bool) (f : T → D) (ts : List T) (h : ∀ t ∈ ts, ∃ ρ1, bnd (enc t) ρ = some ρ1 ∧ tst ρ1 S = some (.bool (p t), S) ∧ (p t = true → elt ρ1 S = some (f t, S))) :
    compF bnd tst elt ρ (ts.map enc) S = some ((ts.filter p).map f, S) := by
  induction ts with
  | nil => rfl
  | cons t ts ih =>
    obtain ⟨ρ1, h1, h2, h3⟩ := h t (by simp)
    have ih := ih fun t ht => h t (by simp [ht])
    simp only [List.map_cons, compF, h1, h2]
    cases hp : p t with
    | false => simp only [ih, List.filter_cons, hp]; rfl
    | true => simp only [h3 hp, ih, List.filter_cons, hp]; rfl
theorem compF_M (f : T → D) (ts : List T) (h : ∀ t ∈ ts, ∃ ρ1, bnd (enc t) ρ = some ρ1 ∧ tst ρ1 S = some (.bool true, S) ∧ elt ρ1 S = some (f t, S)) :
    compF bnd tst elt ρ (ts.map enc) S = some (ts.map f, S) := by
  have := compF_T (bnd := bnd) (tst := tst) (elt := elt) (ρ := ρ) (S := S) (fun _ => true) f ts fun t ht => let ⟨ρ1, a, b, c⟩ := h t ht; ⟨ρ1, a, b, fun _ => c⟩
  rw [this, List.filter_eq_self.mpr (by simp)]
/-- with a state that goes along -/
theorem compF_W (W : Sto → Prop) (Q : T → D → Prop) (ts : List T) : ∀ S, W S → (∀ t ∈ ts, ∀ S, W S → ∃ ρ1 y S', bnd (enc t) ρ = some ρ1 ∧ tst ρ1 S = some (.bool true, S) ∧ elt ρ1 S = some (y, S') ∧ Q t y ∧ W S') →
    ∃ ys S', compF bnd tst elt ρ (ts.map enc) S = some (ys, S') ∧ W S' ∧ All2 Q ts ys := by
  induction ts with
  | nil => intro S hS _; exact ⟨[], S, rfl, hS, .nil⟩
  | cons t ts ih =>
    intro S hS h
    obtain ⟨ρ1, y, S1, h1, h2, h3, h4, h5⟩ := h t (by simp) S hS
    obtain ⟨ys, S2, g1, g2, g3⟩ := ih S1 h5 fun t ht => h t (by simp [ht])
    refine ⟨y :: ys, S2, ?_, g2, .cons h4 g3⟩
    simp only [List.map_cons, compF, h1, h2, h3, g1]
/-- a loop that goes to its end -/
theorem loopF_I (I : List T → Env' → Sto → Prop) (ts : List T) (h0 : I [] ρ S) (h : ∀ done t rest, ts = done ++ t :: rest → ∀ ρ S, I done ρ S → ∃ ρ1 ρ2 S2, bnd (enc t) ρ = some ρ1 ∧ (body ρ1 S = some (.nx, ρ2, S2) ∨ body ρ1 S = some (.ct, ρ2, S2)) ∧ I (done ++ [t]) ρ2 S2) :
    ∃ ρ' S', loopF bnd body (ts.map enc) ρ S = some (.nx, ρ', S') ∧ I ts ρ' S' := by
  have key : ∀ (rest done : List T), ts = done ++ rest → ∀ ρ S, I done ρ S → ∃ ρ' S', loopF bnd body (rest.map enc) ρ S = some (.nx, ρ', S') ∧ I ts ρ' S' := by
    intro rest
    induction rest with
    | nil => intro done e ρ S hI; rw [List.append_nil] at e; subst e; exact ⟨ρ, S, rfl, hI⟩
    | cons t rest ih =>
      intro done e ρ S hI
      obtain ⟨ρ1, ρ2, S2, h1, h2, h3⟩ := h done t rest e ρ S hI
      obtain ⟨ρ', S', g1, g2⟩ := ih (done ++ [t]) (by simp [e]) ρ2 S2 h3
      refine ⟨ρ', S', ?_, g2⟩
      simp only [List.map_cons, loopF, h1]
      rcases h2 with h2 | h2 <;> simp only [h2, g1]
  exact key ts [] rfl ρ S h0
/-- a loop that may return d; the store stays -/
theorem loopF_R (p : T → Bool) (I : Env' → Prop) (ts : List T) (h : ∀ t ∈ ts, ∀ ρ, I ρ → ∃ ρ1, bnd (enc t) ρ = some ρ1 ∧ ∃ ρ2, (p t = true → body ρ1 S = some (.rt d, ρ2, S)) ∧ (p t = false → (body ρ1 S = some (.nx, ρ2, S) ∨ body ρ1 S = some (.ct, ρ2, S)) ∧ I ρ2)) :
    ∀ ρ, I ρ → ∃ ρ', (ts.any p = true → loopF bnd body (ts.map enc) ρ S = some (.rt d, ρ', S)) ∧ (ts.any p = false → loopF bnd body (ts.map enc) ρ S = some (.nx, ρ', S) ∧ I ρ') := by
  induction ts with
  | nil => intro ρ hI; exact ⟨ρ, fun z => (Bool.false_ne_true z).elim, fun _ => ⟨rfl, hI⟩⟩
  | cons t ts ih =>
    intro ρ hI
    obtain ⟨ρ1, h1, ρ2, h2, h3⟩ := h t (by simp) ρ hI
    cases hp : p t with
    | true =>
      refine ⟨ρ2, fun _ => ?_, fun z => ?_⟩
      · simp only [List.map_cons, loopF, h1, h2 hp]
      · simp [hp] at z
    | false =>
      obtain ⟨h3, h4⟩ := h3 hp
      obtain ⟨ρ', g1, g2⟩ := ih (fun t ht => h t (by simp [ht])) ρ2 h4
      refine ⟨ρ', fun z => ?_, fun z => ?_⟩
      · have z' : ts.any p = true := by simpa [hp] using z
        simp only [List.map_cons, loopF, h1]
        rcases h3 with h3 | h3 <;> simp only [h3, g1 z']
      · have z' : ts.any p = false := by simpa [hp] using z
        refine ⟨?_, (g2 z').2⟩
        simp only [List.map_cons, loopF, h1]
        rcases h3 with h3 | h3 <;> simp only [h3, (g2 z').1]
end
/-! ### _law_same -/
def Sm : Nat → D → Prop
  | _, .none => True
  | _, .bool _ => True
  | _, .int _ => True
  | _, .str _ => True
  | _, .dict _ => False
  | 0, .list _ => False
  | 0, .tuple _ => False
  | n + 1, .list l => l.length ≤ lim ∧ ∀ x ∈ l, Sm n x
  | n + 1, .tuple l => l.length ≤ lim ∧ ∀ x ∈ l, Sm n x
theorem eqv_refl' : ∀ d : D, d.plain = true → PyData.eqv d d = true := by
  intro d h
  exact PySem.SeqAt.eqv_refl_plain d h
theorem eq_self {d : D} (h : okD d = true) : cmpD .eq d d = some true := by
  show eqD d d = _
  have hp : d.plain = true := (okD_of h).1
  unfold eqD
  rw [h, hp, eqv_refl' d hp]; rfl
theorem ne_self {d : D} (h : okD d = true) : cmpD .ne d d = some false := by
  show (eqD d d).map (!·) = _
  have : eqD d d = some true := eq_self h
  rw [this]; rfl
theorem rangeD_map (n : Nat) : rangeD 0 n = (List.range n).map fun (i : Nat) => PyData.int i := by
  unfold rangeD; congr 1; funext i; simp
theorem same_ok {G : List Fd} (h : Has G "_law_same" 2 3 b__law_same) : ∀ (n : Nat) (d : D), Sm n d → ∀ (k : Nat) (S : Sto), callN G (n + k + 1) "_law_same" [d, d] S = some (.bool true, S) := by
  have seq : ∀ (n : Nat) (mk : List D → D), (mk = .list ∨ mk = .tuple) → ∀ l : List D, l.length ≤ lim → ∀ k S, (∀ x ∈ l, callN G (n + k) "_law_same" [x, x] S = some (.bool true, S)) → callN G (n + k + 1) "_law_same" [mk l, mk l] S = some (.bool true, S) := by
    intro n mk hmk l hl k S ih
    rw [call_has h (n + k) S rfl]
    unfold b__law_same
    have dm : deref S (mk l) = some (mk l) := by rcases hmk with rfl | rfl <;> rfl
    have lm : isLoc (mk l) = none := by rcases hmk with rfl | rfl <;> rfl
    have t1 : [Ty.list, Ty.tuple].any (tyD (mk l)) = true := by rcases hmk with rfl | rfl <;> rfl
    have nd : noDt (mk l) = true := by rcases hmk with rfl | rfl <;> rfl
    have ln : biD .len [mk l] = some (.int l.length) := by rcases hmk with rfl | rfl <;> rfl
    have lin : in62 (l.length : Int) = true := by
      unfold in62; simp only [Bool.and_eq_true, decide_eq_true_eq]
      have : l.length ≤ 16777216 := hl
      omega
    have res : run (callN G (n + k)) (.bi .all (.cons (.comp (.call "_law_same" (.cons (.idx (.var 0) (.var 2)) (.cons (.idx (.var 1) (.var 2)) .nil))) (.nm 2) (.rng1 (.bi .len (.cons (.var 1) .nil))) .nil [2]) .nil)) .V [some (false, mk l), some (false, mk l), none] S = some (.bool true, S) := by
      have hc : compF (bindT (.nm 2)) (runTs (callN G (n + k)) .nil) (run (callN G (n + k)) (.call "_law_same" (.cons (.idx (.var 0) (.var 2)) (.cons (.idx (.var 1) (.var 2)) .nil))) .V) [some (false, mk l), some (false, mk l), none] ((List.range l.length).map fun (i : Nat) => PyData.int i) S = some ((List.range l.length).map fun _ => PyData.bool true, S) := by
        refine compF_M (fun _ => PyData.bool true) (List.range l.length) fun i hi => ⟨[some (false, mk l), some (false, mk l), some (false, .int i)], rfl, rfl, ?_⟩
        have hi' : i < l.length := List.mem_range.mp hi
        have ix : idxD (mk l) (.int i) = some l[i] := by
          have : L2.atI l (i : Int) = some l[i] := by rw [atI_nat (by omega) (by omega)]; simp [hi']
          rcases hmk with rfl | rfl <;> exact this
        have := ih l[i] (List.getElem_mem hi')
        simp [consF, two, getB, dm, ix, callF, this]
      simp only [r_bi, rs_cons, rs_nil, r_comp, fin_V, fin_B]
      simp [consF, lcF, biF, ri_rng1, rng1F, getB, derefs, dm, ln, lin, wipeE, rangeD_map, hc, hl]
      simp [biD]
      rw [show (List.range l.length).map (fun _ => PyData.bool true) = ((List.range l.length).map fun _ => true).map PyData.bool by rw [List.map_map]; rfl]
      have bm : ∀ bs : List Bool, bools (bs.map PyData.bool) = some bs := fun bs => by
        induction bs with
        | nil => rfl
        | cons b bs ih => simp [bools, ih]
      rw [bm]
      simp
    have ok_i : ∀ i : Int, okD (.int i) = true := fun i => rfl
    have ok_b : ∀ i : Bool, okD (.bool i) = true := fun i => rfl
    rw [ex_rt (ρ1 := [some (false, mk l), some (false, mk l), none]) (d := .bool true) (S1 := S)]
    · rfl
    rw [if_t (S1 := S) (by simp [esc, escs, frz, frz1, consF, biF, getB, derefs, dm, biD, nd, t1])]
    rw [ex_nx (ρ1 := [some (false, mk l), some (false, mk l), none]) (S1 := S) (by
      rw [if_f (S1 := S) (by simp [esc, escs, frz, frz1, consF, biF, two, getB, derefs, dm, biD, nd, orT, ne_self (ok_b _)])]
      rfl)]
    rw [ex_nx (ρ1 := [some (false, mk l), some (false, mk l), none]) (S1 := S) (by
      rw [if_f (S1 := S) (by simp [esc, escs, frz, frz1, consF, biF, two, getB, derefs, dm, ln, ne_self (ok_i _)])]
      rfl)]
    exact ex_rt (ret_v res)
  have atom : ∀ d : D, (∀ l, d ≠ .list l) → (∀ l, d ≠ .tuple l) → (∀ l, d ≠ .dict l) → ∀ k S, callN G (k + 1) "_law_same" [d, d] S = some (.bool true, S) := by
    intro d n1 n2 n3 k S
    rw [call_has h k S rfl]
    unfold b__law_same
    have hok : okD d = true := by cases d <;> first | rfl | exact absurd rfl (n1 _) | exact absurd rfl (n2 _) | exact absurd rfl (n3 _)
    have dm : deref S d = some d := by cases d <;> first | rfl | exact absurd rfl (n3 _)
    have nd : noDt d = true := by cases d <;> first | rfl | exact absurd rfl (n3 _)
    have ok_b : ∀ i : Bool, okD (.bool i) = true := fun i => rfl
    have t1 : [Ty.list, Ty.tuple].any (tyD d) = false := by cases d <;> first | rfl | exact absurd rfl (n1 _) | exact absurd rfl (n2 _) | exact absurd rfl (n3 _)
    have isn : cmpD .is d .none = some (match d with | .none => true | _ => false) := by cases d <;> rfl
    rw [ex_nx (ρ1 := [some (false, d), some (false, d), none]) (S1 := S) (by
      rw [if_f (S1 := S) (by simp [esc, escs, frz, frz1, consF, biF, getB, derefs, dm, biD, nd, t1])]
      rfl)]
    by_cases hd : d = .none
    · subst hd; rfl
    · have isn' : cmpD .is d .none = some false := by rw [isn]; cases d <;> first | rfl | exact absurd rfl hd
      rw [ex_nx (ρ1 := [some (false, d), some (false, d), none]) (S1 := S) (by
        rw [if_f (S1 := S) (by simp [esc, escs, frz, frz1, two, getB, dm, isn'])]
        rfl)]
      rw [ex_nx (ρ1 := [some (false, d), some (false, d), none]) (S1 := S) (by
        rw [if_f (S1 := S) (by simp [esc, escs, frz, frz1, consF, biF, two, getB, derefs, dm, biD, nd, ne_self (ok_b _)])]
        rfl)]
      have es := eq_self hok
      cases d with
      | str s =>
        rw [ex_rt (ρ1 := [some (false, .str s), some (false, .str s), none]) (d := .bool true) (S1 := S)]
        · rfl
        rw [if_t (S1 := S) (by simp [esc, escs, frz, frz1, consF, biF, getB, derefs, biD, noDt, tyD])]
        exact ex_rt (ret_v (by simp [esc, escs, frz, frz1, consF, biF, two, getB, derefs, biD, noDt, tyD, andV, es]))
      | none => exact absurd rfl hd
      | list l => exact absurd rfl (n1 _)
      | tuple l => exact absurd rfl (n2 _)
      | dict l => exact absurd rfl (n3 _)
      | int i =>
        rw [ex_nx (ρ1 := [some (false, .int i), some (false, .int i), none]) (S1 := S) (by
          rw [if_f (S1 := S) (by simp [esc, escs, frz, frz1, consF, biF, getB, derefs, biD, noDt, tyD])]
          rfl)]
        rw [ex_rt (ret_v (d := .bool true) (S1 := S) (by simp [esc, escs, frz, frz1, consF, biF, two, getB, derefs, biD, noDt, tyD, andV, es]))]
        rfl
      | bool i =>
        rw [ex_nx (ρ1 := [some (false, .bool i), some (false, .bool i), none]) (S1 := S) (by
          rw [if_f (S1 := S) (by simp [esc, escs, frz, frz1, consF, biF, getB, derefs, biD, noDt, tyD])]
          rfl)]
        rw [ex_rt (ret_v (d := .bool true) (S1 := S) (by simp [esc, escs, frz, frz1, consF, biF, two, getB, derefs, biD, noDt, tyD, andV, es]))]
        rfl
  intro n
  induction n with
  | zero =>
    intro d hd k S
    rw [Nat.zero_add]
    cases d with
    | list l => exact hd.elim
    | tuple l => exact hd.elim
    | dict l => exact hd.elim
    | _ => exact atom _ (by intro l e; cases e) (by intro l e; cases e) (by intro l e; cases e) k S
  | succ n ih =>
    intro d hd k S
    cases d with
    | list l => exact seq (n + 1) .list (.inl rfl) l hd.1 k S fun x hx => by rw [show n + 1 + k = n + k + 1 by omega]; exact ih x (hd.2 x hx) k S
    | tuple l => exact seq (n + 1) .tuple (.inr rfl) l hd.1 k S fun x hx => by rw [show n + 1 + k = n + k + 1 by omega]; exact ih x (hd.2 x hx) k S
    | dict l => exact hd.elim
    | _ => exact atom _ (by intro l e; cases e) (by intro l e; cases e) (by intro l e; cases e) (n + 1 + k) S
end CH
set_option Elab.async false
set_option linter.all false
set_option maxRecDepth 100000
set_option maxHeartbeats 4000000
/-! dicts, least, greatest, sums, order -/
namespace CH
open PySem PySem.Spec PyProof.Rows L2
theorem intsOf_ints : ∀ ns : List Int, intsOf (ns.map PyData.int) = some ns
  | [] => rfl
  | n :: ns => by simp [intsOf, intsOf_ints ns]
theorem bools_bools : ∀ bs : List Bool, bools (bs.map PyData.bool) = some bs
  | [] => rfl
  | b :: bs => by simp [bools, bools_bools bs]
theorem sum_ints (ns : List Int) : biD .sum [.list (ns.map PyData.int)] = some (.int ns.sum) := by simp [biD, intsOf_ints]
theorem any_bools (bs : List Bool) : biD .any [.list (bs.map PyData.bool)] = some (.bool (bs.any id)) := by simp [biD, bools_bools]
theorem all_bools (bs : List Bool) : biD .all [.list (bs.map PyData.bool)] = some (.bool (bs.all id)) := by simp [biD, bools_bools]
/-! what may be ordered: data of one shape -/
theorem okMin_ints : ∀ ns : List Int, okMin (ns.map PyData.int) = true := by
  intro ns
  have pl : ∀ l : List Int, PyData.plainAll (l.map PyData.int) = true ∧ PyData.depthAll (l.map PyData.int) = 0 := by
    intro l
    induction l with
    | nil => exact ⟨rfl, rfl⟩
    | cons n l ih => exact ⟨by simp [PyData.plainAll, PyData.plain, ih.1], by simp [PyData.depthAll, PyData.depth, ih.2]⟩
  unfold okMin allAlike okDs
  simp only [Bool.and_eq_true, List.all_eq_true, List.mem_map]
  refine ⟨⟨?_, ?_⟩, (pl ns).1, by rw [(pl ns).2]; rfl⟩
  · rintro _ ⟨a, _, rfl⟩ _ ⟨b, _, rfl⟩; rfl
  · rintro _ ⟨a, _, rfl⟩; rfl
theorem max_ints (n : Int) (ns : List Int) : biD .max [.list ((n :: ns).map PyData.int)] = some (.int (ns.foldl max n)) := by
  show maxL ((n :: ns).map PyData.int) = _
  unfold maxL
  simp only [List.map_cons]
  rw [if_pos (by have := okMin_ints (n :: ns); simpa using this), PySem.W.maxD_ints]
theorem min_ints (n : Int) (ns : List Int) : biD .min [.list ((n :: ns).map PyData.int)] = some (.int (ns.foldl min n)) := by
  show minL ((n :: ns).map PyData.int) = _
  unfold minL
  simp only [List.map_cons]
  rw [if_pos (by have := okMin_ints (n :: ns); simpa using this), PySem.W.minD_ints]
/-! dicts by texts -/
def strD {T : Type} (key : T → Str) (val : T → D) (ts : List T) : List (D × D) := ts.map fun t => (.str (key t), val t)
theorem putD_new {k : Str} {v : D} : ∀ {ps : List (D × D)}, (∀ p ∈ ps, p.1 ≠ .str k) → (∀ p ∈ ps, ∃ s, p.1 = .str s) → putD (.k (.inr k)) (.str k) v ps = ps ++ [(.str k, v)] := by
  intro ps h h2
  unfold putD
  rw [if_neg]
  simp only [List.any_eq_true, decide_eq_true_eq, not_exists, not_and]
  intro p hp e
  obtain ⟨s, hs⟩ := h2 p hp
  have := h p hp
  rw [hs] at e this
  simp [toKK, toKey] at e
  exact this (by rw [e])
section
variable {T : Type} {enc : T → D} {bnd : D → Env' → Option Env'} {tst fk fv : RunF} {ρ : Env'} {S : Sto}
theorem dcompF_S (key : T → Str) (val : T → D) (ts : List T) (hn : (ts.map key).Nodup) (hl : ts.length ≤ lim) (h : ∀ t ∈ ts, ∃ ρ1, bnd (enc t) ρ = some ρ1 ∧ tst ρ1 S = some (.bool true, S) ∧ fk ρ1 S = some (.str (key t), S) ∧ fv ρ1 S = some (val t, S)) :
    dcompF bnd tst fk fv ρ [] (ts.map enc) S = some (strD key val ts, S) := by
  have go : ∀ (rest done : List T), ts = done ++ rest → dcompF bnd tst fk fv ρ (strD key val done) (rest.map enc) S = some (strD key val ts, S) := by
    intro rest
    induction rest with
    | nil => intro done e; rw [List.append_nil] at e; subst e; rfl
    | cons t rest ih =>
      intro done e
      obtain ⟨ρ1, h1, h2, h3, h4⟩ := h t (by rw [e]; simp)
      simp only [List.map_cons, dcompF, h1, h2, h3, h4, toKey]
      have hlt : (strD key val done).length < lim := by unfold strD; rw [List.length_map]; have := congrArg List.length e; simp at this; omega
      rw [if_pos hlt, putD_new]
      · have : strD key val done ++ [(PyData.str (key t), val t)] = strD key val (done ++ [t]) := by simp [strD]
        rw [this]; exact ih (done ++ [t]) (by simp [e])
      · intro p hp
        unfold strD at hp
        obtain ⟨u, hu, rfl⟩ := List.mem_map.mp hp
        intro z
        injection z with z
        rw [e, List.map_append, List.map_cons] at hn
        have := List.nodup_append.mp hn
        exact this.2.2 _ (List.mem_map.mpr ⟨u, hu, rfl⟩) _ (List.mem_cons_self ..) z
      · intro p hp
        unfold strD at hp
        obtain ⟨u, hu, rfl⟩ := List.mem_map.mp hp
        exact ⟨_, rfl⟩
  exact go ts [] rfl
theorem strD_noloc (key : T → Str) (val : T → D) (ts : List T) : isLoc (.dict (strD key val ts)) = none := by
  cases ts with
  | nil => rfl
  | cons t ts =>
    show isLoc (.dict ((.str (key t), val t) :: _)) = none
    unfold isLoc
    split
    · rename_i q; injection q with q; injection q with q; injection q with q _; cases q
    · rfl
theorem strD_dt (key : T → Str) (val : T → D) (ts : List T) : isDt (strD key val ts) = false := by cases ts <;> rfl
theorem strD_find (key : T → Str) (val : T → D) : ∀ (ts : List T) (t : T), t ∈ ts → (ts.map key).Nodup → findK (.k (.inr (key t))) (strD key val ts) = some (val t)
  | u :: ts, t, h, hn => by
    show (if toKK (.str (key u)) = some (.k (.inr (key t))) then some (val u) else findK _ (strD key val ts)) = _
    by_cases e : key u = key t
    · rw [if_pos (by simp [toKK, toKey, e])]
      rcases List.mem_cons.mp h with z | z
      · rw [z]
      · rw [List.map_cons, List.nodup_cons] at hn
        exact absurd (List.mem_map.mpr ⟨t, z, e.symm⟩) hn.1
    · rw [if_neg (by simp [toKK, toKey, e])]
      rcases List.mem_cons.mp h with z | z
      · exact absurd (by rw [z]) e
      · rw [List.map_cons, List.nodup_cons] at hn
        exact strD_find key val ts t z hn.2
theorem strD_idx (key : T → Str) (val : T → D) (ts : List T) (t : T) (h : t ∈ ts) (hn : (ts.map key).Nodup) : idxD (.dict (strD key val ts)) (.str (key t)) = some (val t) := by
  show (toKK (.str (key t))).bind (fun kk => if isTk kk = isDt (strD key val ts) then findK kk (strD key val ts) else none) = _
  have e : toKK (.str (key t)) = some (.k (.inr (key t))) := rfl
  rw [e, strD_dt]
  exact strD_find key val ts t h hn
end
theorem comp_v {C : CallF} {elt : Ex} {t : Tg} {it : Ix} {ifs : Exs} {own : List Nat} {m : Md} {ρ : Env'} {S S1 S2 : Sto} {xs ys : List D} (h1 : runIt C it ρ S = some (xs, S1)) (h2 : compF (bindT t) (runTs C ifs) (run C elt .V) (wipeE ρ own) xs S1 = some (ys, S2)) (h3 : ys.length ≤ lim) :
    run C (.comp elt t it ifs own) m ρ S = fin m (some (.list ys, S2)) := by
  rw [r_comp]
  congr 1
  unfold lcF
  rw [h1]
  show Option.bind (compF _ _ _ _ xs S1) _ = _
  rw [h2]
  show (if ys.length ≤ lim then some (PyData.list ys, S2) else none) = _
  rw [if_pos h3]
theorem in62_nat {n : Nat} (h : n ≤ 1000000) : in62 (n : Int) = true := by
  unfold in62; simp only [Bool.and_eq_true, decide_eq_true_eq]; omega
theorem bi_1 {C : CallF} {b : Bi} {a : Ex} {m : Md} {ρ : Env'} {S S1 : Sto} {d d' c : D} (h1 : run C a .B ρ S = some (d, S1)) (h2 : deref S1 d = some d') (h3 : biD b [d'] = some c) : run C (.bi b (.cons a .nil)) m ρ S = fin m (some (c, S1)) := by
  rw [r_bi]
  congr 1
  unfold biF
  rw [rs_cons]
  unfold consF
  rw [h1]
  simp only [rs_nil, derefs, h2, Option.bind, h3, Option.map]
theorem rng_v {C : CallF} {a : Ex} {ρ : Env'} {S S1 : Sto} {n : Nat} (h1 : run C a .V ρ S = some (.int (n : Int), S1)) (hn : n ≤ 1000000) : runIt C (.rng1 a) ρ S = some ((List.range n).map fun (i : Nat) => PyData.int i, S1) := by
  rw [ri_rng1]
  unfold rng1F
  rw [h1]
  show (if in62 (n : Int) = true then some (rangeD 0 (n : Int).toNat, S1) else none) = _
  rw [if_pos (in62_nat hn), Int.toNat_natCast, rangeD_map]
theorem fin_ne {m : Md} (h : m ≠ .T) (r : Option (D × Sto)) : fin m r = r := by cases m <;> first | rfl | exact absurd rfl h
section
variable {C : CallF} {a b : Ex} {m : Md} {ρ : Env'} {S S1 S2 : Sto} {x y x' y' c : D}
theorem bin_v {o : Bo} (h1 : run C a .B ρ S = some (x, S1)) (h2 : run C b .B ρ S1 = some (y, S2)) (h3 : deref S2 x = some x') (h4 : deref S2 y = some y') (h5 : binD o x' y' = some c) (hm : m ≠ .T := by decide) : run C (.bin o a b) m ρ S = some (c, S2) := by
  rw [r_bin, fin_ne hm]
  unfold two
  rw [h1]; dsimp only
  rw [h2]; dsimp only
  rw [h3, h4]; dsimp only
  rw [h5]; rfl
theorem idx_v (h1 : run C a .B ρ S = some (x, S1)) (h2 : run C b .B ρ S1 = some (y, S2)) (h3 : deref S2 x = some x') (h4 : deref S2 y = some y') (h5 : idxD x' y' = some c) (hm : m ≠ .T := by decide) : run C (.idx a b) m ρ S = some (c, S2) := by
  rw [r_idx, fin_ne hm]
  unfold two
  rw [h1]; dsimp only
  rw [h2]; dsimp only
  rw [h3, h4]; dsimp only
  rw [h5]; rfl
theorem cmp_v {o : Co} {t : Bool} (h1 : run C a .B ρ S = some (x, S1)) (h2 : run C b .B ρ S1 = some (y, S2)) (h3 : deref S2 x = some x') (h4 : deref S2 y = some y') (h5 : cmpD o x' y' = some t) : run C (.cmp o a b) m ρ S = some (.bool t, S2) := by
  have : two (run C a .B) (run C b .B) (fun x y => (cmpD o x y).map PyData.bool) ρ S = some (.bool t, S2) := by
    unfold two
    rw [h1]; dsimp only
    rw [h2]; dsimp only
    rw [h3, h4]; dsimp only
    rw [h5]; rfl
  rw [r_cmp, this]
  cases m <;> rfl
end
end CH
set_option Elab.async false
set_option linter.all false
set_option maxRecDepth 100000
set_option maxHeartbeats 4000000
/-! data of one shape: what may be ordered -/
namespace CH
open PySem PySem.Spec PyProof.Rows L2
mutual
inductive Sh
  | int
  | str
  | bool
  | seq (s : Sh)
  | row (l : Shs)
inductive Shs
  | nil
  | cons (s : Sh) (l : Shs)
end
mutual
inductive HasSh : Sh → D → Prop
  | int (i : Int) : HasSh .int (.int i)
  | str (x : Str) : HasSh .str (.str x)
  | bool (b : Bool) : HasSh .bool (.bool b)
  | seq {s l} : HasAll s l → HasSh (.seq s) (.tuple l)
  | row {ss l} : HasRow ss l → HasSh (.row ss) (.tuple l)
inductive HasAll : Sh → List D → Prop
  | nil {s} : HasAll s []
  | cons {s d l} : HasSh s d → HasAll s l → HasAll s (d :: l)
inductive HasRow : Shs → List D → Prop
  | nil : HasRow .nil []
  | cons {s ss d l} : HasSh s d → HasRow ss l → HasRow (.cons s ss) (d :: l)
end
theorem HasAll.of {s : Sh} : ∀ {l : List D}, (∀ d ∈ l, HasSh s d) → HasAll s l
  | [], _ => .nil
  | d :: l, h => .cons (h d (by simp)) (HasAll.of fun e he => h e (by simp [he]))
theorem HasAll.mem {s : Sh} : ∀ {l : List D}, HasAll s l → ∀ d ∈ l, HasSh s d
  | _ :: _, .cons h t, d, hd => by
    rcases List.mem_cons.mp hd with e | hd
    · rw [e]; exact h
    · exact t.mem d hd
mutual
def Sh.dep : Sh → Nat
  | .int => 0
  | .str => 0
  | .bool => 0
  | .seq s => s.dep + 1
  | .row l => l.dep + 1
def Shs.dep : Shs → Nat
  | .nil => 0
  | .cons s l => max s.dep l.dep
end
theorem alikeAll_seq {s : Sh} (h : ∀ d e, HasSh s d → HasSh s e → PySem.W.alike d e = true) : ∀ {l m : List D}, HasAll s l → HasAll s m → PySem.W.alikeAll l m = true
  | [], _, _, _ => by unfold PySem.W.alikeAll; rfl
  | _ :: _, [], _, _ => by unfold PySem.W.alikeAll; rfl
  | _ :: _, _ :: _, .cons a b, .cons c d => by
    unfold PySem.W.alikeAll
    rw [h _ _ a c, alikeAll_seq h b d]; rfl
mutual
theorem sh_alike : ∀ (s : Sh) (d e : D), HasSh s d → HasSh s e → PySem.W.alike d e = true
  | .int, _, _, .int _, .int _ => by unfold PySem.W.alike; rfl
  | .str, _, _, .str _, .str _ => by unfold PySem.W.alike; rfl
  | .bool, _, _, .bool _, .bool _ => by unfold PySem.W.alike; rfl
  | .seq s, _, _, .seq a, .seq b => by unfold PySem.W.alike; exact alikeAll_seq (sh_alike s) a b
  | .row l, _, _, .row a, .row b => by unfold PySem.W.alike; exact shs_alike l _ _ a b
theorem shs_alike : ∀ (s : Shs) (d e : List D), HasRow s d → HasRow s e → PySem.W.alikeAll d e = true
  | .nil, _, _, .nil, .nil => by unfold PySem.W.alikeAll; rfl
  | .cons s l, _, _, .cons a b, .cons c d => by
    unfold PySem.W.alikeAll
    rw [sh_alike s _ _ a c, shs_alike l _ _ b d]; rfl
end
theorem plainAll_seq {s : Sh} (h : ∀ d, HasSh s d → d.plain = true ∧ d.depth ≤ s.dep) : ∀ {l : List D}, HasAll s l → PyData.plainAll l = true ∧ PyData.depthAll l ≤ s.dep
  | [], _ => ⟨rfl, Nat.zero_le _⟩
  | _ :: _, .cons a b => by
    obtain ⟨h1, h2⟩ := h _ a
    obtain ⟨h3, h4⟩ := plainAll_seq h b
    exact ⟨by simp only [PyData.plainAll, h1, h3]; rfl, by simp only [PyData.depthAll]; omega⟩
mutual
theorem sh_plain : ∀ (s : Sh) (d : D), HasSh s d → d.plain = true ∧ d.depth ≤ s.dep
  | .int, _, .int _ => ⟨rfl, Nat.zero_le _⟩
  | .str, _, .str _ => ⟨rfl, Nat.zero_le _⟩
  | .bool, _, .bool _ => ⟨rfl, Nat.zero_le _⟩
  | .seq s, _, .seq a => by
    obtain ⟨h1, h2⟩ := plainAll_seq (sh_plain s) a
    exact ⟨by simpa only [PyData.plain] using h1, by simp only [PyData.depth, Sh.dep]; omega⟩
  | .row l, _, .row a => by
    obtain ⟨h1, h2⟩ := shs_plain l _ a
    exact ⟨by simpa only [PyData.plain] using h1, by simp only [PyData.depth, Sh.dep]; omega⟩
theorem shs_plain : ∀ (s : Shs) (d : List D), HasRow s d → PyData.plainAll d = true ∧ PyData.depthAll d ≤ s.dep
  | .nil, _, .nil => ⟨rfl, Nat.zero_le _⟩
  | .cons s l, _, .cons a b => by
    obtain ⟨h1, h2⟩ := sh_plain s _ a
    obtain ⟨h3, h4⟩ := shs_plain l _ b
    exact ⟨by simp only [PyData.plainAll, h1, h3]; rfl, by simp only [PyData.depthAll, Shs.dep]; omega⟩
end
theorem okDs_sh {s : Sh} {l : List D} (h : HasAll s l) (hd : s.dep ≤ 60) : okDs l = true := by
  obtain ⟨h1, h2⟩ := plainAll_seq (sh_plain s) h
  unfold okDs
  rw [h1, Bool.true_and]
  exact Nat.ble_eq.mpr (by omega)
theorem okMin_sh {s : Sh} {l : List D} (h : HasAll s l) (hd : s.dep ≤ 60) : okMin l = true := by
  unfold okMin allAlike
  rw [okDs_sh h hd]
  simp only [Bool.and_eq_true, List.all_eq_true, and_true]
  refine ⟨fun a ha b hb => sh_alike s a b (h.mem a ha) (h.mem b hb), fun a ha => ?_⟩
  have := h.mem a ha
  cases this <;> rfl
theorem okSort_sh {s : Sh} {l : List D} (h : HasAll s l) (hd : s.dep ≤ 60) (ht : l.all isT1 = true ∨ l.all isO1 = true) : okSort l = true := by
  unfold okSort allAlike
  rw [okDs_sh h hd]
  simp only [Bool.and_eq_true, List.all_eq_true, and_true]
  refine ⟨fun a ha b hb => sh_alike s a b (h.mem a ha) (h.mem b hb), ?_⟩
  rcases ht with ht | ht <;> simp [ht]
/-- sorted: the same items -/
def srt (l : List D) : List D := l.mergeSort (PySem.W.dataLe false id)
theorem srt_perm (l : List D) : (srt l).Perm l := List.mergeSort_perm l _
theorem sort_list {l : List D} (h : okSort l = true) : biD .sorted [.list l] = some (.list (srt l)) := by
  show (sortL l).map PyData.list = _
  unfold sortL; rw [if_pos h]; rfl
theorem sort_tuple {l : List D} (h : okSort l = true) : biD .sorted [.tuple l] = some (.list (srt l)) := by
  show (sortL l).map PyData.list = _
  unfold sortL; rw [if_pos h]; rfl
theorem HasAll.perm {s : Sh} {l m : List D} (h : HasAll s l) (p : m.Perm l) : HasAll s m := HasAll.of fun d hd => h.mem d (p.mem_iff.mp hd)
/-- least of a list that has items: one of them -/
def minD' : List D → D
  | [] => .none
  | x :: xs => PySem.W.minD x xs
theorem minD_mem : ∀ (xs : List D) (x : D), PySem.W.minD x xs ∈ x :: xs := by
  intro xs
  unfold PySem.W.minD
  induction xs with
  | nil => intro x; simp
  | cons y ys ih =>
    intro x
    rw [List.foldl_cons]
    split
    · have := ih y
      exact List.mem_cons_of_mem _ this
    · have := ih x
      rcases List.mem_cons.mp this with h | h
      · rw [h]; simp
      · exact List.mem_cons_of_mem _ (List.mem_cons_of_mem _ h)
theorem min_sh {s : Sh} {l : List D} (h : HasAll s l) (hd : s.dep ≤ 60) (hn : l ≠ []) : biD .min [.list l] = some (minD' l) ∧ minD' l ∈ l := by
  cases l with
  | nil => exact absurd rfl hn
  | cons x xs =>
    refine ⟨?_, minD_mem xs x⟩
    show (if okMin (x :: xs) = true then some (PySem.W.minD x xs) else none) = _
    rw [if_pos (okMin_sh h hd)]; rfl
end CH
set_option Elab.async false
set_option linter.all false
set_option maxRecDepth 100000
set_option maxHeartbeats 4000000
namespace LW
open PySem PySem.Spec PyProof.Rows L2 CH
def df_is_integer : Df := ⟨⟨"is_integer", 1, 1, b_is_integer⟩, ["thing"]⟩
def df_is_number : Df := ⟨⟨"is_number", 3, 3, b_is_number⟩, ["thing", "least", "most"]⟩
def df_is_name : Df := ⟨⟨"is_name", 1, 2, b_is_name⟩, ["thing", "sign"]⟩
def b_is_rising : Sxs := (.cons (.ret (.bi .all (.cons (.comp (.cmp .lt (.idx (.var 1) (.cst (.int 0))) (.idx (.var 2) (.cst (.int 0)))) (.tup (.cons (.nm 1) (.cons (.nm 2) .nil))) (.zip (.var 0) (.slice (.var 0) (.asInt (.cst (.int 1))) (.cst .none))) .nil [1, 2]) .nil)))
  .nil)
def df_is_rising : Df := ⟨⟨"is_rising", 1, 3, b_is_rising⟩, ["rows", "one", "other"]⟩
def b_are_loaves : Sxs := (.cons (.ifS (.or (.not (.bi (.inst [.tuple]) (.cons (.var 0) .nil))) (.cmp .gt (.bi .len (.cons (.var 0) .nil)) (.cst (.int 8)))) (.cons (.ret (.cst (.bool false)))
  .nil) .nil)
  (.cons (.forS (.nm 1) (.seq (.var 0)) (.cons (.ifS (.or (.not (.bi (.inst [.tuple]) (.cons (.var 1) .nil))) (.or (.cmp .ne (.bi .len (.cons (.var 1) .nil)) (.cst (.int 3))) (.not (.call "is_name" (.cons (.idx (.var 1) (.cst (.int 0))) .nil))))) (.cons (.ret (.cst (.bool false)))
  .nil) .nil)
  (.cons (.ifS (.or (.not (.call "is_number" (.cons (.idx (.var 1) (.cst (.int 1))) (.cons (.cst (.int 1)) (.cons (.cst (.int 9)) .nil))))) (.not (.call "is_number" (.cons (.idx (.var 1) (.cst (.int 2))) (.cons (.cst (.int 1)) (.cons (.cst (.int 9)) .nil)))))) (.cons (.ret (.cst (.bool false)))
  .nil) .nil)
  .nil)))
  (.cons (.ret (.call "is_rising" (.cons (.var 0) .nil)))
  .nil)))
def df_are_loaves : Df := ⟨⟨"are_loaves", 1, 2, b_are_loaves⟩, ["thing", "row"]⟩
def b_partings : Sxs := (.cons (.asg (.nm 2) (.dcomp (.idx (.var 3) (.cst (.int 0))) (.idx (.var 3) (.cst (.int 2))) (.nm 3) (.seq (.var 0)) .nil [3]))
  (.cons (.asg (.nm 4) (.lst (.cons (.tup .nil) .nil)))
  (.cons (.forS (.tup (.cons (.nm 5) (.cons (.nm 6) (.cons (.nm 7) .nil)))) (.seq (.var 0)) (.cons (.asg (.nm 8) (.lst .nil))
  (.cons (.forS (.nm 9) (.seq (.var 4)) (.cons (.ifS (.cmp .le (.var 7) (.var 1)) (.cons (.app 8 (.bin .add (.var 9) (.tup (.cons (.tup (.cons (.var 5) .nil)) .nil))))
  .nil) .nil)
  (.cons (.forS (.tup (.cons (.nm 10) (.cons (.nm 11) .nil))) (.enm (.var 9)) (.cons (.ifS (.cmp .le (.bin .add (.bi .sum (.cons (.comp (.idx (.var 2) (.var 12)) (.nm 12) (.seq (.var 11)) .nil [12]) .nil)) (.var 7)) (.var 1)) (.cons (.app 8 (.bin .add (.bin .add (.slice (.var 9) (.cst .none) (.asInt (.var 10))) (.tup (.cons (.bin .add (.var 11) (.tup (.cons (.var 5) .nil))) .nil))) (.slice (.var 9) (.asInt (.bin .add (.var 10) (.cst (.int 1)))) (.cst .none))))
  .nil) .nil)
  .nil))
  .nil)))
  (.cons (.asg (.nm 4) (.var 8))
  .nil))))
  (.cons (.ret (.var 4))
  .nil))))
def df_partings : Df := ⟨⟨"partings", 2, 13, b_partings⟩, ["loaves", "room", "sizes", "row", "found", "name", "_", "size", "longer", "fires", "place", "fire", "one"]⟩
def b_hours_of : Sxs := (.cons (.asg (.nm 2) (.dcomp (.idx (.var 3) (.cst (.int 0))) (.idx (.var 3) (.cst (.int 1))) (.nm 3) (.seq (.var 0)) .nil [3]))
  (.cons (.ret (.bi .sum (.cons (.comp (.bi .max (.cons (.comp (.idx (.var 2) (.var 4)) (.nm 4) (.seq (.var 5)) .nil [4]) .nil)) (.nm 5) (.seq (.var 1)) .nil [5]) .nil)))
  .nil))
def df_hours_of : Df := ⟨⟨"hours_of", 2, 6, b_hours_of⟩, ["loaves", "fires", "needs", "row", "name", "fire"]⟩
def b_least_fires : Sxs := (.cons (.asg (.nm 2) (.comp (.tup (.cons (.call "hours_of" (.cons (.var 0) (.cons (.var 3) .nil))) (.cons (.bi .len (.cons (.var 3) .nil)) (.cons (.bi .tuple (.cons (.bi .sorted (.cons (.var 3) .nil)) .nil)) .nil)))) (.nm 3) (.seq (.call "partings" (.cons (.var 0) (.cons (.var 1) .nil)))) .nil [3]))
  (.cons (.ret (.ite (.var 2) (.idx (.bi .min (.cons (.var 2) .nil)) (.cst (.int 2))) (.cst .none)))
  .nil))
def df_least_fires : Df := ⟨⟨"least_fires", 2, 4, b_least_fires⟩, ["loaves", "room", "rows", "fires"]⟩
def b_bundles : Sxs := (.cons (.ret (.bin .add (.bin .mul (.var 2) (.call "hours_of" (.cons (.var 0) (.cons (.var 1) .nil)))) (.bin .mul (.var 3) (.bi .len (.cons (.var 1) .nil)))))
  .nil)
def df_bundles : Df := ⟨⟨"bundles", 4, 4, b_bundles⟩, ["loaves", "fires", "hourly", "lighting"]⟩
def b_least_bundles : Sxs := (.cons (.ret (.minDf (.comp (.call "bundles" (.cons (.var 0) (.cons (.var 4) (.cons (.var 2) (.cons (.var 3) .nil))))) (.nm 4) (.seq (.call "partings" (.cons (.var 0) (.cons (.var 1) .nil)))) .nil [4]) (.cst .none)))
  .nil)
def df_least_bundles : Df := ⟨⟨"least_bundles", 4, 5, b_least_bundles⟩, ["loaves", "room", "hourly", "lighting", "fires"]⟩
def df__law_draw : Df := ⟨⟨"_law_draw", 1, 1, b__law_draw⟩, ["script"]⟩
def df__law_next : Df := ⟨⟨"_law_next", 2, 4, b__law_next⟩, ["draw", "many", "found", "cell"]⟩
def df__law_same : Df := ⟨⟨"_law_same", 2, 3, b__law_same⟩, ["actual", "wanted", "k"]⟩
def b__law_partings : Sxs := (.cons (.asg (.nm 1) (.lst (.cons (.tup .nil) .nil)))
  (.cons (.forS (.nm 2) (.seq (.var 0)) (.cons (.asg (.nm 3) (.lst .nil))
  (.cons (.forS (.nm 4) (.seq (.var 1)) (.cons (.app 3 (.bin .add (.var 4) (.tup (.cons (.tup (.cons (.var 2) .nil)) .nil))))
  (.cons (.asg (.nm 3) (.bin .add (.var 3) (.comp (.bin .add (.bin .add (.slice (.var 4) (.cst .none) (.asInt (.var 5))) (.tup (.cons (.bin .add (.idx (.var 4) (.var 5)) (.tup (.cons (.var 2) .nil))) .nil))) (.slice (.var 4) (.asInt (.bin .add (.var 5) (.cst (.int 1)))) (.cst .none))) (.nm 5) (.rng1 (.bi .len (.cons (.var 4) .nil))) .nil [5])))
  .nil)))
  (.cons (.asg (.nm 1) (.var 3))
  .nil))))
  (.cons (.ret (.var 1))
  .nil)))
def df__law_partings : Df := ⟨⟨"_law_partings", 1, 6, b__law_partings⟩, ["names", "found", "name", "longer", "parts", "k"]⟩
def b__law_loaves : Sxs := (.cons (.ret (.bi .tuple (.cons (.comp (.tup (.cons (.var 2) (.cons (.bin .add (.cst (.int 1)) (.call "_law_next" (.cons (.var 0) (.cons (.cst (.int 5)) .nil)))) (.cons (.bin .add (.cst (.int 1)) (.call "_law_next" (.cons (.var 0) (.cons (.cst (.int 4)) .nil)))) .nil)))) (.nm 2) (.seq (.slice (.lst (.cons (.cst (.str "abe")) (.cons (.cst (.str "bea")) (.cons (.cst (.str "cob")) (.cons (.cst (.str "dot")) .nil))))) (.cst .none) (.asInt (.call "_law_next" (.cons (.var 0) (.cons (.bin .add (.var 1) (.cst (.int 1))) .nil)))))) .nil [2]) .nil)))
  .nil)
def df__law_loaves : Df := ⟨⟨"_law_loaves", 2, 3, b__law_loaves⟩, ["draw", "most", "who"]⟩
def b_law : Sxs := (.cons (.asg (.nm 1) (.call "_law_draw" (.cons (.var 0) .nil)))
  (.cons (.asg (.tup (.cons (.nm 2) (.cons (.nm 3) (.cons (.nm 4) (.cons (.nm 5) .nil))))) (.tup (.cons (.call "_law_loaves" (.cons (.var 1) (.cons (.cst (.int 4)) .nil))) (.cons (.bin .add (.cst (.int 2)) (.call "_law_next" (.cons (.var 1) (.cons (.cst (.int 8)) .nil)))) (.cons (.bin .add (.cst (.int 1)) (.call "_law_next" (.cons (.var 1) (.cons (.cst (.int 3)) .nil)))) (.cons (.call "_law_next" (.cons (.var 1) (.cons (.cst (.int 4)) .nil))) .nil))))))
  (.cons (.asg (.nm 6) (.bi .dict (.cons (.comp (.tup (.cons (.idx (.var 7) (.cst (.int 0))) (.cons (.slice (.var 7) (.asInt (.cst (.int 1))) (.cst .none)) .nil))) (.nm 7) (.seq (.var 2)) .nil [7]) .nil)))
  (.cons (.asg (.nm 8) (.lst .nil))
  (.cons (.forS (.nm 9) (.seq (.call "_law_partings" (.cons (.comp (.idx (.var 7) (.cst (.int 0))) (.nm 7) (.seq (.var 2)) .nil [7]) .nil))) (.cons (.ifS (.not (.bi .any (.cons (.comp (.cmp .gt (.bi .sum (.cons (.comp (.idx (.idx (.var 6) (.var 10)) (.cst (.int 1))) (.nm 10) (.seq (.var 11)) .nil [10]) .nil)) (.var 3)) (.nm 11) (.seq (.var 9)) .nil [11]) .nil))) (.cons (.app 8 (.tup (.cons (.bi .sum (.cons (.comp (.bi .max (.cons (.comp (.idx (.idx (.var 6) (.var 10)) (.cst (.int 0))) (.nm 10) (.seq (.var 11)) .nil [10]) .nil)) (.nm 11) (.seq (.var 9)) .nil [11]) .nil)) (.cons (.bi .len (.cons (.var 9) .nil)) (.cons (.bi .tuple (.cons (.bi .sorted (.cons (.var 9) .nil)) .nil)) .nil)))))
  .nil) .nil)
  .nil))
  (.cons (.ifS (.or (.cmp .isnot (.call "are_loaves" (.cons (.var 2) .nil)) (.cst (.bool true))) (.not (.call "_law_same" (.cons (.call "least_fires" (.cons (.var 2) (.cons (.var 3) .nil))) (.cons (.ite (.cmp .ne (.var 8) (.lst .nil)) (.idx (.bi .min (.cons (.var 8) .nil)) (.cst (.int 2))) (.cst .none)) .nil))))) (.cons (.ret (.cst (.bool false)))
  .nil) .nil)
  (.cons (.asg (.nm 12) (.comp (.bin .add (.bin .mul (.var 13) (.var 4)) (.bin .mul (.var 14) (.var 5))) (.tup (.cons (.nm 13) (.cons (.nm 14) (.cons (.nm 9) .nil)))) (.seq (.var 8)) .nil [13, 14, 9]))
  (.cons (.ifS (.not (.call "_law_same" (.cons (.call "least_bundles" (.cons (.var 2) (.cons (.var 3) (.cons (.var 4) (.cons (.var 5) .nil))))) (.cons (.ite (.cmp .ne (.var 12) (.lst .nil)) (.bi .min (.cons (.var 12) .nil)) (.cst .none)) .nil)))) (.cons (.ret (.cst (.bool false)))
  .nil) .nil)
  (.cons (.ifS (.cmp .ne (.var 8) (.lst .nil)) (.cons (.asg (.nm 15) (.call "_law_next" (.cons (.var 1) (.cons (.bi .len (.cons (.var 8) .nil)) .nil))))
  (.cons (.ifS (.not (.call "_law_same" (.cons (.call "bundles" (.cons (.var 2) (.cons (.idx (.idx (.var 8) (.var 15)) (.cst (.int 2))) (.cons (.var 4) (.cons (.var 5) .nil))))) (.cons (.idx (.var 12) (.var 15)) .nil)))) (.cons (.ret (.cst (.bool false)))
  .nil) .nil)
  .nil)) .nil)
  (.cons (.asg (.nm 16) (.tup (.cons (.cst (.str "abe")) (.cons (.cst (.int 3)) (.cons (.cst (.int 2)) .nil)))))
  (.cons (.asg (.nm 17) (.lst (.cons (.cst .none) (.cons (.lst (.cons (.var 16) .nil)) (.cons (.tup (.cons (.slice (.var 16) (.cst .none) (.asInt (.cst (.int 2)))) .nil)) (.cons (.tup (.cons (.tup (.cons (.cst (.str "Abe")) (.cons (.cst (.int 3)) (.cons (.cst (.int 2)) .nil)))) .nil)) (.cons (.tup (.cons (.tup (.cons (.cst (.str "abe")) (.cons (.cst (.int 0)) (.cons (.cst (.int 2)) .nil)))) .nil)) (.cons (.tup (.cons (.tup (.cons (.cst (.str "abe")) (.cons (.cst (.int 10)) (.cons (.cst (.int 2)) .nil)))) .nil)) (.cons (.tup (.cons (.tup (.cons (.cst (.str "abe")) (.cons (.cst (.int 3)) (.cons (.cst (.int 0)) .nil)))) .nil)) (.cons (.tup (.cons (.tup (.cons (.cst (.str "abe")) (.cons (.cst (.int 3)) (.cons (.cst (.int 10)) .nil)))) .nil)) (.cons (.tup (.cons (.var 16) (.cons (.var 16) .nil))) (.cons (.tup (.cons (.tup (.cons (.cst (.str "bea")) (.cons (.cst (.int 3)) (.cons (.cst (.int 2)) .nil)))) (.cons (.var 16) .nil))) (.cons (.tup (.cons (.var 16) (.cons (.tup (.cons (.cst (.str "abe")) (.cons (.cst (.int 4)) (.cons (.cst (.int 2)) .nil)))) .nil))) (.cons (.bi .tuple (.cons (.comp (.tup (.cons (.bin .add (.cst (.str "l")) (.idx (.cst (.str "abcdefghi")) (.var 15))) (.cons (.cst (.int 1)) (.cons (.cst (.int 1)) .nil)))) (.nm 15) (.rng1 (.cst (.int 9))) .nil [15]) .nil)) .nil))))))))))))))
  (.cons (.ret (.cmp .is (.call "are_loaves" (.cons (.idx (.var 17) (.call "_law_next" (.cons (.var 1) (.cons (.cst (.int 12)) .nil)))) .nil)) (.cst (.bool false))))
  .nil))))))))))))
def df_law : Df := ⟨⟨"law", 1, 18, b_law⟩, ["script", "draw", "loaves", "room", "hourly", "lighting", "rows", "row", "good", "parts", "name", "fire", "wood", "hours", "many", "k", "one", "wrong"]⟩
def G : List Df := [df_is_integer, df_is_number, df_is_name, df_is_rising, df_are_loaves, df_partings, df_hours_of, df_least_fires, df_bundles, df_least_bundles, df__law_draw, df__law_next, df__law_same, df__law_partings, df__law_loaves, df_law]
abbrev GF : List Fd := G.map (·.fd)
end LW
set_option Elab.async false
set_option linter.all false
set_option maxRecDepth 100000
set_option maxHeartbeats 4000000
/-! k51: the program's parts -/
namespace LW
open PySem PySem.Spec PyProof.Rows L2 CH
structure Lf where
  n : Str
  h : Int
  s : Int
abbrev Fire := List Str
abbrev Pts := List Fire
def eL (l : Lf) : D := .tuple [.str l.n, .int l.h, .int l.s]
def eLs (ls : List Lf) : D := .tuple (ls.map eL)
def eF (f : Fire) : D := .tuple (f.map PyData.str)
def eP (p : Pts) : D := .tuple (p.map eF)
/-- by name -/
def lk (ls : List Lf) (n : Str) : Lf := (ls.find? fun l => decide (l.n = n)).getD ⟨n, 0, 0⟩
structure Ok (ls : List Lf) : Prop where
  nd : (ls.map (·.n)).Nodup
  len : ls.length ≤ 4
theorem lk_mem {ls : List Lf} {n : Str} (h : n ∈ ls.map (·.n)) : lk ls n ∈ ls ∧ (lk ls n).n = n := by
  obtain ⟨l, hl, rfl⟩ := List.mem_map.mp h
  unfold lk
  cases e : ls.find? (fun x => decide (x.n = l.n)) with
  | none =>
    have := List.find?_eq_none.mp e l hl
    simp at this
  | some x =>
    have h1 := List.mem_of_find?_eq_some e
    have h2 := List.find?_some e
    simp at h2
    exact ⟨h1, h2⟩
def maxI : List Int → Int
  | [] => 0
  | n :: ns => ns.foldl max n
def hoursF (ls : List Lf) (f : Fire) : Int := maxI (f.map fun n => (lk ls n).h)
def hours (ls : List Lf) (p : Pts) : Int := (p.map (hoursF ls)).sum
def sizeF (ls : List Lf) (f : Fire) : Int := (f.map fun n => (lk ls n).s).sum
/-- a parting of known loaves, no fire empty, small -/
structure OkP (ls : List Lf) (p : Pts) : Prop where
  mem : ∀ f ∈ p, ∀ n ∈ f, n ∈ ls.map (·.n)
  ne : ∀ f ∈ p, f ≠ []
  len : p.length ≤ 4
  lenF : ∀ f ∈ p, f.length ≤ 4
section
variable {k : Nat} {S : Sto} {ls : List Lf}
theorem le_lim {n : Nat} (h : n ≤ 1000) : n ≤ lim := Nat.le_trans h (by decide)
theorem H_hours : Has GF "hours_of" 2 6 b_hours_of := by kernel_rfl
theorem max_of (f : Fire) (g : Str → Int) (h : f ≠ []) : biD .max [.list (f.map fun n => PyData.int (g n))] = some (.int (maxI (f.map g))) := by
  cases f with
  | nil => exact absurd rfl h
  | cons n ns =>
    have := max_ints (g n) (ns.map g)
    simp only [List.map_cons, List.map_map] at this
    exact this
theorem hours_ok (ok : Ok ls) {p : Pts} (hp : OkP ls p) : callN GF (k + 1) "hours_of" [eLs ls, eP p] S = some (.int (hours ls p), S) := by
  rw [call_has H_hours k S rfl]
  unfold b_hours_of
  have d0 : dcompF (bindT (.nm 3)) (runTs (callN GF k) .nil) (run (callN GF k) (.idx (.var 3) (.cst (.int 0))) .V) (run (callN GF k) (.idx (.var 3) (.cst (.int 1))) .V) [some (false, eLs ls), some (false, eP p), none, none, none, none] [] (ls.map eL) S = some (strD (·.n) (fun l => .int l.h) ls, S) :=
    dcompF_S (·.n) (fun l => .int l.h) ls ok.nd (le_lim (by have := ok.len; omega)) fun l _ => ⟨[some (false, eLs ls), some (false, eP p), none, some (false, eL l), none, none], rfl, rfl, rfl, rfl⟩
  rw [ex_nx (asg_v (d := .dict (strD (·.n) (fun l : Lf => PyData.int l.h) ls)) (S1 := S) (by
    simp [esc, escs, escI, frz, frz1, seqF, getS, eLs, dcF, wipeE]
    have := d0
    simp [eLs] at this
    simp [this]) (by simp [frz, frz1, esc, escs, escI]))]
  have m0 : ∀ f ∈ p, compF (bindT (.nm 4)) (runTs (callN GF k) .nil) (run (callN GF k) (.idx (.var 2) (.var 4)) .V) [some (false, eLs ls), some (false, eP p), some (true, .dict (strD (·.n) (fun l : Lf => PyData.int l.h) ls)), none, none, some (false, eF f)] (f.map PyData.str) S = some (f.map fun n => PyData.int (lk ls n).h, S) := fun f hf =>
    compF_M (fun n => PyData.int (lk ls n).h) f fun n hn => by
      refine ⟨[some (false, eLs ls), some (false, eP p), some (true, .dict (strD (·.n) (fun l : Lf => PyData.int l.h) ls)), none, some (false, .str n), some (false, eF f)], rfl, rfl, ?_⟩
      obtain ⟨h1, h2⟩ := lk_mem (hp.mem f hf n hn)
      have ix := strD_idx (·.n) (fun l : Lf => PyData.int l.h) ls (lk ls n) h1 ok.nd
      rw [h2] at ix
      have dd : deref S (.dict (strD (·.n) (fun l : Lf => PyData.int l.h) ls)) = some (.dict (strD (·.n) (fun l : Lf => PyData.int l.h) ls)) := deref_of (strD_noloc _ _ _)
      simp [two, getB, dd, ix]
  have m1 : compF (bindT (.nm 5)) (runTs (callN GF k) .nil) (run (callN GF k) (.bi .max (.cons (.comp (.idx (.var 2) (.var 4)) (.nm 4) (.seq (.var 5)) .nil [4]) .nil)) .V) [some (false, eLs ls), some (false, eP p), some (true, .dict (strD (·.n) (fun l : Lf => PyData.int l.h) ls)), none, none, none] (p.map eF) S = some (p.map fun f => PyData.int (hoursF ls f), S) :=
    compF_M (fun f => PyData.int (hoursF ls f)) p fun f hf => by
      refine ⟨[some (false, eLs ls), some (false, eP p), some (true, .dict (strD (·.n) (fun l : Lf => PyData.int l.h) ls)), none, none, some (false, eF f)], rfl, rfl, ?_⟩
      have h1 := m0 f hf
      have h2 := max_of f (fun n => (lk ls n).h) (hp.ne f hf)
      have h3 : (f.map fun n => PyData.int (lk ls n).h).length ≤ lim := le_lim (by have := hp.lenF f hf; simp; omega)
      simp [consF, biF, lcF, seqF, getS, eF, wipeE] at h1 ⊢
      simp at h3
      simp [h1, h3, derefs, h2, hoursF]
  rw [ex_rt (ret_v (d := .int (hours ls p)) (S1 := S) (by
    have h3 : (p.map fun f => PyData.int (hoursF ls f)).length ≤ lim := le_lim (by have := hp.len; simp; omega)
    have h4 := sum_ints (p.map (hoursF ls))
    simp only [List.map_map] at h4
    simp [esc, escs, escI, frz, frz1, isNew, consF, biF, lcF, seqF, getS, eP, wipeE] at m1 ⊢
    simp at h3
    simp [m1, h3, derefs]
    exact h4))]
  rfl
end
end LW
set_option Elab.async false
set_option linter.all false
set_option maxRecDepth 100000
set_option maxHeartbeats 4000000
/-! k51: partings -/
namespace LW
open PySem PySem.Spec PyProof.Rows L2 CH
/-- the name put into the fire at k -/
def putIn (n : Str) (p : Pts) (k : Nat) : Pts := p.take k ++ [p.getD k [] ++ [n]] ++ p.drop (k + 1)
def stepL (n : Str) (p : Pts) : List Pts := (p ++ [[n]]) :: (List.range p.length).map (putIn n p)
def stepP (ls : List Lf) (room : Int) (l : Lf) (p : Pts) : List Pts :=
  (if l.s ≤ room then [p ++ [[l.n]]] else []) ++ ((List.range p.length).filter fun k => decide (sizeF ls (p.getD k []) + l.s ≤ room)).map (putIn l.n p)
def partsP (ls : List Lf) (room : Int) : List Lf → List Pts := fun l => l.foldl (fun found l => found.flatMap (stepP ls room l)) [[]]
def partsL : List Str → List Pts := fun l => l.foldl (fun found n => found.flatMap (stepL n)) [[]]
theorem cat_tup {a b : List D} (h : a.length + b.length ≤ lim) : binD .add (.tuple a) (.tuple b) = some (.tuple (a ++ b)) := by
  show (if a.length + b.length ≤ lim then some (PyData.tuple (a ++ b)) else none) = _
  rw [if_pos h]
theorem cut_take {l : List D} {i : Nat} : cutL l none (some (i : Int)) = l.take i := by
  unfold cutL
  rw [HT.sIx_none, HT.sIx_nat, List.drop_zero, Nat.sub_zero]
  by_cases h : i ≤ l.length
  · rw [Nat.min_eq_left h]
  · rw [Nat.min_eq_right (by omega), List.take_length, List.take_of_length_le (by omega)]
theorem cut_drop {l : List D} {i : Nat} : cutL l (some (i : Int)) none = l.drop i := by
  unfold cutL
  rw [HT.sIx_none, HT.sIx_nat]
  by_cases h : i ≤ l.length
  · rw [Nat.min_eq_left h, List.take_of_length_le (by simp)]
  · rw [Nat.min_eq_right (by omega), List.drop_length, List.drop_of_length_le (by omega), List.take_nil]
theorem enumD_eq : ∀ (n : Nat) (l : List D), enumD n l = (List.range l.length).map fun i => .tuple [.int ((n + i : Nat) : Int), l.getD i .none]
  | _, [] => rfl
  | n, d :: l => by
    rw [enumD, enumD_eq (n + 1) l, List.length_cons, List.range_succ_eq_map, List.map_cons, List.map_map]
    congr 1
    apply List.map_congr_left
    intro i _
    simp [Function.comp]
    try omega
section
variable {k : Nat} {S : Sto} {ls : List Lf}
abbrev szD (ls : List Lf) : D := .dict (strD (·.n) (fun l : Lf => PyData.int l.s) ls)
theorem sizes_sum (ok : Ok ls) {f : Fire} (hm : ∀ n ∈ f, n ∈ ls.map (·.n)) (hl : f.length ≤ 4) (s0 s1 s3 s4 s5 s6 s7 s8 s9 s10 s12 : Slot) :
    run (callN GF k) (.bi .sum (.cons (.comp (.idx (.var 2) (.var 12)) (.nm 12) (.seq (.var 11)) .nil [12]) .nil)) .B [s0, s1, some (true, szD ls), s3, s4, s5, s6, s7, s8, s9, s10, some (false, eF f), s12] S = some (.int (sizeF ls f), S) := by
  have m0 : compF (bindT (.nm 12)) (runTs (callN GF k) .nil) (run (callN GF k) (.idx (.var 2) (.var 12)) .V) [s0, s1, some (true, szD ls), s3, s4, s5, s6, s7, s8, s9, s10, some (false, eF f), none] (f.map PyData.str) S = some (f.map fun n => PyData.int (lk ls n).s, S) :=
    compF_M (fun n => PyData.int (lk ls n).s) f fun n hn => by
      refine ⟨[s0, s1, some (true, szD ls), s3, s4, s5, s6, s7, s8, s9, s10, some (false, eF f), some (false, .str n)], rfl, rfl, ?_⟩
      obtain ⟨h1, h2⟩ := lk_mem (hm n hn)
      have ix := strD_idx (·.n) (fun l : Lf => PyData.int l.s) ls (lk ls n) h1 ok.nd
      rw [h2] at ix
      have dd : deref S (szD ls) = some (szD ls) := deref_of (strD_noloc _ _ _)
      simp [two, getB, dd, ix]
  have h4 := sum_ints (f.map fun n => (lk ls n).s)
  simp only [List.map_map] at h4
  have h3 : (f.map fun n => PyData.int (lk ls n).s).length ≤ lim := le_lim (by simp; omega)
  simp [consF, biF, lcF, seqF, getS, eF, wipeE] at m0 ⊢
  simp at h3
  simp [m0, h3, derefs]
  exact h4
theorem putIn_D (n : Str) (p : Pts) (i : Nat) : eP (putIn n p i) = .tuple ((p.map eF).take i ++ [eF (p.getD i [] ++ [n])] ++ (p.map eF).drop (i + 1)) := by
  unfold eP putIn
  simp [List.map_take, List.map_drop]
abbrev condI : Ex := .cmp .le (.bin .add (.bi .sum (.cons (.comp (.idx (.var 2) (.var 12)) (.nm 12) (.seq (.var 11)) .nil [12]) .nil)) (.var 7)) (.var 1)
abbrev eltI : Ex := .bin .add (.bin .add (.slice (.var 9) (.cst .none) (.asInt (.var 10))) (.tup (.cons (.bin .add (.var 11) (.tup (.cons (.var 5) .nil))) .nil))) (.slice (.var 9) (.asInt (.bin .add (.var 10) (.cst (.int 1)))) (.cst .none))
abbrev bodyI : Sxs := .cons (.ifS condI (.cons (.app 8 eltI) .nil) .nil) .nil
abbrev innerS : Sx := .forS (.tup (.cons (.nm 10) (.cons (.nm 11) .nil))) (.enm (.var 9)) bodyI
abbrev IE (ls : List Lf) (room : Int) (l : Lf) (p : Pts) (s0 s3 s4 s6 s12 : Slot) (acc : List D) (s10 s11 : Slot) : Env' := [s0, some (false, .int room), some (true, szD ls), s3, s4, some (false, .str l.n), s6, some (false, .int l.s), some (true, .list acc), some (false, eP p), s10, s11, s12]
abbrev resI (ls : List Lf) (room : Int) (l : Lf) (p : Pts) (is : List Nat) : List D := (is.filter fun i => decide (sizeF ls (p.getD i []) + l.s ≤ room)).map fun i => eP (putIn l.n p i)
theorem app_v {C : CallF} {ρ : Env'} {T T1 : Sto} {i : Nat} {e : Ex} {v : D} {acc : List D} (h0 : (frz ρ (esc e .V))[i]? = some (some (true, .list acc))) (h : CH.run C e .V (frz ρ (esc e .V)) T = some (v, T1)) (hl : acc.length < lim) : CH.exec C (.app i e) ρ T = some (.nx, (frz ρ (esc e .V)).set i (some (true, .list (acc ++ [v]))), T1) := by
  simp only [CH.exec]
  have : isLst (frz ρ (esc e .V)) T i = true := by unfold isLst; rw [h0]
  rw [this, if_pos rfl, h]
  show Option.map _ (chg _ T1 i _) = _
  rw [chg_own h0 (show appAt (.list acc) v = some (.list (acc ++ [v])) by show (if acc.length < lim then some (PyData.list (acc ++ [v])) else none) = _; rw [if_pos hl])]
  rfl
theorem elt_ok {p : Pts} (hl : p.length ≤ 4) (room : Int) (l : Lf) (acc : List D) (s0 s3 s4 s6 s12 : Slot) (i : Nat) (hf : (p.getD i []).length ≤ 4) :
    run (callN GF k) eltI .V (IE ls room l p s0 s3 s4 s6 s12 acc (some (false, .int (i : Nat))) (some (false, eF (p.getD i [])))) S = some (eP (putIn l.n p i), S) := by
  have h1 := cat_tup (a := (p.getD i []).map PyData.str) (b := [.str l.n]) (le_lim (by simp only [List.length_map, List.length_cons, List.length_nil]; omega))
  have h2 := cat_tup (a := (p.map eF).take i) (b := [eF (p.getD i [] ++ [l.n])]) (le_lim (by simp; omega))
  have h3 := cat_tup (a := (p.map eF).take i ++ [eF (p.getD i [] ++ [l.n])]) (b := (p.map eF).drop (i + 1)) (le_lim (by simp; omega))
  have c1 := cut_take (l := p.map eF) (i := i)
  have c2 := cut_drop (l := p.map eF) (i := i + 1)
  have e1 : ((i : Int) + 1) = ((i + 1 : Nat) : Int) := by omega
  have e2 : eF (p.getD i [] ++ [l.n]) = .tuple ((p.getD i []).map PyData.str ++ [.str l.n]) := by simp [eF]
  have sl1 : sliceF (run (callN GF k) (.var 9) .B) (run (callN GF k) (.cst .none) .V) (run (callN GF k) (.asInt (.var 10)) .V) (IE ls room l p s0 s3 s4 s6 s12 acc (some (false, .int (i : Nat))) (some (false, eF (p.getD i [])))) S = some (.tuple ((p.map eF).take i), S) := by
    simp only [sliceF, r_varB, r_cst, r_asInt, asIntF, r_varV, fin_V]
    simp [getB, getS, bndD, eP, sliceD, c1]
  have sl2 : sliceF (run (callN GF k) (.var 9) .B) (run (callN GF k) (.asInt (.bin .add (.var 10) (.cst (.int 1)))) .V) (run (callN GF k) (.cst .none) .V) (IE ls room l p s0 s3 s4 s6 s12 acc (some (false, .int (i : Nat))) (some (false, eF (p.getD i [])))) S = some (.tuple ((p.map eF).drop (i + 1)), S) := by
    simp only [sliceF, r_varB, r_cst, r_asInt, asIntF, r_bin, two, fin_V, fin_B]
    simp only [getB, IE, List.getElem?_cons_succ, List.getElem?_cons_zero, Option.map, deref_int, bin_add_int, e1]
    simp only [bndD, eP, deref_tuple, sliceD, c2, Option.map]
  have tu : run (callN GF k) (.tup (.cons (.bin .add (.var 11) (.tup (.cons (.var 5) .nil))) .nil)) .B (IE ls room l p s0 s3 s4 s6 s12 acc (some (false, .int (i : Nat))) (some (false, eF (p.getD i [])))) S = some (.tuple [eF (p.getD i [] ++ [l.n])], S) := by
    simp only [r_tup, rs_cons, rs_nil, consF, r_bin, two, r_varB, r_varV, tupF, fin_V, fin_B]
    simp only [getB, getS, IE, List.getElem?_cons_succ, List.getElem?_cons_zero, Option.map, List.length_cons, List.length_nil]
    rw [if_pos (le_lim (by omega))]
    simp only [deref_tuple, eF] at h1 ⊢
    simp only [h1, Option.map]
    rw [if_pos (le_lim (by simp))]
    simp [eF]
  rw [r_bin, fin_V]
  simp only [two, r_bin, fin_B, r_slice]
  rw [sl1]
  simp only [tu, deref_tuple, h2, Option.map, sl2, h3]
  rw [putIn_D]
theorem inner_ok (ok : Ok ls) (room : Int) (l : Lf) {p : Pts} (hp : OkP ls p) (acc : List D) (ha : acc.length ≤ 2000) (s0 s3 s4 s6 s10 s11 s12 : Slot) :
    ∃ t10 t11, exec (callN GF k) innerS (IE ls room l p s0 s3 s4 s6 s12 acc s10 s11) S = some (.nx, IE ls room l p s0 s3 s4 s6 s12 (acc ++ resI ls room l p (List.range p.length)) t10 t11, S) := by
  have hfr : ∀ acc s10 s11, frz (IE ls room l p s0 s3 s4 s6 s12 acc s10 s11) (escI (.enm (.var 9))) = IE ls room l p s0 s3 s4 s6 s12 acc s10 s11 := fun _ _ _ => rfl
  have hit : runIt (callN GF k) (.enm (.var 9)) (IE ls room l p s0 s3 s4 s6 s12 acc s10 s11) S = some ((List.range p.length).map fun i => .tuple [.int (i : Nat), eF (p.getD i [])], S) := by
    have e0 := enumD_eq 0 (p.map eF)
    rw [List.length_map] at e0
    simp only [ri_enm, enmF, r_varV, getS, IE, List.getElem?_cons_succ, List.getElem?_cons_zero, Option.map, eP, e0]
    congr 2
    apply List.map_congr_left
    intro i hi
    have hi := List.mem_range.mp hi
    simp [List.getD, hi]
  rw [for_v (by rw [hfr]; exact hit), hfr]
  obtain ⟨ρ', S', h1, h2⟩ := loopF_I (enc := fun i : Nat => .tuple [.int (i : Nat), eF (p.getD i [])]) (bnd := bindT (.tup (.cons (.nm 10) (.cons (.nm 11) .nil)))) (S := S) (body := execs (callN GF k) bodyI)
    (fun done ρ T => T = S ∧ ∃ t10 t11, ρ = IE ls room l p s0 s3 s4 s6 s12 (acc ++ resI ls room l p done) t10 t11) (List.range p.length) (ρ := IE ls room l p s0 s3 s4 s6 s12 acc s10 s11) ⟨rfl, s10, s11, by simp⟩ (by
    rintro done i rest hd ρ T ⟨rfl, t10, t11, rfl⟩
    have hi : i < p.length := by
      have : i ∈ List.range p.length := by rw [hd]; simp
      exact List.mem_range.mp this
    have hf : p.getD i [] ∈ p := by simp [List.getD, hi]
    have hdl : done.length ≤ 4 := by
      have := congrArg List.length hd
      simp at this
      have := hp.len
      omega
    have hc : run (callN GF k) condI .T (IE ls room l p s0 s3 s4 s6 s12 (acc ++ resI ls room l p done) (some (false, .int (i : Nat))) (some (false, eF (p.getD i [])))) T = some (.bool (decide (sizeF ls (p.getD i []) + l.s ≤ room)), T) := by
      have := sizes_sum (k := k) (S := T) ok (hp.mem _ hf) (hp.lenF _ hf) s0 (some (false, .int room)) s3 s4 (some (false, .str l.n)) s6 (some (false, .int l.s)) (some (true, .list (acc ++ resI ls room l p done))) (some (false, eP p)) (some (false, .int (i : Nat))) s12
      simp only [condI, r_cmp, r_bin, two, IE, this, r_varB, fin_B]
      simp [getB]
    have hfc : ∀ acc, frz (IE ls room l p s0 s3 s4 s6 s12 acc (some (false, .int (i : Nat))) (some (false, eF (p.getD i [])))) (esc condI .T) = IE ls room l p s0 s3 s4 s6 s12 acc (some (false, .int (i : Nat))) (some (false, eF (p.getD i []))) := fun _ => rfl
    have hfe : ∀ acc, frz (IE ls room l p s0 s3 s4 s6 s12 acc (some (false, .int (i : Nat))) (some (false, eF (p.getD i [])))) (esc eltI .V) = IE ls room l p s0 s3 s4 s6 s12 acc (some (false, .int (i : Nat))) (some (false, eF (p.getD i []))) := fun _ => rfl
    refine ⟨IE ls room l p s0 s3 s4 s6 s12 (acc ++ resI ls room l p done) (some (false, .int (i : Nat))) (some (false, eF (p.getD i []))), IE ls room l p s0 s3 s4 s6 s12 (acc ++ resI ls room l p (done ++ [i])) (some (false, .int (i : Nat))) (some (false, eF (p.getD i []))), T, rfl, .inl ?_, rfl, _, _, rfl⟩
    by_cases hb : sizeF ls (p.getD i []) + l.s ≤ room
    · rw [decide_eq_true hb] at hc
      rw [ex_nx ((if_t (by rw [hfc]; exact hc)).trans (by
        rw [hfc, ex_nx (app_v (v := eP (putIn l.n p i)) (acc := acc ++ resI ls room l p done) (T1 := T) (by rw [hfe]; rfl) (by rw [hfe]; exact elt_ok hp.len room l _ s0 s3 s4 s6 s12 i (hp.lenF _ hf)) (by
          have : (resI ls room l p done).length ≤ 4 := by
            have := List.length_filter_le (fun i => decide (sizeF ls (p.getD i []) + l.s ≤ room)) done
            simp only [resI, List.length_map]; omega
          simp only [List.length_append]
          exact Nat.lt_of_le_of_lt (Nat.add_le_add ha this) (by decide)))]
        rw [hfe]
        exact ex_nil))]
      rw [ex_nil]
      have : acc ++ resI ls room l p (done ++ [i]) = acc ++ resI ls room l p done ++ [eP (putIn l.n p i)] := by
        unfold resI
        rw [List.filter_append, List.filter_cons, if_pos (decide_eq_true hb), List.filter_nil, List.map_append, List.map_cons, List.map_nil, List.append_assoc]
      rw [this]; rfl
    · rw [decide_eq_false hb] at hc
      rw [ex_nx ((if_f (by rw [hfc]; exact hc)).trans (by rw [hfc]; exact ex_nil)), ex_nil]
      have : resI ls room l p (done ++ [i]) = resI ls room l p done := by
        unfold resI
        rw [List.filter_append, List.filter_cons, if_neg (by rw [decide_eq_false hb]; decide), List.filter_nil, List.append_nil]
      rw [this])
  obtain ⟨rfl, t10, t11, rfl⟩ := h2
  exact ⟨t10, t11, h1⟩
end
end LW
set_option Elab.async false
set_option linter.all false
set_option maxRecDepth 100000
set_option maxHeartbeats 4000000
/-! k51: partings, the outer loops -/
namespace LW
open PySem PySem.Spec PyProof.Rows L2 CH
/-- what a step gives keeps shape -/
structure Shape (ls : List Lf) (j : Nat) (p : Pts) : Prop where
  mem : ∀ f ∈ p, ∀ n ∈ f, n ∈ ls.map (·.n)
  ne : ∀ f ∈ p, f ≠ []
  len : p.length ≤ j
  lenF : ∀ f ∈ p, f.length ≤ j
theorem Shape.ok {ls : List Lf} {j : Nat} {p : Pts} (s : Shape ls j p) (h : j ≤ 4) : OkP ls p :=
  ⟨s.mem, s.ne, Nat.le_trans s.len h, fun f hf => Nat.le_trans (s.lenF f hf) h⟩
theorem shape_new {ls : List Lf} {j : Nat} {p : Pts} {n : Str} (s : Shape ls j p) (hn : n ∈ ls.map (·.n)) : Shape ls (j + 1) (p ++ [[n]]) := by
  refine ⟨fun f hf m hm => ?_, fun f hf => ?_, ?_, fun f hf => ?_⟩
  · rcases List.mem_append.mp hf with h | h
    · exact s.mem f h m hm
    · have : f = [n] := by simpa using h
      subst this
      have : m = n := by simpa using hm
      subst this; exact hn
  · rcases List.mem_append.mp hf with h | h
    · exact s.ne f h
    · have : f = [n] := by simpa using h
      subst this; simp
  · have := s.len; simp; omega
  · rcases List.mem_append.mp hf with h | h
    · have := s.lenF f h; omega
    · have : f = [n] := by simpa using h
      subst this; simp
theorem putIn_mem {n : Str} {p : Pts} {k : Nat} (hk : k < p.length) {f : Fire} (hf : f ∈ putIn n p k) : f ∈ p ∨ f = p[k] ++ [n] := by
  unfold putIn at hf
  rw [List.mem_append, List.mem_append] at hf
  rcases hf with (h | h) | h
  · exact .inl (List.mem_of_mem_take h)
  · right
    have : f = p.getD k [] ++ [n] := by simpa using h
    rw [this]; simp [List.getD, hk]
  · exact .inl (List.mem_of_mem_drop h)
theorem putIn_len {n : Str} {p : Pts} {k : Nat} (hk : k < p.length) : (putIn n p k).length = p.length := by
  unfold putIn; simp; omega
theorem shape_put {ls : List Lf} {j : Nat} {p : Pts} {n : Str} {k : Nat} (s : Shape ls j p) (hn : n ∈ ls.map (·.n)) (hk : k < p.length) : Shape ls (j + 1) (putIn n p k) := by
  have hm : p[k] ∈ p := List.getElem_mem hk
  refine ⟨fun f hf m hmm => ?_, fun f hf => ?_, ?_, fun f hf => ?_⟩
  · rcases putIn_mem hk hf with h | h
    · exact s.mem f h m hmm
    · rw [h] at hmm
      rcases List.mem_append.mp hmm with z | z
      · exact s.mem _ hm m z
      · have : m = n := by simpa using z
        subst this; exact hn
  · rcases putIn_mem hk hf with h | h
    · exact s.ne f h
    · rw [h]; simp
  · rw [putIn_len hk]; have := s.len; omega
  · rcases putIn_mem hk hf with h | h
    · have := s.lenF f h; omega
    · rw [h]; have := s.lenF _ hm; simp; omega
theorem stepP_shape {ls : List Lf} {room : Int} {l : Lf} {j : Nat} {p : Pts} (s : Shape ls j p) (hn : l.n ∈ ls.map (·.n)) : (∀ q ∈ stepP ls room l p, Shape ls (j + 1) q) ∧ (stepP ls room l p).length ≤ j + 1 := by
  refine ⟨fun q hq => ?_, ?_⟩
  · unfold stepP at hq
    rcases List.mem_append.mp hq with h | h
    · split at h
      · have : q = p ++ [[l.n]] := by simpa using h
        rw [this]; exact shape_new s hn
      · cases h
    · obtain ⟨k, hk, rfl⟩ := List.mem_map.mp h
      exact shape_put s hn (List.mem_range.mp (List.mem_filter.mp hk).1)
  · unfold stepP
    rw [List.length_append, List.length_map]
    have h1 := List.length_filter_le (fun k => decide (sizeF ls (p.getD k []) + l.s ≤ room)) (List.range p.length)
    rw [List.length_range] at h1
    have := s.len
    split <;> simp only [List.length_cons, List.length_nil] <;> omega
section
variable {k : Nat} {S : Sto} {ls : List Lf}
abbrev condM : Ex := .cmp .le (.var 7) (.var 1)
abbrev eltM : Ex := .bin .add (.var 9) (.tup (.cons (.tup (.cons (.var 5) .nil)) .nil))
abbrev bodyM : Sxs := .cons (.ifS condM (.cons (.app 8 eltM) .nil) .nil) (.cons innerS .nil)
abbrev midS : Sx := .forS (.nm 9) (.seq (.var 4)) bodyM
abbrev ME (ls : List Lf) (room : Int) (l : Lf) (s0 s3 s4 s6 s12 : Slot) (acc : List D) (s9 s10 s11 : Slot) : Env' := [s0, some (false, .int room), some (true, szD ls), s3, s4, some (false, .str l.n), s6, some (false, .int l.s), some (true, .list acc), s9, s10, s11, s12]
theorem mid_body (ok : Ok ls) (room : Int) (l : Lf) {p : Pts} (hp : OkP ls p) (acc : List D) (ha : acc.length ≤ 1000) (s0 s3 s4 s6 s10 s11 s12 : Slot) :
    ∃ t10 t11, execs (callN GF k) bodyM (ME ls room l s0 s3 s4 s6 s12 acc (some (false, eP p)) s10 s11) S = some (.nx, ME ls room l s0 s3 s4 s6 s12 (acc ++ (stepP ls room l p).map eP) (some (false, eP p)) t10 t11, S) := by
  have hc : run (callN GF k) condM .T (ME ls room l s0 s3 s4 s6 s12 acc (some (false, eP p)) s10 s11) S = some (.bool (decide (l.s ≤ room)), S) := by
    simp [two, getB]
  have hfc : frz (ME ls room l s0 s3 s4 s6 s12 acc (some (false, eP p)) s10 s11) (esc condM .T) = ME ls room l s0 s3 s4 s6 s12 acc (some (false, eP p)) s10 s11 := rfl
  have hfe : frz (ME ls room l s0 s3 s4 s6 s12 acc (some (false, eP p)) s10 s11) (esc eltM .V) = ME ls room l s0 s3 s4 s6 s12 acc (some (false, eP p)) s10 s11 := rfl
  have he : run (callN GF k) eltM .V (ME ls room l s0 s3 s4 s6 s12 acc (some (false, eP p)) s10 s11) S = some (eP (p ++ [[l.n]]), S) := by
    have h1 := cat_tup (a := p.map eF) (b := [eF [l.n]]) (le_lim (by have := hp.len; simp only [List.length_map, List.length_cons, List.length_nil]; omega))
    simp only [r_bin, fin_V, fin_B, two, r_tup, rs_cons, rs_nil, consF, r_varB, r_varV, tupF]
    simp only [getB, getS, ME, List.getElem?_cons_succ, List.getElem?_cons_zero, Option.map, List.length_cons, List.length_nil]
    rw [if_pos (le_lim (by omega))]
    simp only [List.length_cons, List.length_nil]
    rw [if_pos (le_lim (by omega))]
    simp only [deref_tuple, eP]
    have e : eF [l.n] = .tuple [.str l.n] := rfl
    rw [e] at h1
    simp only [h1, Option.map]
    simp [eP, eF]
  by_cases hb : l.s ≤ room
  · rw [decide_eq_true hb] at hc
    obtain ⟨t10, t11, hi⟩ := inner_ok (k := k) (S := S) ok room l hp (acc ++ [eP (p ++ [[l.n]])]) (by simp; omega) s0 s3 s4 s6 s10 s11 s12
    refine ⟨t10, t11, ?_⟩
    rw [ex_nx ((if_t (by rw [hfc]; exact hc)).trans (by
      rw [hfc, ex_nx (app_v (v := eP (p ++ [[l.n]])) (acc := acc) (T1 := S) (by rw [hfe]; rfl) (by rw [hfe]; exact he) (Nat.lt_of_le_of_lt ha (by decide)))]
      rw [hfe]
      exact ex_nil))]
    refine (ex_nx hi).trans ?_
    rw [ex_nil]
    have : (stepP ls room l p).map eP = eP (p ++ [[l.n]]) :: resI ls room l p (List.range p.length) := by
      unfold stepP; rw [if_pos hb, List.map_append, List.map_map]; rfl
    rw [this]
    simp [IE, ME]
  · rw [decide_eq_false hb] at hc
    obtain ⟨t10, t11, hi⟩ := inner_ok (k := k) (S := S) ok room l hp acc (by omega) s0 s3 s4 s6 s10 s11 s12
    refine ⟨t10, t11, ?_⟩
    rw [ex_nx ((if_f (by rw [hfc]; exact hc)).trans (by rw [hfc]; exact ex_nil))]
    refine (ex_nx hi).trans ?_
    rw [ex_nil]
    have : (stepP ls room l p).map eP = resI ls room l p (List.range p.length) := by
      unfold stepP; rw [if_neg hb, List.map_append, List.map_map]; rfl
    rw [this]
theorem mid_ok (ok : Ok ls) (room : Int) (l : Lf) (hn : l.n ∈ ls.map (·.n)) {j : Nat} (hj : j ≤ 3) (P : List Pts) (hP : ∀ p ∈ P, Shape ls j p) (hc : P.length ≤ 125) (b : Bool) (s0 s3 s6 s9 s10 s11 s12 : Slot) :
    ∃ t9 t10 t11, exec (callN GF k) midS (ME ls room l s0 s3 (some (b, .list (P.map eP))) s6 s12 [] s9 s10 s11) S = some (.nx, ME ls room l s0 s3 (some (false, .list (P.map eP))) s6 s12 ((P.flatMap (stepP ls room l)).map eP) t9 t10 t11, S) := by
  have hfr : frz (ME ls room l s0 s3 (some (b, .list (P.map eP))) s6 s12 [] s9 s10 s11) (escI (.seq (.var 4))) = ME ls room l s0 s3 (some (false, .list (P.map eP))) s6 s12 [] s9 s10 s11 := by cases b <;> rfl
  rw [for_v (by rw [hfr]; rfl), hfr]
  obtain ⟨ρ', S', h1, h2⟩ := loopF_I (enc := eP) (bnd := bindT (.nm 9)) (S := S) (body := execs (callN GF k) bodyM)
    (fun done ρ T => T = S ∧ ∃ t9 t10 t11, ρ = ME ls room l s0 s3 (some (false, .list (P.map eP))) s6 s12 ((done.flatMap (stepP ls room l)).map eP) t9 t10 t11) P (ρ := ME ls room l s0 s3 (some (false, .list (P.map eP))) s6 s12 [] s9 s10 s11) ⟨rfl, s9, s10, s11, by simp⟩ (by
    rintro done p rest hd ρ T ⟨rfl, t9, t10, t11, rfl⟩
    have hp : p ∈ P := by rw [hd]; simp
    have hlen : ((done.flatMap (stepP ls room l)).map eP).length ≤ 1000 := by
      have : ∀ d : List Pts, (∀ q ∈ d, Shape ls j q) → (d.flatMap (stepP ls room l)).length ≤ 4 * d.length := by
        intro d
        induction d with
        | nil => intro _; simp
        | cons q d ih =>
          intro h
          have h1 := (stepP_shape (room := room) (l := l) (h q (by simp)) hn).2
          have h2 := ih fun q hq => h q (by simp [hq])
          simp only [List.flatMap_cons, List.length_append, List.length_cons]
          omega
      have h1 := this done fun q hq => hP q (by rw [hd]; simp [hq])
      have h2 : done.length ≤ P.length := by rw [hd]; simp
      simp only [List.length_map]
      omega
    obtain ⟨u10, u11, hb⟩ := mid_body (k := k) (S := T) ok room l ((hP p hp).ok (by omega)) ((done.flatMap (stepP ls room l)).map eP) hlen s0 s3 (some (false, .list (P.map eP))) s6 t10 t11 s12
    exact ⟨_, _, T, rfl, .inl hb, rfl, some (false, eP p), u10, u11, by simp⟩)
  obtain ⟨rfl, t9, t10, t11, rfl⟩ := h2
  exact ⟨t9, t10, t11, h1⟩
/-! the whole -/
def foundP (ls : List Lf) (room : Int) (l : List Lf) : List Pts := l.foldl (fun found l => found.flatMap (stepP ls room l)) [[]]
theorem foundP_snoc (ls : List Lf) (room : Int) (l : List Lf) (x : Lf) : foundP ls room (l ++ [x]) = (foundP ls room l).flatMap (stepP ls room x) := by
  unfold foundP; rw [List.foldl_append]; rfl
theorem fold_shape {ls : List Lf} {room : Int} : ∀ (l : List Lf) (j : Nat) (P : List Pts), (∀ x ∈ l, x.n ∈ ls.map (·.n)) → (∀ p ∈ P, Shape ls j p) → P.length ≤ 5 ^ j → j + l.length ≤ 4 →
    (∀ p ∈ l.foldl (fun found l => found.flatMap (stepP ls room l)) P, Shape ls (j + l.length) p) ∧ (l.foldl (fun found l => found.flatMap (stepP ls room l)) P).length ≤ 5 ^ (j + l.length)
  | [], j, P, _, h, hc, _ => ⟨h, hc⟩
  | x :: l, j, P, hx, h, hc, hj => by
    have hx0 := hx x (by simp)
    rw [List.length_cons] at hj
    have := fold_shape (room := room) l (j + 1) (P.flatMap (stepP ls room x)) (fun y hy => hx y (by simp [hy])) (fun p hp => by
      obtain ⟨q, hq, hp⟩ := List.mem_flatMap.mp hp
      exact (stepP_shape (h q hq) hx0).1 p hp) (by
      have : ∀ d : List Pts, (∀ q ∈ d, Shape ls j q) → (d.flatMap (stepP ls room x)).length ≤ 5 * d.length := by
        intro d
        induction d with
        | nil => intro _; simp
        | cons q d ih =>
          intro h'
          have h1 := (stepP_shape (room := room) (l := x) (h' q (by simp)) hx0).2
          have h2 := ih fun q hq => h' q (by simp [hq])
          simp only [List.flatMap_cons, List.length_append, List.length_cons]
          omega
      have := this _ h
      rw [Nat.pow_succ]; omega) (by omega)
    rw [show j + (x :: l).length = j + 1 + l.length by simp; omega]
    exact this
theorem foundP_shape {ls : List Lf} {room : Int} (l : List Lf) (h : ∀ x ∈ l, x.n ∈ ls.map (·.n)) (hl : l.length ≤ 4) : (∀ p ∈ foundP ls room l, Shape ls l.length p) ∧ (foundP ls room l).length ≤ 5 ^ l.length := by
  have := fold_shape (ls := ls) (room := room) l 0 [[]] h (fun p hp => by
    have : p = [] := by simpa using hp
    subst this
    exact ⟨by simp, by simp, by simp, by simp⟩) (by simp) (by omega)
  rw [Nat.zero_add] at this
  exact this
theorem H_part : Has GF "partings" 2 13 b_partings := by kernel_rfl
abbrev bodyO : Sxs := .cons (.asg (.nm 8) (.lst .nil)) (.cons midS (.cons (.asg (.nm 4) (.var 8)) .nil))
abbrev outS : Sx := .forS (.tup (.cons (.nm 5) (.cons (.nm 6) (.cons (.nm 7) .nil)))) (.seq (.var 0)) bodyO
abbrev OE (ls : List Lf) (room : Int) (b : Bool) (P : List Pts) (s3 s5 s6 s7 s8 s9 s10 s11 s12 : Slot) : Env' := [some (false, eLs ls), some (false, .int room), some (true, szD ls), s3, some (b, .list (P.map eP)), s5, s6, s7, s8, s9, s10, s11, s12]
theorem out_ok (ok : Ok ls) (room : Int) (s3 s5 s6 s7 s8 s9 s10 s11 s12 : Slot) :
    ∃ b t5 t6 t7 t8 t9 t10 t11, exec (callN GF k) outS (OE ls room true [[]] s3 s5 s6 s7 s8 s9 s10 s11 s12) S = some (.nx, OE ls room b (foundP ls room ls) s3 t5 t6 t7 t8 t9 t10 t11 s12, S) := by
  have hl4 := ok.len
  have hfr : frz (OE ls room true [[]] s3 s5 s6 s7 s8 s9 s10 s11 s12) (escI (.seq (.var 0))) = OE ls room true [[]] s3 s5 s6 s7 s8 s9 s10 s11 s12 := rfl
  rw [for_v (by rw [hfr]; rfl), hfr]
  obtain ⟨ρ', S', h1, h2⟩ := loopF_I (enc := eL) (bnd := bindT (.tup (.cons (.nm 5) (.cons (.nm 6) (.cons (.nm 7) .nil))))) (S := S) (body := execs (callN GF k) bodyO)
    (fun done ρ T => T = S ∧ ∃ b t5 t6 t7 t8 t9 t10 t11, ρ = OE ls room b (foundP ls room done) s3 t5 t6 t7 t8 t9 t10 t11 s12) ls (ρ := OE ls room true [[]] s3 s5 s6 s7 s8 s9 s10 s11 s12) ⟨rfl, true, s5, s6, s7, s8, s9, s10, s11, rfl⟩ (by
    rintro done l rest hd ρ T ⟨rfl, b, t5, t6, t7, t8, t9, t10, t11, rfl⟩
    have hdl : done.length ≤ 3 := by have := congrArg List.length hd; simp at this; omega
    have hln : l.n ∈ ls.map (·.n) := List.mem_map.mpr ⟨l, by rw [hd]; simp, rfl⟩
    obtain ⟨i1, i2⟩ := foundP_shape (ls := ls) (room := room) done (fun x hx => List.mem_map.mpr ⟨x, by rw [hd]; simp [hx], rfl⟩) (by omega)
    have i3 : (foundP ls room done).length ≤ 125 := Nat.le_trans i2 (Nat.pow_le_pow_right (by omega) hdl)
    obtain ⟨u9, u10, u11, hm⟩ := mid_ok (k := k) (S := T) ok room l hln hdl (foundP ls room done) i1 i3 b (some (false, eLs ls)) s3 (some (false, .int l.h)) t9 t10 t11 s12
    refine ⟨_, OE ls room false (foundP ls room (done ++ [l])) s3 (some (false, .str l.n)) (some (false, .int l.h)) (some (false, .int l.s)) (some (false, .list ((foundP ls room (done ++ [l])).map eP))) u9 u10 u11 s12, T, rfl, .inl ?_, rfl, _, _, _, _, _, _, _, _, rfl⟩
    refine (ex_nx (asg_v (d := .list []) (S1 := T) rfl (by simp [frz, frz1, esc, escs]))).trans ?_
    refine (ex_nx hm).trans ?_
    rw [foundP_snoc]
    refine (ex_nx (asg_v (d := .list (((foundP ls room done).flatMap (stepP ls room l)).map eP)) (S1 := T) rfl (by simp [frz, frz1, esc, escs]))).trans ?_
    rfl)
  obtain ⟨rfl, b, t5, t6, t7, t8, t9, t10, t11, rfl⟩ := h2
  exact ⟨b, t5, t6, t7, t8, t9, t10, t11, h1⟩
theorem partings_ok (ok : Ok ls) (room : Int) : callN GF (k + 1) "partings" [eLs ls, .int room] S = some (.list ((foundP ls room ls).map eP), S) := by
  rw [call_has H_part k S rfl]
  have hl4 := ok.len
  have d0 : dcompF (bindT (.nm 3)) (runTs (callN GF k) .nil) (run (callN GF k) (.idx (.var 3) (.cst (.int 0))) .V) (run (callN GF k) (.idx (.var 3) (.cst (.int 2))) .V) [some (false, eLs ls), some (false, .int room), none, none, none, none, none, none, none, none, none, none, none] [] (ls.map eL) S = some (strD (·.n) (fun l => .int l.s) ls, S) :=
    dcompF_S (·.n) (fun l => .int l.s) ls ok.nd (le_lim (by omega)) fun l _ => ⟨[some (false, eLs ls), some (false, .int room), none, some (false, eL l), none, none, none, none, none, none, none, none, none], rfl, rfl, rfl, rfl⟩
  obtain ⟨b, t5, t6, t7, t8, t9, t10, t11, ho⟩ := out_ok (k := k) (S := S) ok room none none none none none none none none none
  have h1 : execs (callN GF k) b_partings [some (false, eLs ls), some (false, .int room), none, none, none, none, none, none, none, none, none, none, none] S = some (.rt (.list ((foundP ls room ls).map eP)), OE ls room false (foundP ls room ls) none t5 t6 t7 t8 t9 t10 t11 none, S) := by
    unfold b_partings
    refine (ex_nx (asg_v (d := szD ls) (S1 := S) (by
      simp [esc, escs, escI, frz, frz1, seqF, getS, eLs, dcF, wipeE]
      have := d0
      simp [eLs] at this
      simp [this]) (by simp [frz, frz1, esc, escs, escI]))).trans ?_
    refine (ex_nx (asg_v (d := .list [.tuple []]) (S1 := S) rfl (by simp [frz, frz1, esc, escs, escI]))).trans ?_
    refine (ex_nx ho).trans ?_
    cases b <;> exact ex_rt (ret_v (d := .list ((foundP ls room ls).map eP)) (S1 := S) rfl)
  exact (congrArg retV h1).trans rfl
end
end LW
set_option Elab.async false
set_option linter.all false
set_option maxRecDepth 100000
set_option maxHeartbeats 4000000
/-! k51: the law's own partings, and that the program's are those that fit -/
namespace LW
open PySem PySem.Spec PyProof.Rows L2 CH
theorem stepL_shape {ls : List Lf} {n : Str} {j : Nat} {p : Pts} (s : Shape ls j p) (hn : n ∈ ls.map (·.n)) : (∀ q ∈ stepL n p, Shape ls (j + 1) q) ∧ (stepL n p).length ≤ j + 1 := by
  refine ⟨fun q hq => ?_, ?_⟩
  · unfold stepL at hq
    rcases List.mem_cons.mp hq with h | h
    · rw [h]; exact shape_new s hn
    · obtain ⟨k, hk, rfl⟩ := List.mem_map.mp h
      exact shape_put s hn (List.mem_range.mp hk)
  · unfold stepL
    rw [List.length_cons, List.length_map, List.length_range]
    have := s.len
    omega
theorem partsL_snoc (l : List Str) (x : Str) : partsL (l ++ [x]) = (partsL l).flatMap (stepL x) := by
  unfold partsL; rw [List.foldl_append]; rfl
theorem foldL_shape {ls : List Lf} : ∀ (l : List Str) (j : Nat) (P : List Pts), (∀ x ∈ l, x ∈ ls.map (·.n)) → (∀ p ∈ P, Shape ls j p) → P.length ≤ 5 ^ j → j + l.length ≤ 4 →
    (∀ p ∈ l.foldl (fun found n => found.flatMap (stepL n)) P, Shape ls (j + l.length) p) ∧ (l.foldl (fun found n => found.flatMap (stepL n)) P).length ≤ 5 ^ (j + l.length)
  | [], j, P, _, h, hc, _ => ⟨h, hc⟩
  | x :: l, j, P, hx, h, hc, hj => by
    have hx0 := hx x (by simp)
    rw [List.length_cons] at hj
    have := foldL_shape (ls := ls) l (j + 1) (P.flatMap (stepL x)) (fun y hy => hx y (by simp [hy])) (fun p hp => by
      obtain ⟨q, hq, hp⟩ := List.mem_flatMap.mp hp
      exact (stepL_shape (h q hq) hx0).1 p hp) (by
      have : ∀ d : List Pts, (∀ q ∈ d, Shape ls j q) → (d.flatMap (stepL x)).length ≤ 5 * d.length := by
        intro d
        induction d with
        | nil => intro _; simp
        | cons q d ih =>
          intro h'
          have h1 := (stepL_shape (h' q (by simp)) hx0).2
          have h2 := ih fun q hq => h' q (by simp [hq])
          simp only [List.flatMap_cons, List.length_append, List.length_cons]
          omega
      have := this _ h
      rw [Nat.pow_succ]; omega) (by omega)
    rw [show j + (x :: l).length = j + 1 + l.length by simp; omega]
    exact this
theorem partsL_shape {ls : List Lf} (l : List Str) (h : ∀ x ∈ l, x ∈ ls.map (·.n)) (hl : l.length ≤ 4) : (∀ p ∈ partsL l, Shape ls l.length p) ∧ (partsL l).length ≤ 5 ^ l.length := by
  have := foldL_shape (ls := ls) l 0 [[]] h (fun p hp => by
    have : p = [] := by simpa using hp
    subst this
    exact ⟨by simp, by simp, by simp, by simp⟩) (by simp) (by omega)
  rw [Nat.zero_add] at this
  exact this
/-! the filter -/
def fits (ls : List Lf) (room : Int) (p : Pts) : Bool := p.all fun f => decide (sizeF ls f ≤ room)
theorem sizeF_snoc (ls : List Lf) (f : Fire) (n : Str) : sizeF ls (f ++ [n]) = sizeF ls f + (lk ls n).s := by unfold sizeF; simp
theorem sizeF_nonneg {ls : List Lf} (h : ∀ l ∈ ls, 0 ≤ l.s) (f : Fire) (hf : ∀ n ∈ f, n ∈ ls.map (·.n)) : 0 ≤ sizeF ls f := by
  unfold sizeF
  induction f with
  | nil => simp
  | cons n f ih =>
    have h1 := h _ (lk_mem (hf n (by simp))).1
    have h2 := ih fun m hm => hf m (by simp [hm])
    simp only [List.map_cons, List.sum_cons]; omega
theorem fits_new {ls : List Lf} {room : Int} {p : Pts} {n : Str} : fits ls room (p ++ [[n]]) = (fits ls room p && decide ((lk ls n).s ≤ room)) := by
  unfold fits; rw [List.all_append]; simp [sizeF]
theorem fits_put {ls : List Lf} {room : Int} {p : Pts} {n : Str} {k : Nat} (hk : k < p.length) (h0 : 0 ≤ (lk ls n).s) : fits ls room (putIn n p k) = (fits ls room p && decide (sizeF ls (p.getD k []) + (lk ls n).s ≤ room)) := by
  have e : p.getD k [] = p[k] := by simp [List.getD, hk]
  have hp : p = p.take k ++ [p[k]] ++ p.drop (k + 1) := by simp
  unfold fits putIn
  conv => rhs; rw [hp]
  simp only [List.all_append, List.all_cons, List.all_nil, Bool.and_true, e]
  rw [← hp, e, sizeF_snoc]
  by_cases h : sizeF ls p[k] + (lk ls n).s ≤ room
  · have : sizeF ls p[k] ≤ room := by omega
    simp [h, this]
  · simp [h]
theorem filter_step {ls : List Lf} {room : Int} {l : Lf} (hl : lk ls l.n = l) (h0 : 0 ≤ l.s) (p : Pts) : (stepL l.n p).filter (fits ls room) = if fits ls room p then stepP ls room l p else [] := by
  unfold stepL stepP
  rw [List.filter_cons, fits_new, hl, List.filter_map]
  have e : ((List.range p.length).filter (fits ls room ∘ putIn l.n p)) = (List.range p.length).filter (fun k => fits ls room p && decide (sizeF ls (p.getD k []) + l.s ≤ room)) := by
    apply List.filter_congr
    intro k hk
    have := fits_put (ls := ls) (room := room) (n := l.n) (List.mem_range.mp hk) (by rw [hl]; exact h0)
    rw [hl] at this
    exact this
  rw [e]
  cases hf : fits ls room p with
  | true =>
    simp only [Bool.true_and, if_true]
    by_cases hb : l.s ≤ room
    · simp [hb]
    · simp [hb]
  | false => simp
theorem filter_all {ls : List Lf} {room : Int} (h0 : ∀ l ∈ ls, 0 ≤ l.s) : ∀ (l : List Lf), (∀ x ∈ l, lk ls x.n = x ∧ x ∈ ls) → ∀ (P : List Pts),
    ((l.map (·.n)).foldl (fun found n => found.flatMap (stepL n)) P).filter (fits ls room) = l.foldl (fun found l => found.flatMap (stepP ls room l)) (P.filter (fits ls room))
  | [], _, P => rfl
  | x :: l, h, P => by
    rw [List.map_cons, List.foldl_cons, List.foldl_cons, filter_all h0 l (fun y hy => h y (by simp [hy]))]
    congr 1
    obtain ⟨h1, h2⟩ := h x (by simp)
    induction P with
    | nil => rfl
    | cons p P ih =>
      rw [List.flatMap_cons, List.filter_append, ih, filter_step h1 (h0 x h2), List.filter_cons]
      cases fits ls room p <;> simp
theorem parts_filter {ls : List Lf} {room : Int} (ok : Ok ls) (h0 : ∀ l ∈ ls, 0 ≤ l.s) : (partsL (ls.map (·.n))).filter (fits ls room) = foundP ls room ls := by
  have lkx : ∀ x ∈ ls, lk ls x.n = x := fun x hx => by
    obtain ⟨h1, h2⟩ := lk_mem (List.mem_map.mpr ⟨x, hx, rfl⟩)
    have : ∀ (l : List Lf), (l.map (·.n)).Nodup → ∀ a ∈ l, ∀ b ∈ l, a.n = b.n → a = b := by
      intro l
      induction l with
      | nil => intro _ a ha; cases ha
      | cons c l ih =>
        intro hn a ha b hb e
        rw [List.map_cons, List.nodup_cons] at hn
        rcases List.mem_cons.mp ha with ea | ha' <;> rcases List.mem_cons.mp hb with eb | hb'
        · rw [ea, eb]
        · exact absurd (List.mem_map.mpr ⟨b, hb', by rw [← ea, e]⟩) hn.1
        · exact absurd (List.mem_map.mpr ⟨a, ha', by rw [e, eb]⟩) hn.1
        · exact ih hn.2 a ha' b hb' e
    exact this ls ok.nd _ h1 _ hx h2
  have := filter_all (room := room) h0 ls (fun x hx => ⟨lkx x hx, hx⟩) [[]]
  exact this
section
variable {k : Nat} {S : Sto} {ls : List Lf}
/-! `_law_partings` -/
abbrev eltC : Ex := .bin .add (.bin .add (.slice (.var 4) (.cst .none) (.asInt (.var 5))) (.tup (.cons (.bin .add (.idx (.var 4) (.var 5)) (.tup (.cons (.var 2) .nil))) .nil))) (.slice (.var 4) (.asInt (.bin .add (.var 5) (.cst (.int 1)))) (.cst .none))
abbrev appE : Ex := .bin .add (.var 4) (.tup (.cons (.tup (.cons (.var 2) .nil)) .nil))
abbrev catE : Ex := .bin .add (.var 3) (.comp eltC (.nm 5) (.rng1 (.bi .len (.cons (.var 4) .nil))) .nil [5])
abbrev bodyL : Sxs := .cons (.app 3 appE) (.cons (.asg (.nm 3) catE) .nil)
abbrev midL : Sx := .forS (.nm 4) (.seq (.var 1)) bodyL
abbrev LE (s0 s1 : Slot) (n : Str) (acc : List D) (s4 s5 : Slot) : Env' := [s0, s1, some (false, .str n), some (true, .list acc), s4, s5]
theorem cat_lst {a b : List D} (h : a.length + b.length ≤ lim) : binD .add (.list a) (.list b) = some (.list (a ++ b)) := by
  show (if a.length + b.length ≤ lim then some (PyData.list (a ++ b)) else none) = _
  rw [if_pos h]
theorem idx_tup {l : List D} {i : Nat} (h : i < l.length) : idxD (.tuple l) (.int (i : Nat)) = some l[i] := by
  show L2.atI l (i : Int) = _
  rw [atI_nat (by omega) (by omega)]; simp [h]
theorem eltC_ok {p : Pts} (hl : p.length ≤ 4) (hlf : ∀ f ∈ p, f.length ≤ 4) (n : Str) (s0 s1 s3 : Slot) {i : Nat} (hi : i < p.length) :
    run (callN GF k) eltC .V [s0, s1, some (false, .str n), s3, some (false, eP p), some (false, .int (i : Nat))] S = some (eP (putIn n p i), S) := by
  have ef : p.getD i [] = p[i] := by simp [List.getD, hi]
  have hf := hlf _ (List.getElem_mem hi)
  have h1 := cat_tup (a := p[i].map PyData.str) (b := [.str n]) (le_lim (by simp only [List.length_map, List.length_cons, List.length_nil]; omega))
  have h2 := cat_tup (a := (p.map eF).take i) (b := [eF (p[i] ++ [n])]) (le_lim (by simp; omega))
  have h3 := cat_tup (a := (p.map eF).take i ++ [eF (p[i] ++ [n])]) (b := (p.map eF).drop (i + 1)) (le_lim (by simp; omega))
  have c1 := cut_take (l := p.map eF) (i := i)
  have c2 := cut_drop (l := p.map eF) (i := i + 1)
  have e1 : ((i : Int) + 1) = ((i + 1 : Nat) : Int) := by omega
  have ix : idxD (.tuple (p.map eF)) (.int (i : Nat)) = some (eF p[i]) := by rw [idx_tup (by simpa using hi)]; simp
  have sl1 : sliceF (run (callN GF k) (.var 4) .B) (run (callN GF k) (.cst .none) .V) (run (callN GF k) (.asInt (.var 5)) .V) [s0, s1, some (false, .str n), s3, some (false, eP p), some (false, .int (i : Nat))] S = some (.tuple ((p.map eF).take i), S) := by
    simp only [sliceF, r_varB, r_cst, r_asInt, asIntF, r_varV, fin_V]
    simp [getB, getS, bndD, eP, sliceD, c1]
  have sl2 : sliceF (run (callN GF k) (.var 4) .B) (run (callN GF k) (.asInt (.bin .add (.var 5) (.cst (.int 1)))) .V) (run (callN GF k) (.cst .none) .V) [s0, s1, some (false, .str n), s3, some (false, eP p), some (false, .int (i : Nat))] S = some (.tuple ((p.map eF).drop (i + 1)), S) := by
    simp only [sliceF, r_varB, r_cst, r_asInt, asIntF, r_bin, two, fin_V, fin_B]
    simp only [getB, List.getElem?_cons_succ, List.getElem?_cons_zero, Option.map, deref_int, bin_add_int, e1]
    simp only [bndD, eP, deref_tuple, sliceD, c2, Option.map]
  have tu : run (callN GF k) (.tup (.cons (.bin .add (.idx (.var 4) (.var 5)) (.tup (.cons (.var 2) .nil))) .nil)) .B [s0, s1, some (false, .str n), s3, some (false, eP p), some (false, .int (i : Nat))] S = some (.tuple [eF (p[i] ++ [n])], S) := by
    simp only [r_tup, rs_cons, rs_nil, consF, r_bin, r_idx, two, r_varB, r_varV, tupF, fin_V, fin_B]
    simp only [getB, getS, List.getElem?_cons_succ, List.getElem?_cons_zero, Option.map, List.length_cons, List.length_nil, eP, deref_tuple, deref_int, ix]
    rw [if_pos (le_lim (by omega))]
    simp only [deref_tuple, eF] at h1 ⊢
    simp only [h1, Option.map]
    rw [if_pos (le_lim (by simp))]
    simp [eF]
  rw [r_bin, fin_V]
  simp only [two, r_bin, fin_B, r_slice]
  rw [sl1]
  simp only [tu, deref_tuple, h2, Option.map, sl2, h3]
  rw [putIn_D, ef]
theorem bodyL_ok {p : Pts} (hl : p.length ≤ 4) (hlf : ∀ f ∈ p, f.length ≤ 4) (n : Str) (acc : List D) (ha : acc.length ≤ 1000) (s0 s1 : Slot) :
    execs (callN GF k) bodyL (LE s0 s1 n acc (some (false, eP p)) none) S = some (.nx, LE s0 s1 n (acc ++ (stepL n p).map eP) (some (false, eP p)) none, S) := by
  have he : run (callN GF k) appE .V (LE s0 s1 n acc (some (false, eP p)) none) S = some (eP (p ++ [[n]]), S) := by
    have h1 := cat_tup (a := p.map eF) (b := [eF [n]]) (le_lim (by simp only [List.length_map, List.length_cons, List.length_nil]; omega))
    simp only [r_bin, fin_V, fin_B, two, r_tup, rs_cons, rs_nil, consF, r_varB, r_varV, tupF]
    simp only [getB, getS, LE, List.getElem?_cons_succ, List.getElem?_cons_zero, Option.map, List.length_cons, List.length_nil]
    rw [if_pos (le_lim (by omega))]
    simp only [List.length_cons, List.length_nil]
    rw [if_pos (le_lim (by omega))]
    simp only [deref_tuple, eP]
    have e : eF [n] = .tuple [.str n] := rfl
    rw [e] at h1
    simp only [h1, Option.map]
    simp [eP, eF]
  have hf1 : frz (LE s0 s1 n acc (some (false, eP p)) none) (esc appE .V) = LE s0 s1 n acc (some (false, eP p)) none := rfl
  refine (ex_nx (app_v (v := eP (p ++ [[n]])) (acc := acc) (T1 := S) (by rw [hf1]; rfl) (by rw [hf1]; exact he) (Nat.lt_of_le_of_lt ha (by decide)))).trans ?_
  rw [hf1]
  have hc : compF (bindT (.nm 5)) (runTs (callN GF k) .nil) (run (callN GF k) eltC .V) (wipeE (LE s0 s1 n (acc ++ [eP (p ++ [[n]])]) (some (false, eP p)) none) [5]) ((List.range p.length).map fun (i : Nat) => PyData.int i) S = some ((List.range p.length).map fun i => eP (putIn n p i), S) :=
    compF_M (fun i => eP (putIn n p i)) (List.range p.length) fun i hi => ⟨[s0, s1, some (false, .str n), some (true, .list (acc ++ [eP (p ++ [[n]])])), some (false, eP p), some (false, .int (i : Nat))], rfl, rfl, eltC_ok hl hlf n s0 s1 _ (List.mem_range.mp hi)⟩
  have hcomp : run (callN GF k) (.comp eltC (.nm 5) (.rng1 (.bi .len (.cons (.var 4) .nil))) .nil [5]) .B (LE s0 s1 n (acc ++ [eP (p ++ [[n]])]) (some (false, eP p)) none) S = some (.list ((List.range p.length).map fun i => eP (putIn n p i)), S) := by
    have hb : biD .len [eP p] = some (.int (p.length : Nat)) := by
      show some (PyData.int (((p.map eF).length : Nat) : Int)) = _
      rw [List.length_map]
    have hr := rng_v (n := p.length) (C := callN GF k) (a := .bi .len (.cons (.var 4) .nil)) (ρ := LE s0 s1 n (acc ++ [eP (p ++ [[n]])]) (some (false, eP p)) none) (S := S) (S1 := S) (bi_1 (d := eP p) (d' := eP p) rfl rfl hb) (by omega)
    have h3 : ((List.range p.length).map fun i => eP (putIn n p i)).length ≤ lim := by
      rw [List.length_map, List.length_range]
      exact le_lim (by omega)
    rw [comp_v hr hc h3, fin_B]
  have hcat : run (callN GF k) catE .V (LE s0 s1 n (acc ++ [eP (p ++ [[n]])]) (some (false, eP p)) none) S = some (.list (acc ++ (stepL n p).map eP), S) := by
    have hg : getB (LE s0 s1 n (acc ++ [eP (p ++ [[n]])]) (some (false, eP p)) none) 3 = some (.list (acc ++ [eP (p ++ [[n]])])) := rfl
    have hadd : binD .add (.list (acc ++ [eP (p ++ [[n]])])) (.list ((List.range p.length).map fun i => eP (putIn n p i))) = some (.list (acc ++ (stepL n p).map eP)) := by
      rw [cat_lst (Nat.le_trans (m := 1100) (by simp; omega) (by decide))]
      unfold stepL
      simp
    exact bin_v (by rw [r_varB, hg]; rfl) hcomp rfl rfl hadd
  have hf2 : frz (LE s0 s1 n (acc ++ [eP (p ++ [[n]])]) (some (false, eP p)) none) (esc catE .V) = LE s0 s1 n (acc ++ [eP (p ++ [[n]])]) (some (false, eP p)) none := rfl
  refine (ex_nx (asg_v (i := 3) (d := .list (acc ++ (stepL n p).map eP)) (S1 := S) (ρ := LE s0 s1 n (acc ++ [eP (p ++ [[n]])]) (some (false, eP p)) none) (by rw [hf2]; exact hcat) (by rw [hf2]; simp))).trans ?_
  rw [hf2]; rfl
theorem midL_ok (n : Str) (hn : n ∈ ls.map (·.n)) {j : Nat} (hj : j ≤ 3) (P : List Pts) (hP : ∀ p ∈ P, Shape ls j p) (hc : P.length ≤ 125) (b : Bool) (s0 s4 : Slot) :
    ∃ t4, exec (callN GF k) midL (LE s0 (some (b, .list (P.map eP))) n [] s4 none) S = some (.nx, LE s0 (some (false, .list (P.map eP))) n ((P.flatMap (stepL n)).map eP) t4 none, S) := by
  have hfr : frz (LE s0 (some (b, .list (P.map eP))) n [] s4 none) (escI (.seq (.var 1))) = LE s0 (some (false, .list (P.map eP))) n [] s4 none := by cases b <;> rfl
  rw [for_v (by rw [hfr]; rfl), hfr]
  obtain ⟨ρ', S', h1, h2⟩ := loopF_I (enc := eP) (bnd := bindT (.nm 4)) (S := S) (body := execs (callN GF k) bodyL)
    (fun done ρ T => T = S ∧ ∃ t4, ρ = LE s0 (some (false, .list (P.map eP))) n ((done.flatMap (stepL n)).map eP) t4 none) P (ρ := LE s0 (some (false, .list (P.map eP))) n [] s4 none) ⟨rfl, s4, by simp⟩ (by
    rintro done p rest hd ρ T ⟨rfl, t4, rfl⟩
    have hp : p ∈ P := by rw [hd]; simp
    have hlen : ((done.flatMap (stepL n)).map eP).length ≤ 1000 := by
      have : ∀ d : List Pts, (∀ q ∈ d, Shape ls j q) → (d.flatMap (stepL n)).length ≤ 4 * d.length := by
        intro d
        induction d with
        | nil => intro _; simp
        | cons q d ih =>
          intro h
          have h1 := (stepL_shape (h q (by simp)) hn).2
          have h2 := ih fun q hq => h q (by simp [hq])
          simp only [List.flatMap_cons, List.length_append, List.length_cons]
          omega
      have h1 := this done fun q hq => hP q (by rw [hd]; simp [hq])
      have h2 : done.length ≤ P.length := by rw [hd]; simp
      simp only [List.length_map]
      omega
    have ok4 := (hP p hp).ok (show j ≤ 4 by omega)
    have hb := bodyL_ok (k := k) (S := T) ok4.len ok4.lenF n ((done.flatMap (stepL n)).map eP) hlen s0 (some (false, .list (P.map eP)))
    exact ⟨_, _, T, rfl, .inl hb, rfl, some (false, eP p), by simp⟩)
  obtain ⟨rfl, t4, rfl⟩ := h2
  exact ⟨t4, h1⟩
theorem H_lparts : Has GF "_law_partings" 1 6 b__law_partings := by kernel_rfl
abbrev bodyLO : Sxs := .cons (.asg (.nm 3) (.lst .nil)) (.cons midL (.cons (.asg (.nm 1) (.var 3)) .nil))
abbrev outL : Sx := .forS (.nm 2) (.seq (.var 0)) bodyLO
theorem outL_ok (ns : List Str) (hns : ∀ x ∈ ns, x ∈ ls.map (·.n)) (hl4 : ns.length ≤ 4) :
    ∃ b t2 t3 t4, exec (callN GF k) outL [some (false, .list (ns.map PyData.str)), some (true, .list (([[]] : List Pts).map eP)), none, none, none, none] S = some (.nx, [some (false, .list (ns.map PyData.str)), some (b, .list ((partsL ns).map eP)), t2, t3, t4, none], S) := by
  rw [for_v (xs := ns.map PyData.str) (S1 := S) rfl]
  obtain ⟨ρ', S', h1, h2⟩ := loopF_I (enc := PyData.str) (bnd := bindT (.nm 2)) (S := S) (body := execs (callN GF k) bodyLO)
    (fun done ρ T => T = S ∧ ∃ b t2 t3 t4, ρ = [some (false, .list (ns.map PyData.str)), some (b, .list ((partsL done).map eP)), t2, t3, t4, none]) ns (ρ := [some (false, .list (ns.map PyData.str)), some (true, .list (([[]] : List Pts).map eP)), none, none, none, none]) ⟨rfl, true, none, none, none, rfl⟩ (by
    rintro done n rest hd ρ T ⟨rfl, b, t2, t3, t4, rfl⟩
    have hdl : done.length ≤ 3 := by have := congrArg List.length hd; simp at this; omega
    obtain ⟨i1, i2⟩ := partsL_shape (ls := ls) done (fun x hx => hns x (by rw [hd]; simp [hx])) (by omega)
    have i3 : (partsL done).length ≤ 125 := Nat.le_trans i2 (Nat.pow_le_pow_right (by omega) hdl)
    obtain ⟨u4, hm⟩ := midL_ok (k := k) (S := T) n (hns n (by rw [hd]; simp)) hdl (partsL done) i1 i3 b (some (false, .list (ns.map PyData.str))) t4
    refine ⟨_, [some (false, .list (ns.map PyData.str)), some (false, .list ((partsL (done ++ [n])).map eP)), some (false, .str n), some (false, .list ((partsL (done ++ [n])).map eP)), u4, none], T, rfl, .inl ?_, rfl, _, _, _, _, rfl⟩
    refine (ex_nx (asg_v (d := .list []) (S1 := T) rfl (by simp [frz, frz1, esc, escs]))).trans ?_
    refine (ex_nx hm).trans ?_
    rw [partsL_snoc]
    refine (ex_nx (asg_v (d := .list (((partsL done).flatMap (stepL n)).map eP)) (S1 := T) rfl (by simp [frz, frz1, esc, escs]))).trans ?_
    rfl)
  obtain ⟨rfl, b, t2, t3, t4, rfl⟩ := h2
  exact ⟨b, t2, t3, t4, h1⟩
theorem lparts_ok (ns : List Str) (hns : ∀ x ∈ ns, x ∈ ls.map (·.n)) (hl4 : ns.length ≤ 4) : callN GF (k + 1) "_law_partings" [.list (ns.map PyData.str)] S = some (.list ((partsL ns).map eP), S) := by
  rw [call_has H_lparts k S rfl]
  obtain ⟨b, t2, t3, t4, ho⟩ := outL_ok (k := k) (S := S) ns hns hl4
  have h1 : execs (callN GF k) b__law_partings [some (false, .list (ns.map PyData.str)), none, none, none, none, none] S = some (.rt (.list ((partsL ns).map eP)), [some (false, .list (ns.map PyData.str)), some (false, .list ((partsL ns).map eP)), t2, t3, t4, none], S) := by
    unfold b__law_partings
    refine (ex_nx (asg_v (d := .list [.tuple []]) (S1 := S) rfl (by simp [frz, frz1, esc, escs, escI]))).trans ?_
    refine (ex_nx ho).trans ?_
    cases b <;> exact ex_rt (ret_v (d := .list ((partsL ns).map eP)) (S1 := S) rfl)
  exact (congrArg retV h1).trans rfl
end
end LW
set_option Elab.async false
set_option linter.all false
set_option maxRecDepth 100000
set_option maxHeartbeats 4000000
/-! k51: rows, the least -/
namespace LW
open PySem PySem.Spec PyProof.Rows L2 CH
abbrev shF : Sh := .seq .str
abbrev shP : Sh := .seq shF
abbrev shR : Sh := .row (.cons .int (.cons .int (.cons shP .nil)))
theorem eF_sh (f : Fire) : HasSh shF (eF f) := .seq (HasAll.of fun d hd => by
  obtain ⟨x, _, rfl⟩ := List.mem_map.mp hd
  exact .str x)
theorem eFs_sh (p : Pts) : HasAll shF (p.map eF) := HasAll.of fun d hd => by
  obtain ⟨x, _, rfl⟩ := List.mem_map.mp hd
  exact eF_sh x
def sP (p : Pts) : D := .tuple (srt (p.map eF))
theorem sP_sh (p : Pts) : HasSh shP (sP p) := .seq ((eFs_sh p).perm (srt_perm _))
def rowD (ls : List Lf) (p : Pts) : D := .tuple [.int (hours ls p), .int (p.length : Nat), sP p]
theorem row_sh (ls : List Lf) (p : Pts) : HasSh shR (rowD ls p) := .row (.cons (.int _) (.cons (.int _) (.cons (sP_sh p) .nil)))
theorem okSort_p {p : Pts} (h : ∀ f ∈ p, f ≠ []) : okSort (p.map eF) = true := okSort_sh (eFs_sh p) (by decide) (.inl (by
  simp only [List.all_eq_true, List.mem_map]
  rintro _ ⟨f, hf, rfl⟩
  cases f with
  | nil => exact absurd rfl (h _ hf)
  | cons x xs => rfl))
theorem rows_sh (ls : List Lf) (P : List Pts) : HasAll shR (P.map (rowD ls)) := HasAll.of fun d hd => by
  obtain ⟨x, _, rfl⟩ := List.mem_map.mp hd
  exact row_sh ls x
section
variable {C : CallF} {k : Nat} {S : Sto} {ls : List Lf}
theorem len_tup (l : List D) : biD .len [.tuple l] = some (.int (l.length : Nat)) := rfl
theorem len_lst (l : List D) : biD .len [.list l] = some (.int (l.length : Nat)) := rfl
theorem tup_lst (l : List D) : biD .tuple [.list l] = some (.tuple l) := rfl
theorem tup3_v {a b c : Ex} {m : Md} {ρ : Env'} {S S1 S2 S3 : Sto} {x y z : D} (h1 : run C a .V ρ S = some (x, S1)) (h2 : run C b .V ρ S1 = some (y, S2)) (h3 : run C c .V ρ S2 = some (z, S3)) (hm : m ≠ .T := by decide) : run C (.tup (.cons a (.cons b (.cons c .nil)))) m ρ S = some (.tuple [x, y, z], S3) := by
  rw [r_tup, fin_ne hm]
  unfold tupF
  rw [rs_cons]; unfold consF
  rw [h1]; dsimp only
  rw [rs_cons]; unfold consF
  rw [h2]; dsimp only
  rw [rs_cons]; unfold consF
  rw [h3]; dsimp only
  rw [rs_nil]; dsimp only
  rw [if_pos (le_lim (by simp))]
/-- len, sorted of a parting in a slot -/
theorem sort_v {i : Nat} {ρ : Env'} {p : Pts} (hg : getB ρ i = some (eP p)) (h : ∀ f ∈ p, f ≠ []) : run C (.bi .tuple (.cons (.bi .sorted (.cons (.var i) .nil)) .nil)) .V ρ S = some (sP p, S) := by
  have h1 : run C (.bi .sorted (.cons (.var i) .nil)) .B ρ S = some (.list (srt (p.map eF)), S) := by
    rw [bi_1 (S1 := S) (d := eP p) (d' := eP p) (by rw [r_varB, hg]; rfl) rfl (sort_tuple (okSort_p h))]; rfl
  rw [bi_1 (S1 := S) h1 rfl (tup_lst _)]; rfl
theorem plen_v {i : Nat} {ρ : Env'} {p : Pts} (hg : getB ρ i = some (eP p)) : run C (.bi .len (.cons (.var i) .nil)) .V ρ S = some (.int (p.length : Nat), S) := by
  rw [bi_1 (S1 := S) (d := eP p) (d' := eP p) (by rw [r_varB, hg]; rfl) rfl (len_tup _), List.length_map]; rfl
theorem call2_v {f : Str} {a b : Ex} {m : Md} {ρ : Env'} {S S1 S2 S3 : Sto} {x y z : D} (h1 : run C a .V ρ S = some (x, S1)) (h2 : run C b .V ρ S1 = some (y, S2)) (h3 : C f [x, y] S2 = some (z, S3)) (hm : m ≠ .T := by decide) : run C (.call f (.cons a (.cons b .nil))) m ρ S = some (z, S3) := by
  rw [r_call, fin_ne hm]
  unfold callF
  rw [rs_cons]; unfold consF
  rw [h1]; dsimp only
  rw [rs_cons]; unfold consF
  rw [h2]; dsimp only
  rw [rs_nil]; dsimp only
  exact h3
theorem call1_v {f : Str} {a : Ex} {m : Md} {ρ : Env'} {S S1 S3 : Sto} {x z : D} (h1 : run C a .V ρ S = some (x, S1)) (h3 : C f [x] S1 = some (z, S3)) (hm : m ≠ .T := by decide) : run C (.call f (.cons a .nil)) m ρ S = some (z, S3) := by
  rw [r_call, fin_ne hm]
  unfold callF
  rw [rs_cons]; unfold consF
  rw [h1]; dsimp only
  rw [rs_nil]; dsimp only
  exact h3
theorem seq_v {a : Ex} {ρ : Env'} {S S1 : Sto} {l : List D} (h : run C a .V ρ S = some (.list l, S1)) : runIt C (.seq a) ρ S = some (l, S1) := by
  rw [ri_seq]; unfold seqF; rw [h]
theorem seqt_v {a : Ex} {ρ : Env'} {S S1 : Sto} {l : List D} (h : run C a .V ρ S = some (.tuple l, S1)) : runIt C (.seq a) ρ S = some (l, S1) := by
  rw [ri_seq]; unfold seqF; rw [h]
theorem varV_v {i : Nat} {ρ : Env'} {d : D} (h : getS ρ i = some d) : run C (.var i) .V ρ S = some (d, S) := by rw [r_varV, h]; rfl
theorem varB_v {i : Nat} {ρ : Env'} {d : D} (h : getB ρ i = some d) : run C (.var i) .B ρ S = some (d, S) := by rw [r_varB, h]; rfl
theorem cst_v {d : D} {ρ : Env'} {m : Md} (hm : m ≠ .T := by decide) : run C (.cst d) m ρ S = some (d, S) := by rw [r_cst, fin_ne hm]
theorem ite_t {t a b : Ex} {m : Md} {ρ : Env'} {S S1 : Sto} (h : run C t .T ρ S = some (.bool true, S1)) : run C (.ite t a b) m ρ S = run C a m ρ S1 := by
  rw [r_ite]; unfold iteF'; rw [h]
theorem ite_f {t a b : Ex} {m : Md} {ρ : Env'} {S S1 : Sto} (h : run C t .T ρ S = some (.bool false, S1)) : run C (.ite t a b) m ρ S = run C b m ρ S1 := by
  rw [r_ite]; unfold iteF'; rw [h]
theorem H_least : Has GF "least_fires" 2 4 b_least_fires := by kernel_rfl
/-- the found partings -/
theorem found_ok (ok : Ok ls) (room : Int) : ∀ p ∈ foundP ls room ls, OkP ls p := fun p hp =>
  ((foundP_shape (ls := ls) (room := room) ls (fun x hx => List.mem_map.mpr ⟨x, hx, rfl⟩) ok.len).1 p hp).ok ok.len
theorem found_len (ok : Ok ls) (room : Int) : (foundP ls room ls).length ≤ 625 :=
  Nat.le_trans (foundP_shape (ls := ls) (room := room) ls (fun x hx => List.mem_map.mpr ⟨x, hx, rfl⟩) ok.len).2 (Nat.pow_le_pow_right (by omega) ok.len)
def leastD (ls : List Lf) (P : List Pts) : D := if P = [] then .none else (match minD' (P.map (rowD ls)) with
  | .tuple [_, _, c] => c
  | _ => .none)
theorem least_idx {P : List Pts} (hP : P ≠ []) : idxD (minD' (P.map (rowD ls))) (.int 2) = some (leastD ls P) ∧ deref S (minD' (P.map (rowD ls))) = some (minD' (P.map (rowD ls))) ∧ ∃ p ∈ P, leastD ls P = sP p := by
  have h := min_sh (rows_sh ls P) (by decide) (by simpa using hP)
  obtain ⟨p, hp, e⟩ := List.mem_map.mp h.2
  unfold leastD
  rw [if_neg hP, ← e]
  exact ⟨rfl, rfl, p, hp, rfl⟩
theorem least_ok (ok : Ok ls) (room : Int) : callN GF (k + 2) "least_fires" [eLs ls, .int room] S = some (leastD ls (foundP ls room ls), S) := by
  rw [call_has H_least (k + 1) S rfl]
  have hc : compF (bindT (.nm 3)) (runTs (callN GF (k + 1)) .nil) (run (callN GF (k + 1)) (.tup (.cons (.call "hours_of" (.cons (.var 0) (.cons (.var 3) .nil))) (.cons (.bi .len (.cons (.var 3) .nil)) (.cons (.bi .tuple (.cons (.bi .sorted (.cons (.var 3) .nil)) .nil)) .nil)))) .V) (wipeE [some (false, eLs ls), some (false, .int room), none, none] [3]) ((foundP ls room ls).map eP) S = some ((foundP ls room ls).map (rowD ls), S) :=
    compF_M (rowD ls) (foundP ls room ls) fun p hp => by
      have o := found_ok ok room p hp
      exact ⟨[some (false, eLs ls), some (false, .int room), none, some (false, eP p)], rfl, rfl, tup3_v (call2_v (varV_v rfl) (varV_v rfl) (hours_ok ok o)) (plen_v rfl) (sort_v rfl o.ne)⟩
  have hx : execs (callN GF (k + 1)) b_least_fires [some (false, eLs ls), some (false, .int room), none, none] S = some (.rt (leastD ls (foundP ls room ls)), [some (false, eLs ls), some (false, .int room), some (true, .list ((foundP ls room ls).map (rowD ls))), none], S) := by
    unfold b_least_fires
    refine (ex_nx (asg_v (d := .list ((foundP ls room ls).map (rowD ls))) (S1 := S) ((comp_v (seq_v (call2_v (varV_v rfl) (varV_v rfl) (partings_ok ok room))) hc (le_lim (by rw [List.length_map]; have := found_len ok room; omega))).trans rfl) (by simp [frz, frz1, esc, escs, escI]))).trans ?_
    refine ex_rt (ret_v (d := leastD ls (foundP ls room ls)) (S1 := S) ?_)
    have ht : run (callN GF (k + 1)) (.var 2) .T [some (false, eLs ls), some (false, .int room), some (true, .list ((foundP ls room ls).map (rowD ls))), none] S = some (.bool (!((foundP ls room ls).map (rowD ls)).isEmpty), S) := rfl
    show run (callN GF (k + 1)) _ .V [some (false, eLs ls), some (false, .int room), some (true, .list ((foundP ls room ls).map (rowD ls))), none] S = _
    by_cases hP : foundP ls room ls = []
    · rw [ite_f (S1 := S) (by rw [ht, hP]; rfl), cst_v]
      unfold leastD; rw [if_pos hP]
    · obtain ⟨g1, g2, _⟩ := least_idx (S := S) (ls := ls) hP
      have e : ((foundP ls room ls).map (rowD ls)).isEmpty = false := by
        cases h : foundP ls room ls with
        | nil => exact absurd h hP
        | cons x xs => rfl
      rw [ite_t (S1 := S) (by rw [ht, e]; rfl)]
      have hm := (min_sh (rows_sh ls (foundP ls room ls)) (by decide) (by simpa using hP)).1
      have hr : run (callN GF (k + 1)) (.bi .min (.cons (.var 2) .nil)) .B [some (false, eLs ls), some (false, .int room), some (true, .list ((foundP ls room ls).map (rowD ls))), none] S = some (minD' ((foundP ls room ls).map (rowD ls)), S) := by
        rw [bi_1 (S1 := S) (varB_v rfl) rfl hm]; rfl
      exact idx_v hr cst_v g2 rfl g1
  exact (congrArg retV hx).trans rfl
/-! bundles -/
theorem H_bund : Has GF "bundles" 4 4 b_bundles := by kernel_rfl
theorem H_lbund : Has GF "least_bundles" 4 5 b_least_bundles := by kernel_rfl
def bund (ls : List Lf) (hourly lighting : Int) (p : Pts) : Int := hourly * hours ls p + lighting * (p.length : Nat)
theorem bund_ok (ok : Ok ls) {p : Pts} (hp : OkP ls p) {hourly lighting : Int} (h1 : small hourly = true) (h2 : small lighting = true) : callN GF (k + 2) "bundles" [eLs ls, eP p, .int hourly, .int lighting] S = some (.int (bund ls hourly lighting p), S) := by
  rw [call_has H_bund (k + 1) S rfl]
  have hx : execs (callN GF (k + 1)) b_bundles [some (false, eLs ls), some (false, eP p), some (false, .int hourly), some (false, .int lighting)] S = some (.rt (.int (bund ls hourly lighting p)), [some (false, eLs ls), some (false, eP p), some (false, .int hourly), some (false, .int lighting)], S) := by
    unfold b_bundles
    refine ex_rt (ret_v (d := .int (bund ls hourly lighting p)) (S1 := S) ?_)
    show run (callN GF (k + 1)) _ .V [some (false, eLs ls), some (false, eP p), some (false, .int hourly), some (false, .int lighting)] S = _
    exact bin_v (bin_v (varB_v rfl) (call2_v (varV_v rfl) (varV_v rfl) (hours_ok ok hp)) rfl rfl (bin_mul_int (.inl h1))) (bin_v (varB_v rfl) (by rw [bi_1 (S1 := S) (d := eP p) (d' := eP p) (varB_v rfl) rfl (len_tup _), List.length_map]; rfl) rfl rfl (bin_mul_int (.inl h2))) rfl rfl rfl
  exact (congrArg retV hx).trans rfl
def leastI (l : List Int) : D := match l with
  | [] => .none
  | n :: ns => .int (ns.foldl min n)
theorem call4_v {f : Str} {a b c d : Ex} {m : Md} {ρ : Env'} {S S1 S2 S3 S4 S5 : Sto} {x y z u v : D} (h1 : run C a .V ρ S = some (x, S1)) (h2 : run C b .V ρ S1 = some (y, S2)) (h3 : run C c .V ρ S2 = some (z, S3)) (h4 : run C d .V ρ S3 = some (u, S4)) (h5 : C f [x, y, z, u] S4 = some (v, S5)) (hm : m ≠ .T := by decide) : run C (.call f (.cons a (.cons b (.cons c (.cons d .nil))))) m ρ S = some (v, S5) := by
  rw [r_call, fin_ne hm]
  unfold callF
  rw [rs_cons]; unfold consF
  rw [h1]; dsimp only
  rw [rs_cons]; unfold consF
  rw [h2]; dsimp only
  rw [rs_cons]; unfold consF
  rw [h3]; dsimp only
  rw [rs_cons]; unfold consF
  rw [h4]; dsimp only
  rw [rs_nil]; dsimp only
  exact h5
theorem minDf_v {a d : Ex} {m : Md} {ρ : Env'} {S S1 : Sto} {l : List Int} (h1 : run C a .B ρ S = some (.list (l.map PyData.int), S1)) (h2 : run C d .V ρ S1 = some (.none, S1)) (hm : m ≠ .T := by decide) : run C (.minDf a d) m ρ S = some (leastI l, S1) := by
  have e : run C (.minDf a d) m ρ S = fin m (minDfF (run C a .B) (run C d .V) ρ S) := by rw [run_minDf]
  rw [e, fin_ne hm]
  unfold minDfF
  rw [h1]; dsimp only
  rw [h2]; dsimp only
  rw [deref_list]
  cases l with
  | nil => rfl
  | cons n ns =>
    have := min_ints n ns
    show (minL ((n :: ns).map PyData.int)).map _ = _
    have h : minL ((n :: ns).map PyData.int) = some (.int (ns.foldl min n)) := this
    rw [h]; rfl
theorem lbund_ok (ok : Ok ls) (room : Int) {hourly lighting : Int} (h1 : small hourly = true) (h2 : small lighting = true) : callN GF (k + 3) "least_bundles" [eLs ls, .int room, .int hourly, .int lighting] S = some (leastI ((foundP ls room ls).map (bund ls hourly lighting)), S) := by
  rw [call_has H_lbund (k + 2) S rfl]
  have hc : compF (bindT (.nm 4)) (runTs (callN GF (k + 2)) .nil) (run (callN GF (k + 2)) (.call "bundles" (.cons (.var 0) (.cons (.var 4) (.cons (.var 2) (.cons (.var 3) .nil))))) .V) (wipeE [some (false, eLs ls), some (false, .int room), some (false, .int hourly), some (false, .int lighting), none] [4]) ((foundP ls room ls).map eP) S = some ((foundP ls room ls).map (fun p => PyData.int (bund ls hourly lighting p)), S) :=
    compF_M (fun p => PyData.int (bund ls hourly lighting p)) (foundP ls room ls) fun p hp => ⟨[some (false, eLs ls), some (false, .int room), some (false, .int hourly), some (false, .int lighting), some (false, eP p)], rfl, rfl, call4_v (varV_v rfl) (varV_v rfl) (varV_v rfl) (varV_v rfl) (bund_ok ok (found_ok ok room p hp) h1 h2)⟩
  have hx : execs (callN GF (k + 2)) b_least_bundles [some (false, eLs ls), some (false, .int room), some (false, .int hourly), some (false, .int lighting), none] S = some (.rt (leastI ((foundP ls room ls).map (bund ls hourly lighting))), [some (false, eLs ls), some (false, .int room), some (false, .int hourly), some (false, .int lighting), none], S) := by
    unfold b_least_bundles
    refine ex_rt (ret_v (d := leastI ((foundP ls room ls).map (bund ls hourly lighting))) (S1 := S) ?_)
    show run (callN GF (k + 2)) _ .V [some (false, eLs ls), some (false, .int room), some (false, .int hourly), some (false, .int lighting), none] S = _
    have hl : ((foundP ls room ls).map (fun p => PyData.int (bund ls hourly lighting p))).length ≤ lim := by rw [List.length_map]; exact le_lim (by have := found_len ok room; omega)
    have hi : runIt (callN GF (k + 2)) (.seq (.call "partings" (.cons (.var 0) (.cons (.var 1) .nil)))) [some (false, eLs ls), some (false, .int room), some (false, .int hourly), some (false, .int lighting), none] S = some ((foundP ls room ls).map eP, S) := seq_v (call2_v (varV_v rfl) (varV_v rfl) (partings_ok ok room))
    have hcm := comp_v (m := .B) hi hc hl
    rw [fin_B] at hcm
    refine minDf_v (l := (foundP ls room ls).map (bund ls hourly lighting)) (hcm.trans ?_) cst_v
    rw [List.map_map]; rfl
  exact (congrArg retV hx).trans rfl
end
end LW
set_option Elab.async false
set_option linter.all false
set_option maxRecDepth 100000
set_option maxHeartbeats 4000000
/-! k51: which things are loaves; the law's loaves -/
namespace LW
open PySem PySem.Spec PyProof.Rows L2 CH
def nms : List Str := ["abe", "bea", "cob", "dot"]
structure Gd (ls : List Lf) : Prop where
  nm : ∃ n, n ≤ 4 ∧ ls.map (·.n) = nms.take n
  b : ∀ l ∈ ls, (1 ≤ l.h ∧ l.h ≤ 5) ∧ 1 ≤ l.s ∧ l.s ≤ 4
theorem Gd.ok {ls : List Lf} (g : Gd ls) : Ok ls := by
  obtain ⟨n, hn, e⟩ := g.nm
  refine ⟨?_, ?_⟩
  · rw [e]
    exact List.Nodup.sublist (List.take_sublist _ _) (by decide +kernel)
  · have := congrArg List.length e
    simp at this; omega
theorem Gd.mem {ls : List Lf} (g : Gd ls) {l : Lf} (h : l ∈ ls) : l.n ∈ nms := by
  obtain ⟨n, _, e⟩ := g.nm
  have : l.n ∈ ls.map (·.n) := List.mem_map.mpr ⟨l, h, rfl⟩
  rw [e] at this
  exact List.mem_of_mem_take this
section
variable {k : Nat} {S : Sto} {ls : List Lf}
theorem H_isint : Has GF "is_integer" 1 1 b_is_integer := by kernel_rfl
theorem H_isnum : Has GF "is_number" 3 3 b_is_number := by kernel_rfl
theorem H_loaves : Has GF "are_loaves" 1 2 b_are_loaves := by kernel_rfl
theorem name_ok {x : Str} (h : x ∈ nms) : callN GF (k + 1) "is_name" [.str x] S = some (.bool true, S) := by
  simp only [nms, List.mem_cons, List.not_mem_nil, or_false] at h
  rcases h with rfl | rfl | rfl | rfl <;> kernel_rfl
theorem rising_ok (g : Gd ls) : callN GF (k + 1) "is_rising" [eLs ls] S = some (.bool true, S) := by
  obtain ⟨n, hn, e⟩ := g.nm
  have hc : n = 0 ∨ n = 1 ∨ n = 2 ∨ n = 3 ∨ n = 4 := by omega
  match ls, e with
  | [], _ => kernel_rfl
  | [⟨a, h1, s1⟩], e =>
    rcases hc with rfl | rfl | rfl | rfl | rfl <;> simp [nms] at e <;> (subst e; kernel_rfl)
  | [⟨a, h1, s1⟩, ⟨b, h2, s2⟩], e =>
    rcases hc with rfl | rfl | rfl | rfl | rfl <;> simp [nms] at e <;> (obtain ⟨rfl, rfl⟩ := e; kernel_rfl)
  | [⟨a, h1, s1⟩, ⟨b, h2, s2⟩, ⟨c, h3, s3⟩], e =>
    rcases hc with rfl | rfl | rfl | rfl | rfl <;> simp [nms] at e <;> (obtain ⟨rfl, rfl, rfl⟩ := e; kernel_rfl)
  | [⟨a, h1, s1⟩, ⟨b, h2, s2⟩, ⟨c, h3, s3⟩, ⟨d, h4, s4⟩], e =>
    rcases hc with rfl | rfl | rfl | rfl | rfl <;> simp [nms] at e <;> (obtain ⟨rfl, rfl, rfl, rfl⟩ := e; kernel_rfl)
  | _ :: _ :: _ :: _ :: _ :: _, e =>
    have := congrArg List.length e
    simp [nms] at this
    omega
theorem num_ok {i : Int} (h1 : 1 ≤ i) (h2 : i ≤ 9) : callN GF (k + 2) "is_number" [.int i, .int 1, .int 9] S = some (.bool true, S) := by
  rw [is_number_ok H_isint H_isnum (.int i) 1 9 rfl rfl]
  simp [h1, h2]
abbrev c1 : Ex := .or (.not (.bi (.inst [.tuple]) (.cons (.var 1) .nil))) (.or (.cmp .ne (.bi .len (.cons (.var 1) .nil)) (.cst (.int 3))) (.not (.call "is_name" (.cons (.idx (.var 1) (.cst (.int 0))) .nil))))
abbrev c2 : Ex := .or (.not (.call "is_number" (.cons (.idx (.var 1) (.cst (.int 1))) (.cons (.cst (.int 1)) (.cons (.cst (.int 9)) .nil))))) (.not (.call "is_number" (.cons (.idx (.var 1) (.cst (.int 2))) (.cons (.cst (.int 1)) (.cons (.cst (.int 9)) .nil)))))
theorem or_f {C : CallF} {a b : Ex} {ρ : Env'} {S S1 S2 : Sto} (h1 : run C a .T ρ S = some (.bool false, S1)) (h2 : run C b .T ρ S1 = some (.bool false, S2)) : run C (.or a b) .T ρ S = some (.bool false, S2) := by
  rw [r_orT]; unfold orT; rw [h1]; exact h2
theorem not_T {C : CallF} {a : Ex} {ρ : Env'} {S S1 : Sto} {t : Bool} (h : run C a .T ρ S = some (.bool t, S1)) : run C (.not a) .T ρ S = some (.bool (!t), S1) := by
  rw [r_notT, h]
theorem call1_T {C : CallF} {f : Str} {a : Ex} {ρ : Env'} {S S1 S3 : Sto} {x : D} {t : Bool} (h1 : run C a .V ρ S = some (x, S1)) (h3 : C f [x] S1 = some (.bool t, S3)) : run C (.call f (.cons a .nil)) .T ρ S = some (.bool t, S3) := by
  have := call1_v (m := .V) h1 h3
  rw [r_call, fin_V] at this
  rw [r_call, this]; rfl
theorem call3_T {C : CallF} {f : Str} {a b c : Ex} {ρ : Env'} {S S1 S2 S3 S4 : Sto} {x y z : D} {t : Bool} (h1 : run C a .V ρ S = some (x, S1)) (h2 : run C b .V ρ S1 = some (y, S2)) (h3 : run C c .V ρ S2 = some (z, S3)) (h4 : C f [x, y, z] S3 = some (.bool t, S4)) : run C (.call f (.cons a (.cons b (.cons c .nil)))) .T ρ S = some (.bool t, S4) := by
  have : callF C f (runs C (.cons a (.cons b (.cons c .nil))) .V) ρ S = some (.bool t, S4) := by
    unfold callF
    rw [rs_cons]; unfold consF
    rw [h1]; dsimp only
    rw [rs_cons]; unfold consF
    rw [h2]; dsimp only
    rw [rs_cons]; unfold consF
    rw [h3]; dsimp only
    rw [rs_nil]; dsimp only
    exact h4
  rw [r_call, this]; rfl
theorem loaves_true (g : Gd ls) : callN GF (k + 3) "are_loaves" [eLs ls] S = some (.bool true, S) := by
  rw [call_has H_loaves (k + 2) S rfl]
  have hl := g.ok.len
  have row : ∀ l ∈ ls, ∀ s0 : Slot, execs (callN GF (k + 2)) (.cons (.ifS c1 (.cons (.ret (.cst (.bool false))) .nil) .nil) (.cons (.ifS c2 (.cons (.ret (.cst (.bool false))) .nil) .nil) .nil)) [some (false, eLs ls), some (false, eL l)] S = some (.nx, [some (false, eLs ls), some (false, eL l)], S) := by
    intro l hl s0
    have i0 : ∀ m, m ≠ .T → run (callN GF (k + 2)) (.idx (.var 1) (.cst (.int 0))) m [some (false, eLs ls), some (false, eL l)] S = some (.str l.n, S) := fun m hm => idx_v (varB_v rfl) cst_v rfl rfl rfl hm
    have i1 : ∀ m, m ≠ .T → run (callN GF (k + 2)) (.idx (.var 1) (.cst (.int 1))) m [some (false, eLs ls), some (false, eL l)] S = some (.int l.h, S) := fun m hm => idx_v (varB_v rfl) cst_v rfl rfl rfl hm
    have i2 : ∀ m, m ≠ .T → run (callN GF (k + 2)) (.idx (.var 1) (.cst (.int 2))) m [some (false, eLs ls), some (false, eL l)] S = some (.int l.s, S) := fun m hm => idx_v (varB_v rfl) cst_v rfl rfl rfl hm
    obtain ⟨⟨b1, b2⟩, b3, b4⟩ := g.b l hl
    have h1 : run (callN GF (k + 2)) c1 .T [some (false, eLs ls), some (false, eL l)] S = some (.bool false, S) := by
      refine or_f (not_T (t := true) rfl) (or_f rfl (not_T (t := true) (call1_T (i0 .V (by decide)) (name_ok (g.mem hl)))))
    have h2 : run (callN GF (k + 2)) c2 .T [some (false, eLs ls), some (false, eL l)] S = some (.bool false, S) :=
      or_f (not_T (t := true) (call3_T (i1 .V (by decide)) cst_v cst_v (num_ok b1 (by omega)))) (not_T (t := true) (call3_T (i2 .V (by decide)) cst_v cst_v (num_ok b3 (by omega))))
    refine (ex_nx ((if_f (S1 := S) h1).trans ex_nil)).trans ?_
    exact (ex_nx ((if_f (S1 := S) h2).trans ex_nil)).trans ex_nil
  obtain ⟨ρ', h1, h2⟩ := loopF_R (d := .bool false) (enc := eL) (bnd := bindT (.nm 1)) (S := S) (body := execs (callN GF (k + 2)) (.cons (.ifS c1 (.cons (.ret (.cst (.bool false))) .nil) .nil) (.cons (.ifS c2 (.cons (.ret (.cst (.bool false))) .nil) .nil) .nil))) (fun _ : Lf => false) (fun ρ => ∃ s1, ρ = [some (false, eLs ls), s1]) ls (by
    rintro l hl ρ ⟨s1, rfl⟩
    exact ⟨[some (false, eLs ls), some (false, eL l)], rfl, [some (false, eLs ls), some (false, eL l)], fun z => (Bool.false_ne_true z).elim, fun _ => ⟨.inl (row l hl s1), _, rfl⟩⟩) [some (false, eLs ls), none] ⟨none, rfl⟩
  obtain ⟨h3, s1, rfl⟩ := h2 (by simp)
  have hx : execs (callN GF (k + 2)) b_are_loaves [some (false, eLs ls), none] S = some (.rt (.bool true), [some (false, eLs ls), s1], S) := by
    unfold b_are_loaves
    have h0 : run (callN GF (k + 2)) (.or (.not (.bi (.inst [.tuple]) (.cons (.var 0) .nil))) (.cmp .gt (.bi .len (.cons (.var 0) .nil)) (.cst (.int 8)))) .T [some (false, eLs ls), none] S = some (.bool false, S) := by
      refine or_f (not_T (t := true) rfl) ?_
      have hb : run (callN GF (k + 2)) (.bi .len (.cons (.var 0) .nil)) .B [some (false, eLs ls), none] S = some (.int (ls.length : Nat), S) := by
        rw [bi_1 (S1 := S) (d := eLs ls) (d' := eLs ls) (varB_v rfl) rfl (len_tup _), List.length_map]; rfl
      rw [cmp_v hb cst_v rfl rfl (cmp_gt_int _ _)]
      have : ¬ (8 < (ls.length : Int)) := by omega
      simp [this]
    refine (ex_nx ((if_f (S1 := S) h0).trans ex_nil)).trans ?_
    refine (ex_nx ((for_v (seqt_v (l := ls.map eL) (varV_v rfl))).trans h3)).trans ?_
    refine ex_rt (ret_v (d := .bool true) (S1 := S) ?_)
    exact call1_v (varV_v rfl) (rising_ok g)
  exact (congrArg retV hx).trans rfl
/-! the law's loaves -/
theorem H_next : Has GF "_law_next" 2 4 b__law_next := by kernel_rfl
theorem H_lloaves : Has GF "_law_loaves" 2 3 b__law_loaves := by kernel_rfl
/-- a draw where the store is the drawer alone -/
theorem nxt {o : D} (ho : WfDraw o) {m : Int} (h0 : 0 < m) (h1 : m < 1073741824) : ∃ v o', callN GF (k + 1) "_law_next" [locD 0, .int m] [o] = some (.int v, [o']) ∧ 0 ≤ v ∧ v < m ∧ WfDraw o' := by
  obtain ⟨v, o', h, a, b, c⟩ := next_ok (k := k) (S := [o]) (n := 0) H_next rfl ho h0 h1
  exact ⟨v, o', h, a, b, c⟩
theorem lloaves_ok {o : D} (ho : WfDraw o) : ∃ ls o', callN GF (k + 2) "_law_loaves" [locD 0, .int 4] [o] = some (eLs ls, [o']) ∧ WfDraw o' ∧ Gd ls := by
  rw [call_has H_lloaves (k + 1) [o] rfl]
  obtain ⟨v, o1, hv, v0, v1, w1⟩ := nxt (k := k) ho (m := 5) (by omega) (by omega)
  have env : (List.map (fun x : D => some (false, x)) [locD 0, PyData.int 4] ++ List.replicate (3 - 2) none : Env') = [some (false, locD 0), some (false, .int 4), none] := rfl
  have hit : runIt (callN GF (k + 1)) (.seq (.slice (.lst (.cons (.cst (.str "abe")) (.cons (.cst (.str "bea")) (.cons (.cst (.str "cob")) (.cons (.cst (.str "dot")) .nil))))) (.cst .none) (.asInt (.call "_law_next" (.cons (.var 0) (.cons (.bin .add (.var 1) (.cst (.int 1))) .nil)))))) [some (false, locD 0), some (false, .int 4), none] [o] = some ((nms.take v.toNat).map PyData.str, [o1]) := by
    refine seq_v ?_
    rw [r_slice, fin_V]
    unfold sliceF
    have e1 : run (callN GF (k + 1)) (.lst (.cons (.cst (.str "abe")) (.cons (.cst (.str "bea")) (.cons (.cst (.str "cob")) (.cons (.cst (.str "dot")) .nil))))) .B [some (false, locD 0), some (false, .int 4), none] [o] = some (.list (nms.map PyData.str), [o]) := rfl
    have e2 : run (callN GF (k + 1)) (.asInt (.call "_law_next" (.cons (.var 0) (.cons (.bin .add (.var 1) (.cst (.int 1))) .nil)))) .V [some (false, locD 0), some (false, .int 4), none] [o] = some (.int v, [o1]) := by
      rw [r_asInt]; unfold asIntF
      have := call2_v (C := callN GF (k + 1)) (f := "_law_next") (a := .var 0) (b := .bin .add (.var 1) (.cst (.int 1))) (m := .V) (ρ := [some (false, locD 0), some (false, .int 4), none]) (S := [o]) (varV_v rfl) (bin_v (varB_v rfl) cst_v rfl rfl rfl) hv
      rw [this]
    rw [e1]; dsimp only
    rw [cst_v]; dsimp only
    rw [e2]; dsimp only
    have ev : ((v.toNat : Nat) : Int) = v := by omega
    have hcut := cut_take (l := nms.map PyData.str) (i := v.toNat)
    rw [ev] at hcut
    show some (PyData.list (cutL (nms.map PyData.str) none (some v)), [o1]) = _
    rw [hcut, List.map_take]
  obtain ⟨ys, S2, g1, ⟨o2, rfl, w2⟩, g3⟩ := compF_W (enc := PyData.str) (bnd := bindT (.nm 2)) (tst := runTs (callN GF (k + 1)) .nil) (elt := run (callN GF (k + 1)) (.tup (.cons (.var 2) (.cons (.bin .add (.cst (.int 1)) (.call "_law_next" (.cons (.var 0) (.cons (.cst (.int 5)) .nil)))) (.cons (.bin .add (.cst (.int 1)) (.call "_law_next" (.cons (.var 0) (.cons (.cst (.int 4)) .nil)))) .nil)))) .V) (ρ := wipeE [some (false, locD 0), some (false, .int 4), none] [2])
    (fun T => ∃ o, T = [o] ∧ WfDraw o) (fun x y => ∃ l : Lf, y = eL l ∧ l.n = x ∧ (1 ≤ l.h ∧ l.h ≤ 5) ∧ 1 ≤ l.s ∧ l.s ≤ 4) (nms.take v.toNat) [o1] ⟨o1, rfl, w1⟩ (by
    rintro x hx _ ⟨q, rfl, wq⟩
    obtain ⟨a, q1, ha, a0, a1, wq1⟩ := nxt (k := k) wq (m := 5) (by omega) (by omega)
    obtain ⟨b, q2, hb, b0, b1, wq2⟩ := nxt (k := k) wq1 (m := 4) (by omega) (by omega)
    refine ⟨[some (false, locD 0), some (false, .int 4), some (false, .str x)], eL ⟨x, 1 + a, 1 + b⟩, [q2], rfl, rfl, ?_, ⟨⟨x, 1 + a, 1 + b⟩, rfl, rfl, by simp only []; omega, by simp only []; omega⟩, q2, rfl, wq2⟩
    exact tup3_v (varV_v rfl) (bin_v cst_v (call2_v (varV_v rfl) cst_v ha) rfl rfl rfl) (bin_v cst_v (call2_v (varV_v rfl) cst_v hb) rfl rfl rfl))
  have dec : ∀ {xs : List Str} {ys : List D}, All2 (fun x y => ∃ l : Lf, y = eL l ∧ l.n = x ∧ (1 ≤ l.h ∧ l.h ≤ 5) ∧ 1 ≤ l.s ∧ l.s ≤ 4) xs ys → ∃ ls : List Lf, ys = ls.map eL ∧ ls.map (·.n) = xs ∧ ∀ l ∈ ls, (1 ≤ l.h ∧ l.h ≤ 5) ∧ 1 ≤ l.s ∧ l.s ≤ 4 := by
    intro xs ys h
    induction h with
    | nil => exact ⟨[], rfl, rfl, fun l h => by cases h⟩
    | cons h t ih =>
      obtain ⟨l, rfl, rfl, hb⟩ := h
      obtain ⟨ls, rfl, e, hbs⟩ := ih
      refine ⟨l :: ls, rfl, by simp [e], fun m hm => ?_⟩
      rcases List.mem_cons.mp hm with rfl | hm
      · exact hb
      · exact hbs m hm
  obtain ⟨ls, rfl, e, hb⟩ := dec g3
  refine ⟨ls, o2, ?_, w2, ⟨v.toNat, by omega, e⟩, hb⟩
  have hlen : ls.length ≤ 4 := by
    have := congrArg List.length e
    simp [nms] at this; omega
  have hcm := comp_v (m := .B) hit g1 (le_lim (by rw [List.length_map]; omega))
  rw [fin_B] at hcm
  have hx : execs (callN GF (k + 1)) b__law_loaves [some (false, locD 0), some (false, .int 4), none] [o] = some (.rt (eLs ls), [some (false, locD 0), some (false, .int 4), none], [o2]) := by
    unfold b__law_loaves
    refine ex_rt (ret_v (d := eLs ls) (S1 := [o2]) ?_)
    show run (callN GF (k + 1)) _ .V [some (false, locD 0), some (false, .int 4), none] [o] = _
    rw [bi_1 hcm rfl (tup_lst _)]; rfl
  exact (congrArg retV hx).trans rfl
end
end LW
set_option Elab.async false
set_option linter.all false
set_option maxRecDepth 100000
set_option maxHeartbeats 4000000
/-! k51: the law's loop -/
namespace LW
open PySem PySem.Spec PyProof.Rows L2 CH
theorem mergeD_new {T : Type} (key : T → Str) (val : T → D) (ts : List T) (hn : (ts.map key).Nodup) : mergeD [] (strD key val ts) = some (strD key val ts) := by
  have go : ∀ (rest done : List T), ts = done ++ rest → mergeD (strD key val done) (strD key val rest) = some (strD key val ts) := by
    intro rest
    induction rest with
    | nil => intro done e; rw [List.append_nil] at e; subst e; rfl
    | cons t rest ih =>
      intro done e
      show mergeD (strD key val done) ((.str (key t), val t) :: strD key val rest) = _
      have e1 : toKK (.str (key t)) = some (.k (.inr (key t))) := rfl
      simp only [mergeD, e1]
      rw [putD_new]
      · have : strD key val done ++ [(PyData.str (key t), val t)] = strD key val (done ++ [t]) := by simp [strD]
        rw [this]; exact ih (done ++ [t]) (by simp [e])
      · intro p hp
        unfold strD at hp
        obtain ⟨u, hu, rfl⟩ := List.mem_map.mp hp
        intro z
        injection z with z
        rw [e, List.map_append, List.map_cons] at hn
        exact (List.nodup_append.mp hn).2.2 _ (List.mem_map.mpr ⟨u, hu, rfl⟩) _ (List.mem_cons_self ..) z
      · intro p hp
        unfold strD at hp
        obtain ⟨u, hu, rfl⟩ := List.mem_map.mp hp
        exact ⟨_, rfl⟩
  exact go ts [] rfl
theorem pairsOf_str {T : Type} (key : T → Str) (val : T → D) : ∀ ts : List T, pairsOf (ts.map fun t => .tuple [.str (key t), val t]) = some (strD key val ts)
  | [] => rfl
  | t :: ts => by
    show (match toKey (.str (key t)), pairsOf (ts.map fun t => .tuple [.str (key t), val t]) with
      | some _, some ps => some ((PyData.str (key t), val t) :: ps)
      | _, _ => none) = _
    rw [pairsOf_str key val ts]; rfl
theorem dict_str {T : Type} (key : T → Str) (val : T → D) (ts : List T) (hn : (ts.map key).Nodup) : biD .dict [.list (ts.map fun t => .tuple [.str (key t), val t])] = some (.dict (strD key val ts)) := by
  show (pairsOf (ts.map fun t => .tuple [.str (key t), val t])).bind (fun ps => (mergeD [] ps).map PyData.dict) = _
  rw [pairsOf_str]
  show (mergeD [] (strD key val ts)).map PyData.dict = _
  rw [mergeD_new key val ts hn]; rfl
section
variable {k : Nat} {S : Sto} {ls : List Lf}
abbrev rwD (ls : List Lf) : D := .dict (strD (·.n) (fun l : Lf => .tuple [.int l.h, .int l.s]) ls)
/-- the slots while the loop goes -/
abbrev GE (sc : D) (ls : List Lf) (room hourly lighting : Int) (acc : List D) (s9 s11 : Slot) : Env' :=
  [some (false, sc), some (false, locD 0), some (false, eLs ls), some (false, .int room), some (false, .int hourly), some (false, .int lighting), some (true, rwD ls), none, some (true, .list acc), s9, none, s11, none, none, none, none, none, none]
abbrev sumE : Ex := .bi .sum (.cons (.comp (.idx (.idx (.var 6) (.var 10)) (.cst (.int 1))) (.nm 10) (.seq (.var 11)) .nil [10]) .nil)
abbrev maxE : Ex := .bi .max (.cons (.comp (.idx (.idx (.var 6) (.var 10)) (.cst (.int 0))) (.nm 10) (.seq (.var 11)) .nil [10]) .nil)
theorem rw_comp (ok : Ok ls) {f : Fire} (hm : ∀ n ∈ f, n ∈ ls.map (·.n)) (hl : f.length ≤ 4) (sc : D) (room hourly lighting : Int) (acc : List D) (s9 : Slot) (j : Int) (g : Lf → Int) (hj : ∀ l : Lf, idxD (.tuple [.int l.h, .int l.s]) (.int j) = some (.int (g l))) :
    run (callN GF k) (.comp (.idx (.idx (.var 6) (.var 10)) (.cst (.int j))) (.nm 10) (.seq (.var 11)) .nil [10]) .B (GE sc ls room hourly lighting acc s9 (some (false, eF f))) S = some (.list (f.map fun n => PyData.int (g (lk ls n))), S) := by
  have hc : compF (bindT (.nm 10)) (runTs (callN GF k) .nil) (run (callN GF k) (.idx (.idx (.var 6) (.var 10)) (.cst (.int j))) .V) (wipeE (GE sc ls room hourly lighting acc s9 (some (false, eF f))) [10]) (f.map PyData.str) S = some (f.map fun n => PyData.int (g (lk ls n)), S) :=
    compF_M (fun n => PyData.int (g (lk ls n))) f fun n hn => by
      refine ⟨(GE sc ls room hourly lighting acc s9 (some (false, eF f))).set 10 (some (false, .str n)), rfl, rfl, ?_⟩
      obtain ⟨h1, h2⟩ := lk_mem (hm n hn)
      have ix := strD_idx (·.n) (fun l : Lf => .tuple [.int l.h, .int l.s]) ls (lk ls n) h1 ok.nd
      rw [h2] at ix
      have dd : deref S (rwD ls) = some (rwD ls) := deref_of (strD_noloc _ _ _)
      exact idx_v (idx_v (varB_v rfl) (varB_v rfl) dd rfl ix) cst_v rfl rfl (hj _)
  have hit : runIt (callN GF k) (.seq (.var 11)) (GE sc ls room hourly lighting acc s9 (some (false, eF f))) S = some (f.map PyData.str, S) := seqt_v (varV_v rfl)
  have := comp_v (m := .B) hit hc (le_lim (by rw [List.length_map]; omega))
  rw [fin_B] at this
  exact this
theorem sumE_ok (ok : Ok ls) {f : Fire} (hm : ∀ n ∈ f, n ∈ ls.map (·.n)) (hl : f.length ≤ 4) (sc : D) (room hourly lighting : Int) (acc : List D) (s9 : Slot) :
    run (callN GF k) sumE .B (GE sc ls room hourly lighting acc s9 (some (false, eF f))) S = some (.int (sizeF ls f), S) := by
  have h := rw_comp (k := k) (S := S) ok hm hl sc room hourly lighting acc s9 1 (·.s) fun _ => rfl
  have hs := sum_ints (f.map fun n => (lk ls n).s)
  rw [List.map_map] at hs
  have := bi_1 (m := .B) h rfl hs
  rw [fin_B] at this
  exact this
theorem maxE_ok (ok : Ok ls) {f : Fire} (hm : ∀ n ∈ f, n ∈ ls.map (·.n)) (hl : f.length ≤ 4) (hne : f ≠ []) (sc : D) (room hourly lighting : Int) (acc : List D) (s9 : Slot) :
    run (callN GF k) maxE .V (GE sc ls room hourly lighting acc s9 (some (false, eF f))) S = some (.int (hoursF ls f), S) := by
  have h := rw_comp (k := k) (S := S) ok hm hl sc room hourly lighting acc s9 0 (·.h) fun _ => rfl
  have := bi_1 (m := .V) h rfl (max_of f (fun n => (lk ls n).h) hne)
  rw [fin_V] at this
  exact this
abbrev fitE : Ex := .not (.bi .any (.cons (.comp (.cmp .gt sumE (.var 3)) (.nm 11) (.seq (.var 9)) .nil [11]) .nil))
abbrev rowE : Ex := .tup (.cons (.bi .sum (.cons (.comp maxE (.nm 11) (.seq (.var 9)) .nil [11]) .nil)) (.cons (.bi .len (.cons (.var 9) .nil)) (.cons (.bi .tuple (.cons (.bi .sorted (.cons (.var 9) .nil)) .nil)) .nil)))
theorem any_lt (g : Fire → Int) (room : Int) : ∀ p : Pts, (!(p.any fun f => decide (room < g f))) = p.all fun f => decide (g f ≤ room)
  | [] => rfl
  | f :: p => by
    rw [List.any_cons, List.all_cons, Bool.not_or, any_lt g room p]
    congr 1
    by_cases h : room < g f
    · have : ¬ g f ≤ room := by omega
      simp [h, this]
    · have : g f ≤ room := by omega
      simp [h, this]
theorem fitE_ok (ok : Ok ls) {p : Pts} (hp : OkP ls p) (sc : D) (room hourly lighting : Int) (acc : List D) (s11 : Slot) :
    run (callN GF k) fitE .T (GE sc ls room hourly lighting acc (some (false, eP p)) s11) S = some (.bool (fits ls room p), S) := by
  have hc : compF (bindT (.nm 11)) (runTs (callN GF k) .nil) (run (callN GF k) (.cmp .gt sumE (.var 3)) .V) (wipeE (GE sc ls room hourly lighting acc (some (false, eP p)) s11) [11]) (p.map eF) S = some (p.map fun f => PyData.bool (decide (room < sizeF ls f)), S) :=
    compF_M (fun f => PyData.bool (decide (room < sizeF ls f))) p fun f hf =>
      ⟨GE sc ls room hourly lighting acc (some (false, eP p)) (some (false, eF f)), rfl, rfl, cmp_v (sumE_ok ok (hp.mem f hf) (hp.lenF f hf) sc room hourly lighting acc _) (varB_v rfl) rfl rfl (cmp_gt_int _ _)⟩
  have hit : runIt (callN GF k) (.seq (.var 9)) (GE sc ls room hourly lighting acc (some (false, eP p)) s11) S = some (p.map eF, S) := seqt_v (varV_v rfl)
  have hcm := comp_v (m := .B) hit hc (le_lim (by rw [List.length_map]; have := hp.len; omega))
  rw [fin_B] at hcm
  have ha := any_bools (p.map fun f => decide (room < sizeF ls f))
  rw [List.map_map] at ha
  have hb : run (callN GF k) (.bi .any (.cons (.comp (.cmp .gt sumE (.var 3)) (.nm 11) (.seq (.var 9)) .nil [11]) .nil)) .T (GE sc ls room hourly lighting acc (some (false, eP p)) s11) S = some (.bool ((p.map fun f => decide (room < sizeF ls f)).any id), S) := by
    rw [bi_1 hcm rfl ha]; rfl
  rw [not_T hb, List.any_map]
  have e := any_lt (sizeF ls) room p
  have e2 : (p.any (id ∘ fun f => decide (room < sizeF ls f))) = p.any fun f => decide (room < sizeF ls f) := rfl
  rw [e2, e]; rfl
theorem rowE_ok (ok : Ok ls) {p : Pts} (hp : OkP ls p) (sc : D) (room hourly lighting : Int) (acc : List D) (s11 : Slot) :
    run (callN GF k) rowE .V (GE sc ls room hourly lighting acc (some (false, eP p)) s11) S = some (rowD ls p, S) := by
  have hc : compF (bindT (.nm 11)) (runTs (callN GF k) .nil) (run (callN GF k) maxE .V) (wipeE (GE sc ls room hourly lighting acc (some (false, eP p)) s11) [11]) (p.map eF) S = some (p.map fun f => PyData.int (hoursF ls f), S) :=
    compF_M (fun f => PyData.int (hoursF ls f)) p fun f hf =>
      ⟨GE sc ls room hourly lighting acc (some (false, eP p)) (some (false, eF f)), rfl, rfl, maxE_ok ok (hp.mem f hf) (hp.lenF f hf) (hp.ne f hf) sc room hourly lighting acc _⟩
  have hit : runIt (callN GF k) (.seq (.var 9)) (GE sc ls room hourly lighting acc (some (false, eP p)) s11) S = some (p.map eF, S) := seqt_v (varV_v rfl)
  have hcm := comp_v (m := .B) hit hc (le_lim (by rw [List.length_map]; have := hp.len; omega))
  rw [fin_B] at hcm
  have hs := sum_ints (p.map (hoursF ls))
  rw [List.map_map] at hs
  have h1 := bi_1 (m := .V) hcm rfl hs
  rw [fin_V] at h1
  exact tup3_v h1 (plen_v rfl) (sort_v rfl hp.ne)
abbrev bodyG : Sxs := .cons (.ifS fitE (.cons (.app 8 rowE) .nil) .nil) .nil
abbrev loopG : Sx := .forS (.nm 9) (.seq (.call "_law_partings" (.cons (.comp (.idx (.var 7) (.cst (.int 0))) (.nm 7) (.seq (.var 2)) .nil [7]) .nil))) bodyG
def goodP (ls : List Lf) (room : Int) (P : List Pts) : List D := (P.filter (fits ls room)).map (rowD ls)
theorem loopG_ok (ok : Ok ls) (sc : D) (room hourly lighting : Int) :
    ∃ t9, exec (callN GF (k + 1)) loopG (GE sc ls room hourly lighting [] none none) S = some (.nx, GE sc ls room hourly lighting (goodP ls room (partsL (ls.map (·.n)))) t9 none, S) := by
  have hl4 := ok.len
  have hnames : run (callN GF (k + 1)) (.comp (.idx (.var 7) (.cst (.int 0))) (.nm 7) (.seq (.var 2)) .nil [7]) .V (GE sc ls room hourly lighting [] none none) S = some (.list ((ls.map (·.n)).map PyData.str), S) := by
    have hc : compF (bindT (.nm 7)) (runTs (callN GF (k + 1)) .nil) (run (callN GF (k + 1)) (.idx (.var 7) (.cst (.int 0))) .V) (wipeE (GE sc ls room hourly lighting [] none none) [7]) (ls.map eL) S = some (ls.map fun l => PyData.str l.n, S) :=
      compF_M (fun l => PyData.str l.n) ls fun l _ => ⟨(GE sc ls room hourly lighting [] none none).set 7 (some (false, eL l)), rfl, rfl, idx_v (varB_v rfl) cst_v rfl rfl rfl⟩
    have hit : runIt (callN GF (k + 1)) (.seq (.var 2)) (GE sc ls room hourly lighting [] none none) S = some (ls.map eL, S) := seqt_v (varV_v rfl)
    have := comp_v (m := .V) hit hc (le_lim (by rw [List.length_map]; omega))
    rw [fin_V] at this
    rw [this, List.map_map]; rfl
  have hfr : frz (GE sc ls room hourly lighting [] none none) (escI (.seq (.call "_law_partings" (.cons (.comp (.idx (.var 7) (.cst (.int 0))) (.nm 7) (.seq (.var 2)) .nil [7]) .nil)))) = GE sc ls room hourly lighting [] none none := rfl
  have hit : runIt (callN GF (k + 1)) (.seq (.call "_law_partings" (.cons (.comp (.idx (.var 7) (.cst (.int 0))) (.nm 7) (.seq (.var 2)) .nil [7]) .nil))) (GE sc ls room hourly lighting [] none none) S = some ((partsL (ls.map (·.n))).map eP, S) :=
    seq_v (call1_v hnames (lparts_ok (ls := ls) (ls.map (·.n)) (fun _ h => h) (by simpa using hl4)))
  rw [for_v (by rw [hfr]; exact hit), hfr]
  obtain ⟨shp, cnt⟩ := partsL_shape (ls := ls) (ls.map (·.n)) (fun _ h => h) (by simpa using hl4)
  rw [List.length_map] at shp cnt
  obtain ⟨ρ', S', h1, h2⟩ := loopF_I (enc := eP) (bnd := bindT (.nm 9)) (S := S) (body := execs (callN GF (k + 1)) bodyG)
    (fun done ρ T => T = S ∧ ∃ t9, ρ = GE sc ls room hourly lighting (goodP ls room done) t9 none) (partsL (ls.map (·.n))) (ρ := GE sc ls room hourly lighting [] none none) ⟨rfl, none, rfl⟩ (by
    rintro done p rest hd ρ T ⟨rfl, t9, rfl⟩
    have hp : OkP ls p := (shp p (by rw [hd]; simp)).ok hl4
    have hlen : (goodP ls room done).length < lim := by
      have h1 : done.length ≤ (partsL (ls.map (·.n))).length := by rw [hd]; simp
      have h2 := List.length_filter_le (fits ls room) done
      have h3 : 5 ^ ls.length ≤ 625 := Nat.pow_le_pow_right (n := 5) (by omega) hl4
      unfold goodP
      rw [List.length_map]
      exact Nat.lt_of_le_of_lt (m := 625) (by omega) (by decide)
    have hc := fitE_ok (k := k + 1) (S := T) ok hp sc room hourly lighting (goodP ls room done) none
    have hfc : frz (GE sc ls room hourly lighting (goodP ls room done) (some (false, eP p)) none) (esc fitE .T) = GE sc ls room hourly lighting (goodP ls room done) (some (false, eP p)) none := rfl
    have hfe : frz (GE sc ls room hourly lighting (goodP ls room done) (some (false, eP p)) none) (esc rowE .V) = GE sc ls room hourly lighting (goodP ls room done) (some (false, eP p)) none := rfl
    refine ⟨GE sc ls room hourly lighting (goodP ls room done) (some (false, eP p)) none, GE sc ls room hourly lighting (goodP ls room (done ++ [p])) (some (false, eP p)) none, T, rfl, .inl ?_, rfl, _, rfl⟩
    cases hb : fits ls room p with
    | true =>
      rw [hb] at hc
      refine (ex_nx ((if_t (by rw [hfc]; exact hc)).trans (by
        rw [hfc]
        exact (ex_nx (app_v (v := rowD ls p) (acc := goodP ls room done) (T1 := T) (by rw [hfe]; rfl) (by rw [hfe]; exact rowE_ok ok hp sc room hourly lighting _ none) hlen)).trans (by rw [hfe]; exact ex_nil)))).trans ?_
      rw [ex_nil]
      have : goodP ls room (done ++ [p]) = goodP ls room done ++ [rowD ls p] := by
        unfold goodP
        rw [List.filter_append, List.filter_cons, if_pos hb, List.filter_nil, List.map_append]; rfl
      rw [this]; rfl
    | false =>
      rw [hb] at hc
      refine (ex_nx ((if_f (by rw [hfc]; exact hc)).trans (by rw [hfc]; exact ex_nil))).trans ?_
      rw [ex_nil]
      have : goodP ls room (done ++ [p]) = goodP ls room done := by
        unfold goodP
        rw [List.filter_append, List.filter_cons, if_neg (by rw [hb]; decide), List.filter_nil, List.append_nil]
      rw [this])
  obtain ⟨rfl, t9, rfl⟩ := h2
  exact ⟨t9, h1⟩
end
end LW
set_option Elab.async false
set_option linter.all false
set_option maxRecDepth 100000
set_option maxHeartbeats 4000000
/-! k51: the law -/
namespace LW
open PySem PySem.Spec PyProof.Rows L2 CH
theorem perm_sum {l m : List Int} (h : l.Perm m) : l.sum = m.sum := by
  induction h with
  | nil => rfl
  | cons x _ ih => simp [ih]
  | swap x y l => simp; omega
  | trans _ _ a b => rw [a, b]
theorem H_law : Has GF "law" 1 18 b_law := by kernel_rfl
theorem H_draw : Has GF "_law_draw" 1 1 b__law_draw := by kernel_rfl
theorem H_same : Has GF "_law_same" 2 3 b__law_same := by kernel_rfl
/-- sorted, as a parting -/
theorem sP_parts (ls : List Lf) (p : Pts) (hp : OkP ls p) : ∃ q : Pts, sP p = eP q ∧ OkP ls q ∧ hours ls q = hours ls p ∧ q.length = p.length := by
  have perm := srt_perm (p.map eF)
  have ex : ∀ (l : List D), (∀ d ∈ l, ∃ f : Fire, d = eF f) → ∃ q : Pts, l = q.map eF := by
    intro l
    induction l with
    | nil => intro _; exact ⟨[], rfl⟩
    | cons d l ih =>
      intro h
      obtain ⟨f, rfl⟩ := h d (by simp)
      obtain ⟨q, rfl⟩ := ih fun e he => h e (by simp [he])
      exact ⟨f :: q, rfl⟩
  obtain ⟨q, hq⟩ := ex (srt (p.map eF)) fun d hd => by
    have := perm.mem_iff.mp hd
    obtain ⟨f, _, rfl⟩ := List.mem_map.mp this
    exact ⟨f, rfl⟩
  -- the fires again
  have unS : ∀ (f g : Fire), eF f = eF g → f = g := by
    intro f g h
    injection h with h
    induction f generalizing g with
    | nil => cases g with
      | nil => rfl
      | cons y ys => cases h
    | cons x xs ih => cases g with
      | nil => cases h
      | cons y ys =>
        rw [List.map_cons, List.map_cons] at h
        injection h with h1 h2
        injection h1 with h1
        rw [h1, ih ys h2]
  let dec : D → Fire := fun d => match d with
    | .tuple l => l.filterMap fun x => match x with
      | .str s => some s
      | _ => none
    | _ => []
  have hdec : ∀ f, dec (eF f) = f := by
    intro f
    show (f.map PyData.str).filterMap _ = f
    induction f with
    | nil => rfl
    | cons x xs ih => simp only [List.map_cons, List.filterMap_cons, ih]
  have pq : q.Perm p := by
    rw [hq] at perm
    have := perm.map dec
    rw [List.map_map, List.map_map] at this
    have e : ∀ r : Pts, r.map (dec ∘ eF) = r := fun r => by
      induction r with
      | nil => rfl
      | cons f r ih => rw [List.map_cons, ih]; simp [hdec]
    rw [e, e] at this
    exact this
  refine ⟨q, by unfold sP eP; rw [hq], ⟨fun f hf => hp.mem f (pq.mem_iff.mp hf), fun f hf => hp.ne f (pq.mem_iff.mp hf), by rw [pq.length_eq]; exact hp.len, fun f hf => hp.lenF f (pq.mem_iff.mp hf)⟩, ?_, pq.length_eq⟩
  unfold hours
  exact perm_sum (pq.map (hoursF ls))
/-! sameness -/
theorem sm_sP {ls : List Lf} {p : Pts} (hp : OkP ls p) : Sm 2 (sP p) := by
  obtain ⟨q, e, hq, _⟩ := sP_parts ls p hp
  rw [e]
  refine ⟨le_lim (by rw [List.length_map]; have := hq.len; omega), fun x hx => ?_⟩
  obtain ⟨f, hf, rfl⟩ := List.mem_map.mp hx
  refine ⟨le_lim (by rw [List.length_map]; have := hq.lenF f hf; omega), fun y hy => ?_⟩
  obtain ⟨z, _, rfl⟩ := List.mem_map.mp hy
  trivial
section
variable {k : Nat} {S : Sto} {ls : List Lf}
theorem same2 {d : D} (h : Sm 2 d) : callN GF (k + 3) "_law_same" [d, d] S = some (.bool true, S) := by
  have := same_ok H_same 2 d h k S
  rw [show 2 + k + 1 = k + 3 by omega] at this
  exact this
theorem same0 (d : D) (h : Sm 0 d) : callN GF (k + 1) "_law_same" [d, d] S = some (.bool true, S) := by
  have := same_ok H_same 0 d h k S
  rw [show 0 + k + 1 = k + 1 by omega] at this
  exact this
/-- the wrong ones -/
def wrongs : List D := [.none, .list [.tuple [.str "abe", .int 3, .int 2]], .tuple [.tuple [.str "abe", .int 3]], .tuple [.tuple [.str "Abe", .int 3, .int 2]], .tuple [.tuple [.str "abe", .int 0, .int 2]], .tuple [.tuple [.str "abe", .int 10, .int 2]], .tuple [.tuple [.str "abe", .int 3, .int 0]], .tuple [.tuple [.str "abe", .int 3, .int 10]],
  .tuple [.tuple [.str "abe", .int 3, .int 2], .tuple [.str "abe", .int 3, .int 2]], .tuple [.tuple [.str "bea", .int 3, .int 2], .tuple [.str "abe", .int 3, .int 2]], .tuple [.tuple [.str "abe", .int 3, .int 2], .tuple [.str "abe", .int 4, .int 2]],
  .tuple ((["la", "lb", "lc", "ld", "le", "lf", "lg", "lh", "li"] : List Str).map fun x => .tuple [.str x, .int 1, .int 1])]
theorem wrong_false : ∀ d ∈ wrongs, callN GF (k + 4) "are_loaves" [d] S = some (.bool false, S) := by
  intro d hd
  simp only [wrongs, List.mem_cons, List.not_mem_nil, or_false] at hd
  rcases hd with rfl | rfl | rfl | rfl | rfl | rfl | rfl | rfl | rfl | rfl | rfl | rfl <;> kernel_rfl
/-- the law's slots, from the loop on -/
abbrev FE (sc : D) (ls : List Lf) (room hourly lighting : Int) (bg : Bool) (good : List D) (s9 s12 s15 : Slot) : Env' :=
  [some (false, sc), some (false, locD 0), some (false, eLs ls), some (false, .int room), some (false, .int hourly), some (false, .int lighting), some (true, rwD ls), none, some (bg, .list good), s9, none, none, s12, none, none, s15, none, none]
theorem leastD_idx {P : List Pts} (hP : P ≠ []) : idxD (minD' (P.map (rowD ls))) (.int 2) = some (leastD ls P) := (least_idx (S := []) (ls := ls) hP).1
theorem ne_nil {l : List D} (h : okDs l = true) (hd : okD (.list l) = true) : cmpD .ne (.list l) (.list []) = some (!l.isEmpty) := by
  show (eqD (.list l) (.list [])).map (!·) = _
  have : eqD (.list l) (.list []) = some l.isEmpty := by
    unfold eqD
    rw [hd]
    show (if (true && (PyData.list []).plain) = true then some (PyData.eqv (.list l) (.list [])) else none) = _
    rw [if_pos (by rfl)]
    cases l with
    | nil => rfl
    | cons x xs => rfl
  rw [this]; rfl
theorem okD_rows (P : List Pts) : okD (.list (P.map (rowD ls))) = true := by
  obtain ⟨h1, h2⟩ := plainAll_seq (sh_plain shR) (rows_sh ls P)
  unfold okD
  have e1 : (PyData.list (P.map (rowD ls))).plain = true := by simpa only [PyData.plain] using h1
  have e2 : (PyData.list (P.map (rowD ls))).depth ≤ 60 := by
    have : shR.dep = 3 := by decide
    simp only [PyData.depth]; omega
  rw [e1, Bool.true_and]
  exact Nat.ble_eq.mpr e2
abbrev chk1 : Ex := .or (.cmp .isnot (.call "are_loaves" (.cons (.var 2) .nil)) (.cst (.bool true))) (.not (.call "_law_same" (.cons (.call "least_fires" (.cons (.var 2) (.cons (.var 3) .nil))) (.cons (.ite (.cmp .ne (.var 8) (.lst .nil)) (.idx (.bi .min (.cons (.var 8) .nil)) (.cst (.int 2))) (.cst .none)) .nil))))
theorem call2_T {C : CallF} {f : Str} {a b : Ex} {ρ : Env'} {S S1 S2 S3 : Sto} {x y : D} {t : Bool} (h1 : run C a .V ρ S = some (x, S1)) (h2 : run C b .V ρ S1 = some (y, S2)) (h3 : C f [x, y] S2 = some (.bool t, S3)) : run C (.call f (.cons a (.cons b .nil))) .T ρ S = some (.bool t, S3) := by
  have := call2_v (m := .V) h1 h2 h3
  rw [r_call, fin_V] at this
  rw [r_call, this]; rfl
theorem chk1_ok (g : Gd ls) (sc : D) (room hourly lighting : Int) (s9 : Slot) :
    run (callN GF (k + 5)) chk1 .T (FE sc ls room hourly lighting true ((foundP ls room ls).map (rowD ls)) s9 none none) S = some (.bool false, S) := by
  have h1 : run (callN GF (k + 5)) (.cmp .isnot (.call "are_loaves" (.cons (.var 2) .nil)) (.cst (.bool true))) .T (FE sc ls room hourly lighting true ((foundP ls room ls).map (rowD ls)) s9 none none) S = some (.bool false, S) :=
    cmp_v (call1_v (varV_v rfl) (loaves_true (k := k + 2) g)) cst_v rfl rfl rfl
  have h2 : run (callN GF (k + 5)) (.call "least_fires" (.cons (.var 2) (.cons (.var 3) .nil))) .V (FE sc ls room hourly lighting true ((foundP ls room ls).map (rowD ls)) s9 none none) S = some (leastD ls (foundP ls room ls), S) :=
    call2_v (varV_v rfl) (varV_v rfl) (least_ok (k := k + 3) g.ok room)
  have h3 : run (callN GF (k + 5)) (.ite (.cmp .ne (.var 8) (.lst .nil)) (.idx (.bi .min (.cons (.var 8) .nil)) (.cst (.int 2))) (.cst .none)) .V (FE sc ls room hourly lighting true ((foundP ls room ls).map (rowD ls)) s9 none none) S = some (leastD ls (foundP ls room ls), S) := by
    have hne := ne_nil (okDs_sh (rows_sh ls (foundP ls room ls)) (by decide)) (okD_rows (ls := ls) (foundP ls room ls))
    have ht : run (callN GF (k + 5)) (.cmp .ne (.var 8) (.lst .nil)) .T (FE sc ls room hourly lighting true ((foundP ls room ls).map (rowD ls)) s9 none none) S = some (.bool (!((foundP ls room ls).map (rowD ls)).isEmpty), S) :=
      cmp_v (varB_v rfl) (show run (callN GF (k + 5)) (.lst .nil) .B _ S = some (.list [], S) from rfl) rfl rfl hne
    by_cases hP : foundP ls room ls = []
    · rw [ite_f (S1 := S) (by rw [ht, hP]; rfl), cst_v]
      unfold leastD; rw [if_pos hP]
    · have e : ((foundP ls room ls).map (rowD ls)).isEmpty = false := by
        cases h : foundP ls room ls with
        | nil => exact absurd h hP
        | cons x xs => rfl
      rw [ite_t (S1 := S) (by rw [ht, e]; rfl)]
      have hm := (min_sh (rows_sh ls (foundP ls room ls)) (by decide) (by simpa using hP)).1
      have hr := bi_1 (C := callN GF (k + 5)) (m := .B) (ρ := FE sc ls room hourly lighting true ((foundP ls room ls).map (rowD ls)) s9 none none) (a := .var 8) (S := S) (S1 := S) (varB_v rfl) rfl hm
      rw [fin_B] at hr
      obtain ⟨g1, g2, _⟩ := least_idx (S := S) (ls := ls) hP
      exact idx_v hr cst_v g2 rfl g1
  have sm : Sm 2 (leastD ls (foundP ls room ls)) := by
    by_cases hP : foundP ls room ls = []
    · unfold leastD; rw [if_pos hP]; trivial
    · obtain ⟨_, _, p, hp, e⟩ := least_idx (S := S) (ls := ls) hP
      rw [e]
      exact sm_sP (found_ok g.ok room p hp)
  exact or_f h1 (not_T (t := true) (call2_T h2 h3 (same2 (k := k + 2) sm)))
end
end LW
set_option Elab.async false
set_option linter.all false
set_option maxRecDepth 100000
set_option maxHeartbeats 4000000
/-! k51: the law, to its end -/
namespace LW
open PySem PySem.Spec PyProof.Rows L2 CH
section
variable {k : Nat} {S : Sto} {ls : List Lf}
abbrev woodE : Ex := .comp (.bin .add (.bin .mul (.var 13) (.var 4)) (.bin .mul (.var 14) (.var 5))) (.tup (.cons (.nm 13) (.cons (.nm 14) (.cons (.nm 9) .nil)))) (.seq (.var 8)) .nil [13, 14, 9]
def woodD (ls : List Lf) (hourly lighting : Int) (P : List Pts) : List D := (P.map (bund ls hourly lighting)).map PyData.int
theorem wood_ok (P : List Pts) (hP : P.length ≤ 1000) (sc : D) (room : Int) {hourly lighting : Int} (h1 : small hourly = true) (h2 : small lighting = true) (s9 : Slot) :
    run (callN GF k) woodE .V (FE sc ls room hourly lighting false (P.map (rowD ls)) s9 none none) S = some (.list (woodD ls hourly lighting P), S) := by
  have hc : compF (bindT (.tup (.cons (.nm 13) (.cons (.nm 14) (.cons (.nm 9) .nil))))) (runTs (callN GF k) .nil) (run (callN GF k) (.bin .add (.bin .mul (.var 13) (.var 4)) (.bin .mul (.var 14) (.var 5))) .V) (wipeE (FE sc ls room hourly lighting false (P.map (rowD ls)) s9 none none) [13, 14, 9]) (P.map (rowD ls)) S = some (P.map fun p => PyData.int (bund ls hourly lighting p), S) :=
    compF_M (fun p => PyData.int (bund ls hourly lighting p)) P fun p hp => by
      refine ⟨((FE sc ls room hourly lighting false (P.map (rowD ls)) (some (false, sP p)) none none).set 13 (some (false, .int (hours ls p)))).set 14 (some (false, .int (p.length : Nat))), rfl, rfl, ?_⟩
      have e : bund ls hourly lighting p = hours ls p * hourly + (p.length : Nat) * lighting := by unfold bund; rw [Int.mul_comm hourly, Int.mul_comm lighting]
      rw [e]
      exact bin_v (bin_v (varB_v rfl) (varB_v rfl) rfl rfl (bin_mul_int (.inr h1))) (bin_v (varB_v rfl) (varB_v rfl) rfl rfl (bin_mul_int (.inr h2))) rfl rfl rfl
  have hit : runIt (callN GF k) (.seq (.var 8)) (FE sc ls room hourly lighting false (P.map (rowD ls)) s9 none none) S = some (P.map (rowD ls), S) := seq_v (varV_v rfl)
  have := comp_v (m := .V) hit hc (le_lim (by rw [List.length_map]; omega))
  rw [fin_V] at this
  rw [this]
  unfold woodD
  rw [List.map_map]; rfl
theorem okD_ints (ns : List Int) : okD (.list (ns.map PyData.int)) = true := by
  have h : HasAll .int (ns.map PyData.int) := HasAll.of fun d hd => by
    obtain ⟨x, _, rfl⟩ := List.mem_map.mp hd
    exact .int x
  obtain ⟨h1, h2⟩ := plainAll_seq (sh_plain .int) h
  unfold okD
  have e1 : (PyData.list (ns.map PyData.int)).plain = true := by simpa only [PyData.plain] using h1
  have e2 : (PyData.list (ns.map PyData.int)).depth ≤ 60 := by
    have : Sh.int.dep = 0 := rfl
    simp only [PyData.depth]; omega
  rw [e1, Bool.true_and]
  exact Nat.ble_eq.mpr e2
abbrev chk2 : Ex := .not (.call "_law_same" (.cons (.call "least_bundles" (.cons (.var 2) (.cons (.var 3) (.cons (.var 4) (.cons (.var 5) .nil))))) (.cons (.ite (.cmp .ne (.var 12) (.lst .nil)) (.bi .min (.cons (.var 12) .nil)) (.cst .none)) .nil)))
theorem chk2_ok (g : Gd ls) (sc : D) (room : Int) {hourly lighting : Int} (h1 : small hourly = true) (h2 : small lighting = true) (s9 : Slot) :
    run (callN GF (k + 5)) chk2 .T (FE sc ls room hourly lighting false ((foundP ls room ls).map (rowD ls)) s9 (some (true, .list (woodD ls hourly lighting (foundP ls room ls)))) none) S = some (.bool false, S) := by
  have ok := g.ok
  generalize hP : foundP ls room ls = P
  have a1 : run (callN GF (k + 5)) (.call "least_bundles" (.cons (.var 2) (.cons (.var 3) (.cons (.var 4) (.cons (.var 5) .nil))))) .V (FE sc ls room hourly lighting false (P.map (rowD ls)) s9 (some (true, .list (woodD ls hourly lighting P))) none) S = some (leastI (P.map (bund ls hourly lighting)), S) := by
    rw [← hP]
    exact call4_v (varV_v rfl) (varV_v rfl) (varV_v rfl) (varV_v rfl) (lbund_ok (k := k + 2) ok room h1 h2)
  have a2 : run (callN GF (k + 5)) (.ite (.cmp .ne (.var 12) (.lst .nil)) (.bi .min (.cons (.var 12) .nil)) (.cst .none)) .V (FE sc ls room hourly lighting false (P.map (rowD ls)) s9 (some (true, .list (woodD ls hourly lighting P))) none) S = some (leastI (P.map (bund ls hourly lighting)), S) := by
    have hne := ne_nil (l := woodD ls hourly lighting P) (okDs_sh (s := .int) (HasAll.of fun d hd => by
      obtain ⟨x, _, rfl⟩ := List.mem_map.mp hd
      exact .int x) (by decide)) (okD_ints _)
    have ht : run (callN GF (k + 5)) (.cmp .ne (.var 12) (.lst .nil)) .T (FE sc ls room hourly lighting false (P.map (rowD ls)) s9 (some (true, .list (woodD ls hourly lighting P))) none) S = some (.bool (!(woodD ls hourly lighting P).isEmpty), S) :=
      cmp_v (varB_v rfl) (show run (callN GF (k + 5)) (.lst .nil) .B _ S = some (.list [], S) from rfl) rfl rfl hne
    cases P with
    | nil => rw [ite_f (S1 := S) ht, cst_v]; rfl
    | cons p P =>
      rw [ite_t (S1 := S) ht]
      have hm := min_ints (bund ls hourly lighting p) (P.map (bund ls hourly lighting))
      have hr := bi_1 (C := callN GF (k + 5)) (m := .V) (ρ := FE sc ls room hourly lighting false ((p :: P).map (rowD ls)) s9 (some (true, .list (woodD ls hourly lighting (p :: P)))) none) (a := .var 12) (S := S) (S1 := S) (varB_v rfl) rfl hm
      rw [fin_V] at hr
      exact hr
  have sm : Sm 0 (leastI (P.map (bund ls hourly lighting))) := by cases P <;> trivial
  exact not_T (t := true) (call2_T a1 a2 (same0 (k := k + 4) _ sm))
abbrev nextK : Ex := .call "_law_next" (.cons (.var 1) (.cons (.bi .len (.cons (.var 8) .nil)) .nil))
abbrev chk3 : Ex := .not (.call "_law_same" (.cons (.call "bundles" (.cons (.var 2) (.cons (.idx (.idx (.var 8) (.var 15)) (.cst (.int 2))) (.cons (.var 4) (.cons (.var 5) .nil))))) (.cons (.idx (.var 12) (.var 15)) .nil)))
theorem idx_lst {l : List D} {i : Nat} (h : i < l.length) : idxD (.list l) (.int (i : Nat)) = some l[i] := by
  show L2.atI l (i : Int) = _
  rw [atI_nat (by omega) (by omega)]; simp [h]
theorem chk3_ok (g : Gd ls) (sc : D) (room : Int) {hourly lighting : Int} (h1 : small hourly = true) (h2 : small lighting = true) (s9 : Slot) {i : Nat} (hi : i < (foundP ls room ls).length) :
    run (callN GF (k + 5)) chk3 .T (FE sc ls room hourly lighting false ((foundP ls room ls).map (rowD ls)) s9 (some (true, .list (woodD ls hourly lighting (foundP ls room ls)))) (some (false, .int (i : Nat)))) S = some (.bool false, S) := by
  have ok := g.ok
  obtain ⟨q, eq1, hq, eh, el⟩ := sP_parts ls (foundP ls room ls)[i] (found_ok ok room _ (List.getElem_mem hi))
  have eb : bund ls hourly lighting q = bund ls hourly lighting (foundP ls room ls)[i] := by unfold bund; rw [eh, el]
  have x1 : idxD (.list ((foundP ls room ls).map (rowD ls))) (.int (i : Nat)) = some (rowD ls (foundP ls room ls)[i]) := by rw [idx_lst (by simpa using hi)]; simp
  have x2 : idxD (.list (woodD ls hourly lighting (foundP ls room ls))) (.int (i : Nat)) = some (.int (bund ls hourly lighting (foundP ls room ls)[i])) := by rw [idx_lst (by simpa [woodD] using hi)]; simp [woodD]
  have a0 : run (callN GF (k + 5)) (.idx (.idx (.var 8) (.var 15)) (.cst (.int 2))) .V (FE sc ls room hourly lighting false ((foundP ls room ls).map (rowD ls)) s9 (some (true, .list (woodD ls hourly lighting (foundP ls room ls)))) (some (false, .int (i : Nat)))) S = some (eP q, S) := by
    have := idx_v (C := callN GF (k + 5)) (m := .V) (a := .idx (.var 8) (.var 15)) (b := .cst (.int 2)) (ρ := FE sc ls room hourly lighting false ((foundP ls room ls).map (rowD ls)) s9 (some (true, .list (woodD ls hourly lighting (foundP ls room ls)))) (some (false, .int (i : Nat)))) (S := S) (idx_v (varB_v rfl) (varB_v rfl) rfl rfl x1) cst_v rfl rfl (show idxD (rowD ls (foundP ls room ls)[i]) (.int 2) = some (sP (foundP ls room ls)[i]) from rfl)
    rw [eq1] at this
    exact this
  have a1 : run (callN GF (k + 5)) (.call "bundles" (.cons (.var 2) (.cons (.idx (.idx (.var 8) (.var 15)) (.cst (.int 2))) (.cons (.var 4) (.cons (.var 5) .nil))))) .V (FE sc ls room hourly lighting false ((foundP ls room ls).map (rowD ls)) s9 (some (true, .list (woodD ls hourly lighting (foundP ls room ls)))) (some (false, .int (i : Nat)))) S = some (.int (bund ls hourly lighting (foundP ls room ls)[i]), S) := by
    rw [← eb]
    exact call4_v (varV_v rfl) a0 (varV_v rfl) (varV_v rfl) (bund_ok (k := k + 3) ok hq h1 h2)
  have a2 : run (callN GF (k + 5)) (.idx (.var 12) (.var 15)) .V (FE sc ls room hourly lighting false ((foundP ls room ls).map (rowD ls)) s9 (some (true, .list (woodD ls hourly lighting (foundP ls room ls)))) (some (false, .int (i : Nat)))) S = some (.int (bund ls hourly lighting (foundP ls room ls)[i]), S) :=
    idx_v (varB_v rfl) (varB_v rfl) rfl rfl x2
  exact not_T (t := true) (call2_T a1 a2 (same0 (k := k + 4) _ trivial))
end
end LW
set_option Elab.async false
set_option linter.all false
set_option maxRecDepth 100000
set_option maxHeartbeats 4000000
/-! k51: the law, put together -/
namespace LW
open PySem PySem.Spec PyProof.Rows L2 CH
theorem frz_len (ρ : Env') (l : List Nat) : (frz ρ l).length = ρ.length := by
  have h1 : ∀ (ρ : Env') (i : Nat), (frz1 ρ i).length = ρ.length := fun ρ i => by
    unfold frz1; split <;> simp
  unfold frz
  induction l generalizing ρ with
  | nil => rfl
  | cons i l ih => rw [List.foldl_cons, ih, h1]
abbrev e0 (sc : D) : Env' := [some (false, sc), none, none, none, none, none, none, none, none, none, none, none, none, none, none, none, none, none]
abbrev wrongE : Ex := (.lst (.cons (.cst .none) (.cons (.lst (.cons (.var 16) .nil)) (.cons (.tup (.cons (.slice (.var 16) (.cst .none) (.asInt (.cst (.int 2)))) .nil)) (.cons (.tup (.cons (.tup (.cons (.cst (.str "Abe")) (.cons (.cst (.int 3)) (.cons (.cst (.int 2)) .nil)))) .nil)) (.cons (.tup (.cons (.tup (.cons (.cst (.str "abe")) (.cons (.cst (.int 0)) (.cons (.cst (.int 2)) .nil)))) .nil)) (.cons (.tup (.cons (.tup (.cons (.cst (.str "abe")) (.cons (.cst (.int 10)) (.cons (.cst (.int 2)) .nil)))) .nil)) (.cons (.tup (.cons (.tup (.cons (.cst (.str "abe")) (.cons (.cst (.int 3)) (.cons (.cst (.int 0)) .nil)))) .nil)) (.cons (.tup (.cons (.tup (.cons (.cst (.str "abe")) (.cons (.cst (.int 3)) (.cons (.cst (.int 10)) .nil)))) .nil)) (.cons (.tup (.cons (.var 16) (.cons (.var 16) .nil))) (.cons (.tup (.cons (.tup (.cons (.cst (.str "bea")) (.cons (.cst (.int 3)) (.cons (.cst (.int 2)) .nil)))) (.cons (.var 16) .nil))) (.cons (.tup (.cons (.var 16) (.cons (.tup (.cons (.cst (.str "abe")) (.cons (.cst (.int 4)) (.cons (.cst (.int 2)) .nil)))) .nil))) (.cons (.bi .tuple (.cons (.comp (.tup (.cons (.bin .add (.cst (.str "l")) (.idx (.cst (.str "abcdefghi")) (.var 15))) (.cons (.cst (.int 1)) (.cons (.cst (.int 1)) .nil)))) (.nm 15) (.rng1 (.cst (.int 9))) .nil [15]) .nil)) .nil)))))))))))))
abbrev endS : Sxs := .cons (.asg (.nm 16) (.tup (.cons (.cst (.str "abe")) (.cons (.cst (.int 3)) (.cons (.cst (.int 2)) .nil)))))
  (.cons (.asg (.nm 17) wrongE)
  (.cons (.ret (.cmp .is (.call "are_loaves" (.cons (.idx (.var 17) (.call "_law_next" (.cons (.var 1) (.cons (.cst (.int 12)) .nil)))) .nil)) (.cst (.bool false))))
  .nil))
section
variable {k : Nat} {S : Sto} {ls : List Lf}
theorem tup4_v {C : CallF} {a b c d : Ex} {m : Md} {ρ : Env'} {S S1 S2 S3 S4 : Sto} {x y z u : D} (h1 : run C a .V ρ S = some (x, S1)) (h2 : run C b .V ρ S1 = some (y, S2)) (h3 : run C c .V ρ S2 = some (z, S3)) (h4 : run C d .V ρ S3 = some (u, S4)) (hm : m ≠ .T := by decide) : run C (.tup (.cons a (.cons b (.cons c (.cons d .nil))))) m ρ S = some (.tuple [x, y, z, u], S4) := by
  rw [r_tup, fin_ne hm]
  unfold tupF
  rw [rs_cons]; unfold consF
  rw [h1]; dsimp only
  rw [rs_cons]; unfold consF
  rw [h2]; dsimp only
  rw [rs_cons]; unfold consF
  rw [h3]; dsimp only
  rw [rs_cons]; unfold consF
  rw [h4]; dsimp only
  rw [rs_nil]; dsimp only
  rw [if_pos (le_lim (by simp))]
theorem end_ok (sc : D) (room hourly lighting : Int) (good : List D) (s9 s12 s15 : Slot) {o : D} (ho : WfDraw o) (h12 : ∃ b d, s12 = some (b, d)) :
    ∃ ρ' o', execs (callN GF (k + 5)) endS (FE sc ls room hourly lighting false good s9 s12 s15) [o] = some (.rt (.bool true), ρ', [o']) := by
  obtain ⟨v, o', hv, v0, v1, w'⟩ := nxt (k := k + 4) ho (m := 12) (by omega) (by omega)
  have step1 : exec (callN GF (k + 5)) (.asg (.nm 16) (.tup (.cons (.cst (.str "abe")) (.cons (.cst (.int 3)) (.cons (.cst (.int 2)) .nil))))) (FE sc ls room hourly lighting false good s9 s12 s15) [o] = some (.nx, (FE sc ls room hourly lighting false good s9 s12 s15).set 16 (some (false, .tuple [.str "abe", .int 3, .int 2])), [o]) := rfl
  have hw : run (callN GF (k + 5)) wrongE .V ((FE sc ls room hourly lighting false good s9 s12 s15).set 16 (some (false, .tuple [.str "abe", .int 3, .int 2]))) [o] = some (.list wrongs, [o]) := by kernel_rfl
  have hfw : frz ((FE sc ls room hourly lighting false good s9 s12 s15).set 16 (some (false, .tuple [.str "abe", .int 3, .int 2]))) (esc wrongE .V) = (FE sc ls room hourly lighting false good s9 s12 s15).set 16 (some (false, .tuple [.str "abe", .int 3, .int 2])) := by kernel_rfl
  have step2 : exec (callN GF (k + 5)) (.asg (.nm 17) wrongE) ((FE sc ls room hourly lighting false good s9 s12 s15).set 16 (some (false, .tuple [.str "abe", .int 3, .int 2]))) [o] = some (.nx, ((FE sc ls room hourly lighting false good s9 s12 s15).set 16 (some (false, .tuple [.str "abe", .int 3, .int 2]))).set 17 (some (true, .list wrongs)), [o]) := by
    have := asg_v (C := callN GF (k + 5)) (i := 17) (e := wrongE) (d := .list wrongs) (S := [o]) (S1 := [o]) (ρ := (FE sc ls room hourly lighting false good s9 s12 s15).set 16 (some (false, .tuple [.str "abe", .int 3, .int 2]))) (by rw [hfw]; exact hw) (by rw [hfw]; simp)
    rw [this, hfw]; rfl
  have hvn : ((v.toNat : Nat) : Int) = v := by omega
  have hlt : v.toNat < wrongs.length := by have : wrongs.length = 12 := rfl; omega
  have ix : idxD (.list wrongs) (.int v) = some wrongs[v.toNat] := by
    have := idx_lst hlt
    rw [hvn] at this
    exact this
  have hi : run (callN GF (k + 5)) (.idx (.var 17) (.call "_law_next" (.cons (.var 1) (.cons (.cst (.int 12)) .nil)))) .V (((FE sc ls room hourly lighting false good s9 s12 s15).set 16 (some (false, .tuple [.str "abe", .int 3, .int 2]))).set 17 (some (true, .list wrongs))) [o] = some (wrongs[v.toNat], [o']) :=
    idx_v (varB_v rfl) (call2_v (varV_v rfl) cst_v hv) rfl rfl ix
  have hf := wrong_false (k := k + 1) (S := [o']) wrongs[v.toNat] (List.getElem_mem hlt)
  have hr : run (callN GF (k + 5)) (.cmp .is (.call "are_loaves" (.cons (.idx (.var 17) (.call "_law_next" (.cons (.var 1) (.cons (.cst (.int 12)) .nil)))) .nil)) (.cst (.bool false))) .V (((FE sc ls room hourly lighting false good s9 s12 s15).set 16 (some (false, .tuple [.str "abe", .int 3, .int 2]))).set 17 (some (true, .list wrongs))) [o] = some (.bool true, [o']) :=
    cmp_v (call1_v hi hf) cst_v rfl rfl rfl
  exact ⟨_, o', (ex_nx step1).trans ((ex_nx step2).trans (ex_rt (ret_v (d := .bool true) (S1 := [o']) hr)))⟩
theorem law_ok (ns : List Int) (hn : ns.length ≤ 63) : ∃ S', callN GF (k + 6) "law" [.list (ns.map .int)] [] = some (.bool true, S') := by
  rw [call_has H_law (k + 5) [] rfl]
  generalize hsc : PyData.list (ns.map PyData.int) = sc
  obtain ⟨o, hd, w0⟩ := draw_ok (k := k + 4) (S := []) H_draw ns hn
  rw [hsc] at hd
  obtain ⟨ls, o1, hl, w1, g⟩ := lloaves_ok (k := k + 3) w0
  obtain ⟨r, o2, hr, r0, r1, w2⟩ := nxt (k := k + 4) w1 (m := 8) (by omega) (by omega)
  obtain ⟨h, o3, hh, h0, h1, w3⟩ := nxt (k := k + 4) w2 (m := 3) (by omega) (by omega)
  obtain ⟨t, o4, ht, t0, t1, w4⟩ := nxt (k := k + 4) w3 (m := 4) (by omega) (by omega)
  have sh : small (1 + h) = true := small_of_lt (by omega) (by omega)
  have st : small t = true := small_of_lt (by omega) (by omega)
  have ok := g.ok
  have hl4 := ok.len
  have fin : ∃ ρ' S', execs (callN GF (k + 5)) b_law (e0 sc) [] = some (.rt (.bool true), ρ', S') := by
    have hcR : compF (bindT (.nm 7)) (runTs (callN GF (k + 5)) .nil) (run (callN GF (k + 5)) (.tup (.cons (.idx (.var 7) (.cst (.int 0))) (.cons (.slice (.var 7) (.asInt (.cst (.int 1))) (.cst .none)) .nil))) .V) (wipeE [some (false, sc), some (false, locD 0), some (false, eLs ls), some (false, .int (2 + r)), some (false, .int (1 + h)), some (false, .int t), none, none, none, none, none, none, none, none, none, none, none, none] [7]) (ls.map eL) [o4] = some (ls.map fun l : Lf => PyData.tuple [.str l.n, .tuple [.int l.h, .int l.s]], [o4]) :=
      compF_M (fun l : Lf => PyData.tuple [.str l.n, .tuple [.int l.h, .int l.s]]) ls fun l _ => ⟨[some (false, sc), some (false, locD 0), some (false, eLs ls), some (false, .int (2 + r)), some (false, .int (1 + h)), some (false, .int t), none, some (false, eL l), none, none, none, none, none, none, none, none, none, none], rfl, rfl, rfl⟩
    have hitR : runIt (callN GF (k + 5)) (.seq (.var 2)) [some (false, sc), some (false, locD 0), some (false, eLs ls), some (false, .int (2 + r)), some (false, .int (1 + h)), some (false, .int t), none, none, none, none, none, none, none, none, none, none, none, none] [o4] = some (ls.map eL, [o4]) := seqt_v (varV_v rfl)
    have hR := comp_v (m := .B) hitR hcR (le_lim (by rw [List.length_map]; omega))
    rw [fin_B] at hR
    have hD := bi_1 (m := .V) hR rfl (dict_str (·.n) (fun l : Lf => PyData.tuple [.int l.h, .int l.s]) ls ok.nd)
    rw [fin_V] at hD
    obtain ⟨t9, hloop⟩ := loopG_ok (k := k + 4) (S := [o4]) ok sc (2 + r) (1 + h) t
    have hgood : goodP ls (2 + r) (partsL (ls.map (·.n))) = (foundP ls (2 + r) ls).map (rowD ls) := by
      unfold goodP
      rw [parts_filter ok fun l hl => by have := (g.b l hl).2; omega]
    rw [hgood] at hloop
    have hc1 := chk1_ok (k := k) (S := [o4]) g sc (2 + r) (1 + h) t t9
    have hwd := wood_ok (k := k + 5) (S := [o4]) (ls := ls) (foundP ls (2 + r) ls) (by have := found_len ok (2 + r); omega) sc (2 + r) sh st t9
    have hc2 := chk2_ok (k := k) (S := [o4]) g sc (2 + r) sh st t9
    unfold b_law
    have s2 : run (callN GF (k + 5)) (.tup (.cons (.call "_law_loaves" (.cons (.var 1) (.cons (.cst (.int 4)) .nil))) (.cons (.bin .add (.cst (.int 2)) (.call "_law_next" (.cons (.var 1) (.cons (.cst (.int 8)) .nil)))) (.cons (.bin .add (.cst (.int 1)) (.call "_law_next" (.cons (.var 1) (.cons (.cst (.int 3)) .nil)))) (.cons (.call "_law_next" (.cons (.var 1) (.cons (.cst (.int 4)) .nil))) .nil))))) .V [some (false, sc), some (false, locD 0), none, none, none, none, none, none, none, none, none, none, none, none, none, none, none, none] [o] = some (.tuple [eLs ls, .int (2 + r), .int (1 + h), .int t], [o4]) :=
      tup4_v (call2_v (varV_v rfl) cst_v hl) (bin_v cst_v (call2_v (varV_v rfl) cst_v hr) rfl rfl rfl) (bin_v cst_v (call2_v (varV_v rfl) cst_v hh) rfl rfl rfl) (call2_v (varV_v rfl) cst_v ht)
    have tail : ∀ (ρ2 : Env') (o5 : D) (s15 : Slot), WfDraw o5 → ρ2 = FE sc ls (2 + r) (1 + h) t false ((foundP ls (2 + r) ls).map (rowD ls)) t9 (some (true, .list (woodD ls (1 + h) t (foundP ls (2 + r) ls)))) s15 → ∃ ρ' S', execs (callN GF (k + 5)) endS ρ2 [o5] = some (.rt (.bool true), ρ', S') := by
      rintro ρ2 o5 s15 w5 rfl
      obtain ⟨ρ', o', he⟩ := end_ok (k := k) sc (2 + r) (1 + h) t ((foundP ls (2 + r) ls).map (rowD ls)) t9 (some (true, .list (woodD ls (1 + h) t (foundP ls (2 + r) ls)))) s15 w5 ⟨_, _, rfl⟩
      exact ⟨ρ', [o'], he⟩
    have third : ∃ o5 s15, WfDraw o5 ∧ exec (callN GF (k + 5)) (.ifS (.cmp .ne (.var 8) (.lst .nil)) (.cons (.asg (.nm 15) nextK) (.cons (.ifS chk3 (.cons (.ret (.cst (.bool false))) .nil) .nil) .nil)) .nil) (FE sc ls (2 + r) (1 + h) t false ((foundP ls (2 + r) ls).map (rowD ls)) t9 (some (true, .list (woodD ls (1 + h) t (foundP ls (2 + r) ls)))) none) [o4] =
        some (.nx, FE sc ls (2 + r) (1 + h) t false ((foundP ls (2 + r) ls).map (rowD ls)) t9 (some (true, .list (woodD ls (1 + h) t (foundP ls (2 + r) ls)))) s15, [o5]) := by
      have hne := ne_nil (okDs_sh (rows_sh ls (foundP ls (2 + r) ls)) (by decide)) (okD_rows (ls := ls) (foundP ls (2 + r) ls))
      have htst : run (callN GF (k + 5)) (.cmp .ne (.var 8) (.lst .nil)) .T (FE sc ls (2 + r) (1 + h) t false ((foundP ls (2 + r) ls).map (rowD ls)) t9 (some (true, .list (woodD ls (1 + h) t (foundP ls (2 + r) ls)))) none) [o4] = some (.bool (!((foundP ls (2 + r) ls).map (rowD ls)).isEmpty), [o4]) :=
        cmp_v (varB_v rfl) (show run (callN GF (k + 5)) (.lst .nil) .B _ [o4] = some (.list [], [o4]) from rfl) rfl rfl hne
      by_cases hP : foundP ls (2 + r) ls = []
      · have e : (!((foundP ls (2 + r) ls).map (rowD ls)).isEmpty) = false := by rw [hP]; rfl
        rw [e] at htst
        exact ⟨o4, none, w4, (if_f htst).trans rfl⟩
      · have e : (!((foundP ls (2 + r) ls).map (rowD ls)).isEmpty) = true := by
          cases q : foundP ls (2 + r) ls with
          | nil => exact absurd q hP
          | cons x xs => rfl
        rw [e] at htst
        have hpos : 0 < (foundP ls (2 + r) ls).length := List.length_pos_iff.mpr hP
        have hle := found_len ok (2 + r)
        obtain ⟨i, o5, hi, i0, i1, w5⟩ := nxt (k := k + 4) w4 (m := ((foundP ls (2 + r) ls).length : Nat)) (by omega) (by omega)
        have hin : ((i.toNat : Nat) : Int) = i := by omega
        have hc3 := chk3_ok (k := k) (S := [o5]) g sc (2 + r) sh st t9 (i := i.toNat) (by omega)
        rw [hin] at hc3
        have hlen := bi_1 (C := callN GF (k + 5)) (m := .V) (b := .len) (a := .var 8) (ρ := FE sc ls (2 + r) (1 + h) t false ((foundP ls (2 + r) ls).map (rowD ls)) t9 (some (true, .list (woodD ls (1 + h) t (foundP ls (2 + r) ls)))) none) (S := [o4]) (S1 := [o4]) (varB_v rfl) rfl (len_lst _)
        rw [fin_V, List.length_map] at hlen
        have hnk : run (callN GF (k + 5)) nextK .V (FE sc ls (2 + r) (1 + h) t false ((foundP ls (2 + r) ls).map (rowD ls)) t9 (some (true, .list (woodD ls (1 + h) t (foundP ls (2 + r) ls)))) none) [o4] = some (.int i, [o5]) := call2_v (varV_v rfl) hlen hi
        refine ⟨o5, some (false, .int i), w5, (if_t htst).trans ?_⟩
        refine (ex_nx (asg_v (d := .int i) (S1 := [o5]) hnk (by simp only [frz_len, List.length_set]; exact Nat.le_of_ble_eq_true rfl))).trans ?_
        exact (ex_nx ((if_f hc3).trans ex_nil)).trans ex_nil
    obtain ⟨o5, s15, w5, h3⟩ := third
    obtain ⟨ρ', S', he⟩ := tail _ o5 s15 w5 rfl
    refine ⟨ρ', S', ?_⟩
    refine (ex_nx (asg_v (d := locD 0) (S1 := [o]) (call1_v (varV_v rfl) hd) (by simp only [frz_len, List.length_set]; exact Nat.le_of_ble_eq_true rfl))).trans ?_
    refine (ex_nx (asg_t (d := .tuple [eLs ls, .int (2 + r), .int (1 + h), .int t]) (S1 := [o4]) (ρ1 := [some (false, sc), some (false, locD 0), some (false, eLs ls), some (false, .int (2 + r)), some (false, .int (1 + h)), some (false, .int t), none, none, none, none, none, none, none, none, none, none, none, none]) s2 rfl)).trans ?_
    refine (ex_nx (asg_v (d := rwD ls) (S1 := [o4]) hD (by simp only [frz_len, List.length_set]; exact Nat.le_of_ble_eq_true rfl))).trans ?_
    refine (ex_nx (asg_v (d := .list []) (S1 := [o4]) rfl (by simp only [frz_len, List.length_set]; exact Nat.le_of_ble_eq_true rfl))).trans ?_
    refine (ex_nx hloop).trans ?_
    refine (ex_nx ((if_f hc1).trans ex_nil)).trans ?_
    refine (ex_nx (asg_v (d := .list (woodD ls (1 + h) t (foundP ls (2 + r) ls))) (S1 := [o4]) hwd (by simp only [frz_len, List.length_set]; exact Nat.le_of_ble_eq_true rfl))).trans ?_
    refine (ex_nx ((if_f hc2).trans ex_nil)).trans ?_
    refine (ex_nx h3).trans ?_
    exact he
  obtain ⟨ρ', S', hx⟩ := fin
  exact ⟨S', (congrArg retV hx).trans rfl⟩
end
end LW
set_option Elab.async false
set_option linter.all false
set_option maxRecDepth 100000
set_option maxHeartbeats 0
namespace LW
open PySem PySem.Spec PyProof.Rows L2 CH
def frs : List Str := ["abs", "all", "any", "bool", "dict", "enumerate", "int", "isinstance", "len", "list", "max", "min", "range", "sorted", "str", "sum", "tuple", "zip"]
def fs : List (Str × Nat) := [("is_integer", 1), ("is_number", 3), ("is_name", 1), ("is_rising", 1), ("are_loaves", 1), ("partings", 2), ("hours_of", 2), ("least_fires", 2), ("bundles", 4), ("least_bundles", 4), ("_law_draw", 1), ("_law_next", 2), ("_law_same", 2), ("_law_partings", 1), ("_law_loaves", 2), ("law", 1)]
def ks : List (Str × D) := [("LETTERS", .str "abcdefghijklmnopqrstuvwxyz")]
def top (i : Nat) : Stmt := PySem.Challenge.pw_castlehold_k51_whole_fires_of_ovens.main.body.getD i (.Pass ⟨0, 0, 0, 0⟩)
def mk (x : Str) (i : Nat) : He.DefD := ⟨(x, none), x, x, defArgs (top i), defBody (top i), defScope (top i), [], []⟩
def fn : List He.DefD := [mk "is_integer" 2, mk "is_number" 3, mk "is_name" 4, mk "is_rising" 6, mk "are_loaves" 8, mk "partings" 9, mk "hours_of" 10, mk "least_fires" 11, mk "bundles" 12, mk "least_bundles" 13, mk "_law_draw" 15, mk "_law_next" 16, mk "_law_same" 17, mk "_law_partings" 18, mk "_law_loaves" 19, mk "law" 20]
def fa : List He.Fa := [.glo "is_integer", .glo "is_number", .glo "is_name", .glo "is_rising", .glo "are_loaves", .glo "partings", .glo "hours_of", .glo "least_fires", .glo "bundles", .glo "least_bundles", .glo "_law_draw", .glo "_law_next", .glo "_law_same", .glo "_law_partings", .glo "_law_loaves", .glo "law", .free "abs", .free "all", .free "any", .free "bool", .free "dict", .free "enumerate", .free "int", .free "isinstance", .free "len", .free "list", .free "max", .free "min", .free "range", .free "sorted", .free "str", .free "sum", .free "tuple", .free "zip", .str "LETTERS" "abcdefghijklmnopqrstuvwxyz"]
abbrev R : PySem.W.OpenRow := PySem.W.OpenLaw.row PySem.Challenge.rw_castlehold_k51_whole_fires_of_ovens
abbrev hk : PySem.W.Hook := He.hookD 4 fa fn
def ob (s : PySem.W.SharedT) : He.AlD := He.obsDG 4 fa fn (HandSHeadRun.getT s)
theorem ob_eq (s : PySem.W.SharedT) : ob s = hk.obs s.abs := He.obsDG_eq (HandSHeadRun.getT_eq s)
theorem run_head (w : World) : HandSHeadRun.RunEq R (PySem.W.view R.prog [20]) hk ob 4000 ["LETTERS", "is_integer", "is_number", "is_name", "is_rising", "are_loaves", "partings", "hours_of", "least_fires", "bundles", "least_bundles", "_law_draw", "_law_next", "_law_same", "_law_partings", "_law_loaves"] w := by
  intro os
  kernel_rfl
theorem ok_is_integer : dfOk frs fs ks df_is_integer (defScope (top 2)) (defBody (top 2)) = true := by kernel_rfl
theorem ok_is_number : dfOk frs fs ks df_is_number (defScope (top 3)) (defBody (top 3)) = true := by kernel_rfl
theorem ok_is_name : dfOk frs fs ks df_is_name (defScope (top 4)) (defBody (top 4)) = true := by kernel_rfl
theorem ok_is_rising : dfOk frs fs ks df_is_rising (defScope (top 6)) (defBody (top 6)) = true := by kernel_rfl
theorem ok_are_loaves : dfOk frs fs ks df_are_loaves (defScope (top 8)) (defBody (top 8)) = true := by kernel_rfl
theorem ok_partings : dfOk frs fs ks df_partings (defScope (top 9)) (defBody (top 9)) = true := by kernel_rfl
theorem ok_hours_of : dfOk frs fs ks df_hours_of (defScope (top 10)) (defBody (top 10)) = true := by kernel_rfl
theorem ok_least_fires : dfOk frs fs ks df_least_fires (defScope (top 11)) (defBody (top 11)) = true := by kernel_rfl
theorem ok_bundles : dfOk frs fs ks df_bundles (defScope (top 12)) (defBody (top 12)) = true := by kernel_rfl
theorem ok_least_bundles : dfOk frs fs ks df_least_bundles (defScope (top 13)) (defBody (top 13)) = true := by kernel_rfl
theorem ok__law_draw : dfOk frs fs ks df__law_draw (defScope (top 15)) (defBody (top 15)) = true := by kernel_rfl
theorem ok__law_next : dfOk frs fs ks df__law_next (defScope (top 16)) (defBody (top 16)) = true := by kernel_rfl
theorem ok__law_same : dfOk frs fs ks df__law_same (defScope (top 17)) (defBody (top 17)) = true := by kernel_rfl
theorem ok__law_partings : dfOk frs fs ks df__law_partings (defScope (top 18)) (defBody (top 18)) = true := by kernel_rfl
theorem ok__law_loaves : dfOk frs fs ks df__law_loaves (defScope (top 19)) (defBody (top 19)) = true := by kernel_rfl
theorem ok_law : dfOk frs fs ks df_law (defScope (top 20)) (defBody (top 20)) = true := by kernel_rfl
section
variable {K : PySem.W.Frag} {h : Heap} {mg : Str → Option Value}

theorem kn_is_integer (X : K.In h) (Gn : h.Ns mainGlobals mg) (c : He.SaysD fa fn K) : ∃ a fd, Known K mg frs fs ks df_is_integer a fd := by
  obtain ⟨fd, F⟩ := c.def_ 0 (d := mk "is_integer" 2) rfl
  exact ⟨_, fd, ⟨_, _, _, F, ok_is_integer⟩, He.glo_ok X Gn (c.fact 0 (f := .glo "is_integer") rfl), F.bindsN fun _ _ _ _ _ _ us hl => match us, hl with | [_], _ => rfl⟩
theorem kn_is_number (X : K.In h) (Gn : h.Ns mainGlobals mg) (c : He.SaysD fa fn K) : ∃ a fd, Known K mg frs fs ks df_is_number a fd := by
  obtain ⟨fd, F⟩ := c.def_ 1 (d := mk "is_number" 3) rfl
  exact ⟨_, fd, ⟨_, _, _, F, ok_is_number⟩, He.glo_ok X Gn (c.fact 1 (f := .glo "is_number") rfl), F.bindsN fun _ _ _ _ _ _ us hl => match us, hl with | [_, _, _], _ => rfl⟩
theorem kn_is_name (X : K.In h) (Gn : h.Ns mainGlobals mg) (c : He.SaysD fa fn K) : ∃ a fd, Known K mg frs fs ks df_is_name a fd := by
  obtain ⟨fd, F⟩ := c.def_ 2 (d := mk "is_name" 4) rfl
  exact ⟨_, fd, ⟨_, _, _, F, ok_is_name⟩, He.glo_ok X Gn (c.fact 2 (f := .glo "is_name") rfl), F.bindsN fun _ _ _ _ _ _ us hl => match us, hl with | [_], _ => rfl⟩
theorem kn_is_rising (X : K.In h) (Gn : h.Ns mainGlobals mg) (c : He.SaysD fa fn K) : ∃ a fd, Known K mg frs fs ks df_is_rising a fd := by
  obtain ⟨fd, F⟩ := c.def_ 3 (d := mk "is_rising" 6) rfl
  exact ⟨_, fd, ⟨_, _, _, F, ok_is_rising⟩, He.glo_ok X Gn (c.fact 3 (f := .glo "is_rising") rfl), F.bindsN fun _ _ _ _ _ _ us hl => match us, hl with | [_], _ => rfl⟩
theorem kn_are_loaves (X : K.In h) (Gn : h.Ns mainGlobals mg) (c : He.SaysD fa fn K) : ∃ a fd, Known K mg frs fs ks df_are_loaves a fd := by
  obtain ⟨fd, F⟩ := c.def_ 4 (d := mk "are_loaves" 8) rfl
  exact ⟨_, fd, ⟨_, _, _, F, ok_are_loaves⟩, He.glo_ok X Gn (c.fact 4 (f := .glo "are_loaves") rfl), F.bindsN fun _ _ _ _ _ _ us hl => match us, hl with | [_], _ => rfl⟩
theorem kn_partings (X : K.In h) (Gn : h.Ns mainGlobals mg) (c : He.SaysD fa fn K) : ∃ a fd, Known K mg frs fs ks df_partings a fd := by
  obtain ⟨fd, F⟩ := c.def_ 5 (d := mk "partings" 9) rfl
  exact ⟨_, fd, ⟨_, _, _, F, ok_partings⟩, He.glo_ok X Gn (c.fact 5 (f := .glo "partings") rfl), F.bindsN fun _ _ _ _ _ _ us hl => match us, hl with | [_, _], _ => rfl⟩
theorem kn_hours_of (X : K.In h) (Gn : h.Ns mainGlobals mg) (c : He.SaysD fa fn K) : ∃ a fd, Known K mg frs fs ks df_hours_of a fd := by
  obtain ⟨fd, F⟩ := c.def_ 6 (d := mk "hours_of" 10) rfl
  exact ⟨_, fd, ⟨_, _, _, F, ok_hours_of⟩, He.glo_ok X Gn (c.fact 6 (f := .glo "hours_of") rfl), F.bindsN fun _ _ _ _ _ _ us hl => match us, hl with | [_, _], _ => rfl⟩
theorem kn_least_fires (X : K.In h) (Gn : h.Ns mainGlobals mg) (c : He.SaysD fa fn K) : ∃ a fd, Known K mg frs fs ks df_least_fires a fd := by
  obtain ⟨fd, F⟩ := c.def_ 7 (d := mk "least_fires" 11) rfl
  exact ⟨_, fd, ⟨_, _, _, F, ok_least_fires⟩, He.glo_ok X Gn (c.fact 7 (f := .glo "least_fires") rfl), F.bindsN fun _ _ _ _ _ _ us hl => match us, hl with | [_, _], _ => rfl⟩
theorem kn_bundles (X : K.In h) (Gn : h.Ns mainGlobals mg) (c : He.SaysD fa fn K) : ∃ a fd, Known K mg frs fs ks df_bundles a fd := by
  obtain ⟨fd, F⟩ := c.def_ 8 (d := mk "bundles" 12) rfl
  exact ⟨_, fd, ⟨_, _, _, F, ok_bundles⟩, He.glo_ok X Gn (c.fact 8 (f := .glo "bundles") rfl), F.bindsN fun _ _ _ _ _ _ us hl => match us, hl with | [_, _, _, _], _ => rfl⟩
theorem kn_least_bundles (X : K.In h) (Gn : h.Ns mainGlobals mg) (c : He.SaysD fa fn K) : ∃ a fd, Known K mg frs fs ks df_least_bundles a fd := by
  obtain ⟨fd, F⟩ := c.def_ 9 (d := mk "least_bundles" 13) rfl
  exact ⟨_, fd, ⟨_, _, _, F, ok_least_bundles⟩, He.glo_ok X Gn (c.fact 9 (f := .glo "least_bundles") rfl), F.bindsN fun _ _ _ _ _ _ us hl => match us, hl with | [_, _, _, _], _ => rfl⟩
theorem kn__law_draw (X : K.In h) (Gn : h.Ns mainGlobals mg) (c : He.SaysD fa fn K) : ∃ a fd, Known K mg frs fs ks df__law_draw a fd := by
  obtain ⟨fd, F⟩ := c.def_ 10 (d := mk "_law_draw" 15) rfl
  exact ⟨_, fd, ⟨_, _, _, F, ok__law_draw⟩, He.glo_ok X Gn (c.fact 10 (f := .glo "_law_draw") rfl), F.bindsN fun _ _ _ _ _ _ us hl => match us, hl with | [_], _ => rfl⟩
theorem kn__law_next (X : K.In h) (Gn : h.Ns mainGlobals mg) (c : He.SaysD fa fn K) : ∃ a fd, Known K mg frs fs ks df__law_next a fd := by
  obtain ⟨fd, F⟩ := c.def_ 11 (d := mk "_law_next" 16) rfl
  exact ⟨_, fd, ⟨_, _, _, F, ok__law_next⟩, He.glo_ok X Gn (c.fact 11 (f := .glo "_law_next") rfl), F.bindsN fun _ _ _ _ _ _ us hl => match us, hl with | [_, _], _ => rfl⟩
theorem kn__law_same (X : K.In h) (Gn : h.Ns mainGlobals mg) (c : He.SaysD fa fn K) : ∃ a fd, Known K mg frs fs ks df__law_same a fd := by
  obtain ⟨fd, F⟩ := c.def_ 12 (d := mk "_law_same" 17) rfl
  exact ⟨_, fd, ⟨_, _, _, F, ok__law_same⟩, He.glo_ok X Gn (c.fact 12 (f := .glo "_law_same") rfl), F.bindsN fun _ _ _ _ _ _ us hl => match us, hl with | [_, _], _ => rfl⟩
theorem kn__law_partings (X : K.In h) (Gn : h.Ns mainGlobals mg) (c : He.SaysD fa fn K) : ∃ a fd, Known K mg frs fs ks df__law_partings a fd := by
  obtain ⟨fd, F⟩ := c.def_ 13 (d := mk "_law_partings" 18) rfl
  exact ⟨_, fd, ⟨_, _, _, F, ok__law_partings⟩, He.glo_ok X Gn (c.fact 13 (f := .glo "_law_partings") rfl), F.bindsN fun _ _ _ _ _ _ us hl => match us, hl with | [_], _ => rfl⟩
theorem kn__law_loaves (X : K.In h) (Gn : h.Ns mainGlobals mg) (c : He.SaysD fa fn K) : ∃ a fd, Known K mg frs fs ks df__law_loaves a fd := by
  obtain ⟨fd, F⟩ := c.def_ 14 (d := mk "_law_loaves" 19) rfl
  exact ⟨_, fd, ⟨_, _, _, F, ok__law_loaves⟩, He.glo_ok X Gn (c.fact 14 (f := .glo "_law_loaves") rfl), F.bindsN fun _ _ _ _ _ _ us hl => match us, hl with | [_, _], _ => rfl⟩
theorem kn_law (X : K.In h) (Gn : h.Ns mainGlobals mg) (c : He.SaysD fa fn K) : ∃ a fd, Known K mg frs fs ks df_law a fd := by
  obtain ⟨fd, F⟩ := c.def_ 15 (d := mk "law" 20) rfl
  exact ⟨_, fd, ⟨_, _, _, F, ok_law⟩, He.glo_ok X Gn (c.fact 15 (f := .glo "law") rfl), F.bindsN fun _ _ _ _ _ _ us hl => match us, hl with | [_], _ => rfl⟩
theorem kn_all (X : K.In h) (Gn : h.Ns mainGlobals mg) (c : He.SaysD fa fn K) : ∀ d ∈ G, ∃ a fd, Known K mg frs fs ks d a fd := by
  intro d hd
  simp only [G, List.mem_cons, List.not_mem_nil, or_false] at hd
  rcases hd with rfl | rfl | rfl | rfl | rfl | rfl | rfl | rfl | rfl | rfl | rfl | rfl | rfl | rfl | rfl | rfl
  · exact kn_is_integer X Gn c
  · exact kn_is_number X Gn c
  · exact kn_is_name X Gn c
  · exact kn_is_rising X Gn c
  · exact kn_are_loaves X Gn c
  · exact kn_partings X Gn c
  · exact kn_hours_of X Gn c
  · exact kn_least_fires X Gn c
  · exact kn_bundles X Gn c
  · exact kn_least_bundles X Gn c
  · exact kn__law_draw X Gn c
  · exact kn__law_next X Gn c
  · exact kn__law_same X Gn c
  · exact kn__law_partings X Gn c
  · exact kn__law_loaves X Gn c
  · exact kn_law X Gn c
theorem free_all (X : K.In h) (Gn : h.Ns mainGlobals mg) (c : He.SaysD fa fn K) : ∀ x, x ∈ frs → mg x = none := by
  intro x hx
  simp only [frs, List.mem_cons, List.not_mem_nil, or_false] at hx
  rcases hx with rfl | rfl | rfl | rfl | rfl | rfl | rfl | rfl | rfl | rfl | rfl | rfl | rfl | rfl | rfl | rfl | rfl | rfl
  · exact He.free_ok X Gn (c.fact 16 (f := .free "abs") rfl)
  · exact He.free_ok X Gn (c.fact 17 (f := .free "all") rfl)
  · exact He.free_ok X Gn (c.fact 18 (f := .free "any") rfl)
  · exact He.free_ok X Gn (c.fact 19 (f := .free "bool") rfl)
  · exact He.free_ok X Gn (c.fact 20 (f := .free "dict") rfl)
  · exact He.free_ok X Gn (c.fact 21 (f := .free "enumerate") rfl)
  · exact He.free_ok X Gn (c.fact 22 (f := .free "int") rfl)
  · exact He.free_ok X Gn (c.fact 23 (f := .free "isinstance") rfl)
  · exact He.free_ok X Gn (c.fact 24 (f := .free "len") rfl)
  · exact He.free_ok X Gn (c.fact 25 (f := .free "list") rfl)
  · exact He.free_ok X Gn (c.fact 26 (f := .free "max") rfl)
  · exact He.free_ok X Gn (c.fact 27 (f := .free "min") rfl)
  · exact He.free_ok X Gn (c.fact 28 (f := .free "range") rfl)
  · exact He.free_ok X Gn (c.fact 29 (f := .free "sorted") rfl)
  · exact He.free_ok X Gn (c.fact 30 (f := .free "str") rfl)
  · exact He.free_ok X Gn (c.fact 31 (f := .free "sum") rfl)
  · exact He.free_ok X Gn (c.fact 32 (f := .free "tuple") rfl)
  · exact He.free_ok X Gn (c.fact 33 (f := .free "zip") rfl)
theorem ks_all (X : K.In h) (Gn : h.Ns mainGlobals mg) (c : He.SaysD fa fn K) : ∀ x d, (x, d) ∈ ks → ∃ u v, mg x = some u ∧ RelV v u ∧ atomV d = some v := by
  intro x d hx
  simp only [ks, List.mem_cons, List.not_mem_nil, or_false, Prod.mk.injEq] at hx
  rcases hx with ⟨rfl, rfl⟩
  · obtain ⟨t, e⟩ := He.str_ok X Gn (c.fact 34 (f := .str "LETTERS" "abcdefghijklmnopqrstuvwxyz") rfl)
    exact ⟨_, V.str "abcdefghijklmnopqrstuvwxyz", e, ⟨_, rfl⟩, rfl⟩
end
theorem fs_in : ∀ f n, (f, n) ∈ fs → ∃ d ∈ G, d.fd.name = f := by
  intro f n h
  simp only [fs, List.mem_cons, List.not_mem_nil, or_false, Prod.mk.injEq] at h
  rcases h with ⟨rfl, rfl⟩ | ⟨rfl, rfl⟩ | ⟨rfl, rfl⟩ | ⟨rfl, rfl⟩ | ⟨rfl, rfl⟩ | ⟨rfl, rfl⟩ | ⟨rfl, rfl⟩ | ⟨rfl, rfl⟩ | ⟨rfl, rfl⟩ | ⟨rfl, rfl⟩ | ⟨rfl, rfl⟩ | ⟨rfl, rfl⟩ | ⟨rfl, rfl⟩ | ⟨rfl, rfl⟩ | ⟨rfl, rfl⟩ | ⟨rfl, rfl⟩
  · exact ⟨df_is_integer, by simp [G], rfl⟩
  · exact ⟨df_is_number, by simp [G], rfl⟩
  · exact ⟨df_is_name, by simp [G], rfl⟩
  · exact ⟨df_is_rising, by simp [G], rfl⟩
  · exact ⟨df_are_loaves, by simp [G], rfl⟩
  · exact ⟨df_partings, by simp [G], rfl⟩
  · exact ⟨df_hours_of, by simp [G], rfl⟩
  · exact ⟨df_least_fires, by simp [G], rfl⟩
  · exact ⟨df_bundles, by simp [G], rfl⟩
  · exact ⟨df_least_bundles, by simp [G], rfl⟩
  · exact ⟨df__law_draw, by simp [G], rfl⟩
  · exact ⟨df__law_next, by simp [G], rfl⟩
  · exact ⟨df__law_same, by simp [G], rfl⟩
  · exact ⟨df__law_partings, by simp [G], rfl⟩
  · exact ⟨df__law_loaves, by simp [G], rfl⟩
  · exact ⟨df_law, by simp [G], rfl⟩
theorem G_find : ∀ d ∈ G, GF.find? (fun e => decide (e.name = d.fd.name)) = some d.fd := by
  intro d hd
  simp only [G, List.mem_cons, List.not_mem_nil, or_false] at hd
  rcases hd with rfl | rfl | rfl | rfl | rfl | rfl | rfl | rfl | rfl | rfl | rfl | rfl | rfl | rfl | rfl | rfl <;> rfl
/-- the walk: what is left is plain -/
theorem from_plain (lev : Nat) (hl : Room (lev + 1) callerA) (plain : ∀ ns : List Int, ns.length ≤ 63 → ∃ S', callN GF (lev + 1) "law" [.list (ns.map .int)] [] = some (.bool true, S')) : PySem.Challenge.rw_castlehold_k51_whole_fires_of_ovens.Holds := by
  w_on; o_law
  refine HandSHeadRun.head_any (r := PySem.W.OpenLaw.row PySem.Challenge.rw_castlehold_k51_whole_fires_of_ovens) (q := PySem.W.view (PySem.W.OpenLaw.row PySem.Challenge.rw_castlehold_k51_whole_fires_of_ovens).prog [20]) (H := hk) (ob := ob) (M := 4000) (loose := ["LETTERS", "is_integer", "is_number", "is_name", "is_rising", "are_loaves", "partings", "hours_of", "least_fires", "bundles", "least_bundles", "_law_draw", "_law_next", "_law_same", "_law_partings", "_law_loaves"]) (d := HandSHeadRun.topDef (PySem.W.OpenLaw.row PySem.Challenge.rw_castlehold_k51_whole_fires_of_ovens).prog 20) (kwd := []) ob_eq
    (by kernel_rfl) (fun s => by kernel_rfl) run_head (by kernel_rfl) (by kernel_rfl) (by kernel_rfl) (by rfl) (by first | assumption | decide +kernel) (by decide +kernel) ⟨rfl, rfl, rfl, rfl, rfl, by decide +kernel⟩ ?hw ?hc
  case hw => w_witness2
  case hc =>
    refine L2.walk_ofE (l := PySem.Challenge.rw_castlehold_k51_whole_fires_of_ovens) (n := 63) (k := lev + 1) (x := "script") (CX := L2.CX0) rfl (by decide) (by kernel_rfl) hl ?F (fun _ _ _ _ z => z)
    intro w mg fa h Y Gn hmg0
    obtain ⟨K, KX, c⟩ := Y
    have hmg : mg ("law" : PySem.Str) = some (.ref fa) := by
      have e : (HandSHeadRun.topDef (PySem.W.OpenLaw.row PySem.Challenge.rw_castlehold_k51_whole_fires_of_ovens).prog 20).name = ("law" : PySem.Str) := by kernel_rfl
      rw [← e]
      exact hmg0
    obtain ⟨fd, F⟩ := c.def_ 15 (d := mk "law" 20) rfl
    have hb0 := FunD.bindsA (ps := ["script"]) F fun _ _ _ _ _ _ us hl => match us, hl with | [_], _ => rfl
    have kl : Known K mg frs LW.fs ks df_law _ fd := ⟨⟨_, _, _, F, ok_law⟩, He.glo_ok KX Gn (c.fact 15 (f := .glo "law") rfl), F.bindsN fun _ _ _ _ _ _ us hl => match us, hl with | [_], _ => rfl⟩
    have eg := kl.g.symm.trans hmg
    cases eg
    refine ⟨K, fd, spD K (callN GF (lev + 1)) "law", KX, fun s u => hb0 s [u] rfl, fun H a ns hn _ hS => ?_, fun base Kb Gb => ?_⟩
    · obtain ⟨S', e⟩ := plain ns hn
      exact law_sp hS e
    · exact df_ok kl (G_find df_law (by simp [G])) (free_all KX Gn c) (ks_all KX Gn c) (fns_all fs_in G_find (kn_all KX Gn c) (free_all KX Gn c) (ks_all KX Gn c) lev)
end LW
theorem PySem.Challenge.cw_castlehold_k51_whole_fires_of_ovens_holds : PySem.Challenge.rw_castlehold_k51_whole_fires_of_ovens.Holds := by
  exact LW.from_plain 5 ⟨rfl, by decide, by decide⟩ (fun ns hn => LW.law_ok (k := 0) ns hn)
