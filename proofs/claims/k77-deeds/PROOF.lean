import PyProof.Rows.All
import Wide.All
import OpenK.AllK
import Wide.FinOn
import HandS.ForMost
import HandS.ForExc
import HandS.CallSlots
import HandS.Lambda
import HandS.Flow
import HandS.TupAny
import HandS.Wide
import HandS.WideBits
import HandS.IsInst
import HandS.Style
import HandS.StrMore
import HandS.Replace
import HandS.ExcOwn
import HandS.Deep
import KE.KRevSl
import PyProof.TupleOfStr
import HandS.Conv
import HandS.Defaults
import HandS.ExcInit
import HandS.ExcField
import HandS.SortInts
import HandS.SortRule
import HandS.RaiseMore
import HandS.FStr
import HandS.Small
import HandS.WordsExc
import HandS.EndBits
import HandS.TryMany
import HandS.EndTab
import PySem.Challenge.RW_brookranks_k77_whole_texts_of_deeds
set_option Elab.async false
set_option linter.all false
set_option maxRecDepth 100000
set_option maxHeartbeats 4000000
/-! Pv: a pure reading of programs by values. PvBase: data, the frozen part of the heap, slots, states, what an expression's reading asks. -/
namespace Pv
open PySem PySem.Spec PyProof.Rows L2

/-- a flat key; a key -/
inductive K1 | i (n : Int) | s (l : List Nat) deriving DecidableEq
inductive Ky | one (k : K1) | tup (ks : List K1) deriving DecidableEq
/-- a value as data -/
inductive D where
  | non | bl (b : Bool) | int (i : Int) | str (s : List Nat) | tup (xs : List D) | lst (xs : List D) | fl (xs : List D) | ft (xs : List D) | dic (tk : Bool) (kvs : List (Ky × D))
abbrev mkS (l : List Nat) : Str := ⟨l.toArray⟩

def k1of : Key → K1
  | .inl i => .i i
  | .inr x => .s x.cps.toList
/-- a dict's pairs -/
def DicO (ho : HO) : Bool → List (Ky × V) → Prop
  | false, kvs => ∃ l, ho = .dK l ∧ kvs = l.map fun p => (Ky.one (k1of p.1), p.2)
  | true, kvs => ∃ l, ho = .dT l ∧ kvs = l.map fun p => (Ky.tup (p.1.map k1of), p.2)

mutual
/-- the value v stands for d over what is frozen -/
def Rep (K : PySem.W.Frag) (F : Hp) : V → D → Prop
  | v, .non => v = .non
  | v, .bl b => v = .bl b
  | v, .int i => v = .int i
  | v, .str l => v = .str (mkS l) ∧ l.length ≤ sizeLine
  | v, .tup ds => ∃ a vs, v = .ref a ∧ F a = some (.tup vs) ∧ RepL K F vs ds
  | v, .ft ds => ∃ a vs, v = .ref a ∧ SqT K F a vs ∧ RepL K F vs ds
  | v, .lst ds => ∃ a vs, v = .ref a ∧ F a = some (.lst vs) ∧ RepL K F vs ds
  | v, .fl ds => ∃ a vs, v = .ref a ∧ SqL K F a vs ∧ RepL K F vs ds
  | v, .dic tk ds => ∃ a ho kvs, v = .ref a ∧ F a = some ho ∧ DicO ho tk kvs ∧ RepK K F kvs ds
def RepL (K : PySem.W.Frag) (F : Hp) : List V → List D → Prop
  | [], [] => True
  | v :: vs, d :: ds => Rep K F v d ∧ RepL K F vs ds
  | _, _ => False
def RepK (K : PySem.W.Frag) (F : Hp) : List (Ky × V) → List (Ky × D) → Prop
  | [], [] => True
  | (k, v) :: vs, (k', d) :: ds => k = k' ∧ Rep K F v d ∧ RepK K F vs ds
  | _, _ => False
end
theorem SqL.sub {K : PySem.W.Frag} {F F' : Hp} (h : Same F F') {a : Addr} {xs : List V} (q : SqL K F a xs) : SqL K F' a xs := h.seq q
theorem SqT.sub {K : PySem.W.Frag} {F F' : Hp} (h : Same F F') {a : Addr} {xs : List V} (q : SqT K F a xs) : SqT K F' a xs := by
  rcases q with (q | ⟨o, q⟩) | q
  · exact .inl (.inl (h _ _ q))
  · exact .inl (.inr ⟨o, h _ _ q⟩)
  · exact .inr q
mutual
theorem Rep.mono {K : PySem.W.Frag} {F F' : Hp} (h : Same F F') : ∀ {v : V} {d : D}, Rep K F v d → Rep K F' v d
  | _, .non, r => by simpa only [Rep] using r
  | _, .bl _, r => by simpa only [Rep] using r
  | _, .int _, r => by simpa only [Rep] using r
  | _, .str _, r => by simpa only [Rep] using r
  | _, .tup _, r => by
    simp only [Rep] at r ⊢
    obtain ⟨a, vs, e, h1, h2⟩ := r
    exact ⟨a, vs, e, h _ _ h1, RepL.mono h h2⟩
  | _, .ft _, r => by
    simp only [Rep] at r ⊢
    obtain ⟨a, vs, e, h1, h2⟩ := r
    exact ⟨a, vs, e, SqT.sub h h1, RepL.mono h h2⟩
  | _, .lst _, r => by
    simp only [Rep] at r ⊢
    obtain ⟨a, vs, e, h1, h2⟩ := r
    exact ⟨a, vs, e, h _ _ h1, RepL.mono h h2⟩
  | _, .fl _, r => by
    simp only [Rep] at r ⊢
    obtain ⟨a, vs, e, h1, h2⟩ := r
    exact ⟨a, vs, e, SqL.sub h h1, RepL.mono h h2⟩
  | _, .dic _ _, r => by
    simp only [Rep] at r ⊢
    obtain ⟨a, ho, kvs, e, h1, h2, h3⟩ := r
    exact ⟨a, ho, kvs, e, h _ _ h1, h2, RepK.mono h h3⟩
theorem RepL.mono {K : PySem.W.Frag} {F F' : Hp} (h : Same F F') : ∀ {vs : List V} {ds : List D}, RepL K F vs ds → RepL K F' vs ds
  | [], [], _ => trivial
  | _ :: _, _ :: _, r => ⟨Rep.mono h r.1, RepL.mono h r.2⟩
  | [], _ :: _, r => False.elim r
  | _ :: _, [], r => False.elim r
theorem RepK.mono {K : PySem.W.Frag} {F F' : Hp} (h : Same F F') : ∀ {vs : List (Ky × V)} {ds : List (Ky × D)}, RepK K F vs ds → RepK K F' vs ds
  | [], [], _ => trivial
  | (_, _) :: _, (_, _) :: _, r => ⟨r.1, Rep.mono h r.2.1, RepK.mono h r.2.2⟩
  | [], _ :: _, r => False.elim r
  | _ :: _, [], r => False.elim r
end
section
variable {K : PySem.W.Frag} {F : Hp}
theorem RepL.length : ∀ {vs : List V} {ds : List D}, RepL K F vs ds → vs.length = ds.length
  | [], [], _ => rfl
  | _ :: _, _ :: _, r => by simp [RepL.length r.2]
  | [], _ :: _, r => False.elim r
  | _ :: _, [], r => False.elim r
theorem RepL.get : ∀ {vs : List V} {ds : List D} {i : Nat} {d : D}, RepL K F vs ds → ds[i]? = some d → ∃ v, vs[i]? = some v ∧ Rep K F v d
  | [], [], _, _, _, e => by simp at e
  | v :: _, _ :: _, 0, _, r, e => by simp at e; subst e; exact ⟨v, rfl, r.1⟩
  | _ :: vs, _ :: ds, i + 1, d, r, e => by
    obtain ⟨v, h1, h2⟩ := RepL.get (i := i) (d := d) r.2 (by simpa using e)
    exact ⟨v, by simpa using h1, h2⟩
  | [], _ :: _, _, _, r, _ => False.elim r
  | _ :: _, [], _, _, r, _ => False.elim r
theorem RepL.getV : ∀ {vs : List V} {ds : List D} {i : Nat} {v : V}, RepL K F vs ds → vs[i]? = some v → ∃ d, ds[i]? = some d ∧ Rep K F v d
  | [], [], _, _, _, e => by simp at e
  | _ :: _, d :: _, 0, _, r, e => by simp at e; subst e; exact ⟨d, rfl, r.1⟩
  | _ :: vs, _ :: ds, i + 1, v, r, e => by
    obtain ⟨d, h1, h2⟩ := RepL.getV (i := i) (v := v) r.2 (by simpa using e)
    exact ⟨d, by simpa using h1, h2⟩
  | [], _ :: _, _, _, r, _ => False.elim r
  | _ :: _, [], _, _, r, _ => False.elim r
theorem RepL.append : ∀ {vs ws : List V} {ds es : List D}, RepL K F vs ds → RepL K F ws es → RepL K F (vs ++ ws) (ds ++ es)
  | [], _, [], _, _, s => s
  | _ :: _, _, _ :: _, _, r, s => ⟨r.1, RepL.append r.2 s⟩
  | [], _, _ :: _, _, r, _ => False.elim r
  | _ :: _, _, [], _, r, _ => False.elim r
theorem RepL.set {x : V} {d : D} (h : Rep K F x d) : ∀ {vs : List V} {ds : List D} (i : Nat), RepL K F vs ds → RepL K F (vs.set i x) (ds.set i d)
  | [], [], _, _ => trivial
  | _ :: _, _ :: _, 0, r => ⟨h, r.2⟩
  | _ :: _, _ :: _, i + 1, r => ⟨r.1, RepL.set h i r.2⟩
  | [], _ :: _, _, r => False.elim r
  | _ :: _, [], _, r => False.elim r
theorem RepL.take : ∀ {vs : List V} {ds : List D} (n : Nat), RepL K F vs ds → RepL K F (vs.take n) (ds.take n)
  | [], [], _, _ => by simp [RepL]
  | _ :: _, _ :: _, 0, _ => trivial
  | _ :: _, _ :: _, n + 1, r => ⟨r.1, RepL.take n r.2⟩
  | [], _ :: _, _, r => False.elim r
  | _ :: _, [], _, r => False.elim r
theorem RepL.drop : ∀ {vs : List V} {ds : List D} (n : Nat), RepL K F vs ds → RepL K F (vs.drop n) (ds.drop n)
  | [], [], _, _ => by simp [RepL]
  | _ :: _, _ :: _, 0, r => r
  | _ :: _, _ :: _, n + 1, r => RepL.drop n r.2
  | [], _ :: _, _, r => False.elim r
  | _ :: _, [], _, r => False.elim r
theorem RepL.one {v : V} {d : D} (h : Rep K F v d) : RepL K F [v] [d] := ⟨h, trivial⟩
theorem RepL.reverse {vs : List V} {ds : List D} (r : RepL K F vs ds) : RepL K F vs.reverse ds.reverse := by
  induction vs generalizing ds with
  | nil => cases ds with
    | nil => trivial
    | cons _ _ => exact False.elim r
  | cons v vs ih => cases ds with
    | nil => exact False.elim r
    | cons d ds =>
      rw [List.reverse_cons, List.reverse_cons]
      exact (ih r.2).append (.one r.1)
theorem RepL.dropLast {vs : List V} {ds : List D} (r : RepL K F vs ds) : RepL K F vs.dropLast ds.dropLast := by
  rw [List.dropLast_eq_take, List.dropLast_eq_take, r.length]
  exact r.take _
theorem RepL.eraseIdx : ∀ {vs : List V} {ds : List D} (i : Nat), RepL K F vs ds → RepL K F (vs.eraseIdx i) (ds.eraseIdx i)
  | [], [], _, _ => by simp [RepL]
  | _ :: _, _ :: _, 0, r => r.2
  | _ :: _, _ :: _, n + 1, r => ⟨r.1, RepL.eraseIdx n r.2⟩
  | [], _ :: _, _, r => False.elim r
  | _ :: _, [], _, r => False.elim r
theorem RepL.nil_iff {vs : List V} {ds : List D} (r : RepL K F vs ds) : vs = [] ↔ ds = [] := by
  rw [← List.length_eq_zero_iff, ← List.length_eq_zero_iff, r.length]
end

/-- what stands at an address that is owned -/
def Ob (K : PySem.W.Frag) (F : Hp) (ho : HO) : D → Prop
  | .lst ds => ∃ vs, ho = .lst vs ∧ RepL K F vs ds
  | .dic tk ds => ∃ kvs, DicO ho tk kvs ∧ RepK K F kvs ds
  | _ => False
theorem Ob.mono {K : PySem.W.Frag} {F F' : Hp} (h : Same F F') {ho : HO} {d : D} (r : Ob K F ho d) : Ob K F' ho d := by
  cases d with
  | lst ds => obtain ⟨vs, e, r⟩ := r; exact ⟨vs, e, r.mono h⟩
  | dic tk ds => obtain ⟨vs, e, r⟩ := r; exact ⟨vs, e, r.mono h⟩
  | _ => exact r.elim
/-- frozen -/
theorem Ob.frozen {K : PySem.W.Frag} {F : Hp} {a : Addr} {ho : HO} {d : D} (r : Ob K F ho d) (e : F a = some ho) : Rep K F (.ref a) d := by
  cases d with
  | lst ds =>
    obtain ⟨vs, rfl, r⟩ := r
    simp only [Rep]
    exact ⟨a, vs, rfl, e, r⟩
  | dic tk ds =>
    obtain ⟨kvs, q, r⟩ := r
    simp only [Rep]
    exact ⟨a, ho, kvs, rfl, e, q, r⟩
  | _ => exact r.elim
theorem Ob.mut {K : PySem.W.Frag} {F : Hp} {ho : HO} {d : D} (r : Ob K F ho d) : Mut (some ho) := by
  cases d with
  | lst ds => obtain ⟨vs, rfl, r⟩ := r; trivial
  | dic tk ds =>
    obtain ⟨vs, q, r⟩ := r
    cases tk <;> obtain ⟨l, rfl, _⟩ := q <;> trivial
  | _ => exact r.elim

/-- a value in hand: shared, owned, or what stands in a slot -/
inductive Vl | sh (d : D) | ow (d : D) | bo (i : Nat)
/-- a slot: not known, shared, owned, owned by the caller -/
inductive Sl | no | sh (d : D) | ow (d : D) | io (d : D)
abbrev En := List Sl
inductive Rs (α : Type) | ok (a : α) (e : En) | ex (c : String) (d : D) (e : En) | stuck
def Rs.bind {α β : Type} (r : Rs α) (f : α → En → Rs β) : Rs β := match r with
  | .ok a e => f a e
  | .ex c d e => .ex c d e
  | .stuck => .stuck
@[simp] theorem Rs.bind_ok {α β : Type} (a : α) (e : En) (f : α → En → Rs β) : (Rs.ok a e).bind f = f a e := rfl
@[simp] theorem Rs.bind_ex {α β : Type} (c : String) (d : D) (e : En) (f : α → En → Rs β) : (Rs.ex c d e : Rs α).bind f = .ex c d e := rfl
@[simp] theorem Rs.bind_stuck {α β : Type} (f : α → En → Rs β) : (Rs.stuck : Rs α).bind f = .stuck := rfl

/-- the tables of code objects that lambdas write, and the names that stand in them -/
class Tb where
  T : List (Addr × Str)
/-- no table -/
def NT (o : HO) : Prop := ∀ ps, o ≠ .tbl ps
/-- what the tables rest on -/
def KO (o : HO) : Prop := (∃ ps, o = .tbl ps) ∨ ∃ c q, o = LamX.CodeO c q
theorem tabs_kept {T : List (Addr × Str)} {H H' : Hp} (t : LamX.Tabs T H) (k : ∀ b o, H b = some o → KO o → H' b = some o) : LamX.Tabs T H' := fun p hp => by
  obtain ⟨ps, h1, h2, h3⟩ := t p hp
  refine ⟨ps, k _ _ h1 (.inl ⟨ps, rfl⟩), h2, fun pos cv hc => ?_⟩
  obtain ⟨c, e1, e2⟩ := h3 pos cv hc
  exact ⟨c, e1, k _ _ e2 (.inr ⟨_, _, rfl⟩)⟩
theorem ko_lst {xs : List V} : ¬ KO (.lst xs) := fun h => by
  rcases h with ⟨_, z⟩ | ⟨_, _, z⟩ <;> cases z
theorem ko_dK {xs : List (Key × V)} : ¬ KO (.dK xs) := fun h => by
  rcases h with ⟨_, z⟩ | ⟨_, _, z⟩ <;> cases z
theorem ko_dT {xs : List (List Key × V)} : ¬ KO (.dT xs) := fun h => by
  rcases h with ⟨_, z⟩ | ⟨_, _, z⟩ <;> cases z
theorem Ob.ko {K : PySem.W.Frag} {F : Hp} {ho : HO} {d : D} (r : Ob K F ho d) : ¬ KO ho := by
  cases d with
  | lst ds => obtain ⟨vs, rfl, r⟩ := r; exact ko_lst
  | dic tk ds =>
    obtain ⟨vs, q, r⟩ := r
    cases tk
    · obtain ⟨l, rfl, _⟩ := q; exact ko_dK
    · obtain ⟨l, rfl, _⟩ := q; exact ko_dT
  | _ => exact r.elim
theorem Ob.nt {K : PySem.W.Frag} {F : Hp} {ho : HO} {d : D} (r : Ob K F ho d) : NT ho := fun ps z => r.ko (.inl ⟨ps, z⟩)
variable [Tb]
omit [Tb] in
/-- new, or a table -/
def Fr0 (H : Hp) (p : Addr) : Prop := ∀ u, H p = some u → ¬ NT u
theorem fr0_none {H : Hp} {p : Addr} (h : H p = none) : Fr0 H p := fun u e => by rw [h] at e; cases e
/-- the tables stand; none is frozen -/
structure TBok (F H : Hp) : Prop where
  t : LamX.Tabs Tb.T H
  f : ∀ p o, F p = some o → NT o
omit [Tb] in
/-- a state -/
structure Stt where
  F : Hp
  env : En
  σ : L2.St
  H : Hp
omit [Tb] in
/-- slot i owns p -/
def OwnAt (S : Stt) (i : Nat) (p : Addr) : Prop := (∃ d, S.env[i]? = some (.ow d) ∨ S.env[i]? = some (.io d)) ∧ S.σ[i]? = some (some (.ref p))
omit [Tb] in
def Own (S : Stt) (p : Addr) : Prop := ∃ i, OwnAt S i p
omit [Tb] in
def SlotR (K : PySem.W.Frag) (ios : Nat → Option Addr) (F H : Hp) (i : Nat) (v : Option (Option V)) : Sl → Prop
  | .no => True
  | .sh d => ∃ x, v = some (some x) ∧ Rep K F x d
  | .ow d => ∃ a ho, v = some (some (.ref a)) ∧ H a = some ho ∧ Ob K F ho d ∧ F a = none
  | .io d => ∃ a ho, v = some (some (.ref a)) ∧ ios i = some a ∧ H a = some ho ∧ Ob K F ho d ∧ F a = none
structure ER (K : PySem.W.Frag) (ios : Nat → Option Addr) (S : Stt) : Prop where
  sub : Same S.F S.H
  len : S.env.length = S.σ.length
  sl : ∀ i s, S.env[i]? = some s → SlotR K ios S.F S.H i S.σ[i]? s
  sep : ∀ i j p, OwnAt S i p → OwnAt S j p → i = j
  tab : TBok S.F S.H
theorem ER.own_free {K : PySem.W.Frag} {ios : Nat → Option Addr} {S : Stt} (R : ER K ios S) {p : Addr} (o : Own S p) : S.F p = none ∧ ∃ ho, S.H p = some ho ∧ NT ho := by
  obtain ⟨i, ⟨d, e | e⟩, h⟩ := o
  · obtain ⟨a, ho, e1, e2, e3, e4⟩ := R.sl i _ e
    rw [h] at e1; cases e1
    exact ⟨e4, ho, e2, e3.nt⟩
  · obtain ⟨a, ho, e1, _, e2, e3, e4⟩ := R.sl i _ e
    rw [h] at e1; cases e1
    exact ⟨e4, ho, e2, e3.nt⟩
omit [Tb] in
/-- what a piece of code may have done from S to S' -/
structure Ext (S S' : Stt) : Prop where
  fsub : Same S.F S'.F
  keep : ∀ {p o}, S.H p = some o → ¬ Own S p → NT o → S'.H p = some o
  fnew : ∀ p o, S'.F p = some o → S.F p = some o ∨ Own S p ∨ Fr0 S.H p
  onew : ∀ p, Own S' p → Own S p ∨ Fr0 S.H p
/-- what is new behind a step was owned, or new, ahead of it -/
theorem Ext.there {S S' : Stt} (E : Ext S S') {p : Addr} (z : Fr0 S'.H p) : Own S p ∨ Fr0 S.H p := by
  by_cases n : Own S p
  · exact .inl n
  · exact .inr fun u q t => z u (E.keep q n t) t
theorem Ext.refl (S : Stt) : Ext S S := ⟨Same.refl _, fun h _ _ => h, fun _ _ h => .inl h, fun _ h => .inl h⟩
theorem Ext.trans {S S1 S2 : Stt} (a : Ext S S1) (b : Ext S1 S2) : Ext S S2 where
  fsub := a.fsub.trans b.fsub
  keep := fun {p o} h n t => by
    refine b.keep (a.keep h n t) (fun q => ?_) t
    rcases a.onew p q with z | z
    · exact n z
    · exact z o h t
  fnew := fun p o h => by
    rcases b.fnew p o h with z | z | z
    · exact a.fnew p o z
    · exact .inr (a.onew p z)
    · exact .inr (a.there z)
  onew := fun p h => by
    rcases b.onew p h with z | z
    · exact a.onew p z
    · exact a.there z
/-- the slots are the same, the heap has grown or an unowned fresh place was written: nothing owned touched -/
theorem Own.of {S S' : Stt} {p : Addr} (he : S'.env = S.env) (hs : S'.σ = S.σ) : Own S' p ↔ Own S p := by
  unfold Own OwnAt
  rw [he, hs]

omit [Tb] in
/-- the value x stands for v at S', made since S -/
def VR (K : PySem.W.Frag) (S S' : Stt) (x : V) : Vl → Prop
  | .sh d => Rep K S'.F x d
  | .bo i => S'.σ[i]? = some (some x)
  | .ow d => ∃ a ho, x = .ref a ∧ S'.H a = some ho ∧ Ob K S'.F ho d ∧ S'.F a = none ∧ ¬ Own S' a ∧ (Fr0 S.H a ∨ Own S a)
theorem VR.step {K : PySem.W.Frag} {ios : Nat → Option Addr} {S S1 S2 : Stt} {x : V} {v : Vl} (r : VR K S S1 x v) (e : Ext S1 S2) (hs : S2.σ = S1.σ) : VR K S S2 x v := by
  cases v with
  | sh d => exact Rep.mono e.fsub r
  | bo i => show S2.σ[i]? = _; rw [hs]; exact r
  | ow d =>
    obtain ⟨a, ho, h1, h2, h3, h4, h5, h6⟩ := r
    refine ⟨a, ho, h1, e.keep h2 h5 h3.nt, h3.mono e.fsub, ?_, fun q => ?_, h6⟩
    · cases q : S2.F a with
      | none => rfl
      | some u =>
        rcases e.fnew a u q with z | z | z
        · rw [h4] at z; cases z
        · exact absurd z h5
        · exact absurd h3.nt (z ho h2)
    · rcases e.onew a q with z | z
      · exact h5 z
      · exact z ho h2 h3.nt
/-- .. seen from an earlier start -/
theorem VR.back {K : PySem.W.Frag} {S0 S S' : Stt} {x : V} {v : Vl} (r : VR K S S' x v) (e : Ext S0 S) : VR K S0 S' x v := by
  cases v with
  | sh d => exact r
  | bo i => exact r
  | ow d =>
    obtain ⟨a, ho, h1, h2, h3, h4, h5, h6⟩ := r
    refine ⟨a, ho, h1, h2, h3, h4, h5, ?_⟩
    rcases h6 with z | z
    · exact (e.there z).symm
    · exact (e.onew a z).symm

omit [Tb] in
/-- what may be read: shared or owned -/
def Rd (K : PySem.W.Frag) (S : Stt) (x : V) (d : D) : Prop := Rep K S.F x d ∨ ∃ a ho, x = .ref a ∧ S.H a = some ho ∧ Ob K S.F ho d
omit [Tb] in
/-- the content of a value -/
def cont (v : Vl) (env : En) : Option D := match v with
  | .sh d => some d
  | .ow d => some d
  | .bo i => match env[i]? with
    | some (.sh d) => some d
    | some (.ow d) => some d
    | some (.io d) => some d
    | _ => none
theorem cont_rd {K : PySem.W.Frag} {ios : Nat → Option Addr} {S0 S : Stt} {x : V} {v : Vl} {d : D} (R : ER K ios S) (r : VR K S0 S x v) (h : cont v S.env = some d) : Rd K S x d := by
  cases v with
  | sh d' => cases h; exact .inl r
  | ow d' =>
    cases h
    obtain ⟨a, ho, h1, h2, h3, _⟩ := r
    exact .inr ⟨a, ho, h1, h2, h3⟩
  | bo i =>
    have r : S.σ[i]? = some (some x) := r
    cases q : S.env[i]? with
    | none => simp only [cont, q] at h; cases h
    | some s =>
      simp only [cont, q] at h
      have z := R.sl i s q
      cases s with
      | no => cases h
      | sh d' =>
        cases h
        obtain ⟨y, e1, e2⟩ := z
        rw [r] at e1; cases e1
        exact .inl e2
      | ow d' =>
        cases h
        obtain ⟨a, ho, e1, e2, e3, _⟩ := z
        rw [r] at e1; cases e1
        exact .inr ⟨a, ho, rfl, e2, e3⟩
      | io d' =>
        cases h
        obtain ⟨a, ho, e1, _, e2, e3, _⟩ := z
        rw [r] at e1; cases e1
        exact .inr ⟨a, ho, rfl, e2, e3⟩
section
variable {K : PySem.W.Frag} {ios : Nat → Option Addr} {S : Stt} {x : V}
theorem Rd.int {i : Int} (r : Rd K S x (.int i)) : x = .int i := by
  rcases r with r | ⟨_, _, _, _, r⟩
  · simpa only [Rep] using r
  · exact r.elim
theorem Rd.bl {i : Bool} (r : Rd K S x (.bl i)) : x = .bl i := by
  rcases r with r | ⟨_, _, _, _, r⟩
  · simpa only [Rep] using r
  · exact r.elim
theorem Rd.non (r : Rd K S x .non) : x = .non := by
  rcases r with r | ⟨_, _, _, _, r⟩
  · simpa only [Rep] using r
  · exact r.elim
theorem Rd.str {l : List Nat} (r : Rd K S x (.str l)) : x = .str (mkS l) ∧ l.length ≤ sizeLine := by
  rcases r with r | ⟨_, _, _, _, r⟩
  · simpa only [Rep] using r
  · exact r.elim
theorem Rd.tup {ds : List D} (R : ER K ios S) (r : Rd K S x (.tup ds)) : ∃ a vs, x = .ref a ∧ S.F a = some (.tup vs) ∧ S.H a = some (.tup vs) ∧ RepL K S.F vs ds := by
  rcases r with r | ⟨_, _, _, _, r⟩
  · simp only [Rep] at r
    obtain ⟨a, vs, e, h1, h2⟩ := r
    exact ⟨a, vs, e, h1, R.sub _ _ h1, h2⟩
  · exact r.elim
theorem Rd.ft {ds : List D} (R : ER K ios S) (r : Rd K S x (.ft ds)) : ∃ a vs, x = .ref a ∧ SqT K S.H a vs ∧ RepL K S.F vs ds := by
  rcases r with r | ⟨_, _, _, _, r⟩
  · simp only [Rep] at r
    obtain ⟨a, vs, e, h1, h2⟩ := r
    exact ⟨a, vs, e, SqT.sub R.sub h1, h2⟩
  · exact r.elim
theorem Rd.lst {ds : List D} (R : ER K ios S) (r : Rd K S x (.lst ds)) : ∃ a vs, x = .ref a ∧ S.H a = some (.lst vs) ∧ RepL K S.F vs ds := by
  rcases r with r | ⟨a, ho, e, e2, r⟩
  · simp only [Rep] at r
    obtain ⟨a, vs, e, h1, h2⟩ := r
    exact ⟨a, vs, e, R.sub _ _ h1, h2⟩
  · obtain ⟨vs, rfl, r⟩ := r
    exact ⟨a, vs, e, e2, r⟩
theorem Rd.fl {ds : List D} (R : ER K ios S) (r : Rd K S x (.fl ds)) : ∃ a vs, x = .ref a ∧ SqL K S.H a vs ∧ RepL K S.F vs ds := by
  rcases r with r | ⟨a, ho, e, e2, r⟩
  · simp only [Rep] at r
    obtain ⟨a, vs, e, h1, h2⟩ := r
    exact ⟨a, vs, e, SqL.sub R.sub h1, h2⟩
  · exact r.elim
theorem Rd.dic {tk : Bool} {ds : List (Ky × D)} (R : ER K ios S) (r : Rd K S x (.dic tk ds)) : ∃ a ho kvs, x = .ref a ∧ S.H a = some ho ∧ DicO ho tk kvs ∧ RepK K S.F kvs ds := by
  rcases r with r | ⟨a, ho, e, e2, r⟩
  · simp only [Rep] at r
    obtain ⟨a, ho, kvs, e, h1, h2, h3⟩ := r
    exact ⟨a, ho, kvs, e, R.sub _ _ h1, h2, h3⟩
  · obtain ⟨kvs, q, r⟩ := r
    exact ⟨a, ho, kvs, e, e2, q, r⟩
end

/-! ### freezing -/
theorem same_updF {F : Hp} {a : Addr} {ho : HO} (h : F a = none) : Same F (upd F a ho) := fun b o e => by
  rw [upd_ne (ne_of_none e h)]; exact e
/-- an object that no slot owns is frozen -/
theorem ER.freeze {K : PySem.W.Frag} {ios : Nat → Option Addr} {S : Stt} (R : ER K ios S) {a : Addr} {ho : HO} (nt : NT ho) (h1 : S.H a = some ho) (h2 : S.F a = none) (h3 : ¬ Own S a) : ER K ios { S with F := upd S.F a ho } where
  sub := fun b o e => by
    have e : upd S.F a ho b = some o := e
    by_cases hb : b = a
    · subst hb; rw [upd_same] at e; cases e; exact h1
    · rw [upd_ne hb] at e; exact R.sub b o e
  len := R.len
  sl := fun i s e => by
    have q := R.sl i s e
    have ne : ∀ b, Own S b → b ≠ a := fun b o z => h3 (z ▸ o)
    cases s with
    | no => trivial
    | sh d => obtain ⟨x, e1, e2⟩ := q; exact ⟨x, e1, e2.mono (same_updF h2)⟩
    | ow d =>
      obtain ⟨b, u, e1, e2, e3, e4⟩ := q
      exact ⟨b, u, e1, e2, e3.mono (same_updF h2), by show upd S.F a ho b = none; rw [upd_ne (ne b ⟨i, ⟨d, .inl e⟩, e1⟩)]; exact e4⟩
    | io d =>
      obtain ⟨b, u, e1, e0, e2, e3, e4⟩ := q
      exact ⟨b, u, e1, e0, e2, e3.mono (same_updF h2), by show upd S.F a ho b = none; rw [upd_ne (ne b ⟨i, ⟨d, .inr e⟩, e1⟩)]; exact e4⟩
  sep := R.sep
  tab := ⟨R.tab.t, fun b o e => by
    have e : upd S.F a ho b = some o := e
    by_cases hb : b = a
    · subst hb; rw [upd_same] at e; cases e; exact nt
    · rw [upd_ne hb] at e; exact R.tab.f b o e⟩
theorem Ext.freeze {S S' : Stt} (E : Ext S S') {a : Addr} {ho : HO} (h2 : S'.F a = none) (h6 : Fr0 S.H a ∨ Own S a) : Ext S { S' with F := upd S'.F a ho } where
  fsub := E.fsub.trans (same_updF h2)
  keep := E.keep
  fnew := fun p o e => by
    have e : upd S'.F a ho p = some o := e
    by_cases hb : p = a
    · subst hb; exact .inr h6.symm
    · rw [upd_ne hb] at e; exact E.fnew p o e
  onew := fun p o => E.onew p ((Own.of (S := S') (S' := { S' with F := upd S'.F a ho }) rfl rfl).mp o)

/-! ### the heap grows, an owned object is written -/
/-- a new object is laid -/
theorem ER.laid {K : PySem.W.Frag} {ios : Nat → Option Addr} {S : Stt} (R : ER K ios S) {p : Addr} {o : HO} (h : S.H p = none) : ER K ios { S with H := upd S.H p o } where
  sub := fun b u e => by show upd S.H p o b = _; rw [upd_ne (ne_of_none (R.sub _ _ e) h)]; exact R.sub _ _ e
  len := R.len
  sl := fun i s e => by
    have q := R.sl i s e
    cases s with
    | no => trivial
    | sh d => exact q
    | ow d =>
      obtain ⟨b, u, e1, e2, e3, e4⟩ := q
      exact ⟨b, u, e1, by show upd S.H p o b = _; rw [upd_ne (ne_of_none e2 h)]; exact e2, e3, e4⟩
    | io d =>
      obtain ⟨b, u, e1, e0, e2, e3, e4⟩ := q
      exact ⟨b, u, e1, e0, by show upd S.H p o b = _; rw [upd_ne (ne_of_none e2 h)]; exact e2, e3, e4⟩
  sep := R.sep
  tab := ⟨R.tab.t.ext fun b u e => by show upd S.H p o b = _; rw [upd_ne (ne_of_none e h)]; exact e, R.tab.f⟩
theorem Ext.laid (S : Stt) {p : Addr} {o : HO} (h : S.H p = none) : Ext S { S with H := upd S.H p o } where
  fsub := Same.refl _
  keep := fun {b u} e _ _ => by show upd S.H p o b = _; rw [upd_ne (ne_of_none e h)]; exact e
  fnew := fun _ _ e => .inl e
  onew := fun q o' => .inl ((Own.of (S := S) (S' := { S with H := upd S.H p o }) rfl rfl).mp o')
theorem ER.free {K : PySem.W.Frag} {ios : Nat → Option Addr} {S : Stt} (R : ER K ios S) {p : Addr} (h : S.H p = none) : S.F p = none ∧ ¬ Own S p := by
  refine ⟨?_, fun o => ?_⟩
  · cases q : S.F p with
    | none => rfl
    | some u => rw [R.sub _ _ q] at h; cases h
  · obtain ⟨_, ho, e, _⟩ := R.own_free o
    rw [e] at h; cases h
/-- a new tracked object, owned by the one who has it in hand -/
theorem VR.fresh {K : PySem.W.Frag} {ios : Nat → Option Addr} {S : Stt} (R : ER K ios S) {p : Addr} {o : HO} {d : D} (h : S.H p = none) (r : Ob K S.F o d) : VR K S { S with H := upd S.H p o } (.ref p) (.ow d) :=
  ⟨p, o, rfl, upd_same, r, (R.free h).1, fun q => (R.free h).2 ((Own.of (S := S) (S' := { S with H := upd S.H p o }) rfl rfl).mp q), .inl (fr0_none h)⟩
/-- a new tuple: laid and frozen -/
theorem ER.laidF {K : PySem.W.Frag} {ios : Nat → Option Addr} {S : Stt} (R : ER K ios S) {p : Addr} {o : HO} (h : S.H p = none) (nt : NT o := by intro _ z; cases z) : ER K ios { S with F := upd S.F p o, H := upd S.H p o } :=
  (R.laid (o := o) h).freeze (a := p) (ho := o) nt upd_same (R.free h).1 (fun q => (R.free h).2 ((Own.of (S := S) (S' := { S with H := upd S.H p o }) rfl rfl).mp q))
theorem Ext.laidF {K : PySem.W.Frag} {ios : Nat → Option Addr} {S : Stt} (R : ER K ios S) {p : Addr} {o : HO} (h : S.H p = none) : Ext S { S with F := upd S.F p o, H := upd S.H p o } :=
  (Ext.laid S (o := o) h).freeze (S' := { S with H := upd S.H p o }) (R.free h).1 (.inl (fr0_none h))
/-- an owned object is written -/
theorem ER.write {K : PySem.W.Frag} {ios : Nat → Option Addr} {S : Stt} (R : ER K ios S) {i : Nat} {a : Addr} {ho : HO} {d : D} (h : OwnAt S i a) (r : Ob K S.F ho d) (s' : Sl) (hs : (∃ d0, S.env[i]? = some (.ow d0) ∧ s' = .ow d) ∨ (∃ d0, S.env[i]? = some (.io d0) ∧ s' = .io d)) :
    ER K ios { S with env := S.env.set i s', H := upd S.H a ho } := by
  have hlt : i < S.env.length := by
    rcases hs with ⟨d0, e, _⟩ | ⟨d0, e, _⟩ <;> exact (List.getElem?_eq_some_iff.mp e).1
  have fa : S.F a = none := (R.own_free ⟨i, h⟩).1
  have old_ko : ∃ u, S.H a = some u ∧ ¬ KO u := by
    rcases hs with ⟨d0, e0, _⟩ | ⟨d0, e0, _⟩
    · obtain ⟨b, u, e1, e2, e3, _⟩ := R.sl i _ e0
      rw [h.2] at e1; cases e1
      exact ⟨u, e2, e3.ko⟩
    · obtain ⟨b, u, e1, _, e2, e3, _⟩ := R.sl i _ e0
      rw [h.2] at e1; cases e1
      exact ⟨u, e2, e3.ko⟩
  have tb : LamX.Tabs Tb.T (upd S.H a ho) := tabs_kept R.tab.t fun b u e ku => by
    obtain ⟨u0, z1, z2⟩ := old_ko
    have hb : b ≠ a := fun z => by subst z; rw [z1] at e; cases e; exact z2 ku
    rw [upd_ne hb]; exact e
  refine ⟨fun b o e => ?_, by simpa using R.len, fun j s e => ?_, fun j k p o1 o2 => ?_, ⟨tb, R.tab.f⟩⟩
  · show upd S.H a ho b = _
    have hb : b ≠ a := fun z => by subst z; rw [fa] at e; cases e
    rw [upd_ne hb]; exact R.sub _ _ e
  · have e : (S.env.set i s')[j]? = some s := e
    by_cases hj : j = i
    · subst hj
      rw [List.getElem?_set_self hlt] at e
      cases e
      rcases hs with ⟨d0, e0, rfl⟩ | ⟨d0, e0, rfl⟩
      · exact ⟨a, ho, h.2, upd_same, r, fa⟩
      · obtain ⟨b, u, e1, e2, _⟩ := R.sl j _ e0
        rw [h.2] at e1; cases e1
        exact ⟨a, ho, h.2, e2, upd_same, r, fa⟩
    · rw [List.getElem?_set_ne (Ne.symm hj)] at e
      have q := R.sl j s e
      have ne : ∀ b, OwnAt S j b → b ≠ a := fun b o z => hj (R.sep j i a (z ▸ o) h)
      cases s with
      | no => trivial
      | sh d' => exact q
      | ow d' =>
        obtain ⟨b, u, e1, e2, e3, e4⟩ := q
        exact ⟨b, u, e1, by show upd S.H a ho b = _; rw [upd_ne (ne b ⟨⟨d', .inl e⟩, e1⟩)]; exact e2, e3, e4⟩
      | io d' =>
        obtain ⟨b, u, e1, e0, e2, e3, e4⟩ := q
        exact ⟨b, u, e1, e0, by show upd S.H a ho b = _; rw [upd_ne (ne b ⟨⟨d', .inr e⟩, e1⟩)]; exact e2, e3, e4⟩
  · have old : ∀ {j p}, OwnAt { S with env := S.env.set i s', H := upd S.H a ho } j p → OwnAt S j p := fun {j p} o => by
      obtain ⟨⟨d', e⟩, e2⟩ := o
      have e : (S.env.set i s')[j]? = some (.ow d') ∨ (S.env.set i s')[j]? = some (.io d') := e
      by_cases hj : j = i
      · subst hj
        rcases hs with ⟨d0, e0, _⟩ | ⟨d0, e0, _⟩
        · exact ⟨⟨d0, .inl e0⟩, e2⟩
        · exact ⟨⟨d0, .inr e0⟩, e2⟩
      · rw [List.getElem?_set_ne (Ne.symm hj)] at e
        exact ⟨⟨d', e⟩, e2⟩
    exact R.sep j k p (old o1) (old o2)
theorem Ext.write {S : Stt} {i : Nat} {a : Addr} {ho : HO} {s' : Sl} (h : OwnAt S i a) : Ext S { S with env := S.env.set i s', H := upd S.H a ho } := by
  refine ⟨Same.refl _, fun {b o} e n _ => ?_, fun _ _ e => .inl e, fun p o => ?_⟩
  · have hb : b ≠ a := fun z => n (z ▸ ⟨i, h⟩)
    show upd S.H a ho b = _
    rw [upd_ne hb]; exact e
  · obtain ⟨j, ⟨d', e⟩, e2⟩ := o
    have e : (S.env.set i s')[j]? = some (.ow d') ∨ (S.env.set i s')[j]? = some (.io d') := e
    by_cases hj : j = i
    · subst hj
      have e2 : S.σ[j]? = some (some (.ref p)) := e2
      rw [h.2] at e2; cases e2
      exact .inl ⟨j, h⟩
    · rw [List.getElem?_set_ne (Ne.symm hj)] at e
      exact .inl ⟨j, ⟨d', e⟩, e2⟩

/-- slot i, owned here, is shared from now on -/
theorem ER.share {K : PySem.W.Frag} {ios : Nat → Option Addr} {S : Stt} (R : ER K ios S) {i : Nat} {d : D} (h : S.env[i]? = some (.ow d)) :
    ∃ a ho, S.σ[i]? = some (some (.ref a)) ∧ Rep K (upd S.F a ho) (.ref a) d ∧ ER K ios { S with F := upd S.F a ho, env := S.env.set i (.sh d) } ∧ Ext S { S with F := upd S.F a ho, env := S.env.set i (.sh d) } := by
  obtain ⟨a, ho, e1, e2, e3, e4⟩ := R.sl i _ h
  have hlt : i < S.env.length := (List.getElem?_eq_some_iff.mp h).1
  have own : OwnAt S i a := ⟨⟨d, .inl h⟩, e1⟩
  have rep : Rep K (upd S.F a ho) (.ref a) d := (e3.mono (same_updF e4)).frozen upd_same
  have old : ∀ {j p}, OwnAt { S with F := upd S.F a ho, env := S.env.set i (.sh d) } j p → OwnAt S j p ∧ j ≠ i := fun {j p} o => by
    obtain ⟨⟨d', e⟩, q⟩ := o
    have e : (S.env.set i (.sh d))[j]? = some (.ow d') ∨ (S.env.set i (.sh d))[j]? = some (.io d') := e
    by_cases hj : j = i
    · subst hj
      rw [List.getElem?_set_self hlt] at e
      rcases e with e | e <;> cases e
    · rw [List.getElem?_set_ne (Ne.symm hj)] at e
      exact ⟨⟨⟨d', e⟩, q⟩, hj⟩
  have fz : ∀ b o, upd S.F a ho b = some o → NT o := fun b o e => by
    by_cases hb : b = a
    · subst hb; rw [upd_same] at e; cases e; exact e3.nt
    · rw [upd_ne hb] at e; exact R.tab.f b o e
  refine ⟨a, ho, e1, rep, ⟨fun b o e => ?_, by simpa using R.len, fun j s e => ?_, fun j k p o1 o2 => R.sep j k p (old o1).1 (old o2).1, ⟨R.tab.t, fz⟩⟩, ⟨same_updF e4, fun h _ _ => h, fun p o e => ?_, fun p o => ?_⟩⟩
  · have e : upd S.F a ho b = some o := e
    by_cases hb : b = a
    · subst hb; rw [upd_same] at e; cases e; exact e2
    · rw [upd_ne hb] at e; exact R.sub b o e
  · have e : (S.env.set i (.sh d))[j]? = some s := e
    by_cases hj : j = i
    · subst hj
      rw [List.getElem?_set_self hlt] at e
      cases e
      exact ⟨.ref a, e1, rep⟩
    · rw [List.getElem?_set_ne (Ne.symm hj)] at e
      have q := R.sl j s e
      have ne : ∀ b, OwnAt S j b → b ≠ a := fun b o z => hj (R.sep j i a (z ▸ o) own)
      cases s with
      | no => trivial
      | sh d' => obtain ⟨x, q1, q2⟩ := q; exact ⟨x, q1, q2.mono (same_updF e4)⟩
      | ow d' =>
        obtain ⟨b, u, q1, q2, q3, q4⟩ := q
        exact ⟨b, u, q1, q2, q3.mono (same_updF e4), by show upd S.F a ho b = none; rw [upd_ne (ne b ⟨⟨d', .inl e⟩, q1⟩)]; exact q4⟩
      | io d' =>
        obtain ⟨b, u, q1, q0, q2, q3, q4⟩ := q
        exact ⟨b, u, q1, q0, q2, q3.mono (same_updF e4), by show upd S.F a ho b = none; rw [upd_ne (ne b ⟨⟨d', .inr e⟩, q1⟩)]; exact q4⟩
  · have e : upd S.F a ho p = some o := e
    by_cases hb : p = a
    · subst hb; exact .inr (.inl ⟨i, own⟩)
    · rw [upd_ne hb] at e; exact .inl e
  · obtain ⟨j, o⟩ := o
    exact .inl ⟨j, (old o).1⟩
end Pv

/-! PvEval: the texts of programs in short, and what they come to by values. -/
namespace Pv
open PySem PySem.Spec PyProof.Rows L2

/-! ### functions by values -/
inductive FR | sh (d : D) (io : D := .non) | ow (d : D) (io : D := .non) | ex (c : String) (d : D) (io : D := .non) | stuck
/-- io: whether the def may change what its first argument is; then the result tells what that is now -/
structure Fn where
  io : Bool
  run : List D → FR
/-- built-in functions and types that are called -/
inductive Bi | len | int | str | abs | min | max | sum | all | any | tuple | list | sorted | divmod
  deriving DecidableEq
/-- methods of texts, lists, dicts -/
inductive Mt | count | replace | join | split | upper | index
  deriving DecidableEq

/-! ### texts -/
/-- what a for binds -/
inductive Pt | nm (i : Nat) | tup (ts : List Pt)
inductive Ex where
  | var (i : Nat)
  | con (d : D)
  | glo (x : String) (d : D)
  | bin (op : Operator) (a b : Ex)
  | neg (a : Ex)
  | cmp (op : CmpOp) (a b : Ex)
  | chn (o1 o2 : CmpOp) (a b c : Ex)
  | isn (a : Ex) (neg : Bool)
  | not (a : Ex)
  | and (a b : Ex)
  | or (a b : Ex)
  | ife (c a b : Ex)
  | tup (es : List Ex)
  | lst (es : List Ex)
  | idx (a b : Ex)
  | slc (a : Ex) (lo hi : Option Ex)
  | rev (a : Ex)
  | isi (a : Ex) (t : String)
  | call (f : String) (es : List Ex)
  | callK (f : String) (ks : List (String × Ex)) (ord : List Nat)
  | bi (f : Bi) (es : List Ex)
  | met (m : Mt) (o : Ex) (es : List Ex)
  | pop (i : Nat) (at? : Option Ex)
  | dnew (tk : Bool)
  | rng (es : List Ex)
  | enm (e : Ex)
  | zp (a b : Ex)
  | its (e : Ex)
  | sq (e : Ex)
  | lc (own : List Nat) (elt : Ex) (pt : Pt) (it : Ex) (ifs : List Ex)
  | lc2 (own own1 : List Nat) (elt : Ex) (pt : Pt) (it : Ex) (ifs : List Ex) (pt1 : Pt) (it1 : Ex) (ifs1 : List Ex)
  | fmt (e : Ex)
  | hear (x : String) (ok : List Nat) (hs : List (String × List Nat)) (e : Ex)
/-! ### values -/
def D.py : D → Option PyData
  | .non => some .none
  | .bl b => some (.bool b)
  | .int i => some (.int i)
  | .str l => some (.str (mkS l))
  | .tup ds => (pyL ds).map .tuple
  | .lst ds => (pyL ds).map .list
  | .fl _ => none
  | .ft _ => none
  | .dic _ _ => none
where pyL : List D → Option (List PyData)
  | [] => some []
  | d :: ds => (D.py d).bind fun p => (pyL ds).map (p :: ·)
/-- == -/
def eqD (a b : D) : Option Bool := match a, b with
  | .int i, .int j => some (decide (i = j))
  | .str i, .str j => some (decide (i = j))
  | .bl i, .bl j => some (decide (i = j))
  | .non, .non => some true
  | .non, .int _ => some false
  | .int _, .non => some false
  | .non, .bl _ => some false
  | .bl _, .non => some false
  | .non, .str _ => some false
  | .str _, .non => some false
  | .int _, .str _ => some false
  | .str _, .int _ => some false
  | .bl _, .str _ => some false
  | .str _, .bl _ => some false
  | a, b => match a.py, b.py with
    | some p, some q => if SeqAt.shaped p && SeqAt.shaped q then some (PyData.eqv p q) else none
    | _, _ => none
def flatD : D → Bool
  | .non | .bl _ | .int _ | .str _ => true
  | _ => false
def eqF : D → D → Bool
  | .non, .non => true
  | .bl a, .bl b => a == b
  | .bl a, .int b => (if a then 1 else 0) == b
  | .int a, .bl b => a == (if b then 1 else 0)
  | .int a, .int b => a == b
  | .str a, .str b => a == b
  | _, _ => false
/-- .. by data of any depth -/
def inP (x y : D) : Option Bool := match x.py, y.py with
  | some p, some (.list qs) => if SeqAt.shaped p && SeqAt.shaped (.list qs) then some (qs.any fun z => PyData.eqv z p) else none
  | some p, some (.tuple qs) => if SeqAt.shaped p && SeqAt.shaped (.tuple qs) then some (qs.any fun z => PyData.eqv z p) else none
  | _, _ => none
/-- x in y -/
def inD (x y : D) : Option Bool := match y with
  | .str m => match x with
    | .str [c] => some (decide (c ∈ m))
    | .str l => some (!(Builtin.Str.occurrences (mkS m) (mkS l) 0 (mkS m).length 1).isEmpty)
    | _ => none
  | .lst ds => if flatD x && ds.all flatD then some (ds.any fun y => eqF y x) else inP x (.lst ds)
  | .tup ds => if flatD x && ds.all flatD then some (ds.any fun y => eqF y x) else inP x (.tup ds)
  | .ft ds => if flatD x && ds.all flatD then some (ds.any fun y => eqF y x) else none
  | _ => none
def cmpD (op : CmpOp) (a b : D) : Option Bool := match op with
  | .Eq => eqD a b
  | .NotEq => (eqD a b).map (!·)
  | .In => inD a b
  | .NotIn => (inD a b).map (!·)
  | .Lt => match a, b with
    | .int i, .int j => some (decide (i < j))
    | .str l, .str m => some (decide (l < m))
    | _, _ => none
  | .LtE => match a, b with
    | .int i, .int j => some (decide (i ≤ j))
    | .str l, .str m => some (!decide (m < l))
    | _, _ => none
  | .Gt => match a, b with
    | .int i, .int j => some (decide (j < i))
    | .str l, .str m => some (decide (m < l))
    | _, _ => none
  | .GtE => match a, b with
    | .int i, .int j => some (decide (j ≤ i))
    | .str l, .str m => some (!decide (l < m))
    | _, _ => none
  | _ => none
/-- one factor of a product is small -/
def inB (k : Nat) : Int → Bool
  | .ofNat n => Nat.blt n k
  | .negSucc n => Nat.blt (n + 1) k
def mulOk (i j : Int) : Bool := inB (2 ^ 64) i || inB (2 ^ 64) j
def divOk : Int → Bool
  | .ofNat n => Nat.blt 0 n && Nat.blt n (2 ^ 8000)
  | .negSucc _ => false
theorem inB_iff {k : Nat} {i : Int} : inB k i = true ↔ -(k : Int) < i ∧ i < k := by
  cases i with
  | ofNat n =>
    show Nat.blt n k = true ↔ -(k : Int) < (n : Int) ∧ (n : Int) < k
    rw [Nat.blt_eq]; omega
  | negSucc n =>
    show Nat.blt (n + 1) k = true ↔ -(k : Int) < Int.negSucc n ∧ Int.negSucc n < k
    rw [Nat.blt_eq]; omega
theorem divOk_iff {j : Int} : divOk j = true ↔ 0 < j ∧ j < ((2 ^ 8000 : Nat) : Int) := by
  cases j with
  | ofNat n =>
    show (Nat.blt 0 n && Nat.blt n (2 ^ 8000)) = true ↔ 0 < (n : Int) ∧ (n : Int) < ((2 ^ 8000 : Nat) : Int)
    rw [Bool.and_eq_true, Nat.blt_eq, Nat.blt_eq, Int.ofNat_lt, Int.natCast_pos]
  | negSucc n => exact ⟨fun h => (by cases h), fun h => absurd h.1 (by omega)⟩
def binD (op : Operator) (a b : D) : Option Vl := match op, a, b with
  | .Add, .int i, .int j => some (.sh (.int (i + j)))
  | .Add, .str l, .str m => if l.length + m.length ≤ sizeLine then some (.sh (.str (l ++ m))) else none
  | .Add, .lst l, .lst m => if l.length + m.length ≤ sizeLine then some (.ow (.lst (l ++ m))) else none
  | .Add, .tup l, .tup m => if l.length + m.length ≤ sizeLine then some (.sh (.tup (l ++ m))) else none
  | .Sub, .int i, .int j => some (.sh (.int (i - j)))
  | .Mult, .int i, .int j => if mulOk i j then some (.sh (.int (i * j))) else none
  | .Mult, .lst l, .int k => if -(2 ^ 63) ≤ k ∧ k < 2 ^ 63 ∧ l.length * k.toNat ≤ sizeLine then some (.ow (.lst (List.replicate k.toNat l).flatten)) else none
  | .FloorDiv, .int i, .int j => if divOk j then some (.sh (.int (i / j))) else none
  | .Mod, .int i, .int j => if 0 < j then some (.sh (.int (i % j))) else none
  | .Pow, .int i, .int j => if 0 ≤ j ∧ j ≤ 1000000 ∧ i.natAbs < 2 ^ 64 then some (.sh (.int (i ^ j.toNat))) else none
  | _, _, _ => none
def negD : D → Option Vl
  | .int i => some (.sh (.int (-i)))
  | _ => none
/-- its truth -/
def truD : D → Option Bool
  | .non => some false
  | .bl b => some b
  | .int i => some (i != 0)
  | .str l => some (!l.isEmpty)
  | .lst l => some (!l.isEmpty)
  | .tup l => some (!l.isEmpty)
  | _ => none
/-- an item -/
def keyD : Bool → D → Option Ky
  | false, .int i => some (.one (.i i))
  | false, .str l => some (.one (.s l))
  | true, .tup ds => (keyL ds).map .tup
  | _, _ => none
where keyL : List D → Option (List K1)
  | [] => some []
  | .int i :: ds => (keyL ds).map (.i i :: ·)
  | .str l :: ds => (keyL ds).map (.s l :: ·)
  | _ :: _ => none
def idxD (a b : D) : Option D := match a, b with
  | .fl l, .int i => atI l i
  | .lst l, .int i => atI l i
  | .tup l, .int i => atI l i
  | .ft l, .int i => atI l i
  | .str l, .int i => (atI l i).map fun c => .str [c]
  | .dic tk kvs, k => (keyD tk k).bind fun k => kvs.lookup k
  | _, _ => none
def partD : D → Option (Option Int)
  | .int i => some (some i)
  | .non => some none
  | _ => none
def cutL {α : Type} (xs : List α) (lo hi : Option Int) : List α := (xs.drop (HT.sIx xs.length 0 lo)).take (HT.sIx xs.length xs.length hi - HT.sIx xs.length 0 lo)
def slcD (a : D) (lo hi : Option Int) : Option Vl := match a with
  | .fl l => some (.ow (.lst (cutL l lo hi)))
  | .lst l => some (.ow (.lst (cutL l lo hi)))
  | .tup l => some (.sh (.tup (cutL l lo hi)))
  | .str l => some (.sh (.str (cutL l lo hi)))
  | _ => none
def revD : D → Option Vl
  | .lst l => some (.ow (.lst l.reverse))
  | .str l => some (.sh (.str l.reverse))
  | _ => none
/-- a part of a formatted text -/
def fmtD : D → Option Vl
  | .str l => some (.sh (.str l))
  | .int i => if i.natAbs.log2 < 1920 then some (.sh (.str (Str.ofString (toString i)).cps.toList)) else none
  | _ => none
/-- isinstance with a built-in type -/
def isiD (d : D) (t : String) : Option Bool :=
  if t = "int" then some (match d with | .int _ => true | .bl _ => true | _ => false)
  else if t = "bool" then some (match d with | .bl _ => true | _ => false)
  else if t = "str" then some (match d with | .str _ => true | _ => false)
  else if t = "tuple" then some (match d with | .tup _ => true | .ft _ => true | _ => false)
  else if t = "list" then some (match d with | .lst _ => true | .fl _ => true | _ => false)
  else none
def intsD : List D → Option (List Int)
  | [] => some []
  | .int i :: ds => (intsD ds).map (i :: ·)
  | _ => none
def strsD : List D → Option (List (List Nat))
  | [] => some []
  | .str i :: ds => (strsD ds).map (i :: ·)
  | _ => none
def blsD : List D → Option (List Bool)
  | [] => some []
  | .bl i :: ds => (blsD ds).map (i :: ·)
  | _ => none
def prsD : List D → Option (List (Int × Int))
  | [] => some []
  | .tup [.int i, .int j] :: ds => (prsD ds).map ((i, j) :: ·)
  | _ => none
def insB {α : Type} (lt : α → α → Bool) (x : α) : List α → List α
  | [] => [x]
  | y :: r => if lt y x then y :: insB lt x r else x :: y :: r
def sortB {α : Type} (lt : α → α → Bool) (l : List α) : List α := l.foldr (insB lt) []
def ltI (a b : Int) : Bool := decide (a < b)
def ltP2 (a b : Int × Int) : Bool := decide (a.1 < b.1) || (decide (a.1 = b.1) && decide (a.2 < b.2))
def sortD (l : List D) : Option (List D) := match intsD l with
  | some ns => some ((sortB ltI ns).map .int)
  | none => match prsD l with
    | some ps => some ((sortB ltP2 ps).map fun p => .tup [.int p.1, .int p.2])
    | none => none
def lenD : D → Option Int
  | .str l => some l.length
  | .lst l => some l.length
  | .fl l => some l.length
  | .tup l => some l.length
  | .ft l => some l.length
  | _ => none
def biD (f : Bi) (ds : List D) : Option Vl := match f, ds with
  | .len, [d] => (lenD d).map fun n => .sh (.int n)
  | .int, [.int i] => some (.sh (.int i))
  | .int, [.bl b] => some (.sh (.int (if b then 1 else 0)))
  | .int, [.str l] => if l.length ≤ 640 then (intText? (mkS l)).map fun n => .sh (.int n) else none
  | .str, [.str l] => some (.sh (.str l))
  | .str, [.int i] => if i.natAbs.log2 < 1920 then some (.sh (.str (Str.ofString (toString i)).cps.toList)) else none
  | .abs, [.int i] => some (.sh (.int (if i < 0 then -i else i)))
  | .min, [.int i, .int j] => some (.sh (.int (if j < i then j else i)))
  | .max, [.int i, .int j] => some (.sh (.int (if j > i then j else i)))
  | .sum, [.lst l] => (intsD l).map fun ns => .sh (.int ns.sum)
  | .all, [.lst l] => (blsD l).map fun bs => .sh (.bl (bs.all id))
  | .any, [.lst l] => (blsD l).map fun bs => .sh (.bl (bs.any id))
  | .tuple, [.lst l] => some (.sh (.tup l))
  | .tuple, [.tup l] => some (.sh (.tup l))
  | .tuple, [.str l] => some (.sh (.tup (l.map fun c => .str [c])))
  | .sorted, [.lst l] => (sortD l).map fun r => .ow (.lst r)
  | .list, [.lst l] => some (.ow (.lst l))
  | .list, [.tup l] => some (.ow (.lst l))
  | .divmod, [.int i, .int j] => if divOk j then some (.sh (.tup [.int (i / j), .int (i % j)])) else none
  | _, _ => none
def metD (m : Mt) (o : D) (ds : List D) : Option Vl := match m, o, ds with
  | .count, .str l, [.str m] => some (.sh (.int (Txt.count (mkS l) (mkS m))))
  | .join, .str y, [.lst l] => (strsD l).bind fun ls => if (ls.map List.length).sum + ls.length * y.length ≤ 16777216 then some (.sh (.str (TL.joinL y ls))) else none
  | .join, .str y, [.tup l] => (strsD l).bind fun ls => if (ls.map List.length).sum + ls.length * y.length ≤ 16777216 then some (.sh (.str (TL.joinL y ls))) else none
  | .split, .str l, [.str [c]] => if c < 256 ∧ l.length + 2 ≤ sizeLine then some (.ow (.lst ((TL.spl [c] 0 [] l).map .str))) else none
  | .index, .str l, [.str m] => match Builtin.Str.occurrences (mkS l) (mkS m) 0 (mkS l).length 1 with
    | i :: _ => some (.sh (.int i))
    | [] => none
  | .upper, .str l, [] => if l.length ≤ 5592405 then some (.sh (.str (Txt.upper (mkS l)).cps.toList)) else none
  | _, _, _ => none
/-- a store into a list, a dict -/
def putL {κ α : Type} [DecidableEq κ] (k : κ) (v : α) (l : List (κ × α)) : List (κ × α) :=
  if (l.any fun q => decide (q.1 = k)) = true then l.map (fun q => if q.1 = k then (q.1, v) else q) else l ++ [(k, v)]
def setD (o i v : D) : Option D := match o, i with
  | .lst l, .int k => (ixN l.length k).map fun j => .lst (l.set j v)
  | .dic tk kvs, k => if kvs.length < sizeLine then (keyD tk k).map fun k => .dic tk (putL k v kvs) else none
  | _, _ => none
/-- what a walk goes through -/
def Ky.d : Ky → D
  | .one (.i n) => .int n
  | .one (.s l) => .str l
  | .tup ks => .tup (ks.map fun | .i n => .int n | .s l => .str l)
def itemsD : D → Option (List D)
  | .lst l => some l
  | .fl l => some l
  | .ft l => some l
  | .tup l => some l
  | .str l => some (l.map fun c => .str [c])
  | _ => none
def rngD : List D → Option (List D)
  | [.int j] => if inB (2 ^ 62) j = true then some ((List.range j.toNat).map fun (k : Nat) => .int k) else none
  | [.int i, .int j] => if inB (2 ^ 62) i = true ∧ inB (2 ^ 62) j = true then some ((List.range (j - i).toNat).map fun (k : Nat) => .int (i + k)) else none
  | [.int i, .int j, .int (-1)] => if inB (2 ^ 62) i = true ∧ inB (2 ^ 62) j = true then some ((List.range (i - j).toNat).map fun (k : Nat) => .int (i - k)) else none
  | _ => none
def numD : Nat → List D → List D
  | _, [] => []
  | n, d :: ds => .tup [.int n, d] :: numD (n + 1) ds

/-! ### slots -/
def fz (v : Vl) (env : En) : Option (D × En) := match v with
  | .sh d => some (d, env)
  | .ow d => some (d, env)
  | .bo i => match env[i]? with
    | some (.sh d) => some (d, env)
    | some (.ow d) => some (d, env.set i (.sh d))
    | _ => none
def fzL : List Vl → En → Option (List D × En)
  | [], env => some ([], env)
  | v :: vs, env => match fz v env with
    | some (d, e1) => match fzL vs e1 with
      | some (ds, e2) => some (d :: ds, e2)
      | none => none
    | none => none
def ioC (v : Vl) (env : En) : Option D := match v with
  | .ow d => some d
  | .bo i => match env[i]? with
    | some (.ow d) => some d
    | some (.io d) => some d
    | _ => none
  | .sh _ => none
/-- what the callee has made of it -/
def bkV (v : Vl) (d : D) (env : En) : En := match v with
  | .bo i => match env[i]? with
    | some (.ow _) => env.set i (.ow d)
    | some (.io _) => env.set i (.io d)
    | _ => env
  | _ => env
def callF (fn : Fn) (vs : List Vl) (env : En) : Rs Vl := match fn.io with
  | false => match fzL vs env with
    | some (ds, e1) => match fn.run ds with
      | .sh r _ => .ok (.sh r) e1
      | .ow r _ => .ok (.ow r) e1
      | .ex c r _ => .ex c r e1
      | .stuck => .stuck
    | none => .stuck
  | true => match vs with
    | [] => .stuck
    | v :: vs => match fzL vs env with
      | some (ds, e1) => match ioC v e1 with
        | some d => match fn.run (d :: ds) with
          | .sh r d' => .ok (.sh r) (bkV v d' e1)
          | .ow r d' => .ok (.ow r) (bkV v d' e1)
          | .ex c r d' => .ex c r (bkV v d' e1)
          | .stuck => .stuck
        | none => .stuck
      | none => .stuck
def contL : List Vl → En → Option (List D)
  | [], _ => some []
  | v :: vs, env => match cont v env, contL vs env with
    | some d, some ds => some (d :: ds)
    | _, _ => none
def liftV (o : Option Vl) (env : En) : Rs Vl := match o with
  | some v => .ok v env
  | none => .stuck
def strV (v : Vl) (env : En) : Bool := match cont v env with
  | some (.str _) => true
  | _ => false
/-- a list that is owned here; by the caller -/
def lstS : Option Sl → Option (List D × Bool)
  | some (.ow (.lst l)) => some (l, false)
  | some (.io (.lst l)) => some (l, true)
  | _ => none
def truV (v : Vl) (env : En) : Option Bool := (cont v env).bind truD
def stO (s : Sl) (v : Vl) : Option Sl := match s with
  | .io _ => none
  | _ => match v with
    | .sh d => some (.sh d)
    | .ow d => some (.ow d)
    | .bo _ => none
/-- a name is stored -/
def stN (i : Nat) (v : Vl) (env : En) : Option En := match v with
  | .bo j => match fz (.bo j) env with
    | some (d, e1) => match e1[i]? with
      | some s => (stO s (.sh d)).map fun s' => e1.set i s'
      | none => none
    | none => none
  | v => match env[i]? with
    | some s => (stO s v).map fun s' => env.set i s'
    | none => none
def bindPt : Pt → D → En → Option En
  | .nm i, d, env => stN i (.sh d) env
  | .tup ts, .tup ds, env => bindPts ts ds env
  | .tup ts, .ft ds, env => bindPts ts ds env
  | _, _, _ => none
where bindPts : List Pt → List D → En → Option En
  | [], [], env => some env
  | t :: ts, d :: ds, env => match bindPt t d env with
    | some e1 => bindPts ts ds e1
    | none => none
  | _, _, _ => none
def wipeE (env : En) : List Nat → En
  | [] => env
  | i :: r => wipeE (env.set i .no) r
/-- the slots at own as they were in e0 -/
def backE (e0 env : En) : List Nat → En
  | [] => env
  | i :: r => backE e0 (match e0[i]? with | some s => env.set i s | none => env) r

/-! ### the readings -/
def lcLoop (own : List Nat) (ev : En → Rs Vl) (ts : En → Rs Bool) (pt : Pt) : List D → List D → En → Rs (List D)
  | [], acc, env => .ok acc env
  | d :: ds, acc, env => match bindPt pt d env with
    | none => .stuck
    | some e1 => match ts e1 with
      | .ok true e2 => match ev e2 with
        | .ok v e3 => match fz v e3 with
          | some (x, e4) => lcLoop own ev ts pt ds (acc ++ [x]) (wipeE e4 own)
          | none => .stuck
        | _ => .stuck
      | .ok false e2 => lcLoop own ev ts pt ds acc (wipeE e2 own)
      | _ => .stuck
/-- two clauses: the inner loop runs on over what the outer has gathered -/
def lcLoop2 (own own1 : List Nat) (ev : En → Rs Vl) (ts ts1 : En → Rs Bool) (it1 : En → Rs (List D)) (pt pt1 : Pt) : List D → List D → En → Rs (List D)
  | [], acc, env => .ok acc env
  | d :: ds, acc, env => match bindPt pt d env with
    | none => .stuck
    | some e1 => match ts e1 with
      | .ok true e2 => match it1 e2 with
        | .ok ds1 e3 => match lcLoop own1 ev ts1 pt1 ds1 acc (wipeE e3 own1) with
          | .ok acc' e4 => lcLoop2 own own1 ev ts ts1 it1 pt pt1 ds acc' (wipeE e4 own)
          | _ => .stuck
        | _ => .stuck
      | .ok false e2 => lcLoop2 own own1 ev ts ts1 it1 pt pt1 ds acc (wipeE e2 own)
      | _ => .stuck
mutual
def evE (T : String → Fn) : Ex → En → Rs Vl
  | .var i, env => match env[i]? with
    | some (.sh d) => .ok (.sh d) env
    | some (.ow _) => .ok (.bo i) env
    | some (.io _) => .ok (.bo i) env
    | _ => .stuck
  | .con d, env => .ok (.sh d) env
  | .glo _ d, env => .ok (.sh d) env
  | .bin op a b, env => (evE T a env).bind fun x e1 => (evE T b e1).bind fun y e2 => match cont x e2, cont y e2 with
    | some dx, some dy => liftV (binD op dx dy) e2
    | _, _ => .stuck
  | .neg a, env => (evE T a env).bind fun x e1 => match cont x e1 with
    | some dx => liftV (negD dx) e1
    | none => .stuck
  | .cmp op a b, env => (evE T a env).bind fun x e1 => (evE T b e1).bind fun y e2 => match cont x e2, cont y e2 with
    | some dx, some dy => liftV ((cmpD op dx dy).map fun b => .sh (.bl b)) e2
    | _, _ => .stuck
  | .chn o1 o2 a b c, env => (evE T a env).bind fun x e1 => (evE T b e1).bind fun y e2 => match cont x e2, cont y e2 with
    | some dx, some dy => match cmpD o1 dx dy with
      | some true => (evE T c e2).bind fun z e3 => match cont y e3, cont z e3 with
        | some dy, some dz => liftV ((cmpD o2 dy dz).map fun b => .sh (.bl b)) e3
        | _, _ => .stuck
      | some false => .ok (.sh (.bl false)) e2
      | none => .stuck
    | _, _ => .stuck
  | .isn a neg, env => (evE T a env).bind fun x e1 => match cont x e1 with
    | some .non => .ok (.sh (.bl (!neg))) e1
    | some _ => .ok (.sh (.bl neg)) e1
    | none => .stuck
  | .not a, env => (evE T a env).bind fun x e1 => liftV ((truV x e1).map fun b => .sh (.bl (!b))) e1
  | .and a b, env => (evE T a env).bind fun x e1 => match truV x e1 with
    | some true => evE T b e1
    | some false => .ok x e1
    | none => .stuck
  | .or a b, env => (evE T a env).bind fun x e1 => match truV x e1 with
    | some true => .ok x e1
    | some false => evE T b e1
    | none => .stuck
  | .ife c a b, env => (evE T c env).bind fun x e1 => match truV x e1 with
    | some true => evE T a e1
    | some false => evE T b e1
    | none => .stuck
  | .tup es, env => (evL T es env).bind fun vs e1 => match fzL vs e1 with
    | some (ds, e2) => if ds.length ≤ sizeLine then .ok (.sh (.tup ds)) e2 else .stuck
    | none => .stuck
  | .lst es, env => (evL T es env).bind fun vs e1 => match fzL vs e1 with
    | some (ds, e2) => if ds.length ≤ sizeLine then .ok (.ow (.lst ds)) e2 else .stuck
    | none => .stuck
  | .idx a b, env => (evE T a env).bind fun x e1 => (evE T b e1).bind fun y e2 => match cont x e2, cont y e2 with
    | some dx, some dy => liftV ((idxD dx dy).map .sh) e2
    | _, _ => .stuck
  | .slc a lo hi, env => (evE T a env).bind fun x e1 => (evO T lo e1).bind fun l e2 => (evO T hi e2).bind fun h e3 => match cont x e3 with
    | some dx => liftV (slcD dx l h) e3
    | _ => .stuck
  | .rev a, env => (evE T a env).bind fun x e1 => match cont x e1 with
    | some dx => liftV (revD dx) e1
    | none => .stuck
  | .isi a t, env => (evE T a env).bind fun x e1 => match cont x e1 with
    | some dx => liftV ((isiD dx t).map fun b => .sh (.bl b)) e1
    | none => .stuck
  | .call f es, env => (evL T es env).bind fun vs e1 => callF (T f) vs e1
  | .callK f ks ord, env => (evK T ks env).bind fun ws e1 => match fzL ws e1 with
    | some (ds, e2) => callF (T f) (ord.map fun i => .sh (ds.getD i .non)) e2
    | none => .stuck
  | .bi f es, env => (evL T es env).bind fun vs e1 => match contL vs e1 with
    | some ds => liftV (biD f ds) e1
    | none => .stuck
  | .met m o es, env => (evE T o env).bind fun x e1 => match strV x e1 with
    | true => (evL T es e1).bind fun vs e2 => match cont x e2, contL vs e2 with
      | some d, some ds => liftV (metD m d ds) e2
      | _, _ => .stuck
    | false => .stuck
  | .pop i none, env => match lstS env[i]? with
    | some (l, io) => match l.getLast? with
      | some d => .ok (.sh d) (env.set i (if io then .io (.lst l.dropLast) else .ow (.lst l.dropLast)))
      | none => .stuck
    | none => .stuck
  | .pop i (some e), env => match lstS env[i]? with
    | some _ => (evE T e env).bind fun x e1 => match lstS e1[i]?, cont x e1 with
      | some (l, io), some (.int k) => if inB (2 ^ 63) k = true then match ixN l.length k with
        | some j => match l[j]? with
          | some d => .ok (.sh d) (e1.set i (if io then .io (.lst (l.eraseIdx j)) else .ow (.lst (l.eraseIdx j))))
          | none => .stuck
        | none => .stuck
        else .stuck
      | _, _ => .stuck
    | none => .stuck
  | .dnew tk, env => .ok (.ow (.dic tk [])) env
  | .rng _, _ => .stuck
  | .enm _, _ => .stuck
  | .zp _ _, _ => .stuck
  | .its _, _ => .stuck
  | .sq _, _ => .stuck
  | .lc own elt pt it ifs, env => (evI T it env).bind fun ds e1 =>
      match lcLoop own (evE T elt) (evT T ifs) pt ds [] (wipeE e1 own) with
      | .ok r e2 => if r.length ≤ sizeLine then .ok (.ow (.lst r)) (backE e1 e2 own) else .stuck
      | _ => .stuck
  | .lc2 own own1 elt pt it ifs pt1 it1 ifs1, env => (evI T it env).bind fun ds e1 =>
      match lcLoop2 own own1 (evE T elt) (evT T ifs) (evT T ifs1) (evI T it1) pt pt1 ds [] (wipeE e1 own) with
      | .ok r e2 => if r.length ≤ sizeLine then .ok (.ow (.lst r)) (backE e1 e2 own) else .stuck
      | _ => .stuck
  | .fmt a, env => (evE T a env).bind fun x e1 => match cont x e1 with
    | some dx => liftV (fmtD dx) e1
    | none => .stuck
  | .hear _ ok hs e, env => match evE T e env with
    | .ok v e1 => match fz v e1 with
      | some (d, e2) => .ok (.ow (.lst [.str ok, d])) e2
      | none => .stuck
    | .ex c d e1 => match hs.lookup c with
      | some w => .ok (.ow (.lst [.str w, d])) e1
      | none => .stuck
    | .stuck => .stuck
def evL (T : String → Fn) : List Ex → En → Rs (List Vl)
  | [], env => .ok [] env
  | e :: es, env => (evE T e env).bind fun v e1 => (evL T es e1).bind fun vs e2 => .ok (v :: vs) e2
def evK (T : String → Fn) : List (String × Ex) → En → Rs (List Vl)
  | [], env => .ok [] env
  | (_, e) :: es, env => (evE T e env).bind fun v e1 => (evK T es e1).bind fun vs e2 => .ok (v :: vs) e2
def evO (T : String → Fn) : Option Ex → En → Rs (Option Int)
  | none, env => .ok none env
  | some e, env => (evE T e env).bind fun v e1 => match cont v e1 with
    | some (.int i) => .ok (some i) e1
    | _ => .stuck
def evT (T : String → Fn) : List Ex → En → Rs Bool
  | [], env => .ok true env
  | e :: es, env => (evE T e env).bind fun v e1 => match truV v e1 with
    | some true => evT T es e1
    | some false => .ok false e1
    | none => .stuck
def evI (T : String → Fn) : Ex → En → Rs (List D)
  | .rng es, env => (evL T es env).bind fun vs e1 => match contL vs e1 with
    | some ds => match rngD ds with
      | some r => .ok r e1
      | none => .stuck
    | none => .stuck
  | .enm e, env => (evE T e env).bind fun v e1 => match fz v e1 with
    | some (.lst l, e2) => .ok (numD 0 l) e2
    | _ => .stuck
  | .sq e, env => (evE T e env).bind fun v e1 => match fz v e1 with
    | some (d, e2) => match itemsD d with
      | some r => .ok r e2
      | none => .stuck
    | none => .stuck
  | _, _ => .stuck
end

example (T : String → Fn) (i j : Int) : evE T (.bin .Add (.var 0) (.var 1)) [.sh (.int i), .sh (.int j)] = .ok (.sh (.int (i + j))) [.sh (.int i), .sh (.int j)] := rfl
end Pv

/-! PvS1: what the readings ask, over the layer; two operands, lists of values, calls. -/
namespace Pv
open PySem PySem.Spec PyProof.Rows L2
variable [Tb]

/-- where an error's class stands, its attribute -/
abbrev Cl := String → Option (Addr × Str)
def ExR (K : PySem.W.Frag) (cl : Cl) (c : String) (d : D) (cls : Value) (dx : Option Addr) (F H : Hp) : Prop :=
  ∃ (C : Addr) (f : Str) (dd : Addr) (v : V), cl c = some (C, f) ∧ cls = .ref C ∧ dx = some dd ∧ H dd = some (.xd [(f, v)]) ∧ Rep K F v d
/-- what stays the same in a body -/
structure Pm where
  K : PySem.W.Frag
  ios : Nat → Option Addr
  cl : Cl
  W : WX
section
variable {α β γ δ : Type}
/-- what must follow of a reading's outcome: R says what the thing in hand is -/
def GP (p : Pm) (R : Stt → Stt → β → α → Prop) (S : Stt) (r : Rs α) (Q : β → Hp → Prop) : Prop := match r with
  | .ok v e => ∀ x H F, ER p.K p.ios ⟨F, e, S.σ, H⟩ → Ext S ⟨F, e, S.σ, H⟩ → R S ⟨F, e, S.σ, H⟩ x v → Q x H
  | .ex c d e => ∀ cls dx H F, ER p.K p.ios ⟨F, e, S.σ, H⟩ → Ext S ⟨F, e, S.σ, H⟩ → ExR p.K p.cl c d cls dx F H → p.W cls dx S.σ H
  | .stuck => False
variable {p : Pm} {R : Stt → Stt → β → α → Prop} {R' : Stt → Stt → δ → γ → Prop} {S S1 : Stt}
theorem GP.bind {r : Rs α} {f : α → En → Rs γ} {Q : δ → Hp → Prop} (h : GP p R' S (r.bind f) Q) :
    GP p R S r fun x H => ∃ v F e, ER p.K p.ios ⟨F, e, S.σ, H⟩ ∧ Ext S ⟨F, e, S.σ, H⟩ ∧ R S ⟨F, e, S.σ, H⟩ x v ∧ GP p R' S (f v e) Q := by
  cases r with
  | ok v e => exact fun x H F a b c => ⟨v, F, e, a, b, c, h⟩
  | ex c d e => exact h
  | stuck => exact h
theorem GP.imp {r : Rs α} {Q Q' : β → Hp → Prop} (h : GP p R S r Q) (i : ∀ x H, Q x H → Q' x H) : GP p R S r Q' := by
  cases r with
  | ok v e => exact fun x H F a b c => i _ _ (h x H F a b c)
  | ex c d e => exact h
  | stuck => exact h
theorem GP.step {r : Rs α} {Q : β → Hp → Prop} (h : GP p R S r Q) (e : Ext S S1) (hs : S1.σ = S.σ) (b : ∀ S' x v, R S1 S' x v → R S S' x v) : GP p R S1 r Q := by
  cases r with
  | ok v en => exact fun x H F a c d => h x H F (hs ▸ a) (hs ▸ e.trans c) (hs ▸ b _ _ _ d)
  | ex c d en => exact fun cls dx H F a b z => hs ▸ h cls dx H F (hs ▸ a) (hs ▸ e.trans b) z
  | stuck => exact h
end
section
variable {α β γ δ : Type} {p : Pm} {R : Stt → Stt → β → α → Prop} {R' : Stt → Stt → δ → γ → Prop} {S S1 : Stt}
/-- as bind, from a later state -/
theorem GP.bindS {r : Rs α} {f : α → En → Rs γ} {Q : δ → Hp → Prop} (h : GP p R' S (r.bind f) Q) (e : Ext S S1) (hs : S1.σ = S.σ) :
    GP p R S1 r fun x H => ∃ v F e, ER p.K p.ios ⟨F, e, S1.σ, H⟩ ∧ Ext S1 ⟨F, e, S1.σ, H⟩ ∧ R S1 ⟨F, e, S1.σ, H⟩ x v ∧ GP p R' S (f v e) Q := by
  cases r with
  | ok v e => exact fun x H F a b c => ⟨v, F, e, a, b, c, h⟩
  | ex c d en => exact fun cls dx H F a b z => hs ▸ h cls dx H F (hs ▸ a) (hs ▸ e.trans b) z
  | stuck => exact h
end
/-- a test's: the truth itself -/
def BR : Stt → Stt → Bool → Bool → Prop := fun _ _ x v => x = v
def Sep (x : V) (v : Vl) : List V → List Vl → Prop
  | y :: ys, w :: ws => (∀ d1 d2, v = .ow d1 → w = .ow d2 → y ≠ x) ∧ Sep x v ys ws
  | _, _ => True
def VRs (K : PySem.W.Frag) (S0 S : Stt) : List V → List Vl → Prop
  | [], [] => True
  | x :: xs, v :: vs => VR K S0 S x v ∧ Sep x v xs vs ∧ VRs K S0 S xs vs
  | _, _ => False
theorem VRs.back {K : PySem.W.Frag} {S0 S S' : Stt} (e : Ext S0 S) : ∀ {xs : List V} {vs : List Vl}, VRs K S S' xs vs → VRs K S0 S' xs vs
  | [], [], _ => trivial
  | _ :: _, _ :: _, r => ⟨r.1.back e, r.2.1, VRs.back e r.2.2⟩
  | [], _ :: _, r => r.elim
  | _ :: _, [], r => r.elim
/-- what came later stands apart -/
theorem sep_later {K : PySem.W.Frag} {S0 S1 S2 : Stt} {x : V} {v : Vl} (r : VR K S0 S1 x v) : ∀ {ys : List V} {ws : List Vl}, VRs K S1 S2 ys ws → Sep x v ys ws
  | [], [], _ => trivial
  | _ :: _, _ :: _, q => by
    refine ⟨fun d1 d2 h1 h2 z => ?_, sep_later r q.2.2⟩
    subst h1 h2
    obtain ⟨a, ho, e1, e2, e3, _, e5, _⟩ := r
    obtain ⟨b, ho', f1, _, _, _, _, f6⟩ := q.1
    rw [e1, f1] at z
    cases z
    rcases f6 with f6 | f6
    · exact f6 ho e2 e3.nt
    · exact e5 f6
  | [], _ :: _, r => r.elim
  | _ :: _, [], r => r.elim

/-- the readings: of an expression, of a list of them, of a test -/
def tSE (p : Pm) (m : En → Rs Vl) : TE := fun σ H Q => ∃ F env, ER p.K p.ios ⟨F, env, σ, H⟩ ∧ GP p (VR p.K) ⟨F, env, σ, H⟩ (m env) Q
def tSA (p : Pm) (m : En → Rs (List Vl)) : TA := fun σ H Q => ∃ F env, ER p.K p.ios ⟨F, env, σ, H⟩ ∧ GP p (VRs p.K) ⟨F, env, σ, H⟩ (m env) Q
def tST (p : Pm) (m : En → Rs Bool) : TT := fun σ H Q => ∃ F env, ER p.K p.ios ⟨F, env, σ, H⟩ ∧ GP p BR ⟨F, env, σ, H⟩ (m env) Q

theorem PE.imp {X : Cx} {e : Expr} {t t' : TE} (h : PE X e t) (i : ∀ σ H Q, t' σ H Q → t σ H Q) : PE X e t' := ⟨fun pins s σ H Q I q => h.run pins s σ H Q I (i _ _ _ q)⟩
theorem PT.imp {X : Cx} {e : Expr} {t t' : TT} (h : PT X e t) (i : ∀ σ H Q, t' σ H Q → t σ H Q) : PT X e t' := ⟨fun pins s σ H Q I q => h.run pins s σ H Q I (i _ _ _ q)⟩
theorem PW.imp {X : Cx} {e : Expr} {t t' : TT} (h : PW X e t) (i : ∀ σ H Q, t' σ H Q → t σ H Q) : PW X e t' := ⟨fun wh pins s σ H Q I q => h.run wh pins s σ H Q I (i _ _ _ q)⟩
theorem PA.imp {X : Cx} {e : List Expr} {t t' : TA} (h : PA X e t) (i : ∀ σ H Q, t' σ H Q → t σ H Q) : PA X e t' := ⟨fun po pins s σ H Q I q => h.run po pins s σ H Q I (i _ _ _ q)⟩
theorem PS.imp {X : Cx} {e : Stmt} {t t' : TS} (h : PS X e t) (i : ∀ D σ H, t' D σ H → t D σ H) : PS X e t' := ⟨fun pins s σ H D I q => h.run pins s σ H D I (i _ _ _ q)⟩
theorem PSs.imp {X : Cx} {e : List Stmt} {t t' : TS} (h : PSs X e t) (i : ∀ D σ H, t' D σ H → t D σ H) : PSs X e t' := ⟨fun pins s σ H D I q => h.run pins s σ H D I (i _ _ _ q)⟩

section
variable {p : Pm} {S : Stt} {Q : VK}
/-- the end: a shared value over the state as it is -/
theorem GP.sh {d : D} {x : V} (h : GP p (VR p.K) S (.ok (.sh d) S.env) Q) (R : ER p.K p.ios S) (r : Rep p.K S.F x d) : Q x S.H := h x S.H S.F R (Ext.refl S) r
theorem GP.int {i : Int} (h : GP p (VR p.K) S (.ok (.sh (.int i)) S.env) Q) (R : ER p.K p.ios S) : Q (.int i) S.H := h.sh R (by simp only [Rep])
theorem GP.bl {i : Bool} (h : GP p (VR p.K) S (.ok (.sh (.bl i)) S.env) Q) (R : ER p.K p.ios S) : Q (.bl i) S.H := h.sh R (by simp only [Rep])
theorem GP.non (h : GP p (VR p.K) S (.ok (.sh .non) S.env) Q) (R : ER p.K p.ios S) : Q .non S.H := h.sh R (by simp only [Rep])
theorem GP.str {l : List Nat} (h : GP p (VR p.K) S (.ok (.sh (.str l)) S.env) Q) (R : ER p.K p.ios S) (hl : l.length ≤ sizeLine) : Q (.str (mkS l)) S.H := h.sh R (show (V.str (mkS l) = V.str (mkS l) ∧ l.length ≤ sizeLine) from ⟨rfl, hl⟩)
/-- .. a new object in hand -/
theorem GP.ow {d : D} {a : Addr} {o : HO} (h : GP p (VR p.K) S (.ok (.ow d) S.env) Q) (R : ER p.K p.ios S) (na : S.H a = none) (r : Ob p.K S.F o d) : Q (.ref a) (upd S.H a o) :=
  h _ _ S.F (R.laid na) (Ext.laid S na) (VR.fresh R na r)
/-- .. a new tuple -/
theorem GP.newTup {ds : List D} {a : Addr} {vs : List V} (h : GP p (VR p.K) S (.ok (.sh (.tup ds)) S.env) Q) (R : ER p.K p.ios S) (na : S.H a = none) (r : RepL p.K S.F vs ds) : Q (.ref a) (upd S.H a (.tup vs)) :=
  h _ _ (upd S.F a (.tup vs)) (R.laidF na) (Ext.laidF R na) (by
    show Rep p.K (upd S.F a (.tup vs)) _ _
    simp only [Rep]
    exact ⟨a, vs, rfl, upd_same, r.mono (same_updF (R.free na).1)⟩)
end

/-- two operands by their contents -/
def op2 (f : D → D → Option Vl) (ma mb : En → Rs Vl) : En → Rs Vl := fun env => (ma env).bind fun x e1 => (mb e1).bind fun y e2 => match cont x e2, cont y e2 with
  | some dx, some dy => liftV (f dx dy) e2
  | _, _ => .stuck
/-- what a rule on two values must give -/
def Op2 (p : Pm) (f : D → D → Option Vl) (r : R2) : Prop := ∀ (S : Stt) (x y : V) (dx dy : D) (v : Vl) (Q : VK), ER p.K p.ios S → Rd p.K S x dx → Rd p.K S y dy → f dx dy = some v → GP p (VR p.K) S (.ok v S.env) Q → r x y S.H Q
theorem op2_ok {p : Pm} {f : D → D → Option Vl} {r : R2} (hr : Op2 p f r) {ma mb : En → Rs Vl} (σ : L2.St) (H : Hp) (Q : VK) (h : tSE p (op2 f ma mb) σ H Q) : tOp r (tSE p ma) (tSE p mb) σ H Q := by
  obtain ⟨F, env, R, h⟩ := h
  refine ⟨F, env, R, (GP.bind h).imp fun x H1 ⟨v, F1, e1, R1, E1, V1, h1⟩ => ?_⟩
  refine ⟨F1, e1, R1, (GP.bind (h1.step E1 rfl fun _ _ _ q => q.back E1)).imp fun y H2 ⟨w, F2, e2, R2, E2, V2, h2⟩ => ?_⟩
  have V1' := V1.step (ios := p.ios) E2 rfl
  cases c1 : cont v e2 with
  | none => rw [c1] at h2; exact h2.elim
  | some dx =>
    cases c2 : cont w e2 with
    | none => rw [c1, c2] at h2; exact h2.elim
    | some dy =>
      rw [c1, c2] at h2
      simp only at h2
      cases c3 : f dx dy with
      | none => rw [c3] at h2; exact h2.elim
      | some u =>
        rw [c3] at h2
        exact hr ⟨F2, e2, σ, H2⟩ x y dx dy u Q R2 (cont_rd R2 V1' c1) (cont_rd R2 V2 c2) c3 (GP.step (S1 := ⟨F2, e2, σ, H2⟩) h2 E2 rfl fun _ _ _ q => q.back E2)
theorem Op2.or {p : Pm} {f : D → D → Option Vl} {r r' : R2} (g : D → D → Bool) (h : Op2 p (fun a b => if g a b then f a b else none) r) (h' : Op2 p (fun a b => if g a b then none else f a b) r') : Op2 p f (fun x y H Q => r x y H Q ∨ r' x y H Q) := by
  intro S x y dx dy v Q R rx ry e q
  cases c : g dx dy with
  | true => exact .inl (h S x y dx dy v Q R rx ry (by simp [c, e]) q)
  | false => exact .inr (h' S x y dx dy v Q R rx ry (by simp [c, e]) q)

/-- one operand -/
def op1 (f : D → Option Vl) (ma : En → Rs Vl) : En → Rs Vl := fun env => (ma env).bind fun x e1 => match cont x e1 with
  | some dx => liftV (f dx) e1
  | none => .stuck
def Op1 (p : Pm) (f : D → Option Vl) (r : V → Hp → VK → Prop) : Prop := ∀ (S : Stt) (x : V) (dx : D) (v : Vl) (Q : VK), ER p.K p.ios S → Rd p.K S x dx → f dx = some v → GP p (VR p.K) S (.ok v S.env) Q → r x S.H Q
theorem op1_ok {p : Pm} {f : D → Option Vl} {r : V → Hp → VK → Prop} (hr : Op1 p f r) {ma : En → Rs Vl} (σ : L2.St) (H : Hp) (Q : VK) (h : tSE p (op1 f ma) σ H Q) : tSE p ma σ H fun x H1 => r x H1 Q := by
  obtain ⟨F, env, R, h⟩ := h
  refine ⟨F, env, R, (GP.bind h).imp fun x H1 ⟨v, F1, e1, R1, E1, V1, h1⟩ => ?_⟩
  cases c1 : cont v e1 with
  | none => rw [c1] at h1; exact h1.elim
  | some dx =>
    rw [c1] at h1
    simp only at h1
    cases c3 : f dx with
    | none => rw [c3] at h1; exact h1.elim
    | some u =>
      rw [c3] at h1
      exact hr ⟨F1, e1, σ, H1⟩ x dx u Q R1 (cont_rd R1 V1 c1) c3 (GP.step (S1 := ⟨F1, e1, σ, H1⟩) h1 E1 rfl fun _ _ _ q => q.back E1)

/-! ### lists of values -/
theorem sA_nil {X : Cx} {p : Pm} : PA X [] (tSA p fun env => .ok [] env) := PA.imp pa_nil fun σ H Q ⟨F, env, R, h⟩ => h [] H F R (Ext.refl _) trivial
theorem VRs.step {K : PySem.W.Frag} {ios : Nat → Option Addr} {S S1 S2 : Stt} (e : Ext S1 S2) (hs : S2.σ = S1.σ) : ∀ {xs : List V} {vs : List Vl}, VRs K S S1 xs vs → VRs K S S2 xs vs
  | [], [], _ => trivial
  | _ :: _, _ :: _, r => ⟨r.1.step (ios := ios) e hs, r.2.1, VRs.step (ios := ios) e hs r.2.2⟩
  | [], _ :: _, r => r.elim
  | _ :: _, [], r => r.elim
theorem sA_cons {X : Cx} {p : Pm} {e : Expr} {es : List Expr} {m : En → Rs Vl} {ms : En → Rs (List Vl)} (h : PE X e (tSE p m)) (hs : PA X es (tSA p ms)) (hst : starEach (e :: es) X.env = (false, eval e X.env) :: starEach es X.env) :
    PA X (e :: es) (tSA p fun env => (m env).bind fun v e1 => (ms e1).bind fun vs e2 => .ok (v :: vs) e2) := by
  refine PA.imp (pa_cons h hs hst) fun σ H Q ⟨F, env, R, q⟩ => ?_
  refine ⟨F, env, R, (GP.bind q).imp fun x H1 ⟨v, F1, e1, R1, E1, V1, h1⟩ => ?_⟩
  refine ⟨F1, e1, R1, (GP.bindS (R := VRs p.K) h1 E1 rfl).imp fun ys H2 ⟨w, F2, e2, R2, E2, V2, h2⟩ => ?_⟩
  exact h2 (x :: ys) H2 F2 R2 (E1.trans E2) ⟨V1.step (ios := p.ios) E2 rfl, sep_later V1 V2, V2.back E1⟩
end Pv

/-! PvS2: values are shared; calls of defs by their functions. -/
namespace Pv
open PySem PySem.Spec PyProof.Rows L2
variable [Tb]
section
variable {K : PySem.W.Frag} {ios : Nat → Option Addr} {S0 S : Stt}
theorem fz_ok {x : V} {v : Vl} {d : D} {e1 : En} (R : ER K ios S) (E : Ext S0 S) (r : VR K S0 S x v) (h : fz v S.env = some (d, e1)) :
    ∃ F', ER K ios ⟨F', e1, S.σ, S.H⟩ ∧ Ext S0 ⟨F', e1, S.σ, S.H⟩ ∧ Rep K F' x d ∧ Same S.F F' ∧
      ∀ y w, VR K S0 S y w → (∀ d1 d2, v = .ow d1 → w = .ow d2 → y ≠ x) → VR K S0 ⟨F', e1, S.σ, S.H⟩ y w := by
  cases v with
  | sh d' =>
    simp only [fz, Option.some.injEq, Prod.mk.injEq] at h
    obtain ⟨rfl, rfl⟩ := h
    exact ⟨S.F, R, E, r, Same.refl _, fun _ _ q _ => q⟩
  | ow d' =>
    simp only [fz, Option.some.injEq, Prod.mk.injEq] at h
    obtain ⟨rfl, rfl⟩ := h
    obtain ⟨a, ho, h1, h2, h3, h4, h5, h6⟩ := r
    refine ⟨upd S.F a ho, R.freeze h3.nt h2 h4 h5, E.freeze h4 h6, ?_, same_updF h4, fun y w q hne => ?_⟩
    · subst h1
      exact (h3.mono (same_updF h4)).frozen upd_same
    · cases w with
      | sh d2 => exact Rep.mono (same_updF h4) q
      | bo i => exact q
      | ow d2 =>
        obtain ⟨b, u, q1, q2, q3, q4, q5, q6⟩ := q
        have hb : b ≠ a := fun z => hne d' d2 rfl rfl (by rw [q1, h1, z])
        exact ⟨b, u, q1, q2, q3.mono (same_updF h4), by show upd S.F a ho b = none; rw [upd_ne hb]; exact q4, fun z => q5 ((Own.of (S := S) (S' := ⟨upd S.F a ho, S.env, S.σ, S.H⟩) rfl rfl).mp z), q6⟩
  | bo i =>
    have r : S.σ[i]? = some (some x) := r
    cases q : S.env[i]? with
    | none => simp only [fz, q] at h; cases h
    | some s =>
      cases s with
      | no => simp only [fz, q] at h; cases h
      | io d' => simp only [fz, q] at h; cases h
      | sh d' =>
        simp only [fz, q, Option.some.injEq, Prod.mk.injEq] at h
        obtain ⟨rfl, rfl⟩ := h
        obtain ⟨y, e1, e2⟩ := R.sl i _ q
        rw [r] at e1; cases e1
        exact ⟨S.F, R, E, e2, Same.refl _, fun _ _ q _ => q⟩
      | ow d' =>
        simp only [fz, q, Option.some.injEq, Prod.mk.injEq] at h
        obtain ⟨rfl, rfl⟩ := h
        obtain ⟨a, ho, e1, rep, R', E'⟩ := R.share q
        rw [r] at e1; cases e1
        exact ⟨upd S.F a ho, R', E.trans E', rep, E'.fsub, fun y w z _ => z.step (ios := ios) E' rfl⟩
theorem VRs.pres {S1 : Stt} {x : V} {v : Vl} (hp : ∀ y w, VR K S0 S y w → (∀ d1 d2, v = .ow d1 → w = .ow d2 → y ≠ x) → VR K S0 S1 y w) : ∀ {xs : List V} {vs : List Vl}, VRs K S0 S xs vs → Sep x v xs vs → VRs K S0 S1 xs vs
  | [], [], _, _ => trivial
  | _ :: _, _ :: _, r, s => ⟨hp _ _ r.1 s.1, r.2.1, VRs.pres hp r.2.2 s.2⟩
  | [], _ :: _, r, _ => r.elim
  | _ :: _, [], r, _ => r.elim
theorem fzL_ok : ∀ {xs : List V} {vs : List Vl} {S : Stt} {ds : List D} {e1 : En}, ER K ios S → Ext S0 S → VRs K S0 S xs vs → fzL vs S.env = some (ds, e1) →
    ∃ F', ER K ios ⟨F', e1, S.σ, S.H⟩ ∧ Ext S0 ⟨F', e1, S.σ, S.H⟩ ∧ RepL K F' xs ds ∧ Same S.F F' ∧ ∀ y w, VR K S0 S y w → Sep y w xs vs → VR K S0 ⟨F', e1, S.σ, S.H⟩ y w
  | [], [], S, ds, e1, R, E, _, h => by
    simp only [fzL, Option.some.injEq, Prod.mk.injEq] at h
    obtain ⟨rfl, rfl⟩ := h
    exact ⟨S.F, R, E, trivial, Same.refl _, fun _ _ q _ => q⟩
  | x :: xs, v :: vs, S, ds, e1, R, E, r, h => by
    cases c : fz v S.env with
    | none => simp only [fzL, c] at h; cases h
    | some de =>
      obtain ⟨d, e2⟩ := de
      simp only [fzL, c] at h
      cases c2 : fzL vs e2 with
      | none => rw [c2] at h; cases h
      | some dse =>
        obtain ⟨ds', e3⟩ := dse
        rw [c2] at h
        simp only [Option.some.injEq, Prod.mk.injEq] at h
        obtain ⟨rfl, rfl⟩ := h
        obtain ⟨F1, R1, E1, rep, s1, pres⟩ := fz_ok R E r.1 c
        obtain ⟨F2, R2, E2, rep2, s2, pres2⟩ := fzL_ok (S := ⟨F1, e2, S.σ, S.H⟩) R1 E1 (VRs.pres pres r.2.2 r.2.1) c2
        refine ⟨F2, R2, E2, ⟨rep.mono s2, rep2⟩, s1.trans s2, fun y w q s => pres2 y w (pres y w q fun d1 d2 h1 h2 z => s.1 d2 d1 h2 h1 z.symm) s.2⟩
  | [], _ :: _, _, _, _, _, _, r, _ => r.elim
  | _ :: _, [], _, _, _, _, _, r, _ => r.elim
end

/-! ### what a def promises by its function -/
def IoAt (K : PySem.W.Frag) (F H : Hp) (a : Addr) (d : D) : Prop := ∃ ho, H a = some ho ∧ Ob K F ho d ∧ F a = none
structure FExt (F H : Hp) (O : Addr → Prop) (F' H' : Hp) : Prop where
  fsub : Same F F'
  sub : Same F' H'
  keep : ∀ {p o}, H p = some o → ¬ O p → NT o → H' p = some o
  fnew : ∀ p o, F' p = some o → F p = some o ∨ Fr0 H p
  tab : TBok F H → TBok F' H'
def IoB (K : PySem.W.Frag) (F H : Hp) : Option Addr → D → Prop
  | none, _ => True
  | some a, d => IoAt K F H a d
def FPost (K : PySem.W.Frag) (cl : Cl) (F H : Hp) (oa : Option Addr) (r : FR) (Q : VK) (E : XK) : Prop := match r with
  | .sh d io => ∀ x H' F', FExt F H (fun p => oa = some p) F' H' → IoB K F' H' oa io → Rep K F' x d → Q x H'
  | .ow d io => ∀ a H' F', FExt F H (fun p => oa = some p) F' H' → IoB K F' H' oa io → IoAt K F' H' a d → Fr0 H a → Q (.ref a) H'
  | .ex c d io => ∀ cls dx H' F', FExt F H (fun p => oa = some p) F' H' → IoB K F' H' oa io → ExR K cl c d cls dx F' H' → E cls dx H'
  | .stuck => False
def spOf (K : PySem.W.Frag) (cl : Cl) (n : Nat) (fn : Fn) : Sp := fun vs H Q E => vs.length = n ∧ ∃ F, (Same F H ∧ TBok F H) ∧ match fn.io with
  | false => ∃ ds, RepL K F vs ds ∧ FPost K cl F H none (fn.run ds) Q E
  | true => ∃ a d ws ds, vs = .ref a :: ws ∧ IoAt K F H a d ∧ RepL K F ws ds ∧ FPost K cl F H (some a) (fn.run (d :: ds)) Q E
section
variable {K : PySem.W.Frag} {ios : Nat → Option Addr} {S : Stt} {F' H' : Hp}
/-- behind a call that wrote nothing that a slot owns -/
theorem FExt.er {O : Addr → Prop} (R : ER K ios S) (f : FExt S.F S.H O F' H') (hO : ∀ p, O p → ¬ Own S p) : ER K ios ⟨F', S.env, S.σ, H'⟩ where
  sub := f.sub
  len := R.len
  sl := fun i s e => by
    have q := R.sl i s e
    have st : ∀ a ho, S.H a = some ho → NT ho → S.F a = none → Own S a → H' a = some ho ∧ F' a = none := fun a ho h1 nt h2 o => by
      refine ⟨f.keep h1 (fun z => hO a z o) nt, ?_⟩
      cases c : F' a with
      | none => rfl
      | some u =>
        rcases f.fnew a u c with z | z
        · rw [h2] at z; cases z
        · exact absurd nt (z ho h1)
    cases s with
    | no => trivial
    | sh d => obtain ⟨x, e1, e2⟩ := q; exact ⟨x, e1, e2.mono f.fsub⟩
    | ow d =>
      obtain ⟨a, ho, e1, e2, e3, e4⟩ := q
      obtain ⟨h1, h2⟩ := st a ho e2 e3.nt e4 ⟨i, ⟨d, .inl e⟩, e1⟩
      exact ⟨a, ho, e1, h1, e3.mono f.fsub, h2⟩
    | io d =>
      obtain ⟨a, ho, e1, e0, e2, e3, e4⟩ := q
      obtain ⟨h1, h2⟩ := st a ho e2 e3.nt e4 ⟨i, ⟨d, .inr e⟩, e1⟩
      exact ⟨a, ho, e1, e0, h1, e3.mono f.fsub, h2⟩
  sep := R.sep
  tab := f.tab R.tab
theorem FExt.ext {S0 : Stt} {O : Addr → Prop} (E : Ext S0 S) (f : FExt S.F S.H O F' H') (hO : ∀ p, O p → ¬ Own S p ∧ (Fr0 S0.H p ∨ Own S0 p)) : Ext S0 ⟨F', S.env, S.σ, H'⟩ where
  fsub := E.fsub.trans f.fsub
  keep := fun {p o} h n t => f.keep (E.keep h n t) (fun z => by
    rcases (hO p z).2 with q | q
    · exact q o h t
    · exact n q) t
  fnew := fun p o h => by
    rcases f.fnew p o h with z | z
    · exact E.fnew p o z
    · exact .inr (E.there z)
  onew := fun p o => E.onew p ((Own.of (S := S) (S' := ⟨F', S.env, S.σ, H'⟩) rfl rfl).mp o)
/-- behind a call that wrote what slot i owns -/
theorem FExt.erIo {i : Nat} {a : Addr} {d : D} {s' : Sl} (R : ER K ios S) (f : FExt S.F S.H (fun p => some a = some p) F' H') (h : OwnAt S i a) (io : IoAt K F' H' a d)
    (hs : (∃ d0, S.env[i]? = some (.ow d0) ∧ s' = .ow d) ∨ (∃ d0, S.env[i]? = some (.io d0) ∧ s' = .io d)) : ER K ios ⟨F', S.env.set i s', S.σ, H'⟩ ∧ Ext S ⟨F', S.env.set i s', S.σ, H'⟩ := by
  have hlt : i < S.env.length := by
    rcases hs with ⟨d0, e, _⟩ | ⟨d0, e, _⟩ <;> exact (List.getElem?_eq_some_iff.mp e).1
  have old : ∀ {j p}, OwnAt ⟨F', S.env.set i s', S.σ, H'⟩ j p → OwnAt S j p := fun {j p} o => by
    obtain ⟨⟨d', e⟩, e2⟩ := o
    have e : (S.env.set i s')[j]? = some (.ow d') ∨ (S.env.set i s')[j]? = some (.io d') := e
    by_cases hj : j = i
    · subst hj
      rcases hs with ⟨d0, e0, _⟩ | ⟨d0, e0, _⟩
      · exact ⟨⟨d0, .inl e0⟩, e2⟩
      · exact ⟨⟨d0, .inr e0⟩, e2⟩
    · rw [List.getElem?_set_ne (Ne.symm hj)] at e
      exact ⟨⟨d', e⟩, e2⟩
  refine ⟨⟨f.sub, by simpa using R.len, fun j s e => ?_, fun j k p o1 o2 => R.sep j k p (old o1) (old o2), f.tab R.tab⟩, ⟨f.fsub, fun e n t => f.keep e (fun z => n (Option.some.inj z ▸ ⟨i, h⟩)) t, fun p o e => ?_, fun p o => ?_⟩⟩
  · have e : (S.env.set i s')[j]? = some s := e
    by_cases hj : j = i
    · subst hj
      rw [List.getElem?_set_self hlt] at e
      cases e
      obtain ⟨ho, i1, i2, i3⟩ := io
      rcases hs with ⟨d0, e0, rfl⟩ | ⟨d0, e0, rfl⟩
      · exact ⟨a, ho, h.2, i1, i2, i3⟩
      · obtain ⟨b, u, e1, e2, _⟩ := R.sl j _ e0
        rw [h.2] at e1; cases e1
        exact ⟨a, ho, h.2, e2, i1, i2, i3⟩
    · rw [List.getElem?_set_ne (Ne.symm hj)] at e
      have q := R.sl j s e
      have st : ∀ b ho, S.H b = some ho → NT ho → S.F b = none → OwnAt S j b → H' b = some ho ∧ F' b = none := fun b ho h1 nt h2 o => by
        refine ⟨f.keep h1 (fun z => hj (R.sep j i b o (Option.some.inj z ▸ h))) nt, ?_⟩
        cases c : F' b with
        | none => rfl
        | some u =>
          rcases f.fnew b u c with z | z
          · rw [h2] at z; cases z
          · exact absurd nt (z ho h1)
      cases s with
      | no => trivial
      | sh d => obtain ⟨x, e1, e2⟩ := q; exact ⟨x, e1, e2.mono f.fsub⟩
      | ow d =>
        obtain ⟨b, ho, e1, e2, e3, e4⟩ := q
        obtain ⟨h1, h2⟩ := st b ho e2 e3.nt e4 ⟨⟨d, .inl e⟩, e1⟩
        exact ⟨b, ho, e1, h1, e3.mono f.fsub, h2⟩
      | io d =>
        obtain ⟨b, ho, e1, e0, e2, e3, e4⟩ := q
        obtain ⟨h1, h2⟩ := st b ho e2 e3.nt e4 ⟨⟨d, .inr e⟩, e1⟩
        exact ⟨b, ho, e1, e0, h1, e3.mono f.fsub, h2⟩
  · rcases f.fnew p o e with z | z
    · exact .inl z
    · exact .inr (.inr z)
  · obtain ⟨j, o⟩ := o
    exact .inl ⟨j, old o⟩
end

/-- the callee's promise from what the caller's reading asks -/
theorem callF_ok {p : Pm} {n : Nat} {fn : Fn} {S S1 : Stt} {xs : List V} {vs : List Vl} {Q : VK} (R1 : ER p.K p.ios S1) (E1 : Ext S S1) (hs : S1.σ = S.σ) (r : VRs p.K S S1 xs vs) (hn : vs.length = n)
    (h : GP p (VR p.K) S (callF fn vs S1.env) Q) : spOf p.K p.cl n fn xs S1.H Q (WE p.W S.σ) := by
  have hl : ∀ {xs : List V} {vs : List Vl}, VRs p.K S S1 xs vs → xs.length = vs.length := by
    intro xs
    induction xs with
    | nil => intro vs r; cases vs with
      | nil => rfl
      | cons _ _ => exact r.elim
    | cons x xs ih => intro vs r; cases vs with
      | nil => exact r.elim
      | cons v vs => simp [ih r.2.2]
  refine ⟨(hl r).trans hn, ?_⟩
  cases hio : fn.io with
  | false =>
    simp only [callF, hio] at h
    cases c : fzL vs S1.env with
    | none => rw [c] at h; exact h.elim
    | some dse =>
      obtain ⟨ds, e2⟩ := dse
      rw [c] at h
      simp only at h
      obtain ⟨F2, R2, E2, rep, _, _⟩ := fzL_ok R1 E1 r c
      refine ⟨F2, ⟨R2.sub, R2.tab⟩, ds, rep, ?_⟩
      cases c2 : fn.run ds with
      | sh d io =>
        rw [c2] at h
        intro x H' F' f _ q
        exact h x H' F' (hs ▸ f.er (S := ⟨F2, e2, S1.σ, S1.H⟩) R2 (fun _ z => by cases z)) (hs ▸ f.ext (S := ⟨F2, e2, S1.σ, S1.H⟩) E2 (fun _ z => by cases z)) q
      | ow d io =>
        rw [c2] at h
        intro a H' F' f _ ⟨ho, i1, i2, i3⟩ hn
        refine h (.ref a) H' F' (hs ▸ f.er (S := ⟨F2, e2, S1.σ, S1.H⟩) R2 (fun _ z => by cases z)) (hs ▸ f.ext (S := ⟨F2, e2, S1.σ, S1.H⟩) E2 (fun _ z => by cases z)) ⟨a, ho, rfl, i1, i2, i3, fun o => ?_, ?_⟩
        · obtain ⟨_, u, z, nt⟩ := R2.own_free ((Own.of (S := ⟨F2, e2, S1.σ, S1.H⟩) (S' := ⟨F', e2, S.σ, H'⟩) rfl hs.symm).mp o)
          exact hn u z nt
        · exact (E1.there hn).symm
      | ex c d io =>
        rw [c2] at h
        intro cls dx H' F' f _ q
        exact h cls dx H' F' (hs ▸ f.er (S := ⟨F2, e2, S1.σ, S1.H⟩) R2 (fun _ z => by cases z)) (hs ▸ f.ext (S := ⟨F2, e2, S1.σ, S1.H⟩) E2 (fun _ z => by cases z)) q
      | stuck => rw [c2] at h; exact h.elim
  | true =>
    simp only [callF, hio] at h
    cases vs with
    | nil => exact h.elim
    | cons v vs =>
      cases xs with
      | nil => exact r.elim
      | cons x xs =>
        simp only at h
        cases c : fzL vs S1.env with
        | none => rw [c] at h; exact h.elim
        | some dse =>
          obtain ⟨ds, e2⟩ := dse
          rw [c] at h
          simp only at h
          obtain ⟨F2, R2, E2, rep, _, pres⟩ := fzL_ok R1 E1 r.2.2 c
          have V2 := pres x v r.1 r.2.1
          cases c1 : ioC v e2 with
          | none => rw [c1] at h; exact h.elim
          | some d0 =>
            rw [c1] at h
            simp only at h
            -- where it stands; how the state is told behind the call
            obtain ⟨a, hx, hat, back⟩ : ∃ a, x = .ref a ∧ IoAt p.K F2 S1.H a d0 ∧ ∀ F' H' d', FExt F2 S1.H (fun p => some a = some p) F' H' → IoAt p.K F' H' a d' →
                ER p.K p.ios ⟨F', bkV v d' e2, S.σ, H'⟩ ∧ Ext S ⟨F', bkV v d' e2, S.σ, H'⟩ := by
              cases v with
              | sh d => simp only [ioC] at c1; cases c1
              | ow d =>
                simp only [ioC, Option.some.injEq] at c1
                subst c1
                obtain ⟨a, ho, h1, h2, h3, h4, h5, h6⟩ := V2
                refine ⟨a, h1, ⟨ho, h2, h3, h4⟩, fun F' H' d' f _ => ⟨hs ▸ f.er (S := ⟨F2, e2, S1.σ, S1.H⟩) R2 (fun q z => Option.some.inj z ▸ h5), hs ▸ f.ext (S := ⟨F2, e2, S1.σ, S1.H⟩) E2 (fun q z => ⟨Option.some.inj z ▸ h5, Option.some.inj z ▸ h6⟩)⟩⟩
              | bo i =>
                have V2 : S1.σ[i]? = some (some x) := V2
                cases q : e2[i]? with
                | none => simp only [ioC, q] at c1; cases c1
                | some s =>
                  cases s with
                  | no => simp only [ioC, q] at c1; cases c1
                  | sh _ => simp only [ioC, q] at c1; cases c1
                  | ow d =>
                    simp only [ioC, q, Option.some.injEq] at c1
                    subst c1
                    obtain ⟨a, ho, e1, h2, h3, h4⟩ := R2.sl i _ q
                    have e1 : S1.σ[i]? = some (some (.ref a)) := e1
                    have hx : x = .ref a := by rw [V2] at e1; cases e1; rfl
                    refine ⟨a, hx, ⟨ho, h2, h3, h4⟩, fun F' H' d' f io => ?_⟩
                    obtain ⟨r1, r2⟩ := f.erIo (S := ⟨F2, e2, S1.σ, S1.H⟩) (s' := .ow d') R2 ⟨⟨d, .inl q⟩, e1⟩ io (.inl ⟨d, q, rfl⟩)
                    simp only [bkV, q]
                    exact ⟨hs ▸ r1, hs ▸ E2.trans r2⟩
                  | io d =>
                    simp only [ioC, q, Option.some.injEq] at c1
                    subst c1
                    obtain ⟨a, ho, e1, e0, h2, h3, h4⟩ := R2.sl i _ q
                    have e1 : S1.σ[i]? = some (some (.ref a)) := e1
                    have hx : x = .ref a := by rw [V2] at e1; cases e1; rfl
                    refine ⟨a, hx, ⟨ho, h2, h3, h4⟩, fun F' H' d' f io => ?_⟩
                    obtain ⟨r1, r2⟩ := f.erIo (S := ⟨F2, e2, S1.σ, S1.H⟩) (s' := .io d') R2 ⟨⟨d, .inr q⟩, e1⟩ io (.inr ⟨d, q, rfl⟩)
                    simp only [bkV, q]
                    exact ⟨hs ▸ r1, hs ▸ E2.trans r2⟩
            refine ⟨F2, ⟨R2.sub, R2.tab⟩, a, d0, xs, ds, by rw [hx], hat, rep, ?_⟩
            cases c2 : fn.run (d0 :: ds) with
            | sh d io =>
              rw [c2] at h
              intro y H' F' f ib q
              obtain ⟨b1, b2⟩ := back F' H' io f ib
              exact h y H' F' b1 b2 q
            | ow d io =>
              rw [c2] at h
              intro y H' F' f ib ⟨ho, i1, i2, i3⟩ hn
              obtain ⟨b1, b2⟩ := back F' H' io f ib
              refine h (.ref y) H' F' b1 b2 ⟨y, ho, rfl, i1, i2, i3, fun o => ?_, ?_⟩
              · rcases b2.onew y o with z | z
                · -- owned at the start: it stood then, and later
                  obtain ⟨j, o2⟩ := o
                  -- behind the call the slots own what they owned ahead of it
                  have : ∃ u, S1.H y = some u ∧ NT u := by
                    cases v with
                    | bo i =>
                      have key : Own ⟨F2, e2, S1.σ, S1.H⟩ y := by
                        obtain ⟨⟨dd, e⟩, e3⟩ := o2
                        have e3 : S.σ[j]? = some (some (.ref y)) := e3
                        rw [← hs] at e3
                        refine ⟨j, ?_, e3⟩
                        have e : (bkV (.bo i) io e2)[j]? = some (.ow dd) ∨ (bkV (.bo i) io e2)[j]? = some (.io dd) := e
                        simp only [bkV] at e
                        cases q : e2[i]? with
                        | none => rw [q] at e; exact ⟨dd, e⟩
                        | some s =>
                          rw [q] at e
                          cases s with
                          | no => exact ⟨dd, e⟩
                          | sh _ => exact ⟨dd, e⟩
                          | ow d9 =>
                            simp only at e
                            by_cases hj : j = i
                            · subst hj; exact ⟨d9, .inl q⟩
                            · rw [List.getElem?_set_ne (Ne.symm hj)] at e; exact ⟨dd, e⟩
                          | io d9 =>
                            simp only at e
                            by_cases hj : j = i
                            · subst hj; exact ⟨d9, .inr q⟩
                            · rw [List.getElem?_set_ne (Ne.symm hj)] at e; exact ⟨dd, e⟩
                      exact (R2.own_free key).2
                    | sh _ =>
                      simp only [ioC] at c1; cases c1
                    | ow _ =>
                      exact (R2.own_free (S := ⟨F2, e2, S1.σ, S1.H⟩) ⟨j, o2.1, by rw [hs]; exact o2.2⟩).2
                  obtain ⟨u, z, nt⟩ := this
                  exact hn u z nt
                · obtain ⟨j, o2⟩ := o
                  have : ∃ u, S1.H y = some u ∧ NT u := by
                    cases v with
                    | bo i =>
                      have key : Own ⟨F2, e2, S1.σ, S1.H⟩ y := by
                        obtain ⟨⟨dd, e⟩, e3⟩ := o2
                        have e3 : S.σ[j]? = some (some (.ref y)) := e3
                        rw [← hs] at e3
                        refine ⟨j, ?_, e3⟩
                        have e : (bkV (.bo i) io e2)[j]? = some (.ow dd) ∨ (bkV (.bo i) io e2)[j]? = some (.io dd) := e
                        simp only [bkV] at e
                        cases q : e2[i]? with
                        | none => rw [q] at e; exact ⟨dd, e⟩
                        | some s =>
                          rw [q] at e
                          cases s with
                          | no => exact ⟨dd, e⟩
                          | sh _ => exact ⟨dd, e⟩
                          | ow d9 =>
                            simp only at e
                            by_cases hj : j = i
                            · subst hj; exact ⟨d9, .inl q⟩
                            · rw [List.getElem?_set_ne (Ne.symm hj)] at e; exact ⟨dd, e⟩
                          | io d9 =>
                            simp only at e
                            by_cases hj : j = i
                            · subst hj; exact ⟨d9, .inr q⟩
                            · rw [List.getElem?_set_ne (Ne.symm hj)] at e; exact ⟨dd, e⟩
                      exact (R2.own_free key).2
                    | sh _ =>
                      simp only [ioC] at c1; cases c1
                    | ow _ =>
                      exact (R2.own_free (S := ⟨F2, e2, S1.σ, S1.H⟩) ⟨j, o2.1, by rw [hs]; exact o2.2⟩).2
                  obtain ⟨u, z, nt⟩ := this
                  exact hn u z nt
              · exact (E1.there hn).symm
            | ex c d io =>
              rw [c2] at h
              intro cls dx H' F' f ib q
              obtain ⟨b1, b2⟩ := back F' H' io f ib
              exact h cls dx H' F' b1 b2 q
            | stuck => rw [c2] at h; exact h.elim
end Pv

/-! PvS3: operators by data. -/
namespace Pv
open PySem PySem.Spec PyProof.Rows L2
variable [Tb]
theorem mkS_len (l : List Nat) : (mkS l).length = l.length := by show l.toArray.size = l.length; simp
theorem mkS_app (l m : List Nat) : mkS l ++ mkS m = mkS (l ++ m) := by
  show (⟨l.toArray ++ m.toArray⟩ : Str) = ⟨(l ++ m).toArray⟩
  simp
theorem mkS_inj {l m : List Nat} (h : mkS l = mkS m) : l = m := by
  have := congrArg (fun s : Str => s.cps.toList) h
  simpa using this
theorem mkS_cps (z : Str) : mkS z.cps.toList = z := rfl
theorem mkS_dec (l m : List Nat) : decide (mkS l = mkS m) = decide (l = m) := by
  by_cases e : l = m
  · subst e; simp
  · rw [decide_eq_false e, decide_eq_false fun q => e (mkS_inj q)]
theorem Rep.strE {K : PySem.W.Frag} {F : Hp} {x : V} {l : List Nat} (r : Rep K F x (.str l)) : x = .str (mkS l) ∧ l.length ≤ sizeLine := by simpa only [Rep] using r
/-- no data of this kind: nothing is claimed -/
theorem none_some {α : Type} {v : α} {P : Prop} (h : (none : Option α) = some v) : P := by cases h
section
variable {p : Pm}
theorem add2 : Op2 p (binD .Add) (fun x y H Q => (rI0 (fun i j => .int (i + j)) x y H Q) ∨ (∃ i j, x = .str i ∧ y = .str j ∧ i.length + j.length ≤ sizeLine ∧ Q (.str (i ++ j)) H) ∨ rCat x y H Q ∨ rCatA p.K x y H Q) := by
  intro S x y dx dy v Q R rx ry e q
  cases dx <;> cases dy <;> first | exact none_some e | skip
  case int.int i j =>
    cases (show some (Vl.sh (.int (i + j))) = some v from e)
    exact .inl ⟨i, j, rx.int, ry.int, q.int R⟩
  case str.str l m =>
    simp only [binD] at e
    split at e
    · cases e
      obtain ⟨rfl, _⟩ := rx.str
      obtain ⟨rfl, _⟩ := ry.str
      refine .inr (.inl ⟨mkS l, mkS m, rfl, rfl, by rw [mkS_len, mkS_len]; assumption, ?_⟩)
      rw [mkS_app]
      exact q.str R (by rw [List.length_append]; assumption)
    · cases e
  case tup.tup l m =>
    simp only [binD] at e
    split at e
    · cases e
      obtain ⟨a, vs, rfl, fa, ha, ra⟩ := rx.tup R
      obtain ⟨b, ws, rfl, fb, hb, rb⟩ := ry.tup R
      refine .inr (.inr (.inr ⟨a, b, vs, ws, rfl, rfl, SqT.of ha, SqT.of hb, by rw [ra.length, rb.length]; assumption, fun h => ?_, fun _ h => ?_, fun _ _ pp np => ?_⟩))
      · have : l = [] := ra.nil_iff.mp h
        subst this
        exact q.sh R (by simp only [Rep]; exact ⟨b, ws, rfl, fb, rb⟩)
      · have : m = [] := rb.nil_iff.mp h
        subst this
        rw [List.append_nil] at q
        exact q.sh R (by simp only [Rep]; exact ⟨a, vs, rfl, fa, ra⟩)
      · exact q.newTup R np (ra.append rb)
    · cases e
  case lst.lst l m =>
    simp only [binD] at e
    split at e
    · cases e
      obtain ⟨a, vs, rfl, ha, ra⟩ := rx.lst R
      obtain ⟨b, ws, rfl, hb, rb⟩ := ry.lst R
      exact .inr (.inr (.inl ⟨a, b, vs, ws, rfl, rfl, ha, hb, by rw [ra.length, rb.length]; assumption, fun pp np => q.ow R np ⟨_, rfl, ra.append rb⟩⟩))
    · cases e
theorem sub2 : Op2 p (binD .Sub) (rI0 fun i j => .int (i - j)) := by
  intro S x y dx dy v Q R rx ry e q
  cases dx <;> cases dy <;> first | exact none_some e | skip
  case int.int i j =>
    cases (show some (Vl.sh (.int (i - j))) = some v from e)
    exact ⟨i, j, rx.int, ry.int, q.int R⟩
theorem mulOk_c {i j : Int} (h : mulOk i j = true) : CMul i j := by
  unfold mulOk at h
  rcases Bool.or_eq_true_iff.mp h with h | h
  · have := inB_iff.mp h
    exact .inl ⟨by omega, by omega⟩
  · have := inB_iff.mp h
    exact .inr ⟨by omega, by omega⟩
theorem RepL.rep {K : PySem.W.Frag} {F : Hp} {vs : List V} {ds : List D} (r : RepL K F vs ds) : ∀ n : Nat, RepL K F (List.replicate n vs).flatten (List.replicate n ds).flatten
  | 0 => trivial
  | n + 1 => by
    rw [List.replicate_succ, List.replicate_succ, List.flatten_cons, List.flatten_cons]
    exact r.append (RepL.rep r n)
theorem mul2 : Op2 p (binD .Mult) (fun x y H Q => rI CMul (fun i j => .int (i * j)) x y H Q ∨ rRep x y H Q) := by
  intro S x y dx dy v Q R rx ry e q
  cases dx <;> cases dy <;> first | exact none_some e | skip
  case int.int i j =>
    simp only [binD] at e
    split at e
    · cases e
      exact .inl ⟨i, j, rx.int, ry.int, mulOk_c (by assumption), q.int R⟩
    · cases e
  case lst.int l k =>
    simp only [binD] at e
    split at e
    · rename_i hc
      cases e
      obtain ⟨a, vs, rfl, ha, ra⟩ := rx.lst R
      exact .inr ⟨a, k, vs, rfl, ry.int, ha, hc.1, hc.2.1, by rw [ra.length]; exact hc.2.2, fun pp np => q.ow R np ⟨_, rfl, ra.rep _⟩⟩
    · cases e
theorem divOk_c {i j : Int} (h : divOk j = true) : CDivW i j := by
  obtain ⟨h1, h2⟩ := divOk_iff.mp h
  rw [Int.natCast_pow] at h2
  have h2 : j < 2 ^ 8000 := h2
  exact wide_div (b := 8000) h1 (by omega) (by decide) (by decide)
theorem fdiv2 : Op2 p (binD .FloorDiv) (rI CDivW fun i j => .int (i / j)) := by
  intro S x y dx dy v Q R rx ry e q
  cases dx <;> cases dy <;> first | exact none_some e | skip
  case int.int i j =>
    simp only [binD] at e
    split at e
    · cases e
      exact ⟨i, j, rx.int, ry.int, divOk_c (by assumption), q.int R⟩
    · cases e
theorem mod2 : Op2 p (binD .Mod) (rI (fun _ j => 0 < j) fun i j => .int (i % j)) := by
  intro S x y dx dy v Q R rx ry e q
  cases dx <;> cases dy <;> first | exact none_some e | skip
  case int.int i j =>
    simp only [binD] at e
    split at e
    · cases e
      exact ⟨i, j, rx.int, ry.int, by assumption, q.int R⟩
    · cases e
theorem pow2 : Op2 p (binD .Pow) (rI CPow fun i j => .int (i ^ j.toNat)) := by
  intro S x y dx dy v Q R rx ry e q
  cases dx <;> cases dy <;> first | exact none_some e | skip
  case int.int i j =>
    simp only [binD] at e
    split at e
    · cases e
      exact ⟨i, j, rx.int, ry.int, by assumption, q.int R⟩
    · cases e
theorem neg1 : Op1 p negD (rU fun i => .int (-i)) := by
  intro S x dx v Q R rx e q
  cases dx <;> first | exact none_some e | skip
  case int i =>
    cases (show some (Vl.sh (.int (-i))) = some v from e)
    exact ⟨i, rx.int, q.int R⟩

/-! ### comparisons -/
abbrev cmpV (op : CmpOp) : D → D → Option Vl := fun a b => (cmpD op a b).map fun b => .sh (.bl b)
mutual
theorem dp_of {K : PySem.W.Frag} {F H : Hp} (s : Same F H) : ∀ {x : V} {d : D} {e : PyData}, Rep K F x d → d.py = some e → Dp K H x e
  | x, .non, e, r, h => by
    simp only [D.py, Option.some.injEq] at h; subst h
    have r : x = .non := by simpa only [Rep] using r
    subst r; exact .non
  | x, .bl b, e, r, h => by
    simp only [D.py, Option.some.injEq] at h; subst h
    have r : x = .bl b := by simpa only [Rep] using r
    subst r; exact .bl b
  | x, .int b, e, r, h => by
    simp only [D.py, Option.some.injEq] at h; subst h
    have r : x = .int b := by simpa only [Rep] using r
    subst r; exact .int b
  | x, .str b, e, r, h => by
    simp only [D.py, Option.some.injEq] at h; subst h
    have r := r.strE
    rw [r.1]; exact .str _
  | x, .tup ds, e, r, h => by
    simp only [D.py, Option.map_eq_some_iff] at h
    obtain ⟨es, h1, rfl⟩ := h
    simp only [Rep] at r
    obtain ⟨a, vs, rfl, h2, h3⟩ := r
    exact .tup (SqT.of (s _ _ h2)) (dp_all s h3 h1)
  | x, .lst ds, e, r, h => by
    simp only [D.py, Option.map_eq_some_iff] at h
    obtain ⟨es, h1, rfl⟩ := h
    simp only [Rep] at r
    obtain ⟨a, vs, rfl, h2, h3⟩ := r
    exact .lst (SqL.of (s _ _ h2)) (dp_all s h3 h1)
  | _, .fl _, _, _, h => by simp only [D.py] at h; cases h
  | _, .ft _, _, _, h => by simp only [D.py] at h; cases h
  | _, .dic _ _, _, _, h => by simp only [D.py] at h; cases h
theorem dp_all {K : PySem.W.Frag} {F H : Hp} (s : Same F H) : ∀ {xs : List V} {ds : List D} {es : List PyData}, RepL K F xs ds → D.py.pyL ds = some es → DpAll K H xs es
  | [], [], es, _, h => by
    simp only [D.py.pyL, Option.some.injEq] at h; subst h; exact .nil
  | x :: xs, d :: ds, es, r, h => by
    simp only [D.py.pyL] at h
    cases c : d.py with
    | none => rw [c] at h; cases h
    | some p =>
      rw [c] at h
      simp only [Option.bind_some, Option.map_eq_some_iff] at h
      obtain ⟨es', h1, rfl⟩ := h
      exact .cons (dp_of s r.1 c) (dp_all s r.2 h1)
  | [], _ :: _, _, r, _ => r.elim
  | _ :: _, [], _, r, _ => r.elim
end
theorem dp_rd {K : PySem.W.Frag} {ios : Nat → Option Addr} {S : Stt} (R : ER K ios S) {x : V} {d : D} {e : PyData} (r : Rd K S x d) (h : d.py = some e) : Dp K S.H x e := by
  rcases r with r | ⟨a, ho, rfl, h1, h2⟩
  · exact dp_of R.sub r h
  · cases d with
    | lst ds =>
      obtain ⟨vs, rfl, r⟩ := h2
      simp only [D.py, Option.map_eq_some_iff] at h
      obtain ⟨es, h3, rfl⟩ := h
      exact .lst (SqL.of h1) (dp_all R.sub r h3)
    | dic _ _ => simp only [D.py] at h; cases h
    | _ => exact h2.elim
theorem dec_false_of {a b : V} (h : a ≠ b) : decide (a = b) = false := decide_eq_false h
theorem eqD_ok {S : Stt} {x y : V} {dx dy : D} {b : Bool} (R : ER p.K p.ios S) (rx : Rd p.K S x dx) (ry : Rd p.K S y dy) (e : eqD dx dy = some b) :
    (scal x y = true ∧ decide (x = y) = b) ∨ ∃ d e, Dp p.K S.H x d ∧ Dp p.K S.H y e ∧ SeqAt.shaped d = true ∧ SeqAt.shaped e = true ∧ PyData.eqv d e = b := by
  have gen : ∀ {o : Option Bool}, o = (match dx.py, dy.py with | some p, some q => if SeqAt.shaped p && SeqAt.shaped q then some (PyData.eqv p q) else none | _, _ => none) → o = some b →
      ∃ d e, Dp p.K S.H x d ∧ Dp p.K S.H y e ∧ SeqAt.shaped d = true ∧ SeqAt.shaped e = true ∧ PyData.eqv d e = b := by
    intro o h1 h2
    rw [h1] at h2
    cases c1 : dx.py with
    | none => rw [c1] at h2; cases h2
    | some u =>
      cases c2 : dy.py with
      | none => rw [c1, c2] at h2; cases h2
      | some w =>
        rw [c1, c2] at h2
        simp only at h2
        split at h2
        · rename_i hs
          rw [Bool.and_eq_true] at hs
          exact ⟨u, w, dp_rd R rx c1, dp_rd R ry c2, hs.1, hs.2, Option.some.inj h2⟩
        · cases h2
  cases dx <;> cases dy
  case int.int i j =>
    have e : some (decide (i = j)) = some b := e
    cases e
    obtain rfl := rx.int
    obtain rfl := ry.int
    exact .inl ⟨rfl, by rw [dec_int]; exact Bool.beq_eq_decide_eq i j⟩
  case str.str i j =>
    have e : some (decide (i = j)) = some b := e
    cases e
    obtain ⟨rfl, _⟩ := rx.str
    obtain ⟨rfl, _⟩ := ry.str
    refine .inl ⟨rfl, ?_⟩
    rw [← mkS_dec]
    by_cases c : mkS i = mkS j
    · rw [decide_eq_true c, c]; simp
    · rw [decide_eq_false c, decide_eq_false fun z => c (V.str.inj z)]
  case bl.bl i j =>
    have e : some (decide (i = j)) = some b := e
    cases e
    obtain rfl := rx.bl
    obtain rfl := ry.bl
    refine .inl ⟨rfl, ?_⟩
    cases i <;> cases j <;> decide
  case non.non =>
    have e : some true = some b := e
    cases e
    obtain rfl := rx.non
    obtain rfl := ry.non
    exact .inl ⟨rfl, by decide⟩
  case non.int =>
    have e : some false = some b := e
    cases e
    obtain rfl := rx.non
    obtain rfl := ry.int
    exact .inl ⟨rfl, decide_eq_false (fun z => by cases z)⟩
  case int.non =>
    have e : some false = some b := e
    cases e
    obtain rfl := rx.int
    obtain rfl := ry.non
    exact .inl ⟨rfl, decide_eq_false (fun z => by cases z)⟩
  case non.bl =>
    have e : some false = some b := e
    cases e
    obtain rfl := rx.non
    obtain rfl := ry.bl
    exact .inl ⟨rfl, decide_eq_false (fun z => by cases z)⟩
  case bl.non =>
    have e : some false = some b := e
    cases e
    obtain rfl := rx.bl
    obtain rfl := ry.non
    exact .inl ⟨rfl, decide_eq_false (fun z => by cases z)⟩
  case non.str =>
    have e : some false = some b := e
    cases e
    obtain rfl := rx.non
    obtain ⟨rfl, _⟩ := ry.str
    exact .inl ⟨rfl, decide_eq_false (fun z => by cases z)⟩
  case str.non =>
    have e : some false = some b := e
    cases e
    obtain ⟨rfl, _⟩ := rx.str
    obtain rfl := ry.non
    exact .inl ⟨rfl, decide_eq_false (fun z => by cases z)⟩
  case int.str =>
    have e : some false = some b := e
    cases e
    obtain rfl := rx.int
    obtain ⟨rfl, _⟩ := ry.str
    exact .inl ⟨rfl, decide_eq_false (fun z => by cases z)⟩
  case str.int =>
    have e : some false = some b := e
    cases e
    obtain ⟨rfl, _⟩ := rx.str
    obtain rfl := ry.int
    exact .inl ⟨rfl, decide_eq_false (fun z => by cases z)⟩
  case bl.str =>
    have e : some false = some b := e
    cases e
    obtain rfl := rx.bl
    obtain ⟨rfl, _⟩ := ry.str
    exact .inl ⟨rfl, decide_eq_false (fun z => by cases z)⟩
  case str.bl =>
    have e : some false = some b := e
    cases e
    obtain ⟨rfl, _⟩ := rx.str
    obtain rfl := ry.bl
    exact .inl ⟨rfl, decide_eq_false (fun z => by cases z)⟩
  all_goals exact .inr (gen rfl e)
theorem eq2 : Op2 p (cmpV .Eq) (fun x y H Q => rEq x y H Q ∨ rEqD p.K x y H Q) := by
  intro S x y dx dy v Q R rx ry e q
  have e : (eqD dx dy).map (fun b => Vl.sh (.bl b)) = some v := e
  rw [Option.map_eq_some_iff] at e
  obtain ⟨b, e9, rfl⟩ := e
  rcases eqD_ok R rx ry e9 with ⟨h1, h2⟩ | ⟨d, e, h1, h2, h3, h4, h5⟩
  · exact .inl ⟨h1, by rw [h2]; exact q.bl R⟩
  · exact .inr ⟨d, e, h1, h2, h3, h4, by rw [h5]; exact q.bl R⟩
theorem ne2 : Op2 p (cmpV .NotEq) (fun x y H Q => rNe x y H Q ∨ rNeD p.K x y H Q) := by
  intro S x y dx dy v Q R rx ry e q
  have e : ((eqD dx dy).map (!·)).map (fun b => Vl.sh (.bl b)) = some v := e
  rw [Option.map_map, Option.map_eq_some_iff] at e
  obtain ⟨b, e9, rfl⟩ := e
  rcases eqD_ok R rx ry e9 with ⟨h1, h2⟩ | ⟨d, e, h1, h2, h3, h4, h5⟩
  · exact .inl ⟨h1, by rw [h2]; exact q.bl R⟩
  · exact .inr ⟨d, e, h1, h2, h3, h4, by rw [h5]; exact q.bl R⟩
theorem lt2 : Op2 p (cmpV .Lt) (fun x y H Q => rI0 (fun i j => .bl (decide (i < j))) x y H Q ∨ ∃ i j, x = .str i ∧ y = .str j ∧ Q (.bl (decide (i.cps.toList < j.cps.toList))) H) := by
  intro S x y dx dy v Q R rx ry e q
  cases dx <;> cases dy <;> first | exact none_some e | skip
  case int.int i j =>
    cases (show some (Vl.sh (.bl (decide (i < j)))) = some v from e)
    exact .inl ⟨i, j, rx.int, ry.int, q.bl R⟩
  case str.str i j =>
    cases (show some (Vl.sh (.bl (decide (i < j)))) = some v from e)
    exact .inr ⟨_, _, rx.str.1, ry.str.1, q.bl R⟩
theorem le2 : Op2 p (cmpV .LtE) (fun x y H Q => rI0 (fun i j => .bl (decide (i ≤ j))) x y H Q ∨ ∃ i j, x = .str i ∧ y = .str j ∧ Q (.bl (!decide (j.cps.toList < i.cps.toList))) H) := by
  intro S x y dx dy v Q R rx ry e q
  cases dx <;> cases dy <;> first | exact none_some e | skip
  case int.int i j =>
    cases (show some (Vl.sh (.bl (decide (i ≤ j)))) = some v from e)
    exact .inl ⟨i, j, rx.int, ry.int, q.bl R⟩
  case str.str i j =>
    cases (show some (Vl.sh (.bl (!decide (j < i)))) = some v from e)
    exact .inr ⟨_, _, rx.str.1, ry.str.1, q.bl R⟩
theorem gt2 : Op2 p (cmpV .Gt) (fun x y H Q => rI0 (fun i j => .bl (decide (j < i))) x y H Q ∨ ∃ i j, x = .str i ∧ y = .str j ∧ Q (.bl (decide (j.cps.toList < i.cps.toList))) H) := by
  intro S x y dx dy v Q R rx ry e q
  cases dx <;> cases dy <;> first | exact none_some e | skip
  case int.int i j =>
    cases (show some (Vl.sh (.bl (decide (j < i)))) = some v from e)
    exact .inl ⟨i, j, rx.int, ry.int, q.bl R⟩
  case str.str i j =>
    cases (show some (Vl.sh (.bl (decide (j < i)))) = some v from e)
    exact .inr ⟨_, _, rx.str.1, ry.str.1, q.bl R⟩
theorem ge2 : Op2 p (cmpV .GtE) (fun x y H Q => rI0 (fun i j => .bl (decide (j ≤ i))) x y H Q ∨ ∃ i j, x = .str i ∧ y = .str j ∧ Q (.bl (!decide (i.cps.toList < j.cps.toList))) H) := by
  intro S x y dx dy v Q R rx ry e q
  cases dx <;> cases dy <;> first | exact none_some e | skip
  case int.int i j =>
    cases (show some (Vl.sh (.bl (decide (j ≤ i)))) = some v from e)
    exact .inl ⟨i, j, rx.int, ry.int, q.bl R⟩
  case str.str i j =>
    cases (show some (Vl.sh (.bl (!decide (i < j)))) = some v from e)
    exact .inr ⟨_, _, rx.str.1, ry.str.1, q.bl R⟩

/-! ### in -/
theorem flat_rep {K : PySem.W.Frag} {F : Hp} {x : V} {d : D} (r : Rep K F x d) (f : flatD d = true) : flatV x = true := by
  cases d with
  | non => have r : x = .non := by simpa only [Rep] using r
           subst r; rfl
  | bl b => have r : x = .bl b := by simpa only [Rep] using r
            subst r; rfl
  | int b => have r : x = .int b := by simpa only [Rep] using r
             subst r; rfl
  | str b => have r := r.strE
             rw [r.1]; rfl
  | _ => cases f
theorem mkS_beq (l m : List Nat) : (mkS l == mkS m) = (l == m) := by
  rw [Bool.beq_eq_decide_eq, Bool.beq_eq_decide_eq, mkS_dec]
theorem eqF_rep {K : PySem.W.Frag} {F : Hp} {x y : V} {d e : D} (r : Rep K F x d) (f : flatD d = true) (r' : Rep K F y e) (f' : flatD e = true) : eqV y x = eqF e d := by
  cases d with
  | non =>
    have r : x = .non := by simpa only [Rep] using r
    subst r
    cases e with
    | non => have r' : y = .non := by simpa only [Rep] using r'
             subst r'; rfl
    | bl b => have r' : y = .bl b := by simpa only [Rep] using r'
              subst r'; rfl
    | int b => have r' : y = .int b := by simpa only [Rep] using r'
               subst r'; rfl
    | str b => have r' := r'.strE
               rw [r'.1]; rfl
    | _ => cases f'
  | bl i =>
    have r : x = .bl i := by simpa only [Rep] using r
    subst r
    cases e with
    | non => have r' : y = .non := by simpa only [Rep] using r'
             subst r'; rfl
    | bl b => have r' : y = .bl b := by simpa only [Rep] using r'
              subst r'; rfl
    | int b => have r' : y = .int b := by simpa only [Rep] using r'
               subst r'; rfl
    | str b => have r' := r'.strE
               rw [r'.1]; rfl
    | _ => cases f'
  | int i =>
    have r : x = .int i := by simpa only [Rep] using r
    subst r
    cases e with
    | non => have r' : y = .non := by simpa only [Rep] using r'
             subst r'; rfl
    | bl b => have r' : y = .bl b := by simpa only [Rep] using r'
              subst r'; rfl
    | int b => have r' : y = .int b := by simpa only [Rep] using r'
               subst r'; rfl
    | str b => have r' := r'.strE
               rw [r'.1]; rfl
    | _ => cases f'
  | str i =>
    have r := r.strE
    rw [r.1]
    cases e with
    | non => have r' : y = .non := by simpa only [Rep] using r'
             subst r'; rfl
    | bl b => have r' : y = .bl b := by simpa only [Rep] using r'
              subst r'; rfl
    | int b => have r' : y = .int b := by simpa only [Rep] using r'
               subst r'; rfl
    | str b => have r' := r'.strE
               rw [r'.1]; exact mkS_beq b i
    | _ => cases f'
  | _ => cases f
theorem all_flat {K : PySem.W.Frag} {F : Hp} {x : V} {d : D} (r : Rep K F x d) (f : flatD d = true) : ∀ {vs : List V} {ds : List D}, RepL K F vs ds → ds.all flatD = true → vs.all flatV = true ∧ inV x vs = ds.any (fun y => eqF y d)
  | [], [], _, _ => ⟨rfl, rfl⟩
  | v :: vs, e :: ds, q, h => by
    rw [List.all_cons, Bool.and_eq_true] at h
    obtain ⟨h1, h2⟩ := all_flat r f q.2 h.2
    refine ⟨by rw [List.all_cons, flat_rep q.1 h.1, h1]; rfl, ?_⟩
    have h2 : vs.any (fun y => eqV y x) = _ := h2
    show (v :: vs).any (fun y => eqV y x) = _
    rw [List.any_cons, List.any_cons, eqF_rep r f q.1 h.1, h2]
  | [], _ :: _, q, _ => q.elim
  | _ :: _, [], q, _ => q.elim
theorem rd_flat {S : Stt} {x : V} {d : D} (r : Rd p.K S x d) (f : flatD d = true) : Rep p.K S.F x d := by
  rcases r with r | ⟨_, _, _, _, r⟩
  · exact r
  · cases d with
    | lst _ => cases f
    | dic _ _ => cases f
    | _ => exact r.elim
/-- in, by data of any depth -/
def rInDT (K : PySem.W.Frag) (neg : Bool) : R2 := fun x y H Q => ∃ d ds, Dp K H x d ∧ SeqAt.shaped d = true ∧ ((Dp K H y (.list ds) ∧ SeqAt.shaped (.list ds) = true) ∨ (Dp K H y (.tuple ds) ∧ SeqAt.shaped (.tuple ds) = true)) ∧
  Q (.bl (if neg then !(ds.any fun z => PyData.eqv z d) else ds.any fun z => PyData.eqv z d)) H
/-- in: what a rule must give -/
def InU (p : Pm) (neg : Bool) : R2 := fun x y H Q => (∃ (c : Nat) (z : Str), x = .str ⟨#[c]⟩ ∧ y = .str z ∧ Q (.bl (if neg then !decide (c ∈ z.cps.toList) else decide (c ∈ z.cps.toList))) H) ∨
  (∃ i j, x = .str i ∧ y = .str j ∧ Q (.bl (if neg then !(!(Builtin.Str.occurrences j i 0 j.length 1).isEmpty) else (!(Builtin.Str.occurrences j i 0 j.length 1).isEmpty))) H) ∨ rIn p.K neg x y H Q ∨ rInDT p.K neg x y H Q
theorem inP_ok (neg : Bool) {S : Stt} {x y : V} {dx dy : D} {b : Bool} {Q : VK} (R : ER p.K p.ios S) (rx : Rd p.K S x dx) (ry : Rd p.K S y dy) (e : inP dx dy = some b) (q : Q (.bl (if neg then !b else b)) S.H) : InU p neg x y S.H Q := by
  unfold inP at e
  cases c1 : dx.py with
  | none => rw [c1] at e; cases e
  | some d =>
    cases c2 : dy.py with
    | none => rw [c1, c2] at e; cases e
    | some f =>
      rw [c1, c2] at e
      cases f <;> first | cases e; done | skip
      case list ds =>
        simp only at e
        split at e
        · rename_i hc
          rw [Bool.and_eq_true] at hc
          cases e
          exact .inr (.inr (.inr ⟨d, ds, dp_rd R rx c1, hc.1, .inl ⟨dp_rd R ry c2, hc.2⟩, q⟩))
        · cases e
      case tuple ds =>
        simp only at e
        split at e
        · rename_i hc
          rw [Bool.and_eq_true] at hc
          cases e
          exact .inr (.inr (.inr ⟨d, ds, dp_rd R rx c1, hc.1, .inr ⟨dp_rd R ry c2, hc.2⟩, q⟩))
        · cases e
theorem inD_ok (neg : Bool) {S : Stt} {x y : V} {dx dy : D} {b : Bool} {Q : VK} (R : ER p.K p.ios S) (rx : Rd p.K S x dx) (ry : Rd p.K S y dy) (e : inD dx dy = some b) (q : Q (.bl (if neg then !b else b)) S.H) : InU p neg x y S.H Q := by
  cases dy <;> first | exact none_some e | skip
  case str m =>
    obtain ⟨rfl, _⟩ := ry.str
    cases dx <;> first | exact none_some e | skip
    case str l =>
      obtain ⟨rfl, _⟩ := rx.str
      cases l with
      | nil => cases (show some _ = some b from e); exact .inr (.inl ⟨_, _, rfl, rfl, q⟩)
      | cons c l =>
        cases l with
        | nil => cases (show some _ = some b from e); exact .inl ⟨c, _, rfl, rfl, q⟩
        | cons _ _ => cases (show some _ = some b from e); exact .inr (.inl ⟨_, _, rfl, rfl, q⟩)
  case lst ds =>
    simp only [inD] at e
    split at e
    · rename_i hc
      rw [Bool.and_eq_true] at hc
      cases e
      obtain ⟨a, vs, rfl, ha, ra⟩ := ry.lst R
      obtain ⟨h1, h2⟩ := all_flat (rd_flat rx hc.1) hc.1 ra hc.2
      exact .inr (.inr (.inl ⟨a, vs, rfl, .inl (SqL.of ha), flat_rep (rd_flat rx hc.1) hc.1, h1, by rw [h2]; exact q⟩))
    · exact inP_ok neg R rx ry e q
  case tup ds =>
    simp only [inD] at e
    split at e
    · rename_i hc
      rw [Bool.and_eq_true] at hc
      cases e
      obtain ⟨a, vs, rfl, _, ha, ra⟩ := ry.tup R
      obtain ⟨h1, h2⟩ := all_flat (rd_flat rx hc.1) hc.1 ra hc.2
      exact .inr (.inr (.inl ⟨a, vs, rfl, .inr (SqT.of ha), flat_rep (rd_flat rx hc.1) hc.1, h1, by rw [h2]; exact q⟩))
    · exact inP_ok neg R rx ry e q
  case ft ds =>
    simp only [inD] at e
    split at e
    · rename_i hc
      rw [Bool.and_eq_true] at hc
      cases e
      obtain ⟨a, vs, rfl, ha, ra⟩ := ry.ft R
      obtain ⟨h1, h2⟩ := all_flat (rd_flat rx hc.1) hc.1 ra hc.2
      exact .inr (.inr (.inl ⟨a, vs, rfl, .inr ha, flat_rep (rd_flat rx hc.1) hc.1, h1, by rw [h2]; exact q⟩))
    · cases e
theorem in2 : Op2 p (cmpV .In) (InU p false) := by
  intro S x y dx dy v Q R rx ry e q
  have e : (inD dx dy).map (fun b => Vl.sh (.bl b)) = some v := e
  rw [Option.map_eq_some_iff] at e
  obtain ⟨b, e9, rfl⟩ := e
  exact inD_ok false R rx ry e9 (q.bl R)
theorem nin2 : Op2 p (cmpV .NotIn) (InU p true) := by
  intro S x y dx dy v Q R rx ry e q
  have e : ((inD dx dy).map (!·)).map (fun b => Vl.sh (.bl b)) = some v := e
  rw [Option.map_map, Option.map_eq_some_iff] at e
  obtain ⟨b, e9, rfl⟩ := e
  exact inD_ok true R rx ry e9 (q.bl R)
end
section
variable {X : Cx}
theorem op_inDT (hu : X.A.units + 65 < cLine) : OpR X (compareOp .In) (rInDT X.K false) := by
  intro pins s σ H x y v u Q I rx ry h
  obtain ⟨d, ds, hd, sd, hy, q⟩ := h
  obtain ⟨as, r1⟩ := Dp.reads I d x v hd rx
  rcases hy with ⟨he, se⟩ | ⟨he, se⟩
  · obtain ⟨bs, r2⟩ := Dp.reads I (.list ds) y u he ry
    exact SeqAt.in_list_reads r2 r1 (SeqAt.canLay_of_shaped se) (SeqAt.canLay_of_shaped sd) (room_in_shaped sd hu) ⟨.bl _, H, I, rfl, q⟩
  · obtain ⟨bs, r2⟩ := Dp.reads I (.tuple ds) y u he ry
    exact SeqAt.in_tuple_reads r2 r1 (SeqAt.canLay_of_shaped se) (SeqAt.canLay_of_shaped sd) (room_in_shaped sd hu) ⟨.bl _, H, I, rfl, q⟩
theorem op_ninDT (hu : X.A.units + 65 < cLine) : OpR X (compareOp .NotIn) (rInDT X.K true) := by
  intro pins s σ H x y v u Q I rx ry h
  obtain ⟨d, ds, hd, sd, hy, q⟩ := h
  obtain ⟨as, r1⟩ := Dp.reads I d x v hd rx
  rcases hy with ⟨he, se⟩ | ⟨he, se⟩
  · obtain ⟨bs, r2⟩ := Dp.reads I (.list ds) y u he ry
    exact SeqAt.notIn_list_reads r2 r1 (SeqAt.canLay_of_shaped se) (SeqAt.canLay_of_shaped sd) (room_in_shaped sd hu) ⟨.bl _, H, I, rfl, q⟩
  · obtain ⟨bs, r2⟩ := Dp.reads I (.tuple ds) y u he ry
    exact SeqAt.notIn_tuple_reads r2 r1 (SeqAt.canLay_of_shaped se) (SeqAt.canLay_of_shaped sd) (room_in_shaped sd hu) ⟨.bl _, H, I, rfl, q⟩
theorem op_inU (p : Pm) (hK : p.K = X.K) (hu : X.A.units + 65 < cLine) : OpR X (compareOp .In) (InU p false) := by
  unfold InU; rw [hK]; exact op_in_sign.or (op_in_str.or (op_in_seq.or (op_inDT hu)))
theorem op_ninU (p : Pm) (hK : p.K = X.K) (hu : X.A.units + 65 < cLine) : OpR X (compareOp .NotIn) (InU p true) := by
  unfold InU; rw [hK]; exact op_notIn_sign.or (op_notIn_str.or (op_notIn_seq.or (op_ninDT hu)))
end
end Pv

/-! PvS4: items, slices, truth, built-in functions, methods, by data. -/
namespace Pv
open PySem PySem.Spec PyProof.Rows L2
variable [Tb]
section
variable {p : Pm}
/-! ### items -/
def isDic : D → Bool
  | .dic _ _ => true
  | _ => false
theorem atI_rep {K : PySem.W.Frag} {F : Hp} {vs : List V} {ds : List D} {i : Int} {d : D} (r : RepL K F vs ds) (h : atI ds i = some d) : ∃ v, atI vs i = some v ∧ Rep K F v d := by
  unfold atI at h ⊢
  rw [r.length]
  cases c : ixN ds.length i with
  | none => rw [c] at h; cases h
  | some j =>
    rw [c] at h
    obtain ⟨v, h1, h2⟩ := r.get h
    exact ⟨v, h1, h2⟩
def rIxU (K : PySem.W.Frag) : R2 := fun x y H Q => rIxL K x y H Q ∨ rIxT K x y H Q ∨ rIxS x y H Q
theorem atI_str {l : List Nat} {i : Int} {d : D} (h : ((atI l i).map fun c => D.str [c]) = some d) : ∃ c, atI l i = some c ∧ d = .str [c] := by
  rw [Option.map_eq_some_iff] at h
  obtain ⟨c, h1, h2⟩ := h
  exact ⟨c, h1, h2.symm⟩
theorem idx2 : Op2 p (fun a b => if isDic a then none else (idxD a b).map .sh) (rIxU p.K) := by
  intro S x y dx dy v Q R rx ry e q
  cases dx with
  | lst l =>
    cases dy <;> first | exact none_some e | skip
    case int i =>
      have e : (atI l i).map Vl.sh = some v := e
      rw [Option.map_eq_some_iff] at e
      obtain ⟨d, h, rfl⟩ := e
      obtain ⟨a, vs, rfl, ha, ra⟩ := rx.lst R
      obtain ⟨w, h1, h2⟩ := atI_rep ra h
      exact .inl ⟨a, vs, i, w, rfl, ry.int, SqL.of ha, h1, q.sh R h2⟩
  | fl l =>
    cases dy <;> first | exact none_some e | skip
    case int i =>
      have e : (atI l i).map Vl.sh = some v := e
      rw [Option.map_eq_some_iff] at e
      obtain ⟨d, h, rfl⟩ := e
      obtain ⟨a, vs, rfl, ha, ra⟩ := rx.fl R
      obtain ⟨w, h1, h2⟩ := atI_rep ra h
      exact .inl ⟨a, vs, i, w, rfl, ry.int, ha, h1, q.sh R h2⟩
  | tup l =>
    cases dy <;> first | exact none_some e | skip
    case int i =>
      have e : (atI l i).map Vl.sh = some v := e
      rw [Option.map_eq_some_iff] at e
      obtain ⟨d, h, rfl⟩ := e
      obtain ⟨a, vs, rfl, _, ha, ra⟩ := rx.tup R
      obtain ⟨w, h1, h2⟩ := atI_rep ra h
      exact .inr (.inl ⟨a, vs, i, w, rfl, ry.int, SqT.of ha, h1, q.sh R h2⟩)
  | ft l =>
    cases dy <;> first | exact none_some e | skip
    case int i =>
      have e : (atI l i).map Vl.sh = some v := e
      rw [Option.map_eq_some_iff] at e
      obtain ⟨d, h, rfl⟩ := e
      obtain ⟨a, vs, rfl, ha, ra⟩ := rx.ft R
      obtain ⟨w, h1, h2⟩ := atI_rep ra h
      exact .inr (.inl ⟨a, vs, i, w, rfl, ry.int, ha, h1, q.sh R h2⟩)
  | str l =>
    cases dy <;> first | exact none_some e | skip
    case int i =>
      have e : ((atI l i).map fun c => D.str [c]).map Vl.sh = some v := e
      rw [Option.map_eq_some_iff] at e
      obtain ⟨d, h, rfl⟩ := e
      obtain ⟨c, h9, rfl⟩ := atI_str h
      obtain ⟨rfl, hl⟩ := rx.str
      exact .inr (.inr ⟨mkS l, i, c, rfl, ry.int, by rw [mkS_len]; exact hl, h9, q.str R (by rw [sizeLine_eq]; simp)⟩)
  | _ => exact none_some e
/-! ### keys -/
def k1to : K1 → Key
  | .i n => .inl n
  | .s l => .inr (mkS l)
theorem k1_to_of (k : Key) : k1to (k1of k) = k := by cases k <;> rfl
theorem k1_of_to (k : K1) : k1of (k1to k) = k := by cases k <;> rfl
theorem k1of_inj {a b : Key} (h : k1of a = k1of b) : a = b := by rw [← k1_to_of a, ← k1_to_of b, h]
theorem kV_k1 {K : PySem.W.Frag} {F : Hp} {v : V} : ∀ {d : D}, (∃ i, d = .int i ∧ Rep K F v d → v = kV (.inl i)) → True := fun _ => trivial
theorem keyL_ok {K : PySem.W.Frag} {F : Hp} : ∀ {vs : List V} {ds : List D} {ks : List K1}, RepL K F vs ds → keyD.keyL ds = some ks → vs = (ks.map k1to).map kV
  | [], [], ks, _, h => by
    simp only [keyD.keyL, Option.some.injEq] at h
    subst h; rfl
  | v :: vs, d :: ds, ks, r, h => by
    cases d <;> first | exact none_some h | skip
    case int i =>
      have h : (keyD.keyL ds).map (K1.i i :: ·) = some ks := h
      rw [Option.map_eq_some_iff] at h
      obtain ⟨ks', h1, rfl⟩ := h
      have r1 : v = .int i := by simpa only [Rep] using r.1
      rw [r1, keyL_ok r.2 h1]; rfl
    case str i =>
      have h : (keyD.keyL ds).map (K1.s i :: ·) = some ks := h
      rw [Option.map_eq_some_iff] at h
      obtain ⟨ks', h1, rfl⟩ := h
      rw [r.1.strE.1, keyL_ok r.2 h1]; rfl
  | [], _ :: _, _, r, _ => r.elim
  | _ :: _, [], _, r, _ => r.elim
theorem lookup_rep {κ : Type} [DecidableEq κ] {K : PySem.W.Frag} {F : Hp} (g : κ → Ky) (gi : ∀ a b, g a = g b → a = b) (k : κ) : ∀ {l : List (κ × V)} {ds : List (Ky × D)} {d : D}, RepK K F (l.map fun p => (g p.1, p.2)) ds → ds.lookup (g k) = some d → ∃ v, valV l k = some v ∧ Rep K F v d
  | [], [], _, _, h => by simp at h
  | (k', v) :: l, (k2, d2) :: ds, d, r, h => by
    have r : g k' = k2 ∧ Rep K F v d2 ∧ RepK K F (l.map fun p => (g p.1, p.2)) ds := r
    obtain ⟨rfl, r1, r2⟩ := r
    by_cases e : k' = k
    · subst e
      rw [List.lookup_cons, beq_self_eq_true] at h
      cases h
      exact ⟨v, valV_pos rfl, r1⟩
    · have ne : (g k == g k') = false := beq_eq_false_iff_ne.mpr fun z => e (gi _ _ z).symm
      rw [List.lookup_cons, ne] at h
      obtain ⟨w, h1, h2⟩ := lookup_rep g gi k r2 h
      exact ⟨w, by rw [valV_neg (p := (k', v)) e]; exact h1, h2⟩
  | [], _ :: _, _, r, _ => r.elim
  | _ :: _, [], _, r, _ => r.elim
theorem one_inj (a b : Key) (h : Ky.one (k1of a) = Ky.one (k1of b)) : a = b := k1of_inj (Ky.one.inj h)
theorem tup_inj (a b : List Key) (h : Ky.tup (a.map k1of) = Ky.tup (b.map k1of)) : a = b := by
  have h := Ky.tup.inj h
  have : (a.map k1of).map k1to = (b.map k1of).map k1to := by rw [h]
  simpa [List.map_map, Function.comp_def, k1_to_of] using this
/-- a key as it stands -/
theorem key_ok {S : Stt} (R : ER p.K p.ios S) {tk : Bool} {y : V} {dy : D} {k : Ky} (ry : Rd p.K S y dy) (h : keyD tk dy = some k) :
    (tk = false ∧ ∃ k' : Key, k = .one (k1of k') ∧ y = kV k') ∨ (tk = true ∧ ∃ (ks : List Key) (b : Addr), k = .tup (ks.map k1of) ∧ y = .ref b ∧ S.H b = some (.tup (ks.map kV))) := by
  cases tk with
  | false =>
    cases dy <;> first | exact none_some h | skip
    case int i => cases (show some (Ky.one (.i i)) = some k from h); exact .inl ⟨rfl, .inl i, rfl, ry.int⟩
    case str i => cases (show some (Ky.one (.s i)) = some k from h); exact .inl ⟨rfl, .inr (mkS i), rfl, ry.str.1⟩
  | true =>
    cases dy <;> first | exact none_some h | skip
    case tup ds =>
      have h : (keyD.keyL ds).map Ky.tup = some k := h
      rw [Option.map_eq_some_iff] at h
      obtain ⟨ks, h1, rfl⟩ := h
      obtain ⟨a, vs, rfl, _, ha, ra⟩ := ry.tup R
      have := keyL_ok ra h1
      subst this
      exact .inr ⟨rfl, ks.map k1to, a, by simp [List.map_map, Function.comp_def, k1_of_to], rfl, ha⟩
def rDG : R2 := fun x y H Q => ∃ a v, x = .ref a ∧ DGet H a y (some v) ∧ Q v H
theorem didx2 : Op2 p (fun a b => if isDic a then (idxD a b).map .sh else none) rDG := by
  intro S x y dx dy v Q R rx ry e q
  cases dx <;> first | exact none_some e | skip
  case dic tk kvs =>
    have e : ((keyD tk dy).bind fun k => kvs.lookup k).map Vl.sh = some v := e
    rw [Option.map_eq_some_iff] at e
    obtain ⟨d, h, rfl⟩ := e
    rw [Option.bind_eq_some_iff] at h
    obtain ⟨k, hk, hd⟩ := h
    obtain ⟨a, ho, vs, rfl, ha, hD, rK⟩ := rx.dic R
    rcases key_ok R ry hk with ⟨rfl, k', rfl, rfl⟩ | ⟨rfl, ks, b, rfl, rfl, hb⟩
    · obtain ⟨l, rfl, rfl⟩ := hD
      obtain ⟨w, h1, h2⟩ := lookup_rep (fun k => Ky.one (k1of k)) one_inj k' rK hd
      exact ⟨a, w, rfl, h1 ▸ DGet.k ha, q.sh R h2⟩
    · obtain ⟨l, rfl, rfl⟩ := hD
      obtain ⟨w, h1, h2⟩ := lookup_rep (fun ks => Ky.tup (ks.map k1of)) tup_inj ks rK hd
      exact ⟨a, w, rfl, h1 ▸ DGet.t ha hb, q.sh R h2⟩
/-- two rules by what the first thing is -/
theorem op2_or {f : D → D → Option Vl} {ma mb : En → Rs Vl} (g : D → Bool) (σ : L2.St) (H : Hp) (Q : VK) (h : tSE p (op2 f ma mb) σ H Q) :
    tSE p (op2 (fun a b => if g a then none else f a b) ma mb) σ H Q ∨ tSE p (op2 (fun a b => if g a then f a b else none) ma mb) σ H Q := by
  obtain ⟨F, env, R, h⟩ := h
  have key : (op2 (fun a b => if g a then none else f a b) ma mb env = op2 f ma mb env) ∨ (op2 (fun a b => if g a then f a b else none) ma mb env = op2 f ma mb env) := by
    unfold op2
    cases ma env with
    | stuck => exact .inl rfl
    | ex c d e => exact .inl rfl
    | ok x e1 =>
      simp only [Rs.bind_ok]
      cases mb e1 with
      | stuck => exact .inl rfl
      | ex c d e => exact .inl rfl
      | ok y e2 =>
        simp only [Rs.bind_ok]
        cases cont x e2 with
        | none => exact .inl rfl
        | some dx =>
          cases cont y e2 with
          | none => exact .inl rfl
          | some dy =>
            simp only
            cases c : g dx with
            | true => exact .inr rfl
            | false => exact .inl rfl
  rcases key with k | k
  · exact .inl ⟨F, env, R, by rw [k]; exact h⟩
  · exact .inr ⟨F, env, R, by rw [k]; exact h⟩

/-! ### slices -/
def OR : Stt → Stt → Option Int → Option Int → Prop := fun _ _ x v => x = v
def tSO (p : Pm) (m : En → Rs (Option Int)) : TO := fun σ H Q => ∃ F env, ER p.K p.ios ⟨F, env, σ, H⟩ ∧ GP p OR ⟨F, env, σ, H⟩ (m env) Q
theorem PO.imp {X : Cx} {e : Option Expr} {t t' : TO} (h : PO X e t) (i : ∀ σ H Q, t' σ H Q → t σ H Q) : PO X e t' := ⟨fun pins s σ H Q I q => h.run pins s σ H Q I (i _ _ _ q)⟩
theorem cutL_rep {K : PySem.W.Frag} {F : Hp} {vs : List V} {ds : List D} (r : RepL K F vs ds) (lo hi : Option Int) : RepL K F (cutV vs lo hi) (cutL ds lo hi) := by
  unfold cutV cutL
  rw [r.length]
  exact (r.drop _).take _
theorem cutL_len {α : Type} (l : List α) (lo hi : Option Int) : (cutL l lo hi).length ≤ l.length := by
  unfold cutL
  rw [List.length_take, List.length_drop]; omega
theorem cutS_mk (l : List Nat) (lo hi : Option Int) : cutS (mkS l) lo hi = mkS (cutL l lo hi) := by
  unfold cutS cutL
  rw [mkS_len]
def rSlU (K : PySem.W.Frag) : V → Option Int → Option Int → Hp → VK → Prop := fun x lo hi H Q => rSlL K x lo hi H Q ∨ rSlA K x lo hi H Q ∨ rSlS x lo hi H Q
theorem sl_or3 {X : Cx} : SlR X (rSlU X.K) := sl_list.or (sl_tupA.or sl_str)
theorem slc_ok {S : Stt} {x : V} {dx : D} {lo hi : Option Int} {v : Vl} {Q : VK} (R : ER p.K p.ios S) (rx : Rd p.K S x dx) (e : slcD dx lo hi = some v) (q : GP p (VR p.K) S (.ok v S.env) Q) : rSlU p.K x lo hi S.H Q := by
  cases dx <;> first | exact none_some e | skip
  case lst l =>
    cases (show some (Vl.ow (.lst (cutL l lo hi))) = some v from e)
    obtain ⟨a, vs, rfl, ha, ra⟩ := rx.lst R
    exact .inl ⟨a, vs, rfl, SqL.of ha, fun pp np => q.ow R np ⟨_, rfl, cutL_rep ra lo hi⟩⟩
  case fl l =>
    cases (show some (Vl.ow (.lst (cutL l lo hi))) = some v from e)
    obtain ⟨a, vs, rfl, ha, ra⟩ := rx.fl R
    exact .inl ⟨a, vs, rfl, ha, fun pp np => q.ow R np ⟨_, rfl, cutL_rep ra lo hi⟩⟩
  case tup l =>
    cases (show some (Vl.sh (.tup (cutL l lo hi))) = some v from e)
    obtain ⟨a, vs, rfl, fa, ha, ra⟩ := rx.tup R
    refine .inr (.inl ⟨a, vs, rfl, SqT.of ha, fun ⟨h1, h2⟩ => ?_, fun _ pp np => q.newTup R np (cutL_rep ra lo hi)⟩)
    have e1 : cutL l lo hi = l := by
      unfold cutL
      rw [ra.length] at h1 h2
      rw [h1, h2, List.drop_zero, Nat.sub_zero, List.take_length]
    rw [e1] at q
    exact q.sh R (by simp only [Rep]; exact ⟨a, vs, rfl, fa, ra⟩)
  case str l =>
    cases (show some (Vl.sh (.str (cutL l lo hi))) = some v from e)
    obtain ⟨rfl, hl⟩ := rx.str
    exact .inr (.inr ⟨mkS l, rfl, by rw [mkS_len]; exact hl, by rw [cutS_mk]; exact q.str R (Nat.le_trans (cutL_len _ _ _) hl)⟩)

/-! ### a text turned round -/
theorem sidx_rev (n : Nat) : Builtin.Str.strSliceIndices none none (-1) n = (List.range n).reverse := by
  have : Builtin.Str.strSliceIndices none none (-1) n = sliceRange ((n : Int) - 1) (-1) (-1) := by
    unfold Builtin.Str.strSliceIndices
    simp
  rw [this, PySem.W.krv_sliceRange, PySem.W.krv_range]
theorem rev_pick (l : List Nat) : ((Builtin.Str.strSliceIndices none none (-1) (mkS l).length).filterMap ((mkS l).cps[·]?)) = l.reverse := by
  rw [sidx_rev, mkS_len, List.filterMap_reverse]
  have h := PySem.W.krv_all (mkS l).cps
  rw [show (mkS l).cps.size = l.length from mkS_len l] at h
  rw [h]
end
section
variable {X : Cx} {pos : Pos}
def tRevS (te : TE) : TE := fun σ H Q => te σ H fun x H1 => ∃ l, x = .str (mkS l) ∧ l.length ≤ sizeLine ∧ Q (.str (mkS l.reverse)) H1
theorem pe_revS {e : Expr} {te : TE} {k : Nat} {p1 p2 p3 pos : Pos} (he : PE X e te) : PE X (.Subscript e (.Slice none none (some (.UnaryOp .USub (.Constant (.int 1) k p1) p2)) p3) pos) (tRevS te) := by
  refine ⟨fun pins s σ H Q I h => ?_⟩
  refine Subscript_ (thn (he.run pins s σ H _ I h) fun v s1 ⟨x, H1, I1, r1, q1⟩ => ?_)
  obtain ⟨z, ex, hz, q⟩ := q1
  subst ex
  obtain ⟨t, rfl⟩ := r1
  have hst : PO X (some (.UnaryOp .USub (.Constant (.int 1) k p1) p2)) (tPart (tUn (rU fun i => .int (-i)) (tC (.int 1)))) := po_some (pe_un un_neg pe_int)
  refine wpAny_Slice (thn (po_none.run pins s1 σ H1 (fun o H2 => o = none ∧ H2 = H1) I1 ⟨rfl, rfl⟩) fun vl s2 ⟨l, H2, I2, pl, el, e2⟩ => ?_)
  subst el e2
  refine thn (po_none.run pins s2 σ H2 (fun o H3 => o = none ∧ H3 = H2) I2 ⟨rfl, rfl⟩) fun vu s3 ⟨u, H3, I3, pu, eu, e3⟩ => ?_
  subst eu e3
  refine thn (hst.run pins s3 σ H3 (fun o H4 => o = some (-1) ∧ H4 = H3) I3 ⟨1, rfl, -1, rfl, rfl, rfl⟩) fun vs s4 ⟨o, H4, I4, ps, eo, e4⟩ => ?_
  subst eo e4
  have I5 : Inv X pins σ H4 { s4 with heap := s4.heap.push { cls := .type "slice", data := .fields #[vl, vu, vs] } } := I4.kept (t' := s4.toks) fun b ob q => Heap.get?_push_of_some _ q
  cases pl
  cases pu
  cases ps with
  | int i tk =>
    refine tail_any (ops := [.str (mkS z) t, .ref s4.heap.objs.size]) (typeIs_str _ _ _) (PySem.F.slot_str_getitem.lookup) ?_ (by with_unfolding_all rfl)
    refine wpAny_getItem_str_slice (l := none) (u := none) (st := some (-1, tk)) ⟨_, Heap.get?_push_size _ rfl, rfl, rfl⟩ rfl ?_
    show Made.post (if ((-1 : Int) == 1 && (Builtin.Str.strSliceIndices none none (-1) (mkS z).length).length == (mkS z).length) = true then Made.val (.str (mkS z) t)
      else Made.str ⟨((Builtin.Str.strSliceIndices none none (-1) (mkS z).length).filterMap ((mkS z).cps[·]?)).toArray⟩) (EP X pins σ Q) _
    rw [rev_pick]
    exact ⟨by show (z.reverse.toArray).size ≤ sizeLine; rw [List.size_toArray, List.length_reverse]; exact hz, .str _, H4, I5.tok _, ⟨_, rfl⟩, q⟩
end
section
variable {p : Pm}
def tRevU (K : PySem.W.Frag) (te : TE) : TE := fun σ H Q => tRevL K te σ H Q ∨ tRevS te σ H Q
def isStr : D → Bool
  | .str _ => true
  | _ => false
theorem op1_or {f : D → Option Vl} {ma : En → Rs Vl} (g : D → Bool) (σ : L2.St) (H : Hp) (Q : VK) (h : tSE p (op1 f ma) σ H Q) :
    tSE p (op1 (fun a => if g a then none else f a) ma) σ H Q ∨ tSE p (op1 (fun a => if g a then f a else none) ma) σ H Q := by
  obtain ⟨F, env, R, h⟩ := h
  have key : (op1 (fun a => if g a then none else f a) ma env = op1 f ma env) ∨ (op1 (fun a => if g a then f a else none) ma env = op1 f ma env) := by
    unfold op1
    cases ma env with
    | stuck => exact .inl rfl
    | ex c d e => exact .inl rfl
    | ok x e1 =>
      simp only [Rs.bind_ok]
      cases cont x e1 with
      | none => exact .inl rfl
      | some dx =>
        simp only
        cases c : g dx with
        | true => exact .inr rfl
        | false => exact .inl rfl
  rcases key with k | k
  · exact .inl ⟨F, env, R, by rw [k]; exact h⟩
  · exact .inr ⟨F, env, R, by rw [k]; exact h⟩
theorem revL1 : Op1 p (fun a => if isStr a then none else revD a) (fun x H Q => ∃ a xs, x = .ref a ∧ SqL p.K H a xs ∧ ∀ pp, H pp = none → Q (.ref pp) (upd H pp (.lst xs.reverse))) := by
  intro S x dx v Q R rx e q
  cases dx <;> first | exact none_some e | skip
  case lst l =>
    cases (show some (Vl.ow (.lst l.reverse)) = some v from e)
    obtain ⟨a, vs, rfl, ha, ra⟩ := rx.lst R
    exact ⟨a, vs, rfl, SqL.of ha, fun pp np => q.ow R np ⟨_, rfl, ra.reverse⟩⟩
theorem revS1 : Op1 p (fun a => if isStr a then revD a else none) (fun x H Q => ∃ l, x = .str (mkS l) ∧ l.length ≤ sizeLine ∧ Q (.str (mkS l.reverse)) H) := by
  intro S x dx v Q R rx e q
  cases dx <;> first | exact none_some e | skip
  case str l =>
    cases (show some (Vl.sh (.str l.reverse)) = some v from e)
    obtain ⟨rfl, hl⟩ := rx.str
    exact ⟨l, rfl, hl, q.str R (by rw [List.length_reverse]; exact hl)⟩

/-! ### truth -/
theorem tru_rd {S : Stt} {x : V} {d : D} {b : Bool} (R : ER p.K p.ios S) (r : Rd p.K S x d) (h : truD d = some b) : TruV p.K x S.H b := by
  cases d <;> first | exact none_some h | skip
  case non => cases (show some false = some b from h); rw [r.non]; exact rfl
  case bl c => cases (show some c = some b from h); rw [r.bl]; exact rfl
  case int c => cases (show some (c != 0) = some b from h); rw [r.int]; exact rfl
  case str l =>
    cases (show some (!l.isEmpty) = some b from h)
    obtain ⟨rfl, hl⟩ := r.str
    refine ⟨by rw [mkS_len]; exact hl, ?_⟩
    rw [mkS_len]
    cases l with
    | nil => rfl
    | cons _ _ => simp; omega
  case lst l =>
    cases (show some (!l.isEmpty) = some b from h)
    obtain ⟨a, vs, rfl, ha, ra⟩ := r.lst R
    refine .inl ⟨vs, SqL.of ha, ?_⟩
    cases l with
    | nil => have : vs = [] := ra.nil_iff.mpr rfl
             subst this; rfl
    | cons _ _ => cases vs with
      | nil => exact ra.elim
      | cons _ _ => rfl
  case tup l =>
    cases (show some (!l.isEmpty) = some b from h)
    obtain ⟨a, vs, rfl, _, ha, ra⟩ := r.tup R
    refine .inr (.inl ⟨vs, SqT.of ha, ?_⟩)
    cases l with
    | nil => have : vs = [] := ra.nil_iff.mpr rfl
             subst this; rfl
    | cons _ _ => cases vs with
      | nil => exact ra.elim
      | cons _ _ => rfl

/-! ### isinstance -/
def tyD : D → String
  | .non => "NoneType" | .bl _ => "bool" | .int _ => "int" | .str _ => "str" | .tup _ => "tuple" | .ft _ => "tuple" | .lst _ => "list" | .fl _ => "list" | .dic _ _ => "dict"
theorem ty_rd {S : Stt} {x : V} {d : D} (R : ER p.K p.ios S) (r : Rd p.K S x d) : TyX p.K S.H x (.type (tyD d)) := by
  have sqT : ∀ {a : Addr} {vs : List V}, SqT p.K S.H a vs → TyX p.K S.H (.ref a) (.type "tuple") := fun {a vs} h => by
    rcases h with (h | ⟨o, h⟩) | ⟨o, its, n, h1, h2, _⟩
    · exact .base (.tup h)
    · exact .fTuple h
    · exact .kTuple h1 h2
  have sqL : ∀ {a : Addr} {vs : List V}, SqL p.K S.H a vs → TyX p.K S.H (.ref a) (.type "list") := fun {a vs} h => by
    rcases h with (h | ⟨o, h⟩) | ⟨o, its, n, h1, h2, _⟩
    · exact .base (.lst h)
    · exact .base (.frz h)
    · exact .kList h1 h2
  cases d with
  | non => obtain rfl := r.non; exact .base .non
  | bl b => obtain rfl := r.bl; exact .base (.bl b)
  | int b => obtain rfl := r.int; exact .base (.int b)
  | str b => obtain ⟨rfl, _⟩ := r.str; exact .base (.str _)
  | tup l => obtain ⟨a, vs, rfl, _, ha, _⟩ := r.tup R; exact sqT (SqT.of ha)
  | ft l => obtain ⟨a, vs, rfl, ha, _⟩ := r.ft R; exact sqT ha
  | lst l => obtain ⟨a, vs, rfl, ha, _⟩ := r.lst R; exact sqL (SqL.of ha)
  | fl l => obtain ⟨a, vs, rfl, ha, _⟩ := r.fl R; exact sqL ha
  | dic tk l =>
    obtain ⟨a, ho, kvs, rfl, ha, hD, _⟩ := r.dic R
    cases tk with
    | true => obtain ⟨l, rfl, _⟩ := hD; exact .base (.dT ha)
    | false => obtain ⟨l, rfl, _⟩ := hD; exact .base (.dK ha)
theorem kb_NoneType_int : kitB "NoneType" "int" = some false := by decide +kernel
theorem kb_bool_int : kitB "bool" "int" = some true := by decide +kernel
theorem kb_int_int : kitB "int" "int" = some true := by decide +kernel
theorem kb_str_int : kitB "str" "int" = some false := by decide +kernel
theorem kb_tuple_int : kitB "tuple" "int" = some false := by decide +kernel
theorem kb_list_int : kitB "list" "int" = some false := by decide +kernel
theorem kb_dict_int : kitB "dict" "int" = some false := by decide +kernel
theorem kb_NoneType_bool : kitB "NoneType" "bool" = some false := by decide +kernel
theorem kb_bool_bool : kitB "bool" "bool" = some true := by decide +kernel
theorem kb_int_bool : kitB "int" "bool" = some false := by decide +kernel
theorem kb_str_bool : kitB "str" "bool" = some false := by decide +kernel
theorem kb_tuple_bool : kitB "tuple" "bool" = some false := by decide +kernel
theorem kb_list_bool : kitB "list" "bool" = some false := by decide +kernel
theorem kb_dict_bool : kitB "dict" "bool" = some false := by decide +kernel
theorem kb_NoneType_str : kitB "NoneType" "str" = some false := by decide +kernel
theorem kb_bool_str : kitB "bool" "str" = some false := by decide +kernel
theorem kb_int_str : kitB "int" "str" = some false := by decide +kernel
theorem kb_str_str : kitB "str" "str" = some true := by decide +kernel
theorem kb_tuple_str : kitB "tuple" "str" = some false := by decide +kernel
theorem kb_list_str : kitB "list" "str" = some false := by decide +kernel
theorem kb_dict_str : kitB "dict" "str" = some false := by decide +kernel
theorem kb_NoneType_tuple : kitB "NoneType" "tuple" = some false := by decide +kernel
theorem kb_bool_tuple : kitB "bool" "tuple" = some false := by decide +kernel
theorem kb_int_tuple : kitB "int" "tuple" = some false := by decide +kernel
theorem kb_str_tuple : kitB "str" "tuple" = some false := by decide +kernel
theorem kb_tuple_tuple : kitB "tuple" "tuple" = some true := by decide +kernel
theorem kb_list_tuple : kitB "list" "tuple" = some false := by decide +kernel
theorem kb_dict_tuple : kitB "dict" "tuple" = some false := by decide +kernel
theorem kb_NoneType_list : kitB "NoneType" "list" = some false := by decide +kernel
theorem kb_bool_list : kitB "bool" "list" = some false := by decide +kernel
theorem kb_int_list : kitB "int" "list" = some false := by decide +kernel
theorem kb_str_list : kitB "str" "list" = some false := by decide +kernel
theorem kb_tuple_list : kitB "tuple" "list" = some false := by decide +kernel
theorem kb_list_list : kitB "list" "list" = some true := by decide +kernel
theorem kb_dict_list : kitB "dict" "list" = some false := by decide +kernel
theorem isi_kit (d : D) (t : String) (b : Bool) (h : isiD d t = some b) : kitB (tyD d) t = some b := by
  unfold isiD at h
  by_cases h_int : t = "int"
  · subst h_int
    rw [if_pos rfl] at h
    cases h
    cases d with
    | non => exact kb_NoneType_int
    | bl _ => exact kb_bool_int
    | int _ => exact kb_int_int
    | str _ => exact kb_str_int
    | tup _ => exact kb_tuple_int
    | ft _ => exact kb_tuple_int
    | lst _ => exact kb_list_int
    | fl _ => exact kb_list_int
    | dic _ _ => exact kb_dict_int
  rw [if_neg h_int] at h
  by_cases h_bool : t = "bool"
  · subst h_bool
    rw [if_pos rfl] at h
    cases h
    cases d with
    | non => exact kb_NoneType_bool
    | bl _ => exact kb_bool_bool
    | int _ => exact kb_int_bool
    | str _ => exact kb_str_bool
    | tup _ => exact kb_tuple_bool
    | ft _ => exact kb_tuple_bool
    | lst _ => exact kb_list_bool
    | fl _ => exact kb_list_bool
    | dic _ _ => exact kb_dict_bool
  rw [if_neg h_bool] at h
  by_cases h_str : t = "str"
  · subst h_str
    rw [if_pos rfl] at h
    cases h
    cases d with
    | non => exact kb_NoneType_str
    | bl _ => exact kb_bool_str
    | int _ => exact kb_int_str
    | str _ => exact kb_str_str
    | tup _ => exact kb_tuple_str
    | ft _ => exact kb_tuple_str
    | lst _ => exact kb_list_str
    | fl _ => exact kb_list_str
    | dic _ _ => exact kb_dict_str
  rw [if_neg h_str] at h
  by_cases h_tuple : t = "tuple"
  · subst h_tuple
    rw [if_pos rfl] at h
    cases h
    cases d with
    | non => exact kb_NoneType_tuple
    | bl _ => exact kb_bool_tuple
    | int _ => exact kb_int_tuple
    | str _ => exact kb_str_tuple
    | tup _ => exact kb_tuple_tuple
    | ft _ => exact kb_tuple_tuple
    | lst _ => exact kb_list_tuple
    | fl _ => exact kb_list_tuple
    | dic _ _ => exact kb_dict_tuple
  rw [if_neg h_tuple] at h
  by_cases h_list : t = "list"
  · subst h_list
    rw [if_pos rfl] at h
    cases h
    cases d with
    | non => exact kb_NoneType_list
    | bl _ => exact kb_bool_list
    | int _ => exact kb_int_list
    | str _ => exact kb_str_list
    | tup _ => exact kb_tuple_list
    | ft _ => exact kb_tuple_list
    | lst _ => exact kb_list_list
    | fl _ => exact kb_list_list
    | dic _ _ => exact kb_dict_list
  rw [if_neg h_list] at h
  cases h
end
end Pv

/-! PvS5: built-in functions, methods. -/
namespace Pv
open PySem PySem.Spec PyProof.Rows L2
variable [Tb]
def RdL (K : PySem.W.Frag) (S : Stt) : List V → List D → Prop
  | [], [] => True
  | x :: xs, d :: ds => Rd K S x d ∧ RdL K S xs ds
  | _, _ => False
section
variable {p : Pm}
theorem contL_rd {S0 S : Stt} (R : ER p.K p.ios S) : ∀ {xs : List V} {vs : List Vl} {ds : List D}, VRs p.K S0 S xs vs → contL vs S.env = some ds → RdL p.K S xs ds
  | [], [], ds, _, h => by
    simp only [contL, Option.some.injEq] at h; subst h; trivial
  | x :: xs, v :: vs, ds, r, h => by
    cases c : cont v S.env with
    | none => simp only [contL, c] at h; cases h
    | some d =>
      cases c2 : contL vs S.env with
      | none => simp only [contL, c, c2] at h; cases h
      | some ds' =>
        simp only [contL, c, c2, Option.some.injEq] at h; subst h
        exact ⟨cont_rd R r.1 c, contL_rd R r.2.2 c2⟩
  | [], _ :: _, _, r, _ => r.elim
  | _ :: _, [], _, r, _ => r.elim
def BiOk (p : Pm) (f : Bi) (r : List V → Hp → VK → Prop) : Prop := ∀ (S : Stt) (xs : List V) (ds : List D) (v : Vl) (Q : VK), ER p.K p.ios S → RdL p.K S xs ds → biD f ds = some v → GP p (VR p.K) S (.ok v S.env) Q → r xs S.H Q
def biF (f : Bi) (ms : En → Rs (List Vl)) : En → Rs Vl := fun env => (ms env).bind fun vs e1 => match contL vs e1 with
  | some ds => liftV (biD f ds) e1
  | none => .stuck
theorem bi_ok {f : Bi} {r : List V → Hp → VK → Prop} (hr : BiOk p f r) {ms : En → Rs (List Vl)} (σ : L2.St) (H : Hp) (Q : VK) (h : tSE p (biF f ms) σ H Q) : tSA p ms σ H fun xs H1 => r xs H1 Q := by
  obtain ⟨F, env, R, h⟩ := h
  refine ⟨F, env, R, (GP.bind h).imp fun xs H1 ⟨vs, F1, e1, R1, E1, V1, h1⟩ => ?_⟩
  cases c1 : contL vs e1 with
  | none => rw [c1] at h1; exact h1.elim
  | some ds =>
    rw [c1] at h1
    simp only at h1
    cases c3 : biD f ds with
    | none => rw [c3] at h1; exact h1.elim
    | some u =>
      rw [c3] at h1
      exact hr ⟨F1, e1, σ, H1⟩ xs ds u Q R1 (contL_rd R1 V1 c1) c3 (GP.step (S1 := ⟨F1, e1, σ, H1⟩) h1 E1 rfl fun _ _ _ q => q.back E1)
theorem RdL.one {S : Stt} {xs : List V} {d : D} (h : RdL p.K S xs [d]) : ∃ x, xs = [x] ∧ Rd p.K S x d := by
  cases xs with
  | nil => exact h.elim
  | cons x xs => cases xs with
    | nil => exact ⟨x, rfl, h.1⟩
    | cons _ _ => exact h.2.elim
theorem RdL.two {S : Stt} {xs : List V} {d e : D} (h : RdL p.K S xs [d, e]) : ∃ x y, xs = [x, y] ∧ Rd p.K S x d ∧ Rd p.K S y e := by
  cases xs with
  | nil => exact h.elim
  | cons x xs =>
    obtain ⟨y, rfl, h2⟩ := RdL.one h.2
    exact ⟨x, y, rfl, h.1, h2⟩
theorem intsD_eq : ∀ {l : List D} {ns : List Int}, intsD l = some ns → l = ns.map .int
  | [], ns, h => by simp only [intsD, Option.some.injEq] at h; subst h; rfl
  | d :: l, ns, h => by
    cases d <;> first | exact none_some h | skip
    case int i =>
      have h : (intsD l).map (i :: ·) = some ns := h
      rw [Option.map_eq_some_iff] at h
      obtain ⟨ms, h1, rfl⟩ := h
      rw [intsD_eq h1]; rfl
theorem blsD_eq : ∀ {l : List D} {ns : List Bool}, blsD l = some ns → l = ns.map .bl
  | [], ns, h => by simp only [blsD, Option.some.injEq] at h; subst h; rfl
  | d :: l, ns, h => by
    cases d <;> first | exact none_some h | skip
    case bl i =>
      have h : (blsD l).map (i :: ·) = some ns := h
      rw [Option.map_eq_some_iff] at h
      obtain ⟨ms, h1, rfl⟩ := h
      rw [blsD_eq h1]; rfl
theorem strsD_eq : ∀ {l : List D} {ns : List (List Nat)}, strsD l = some ns → l = ns.map .str
  | [], ns, h => by simp only [strsD, Option.some.injEq] at h; subst h; rfl
  | d :: l, ns, h => by
    cases d <;> first | exact none_some h | skip
    case str i =>
      have h : (strsD l).map (i :: ·) = some ns := h
      rw [Option.map_eq_some_iff] at h
      obtain ⟨ms, h1, rfl⟩ := h
      rw [strsD_eq h1]; rfl
theorem ints_rep {K : PySem.W.Frag} {F : Hp} : ∀ {vs : List V} {ns : List Int}, RepL K F vs (ns.map .int) → vs = ns.map V.int
  | [], [], _ => rfl
  | v :: vs, n :: ns, r => by
    have r1 : v = .int n := by simpa only [Rep] using r.1
    rw [r1, ints_rep r.2]; rfl
  | [], _ :: _, r => r.elim
  | _ :: _, [], r => r.elim
theorem bls_rep {K : PySem.W.Frag} {F : Hp} : ∀ {vs : List V} {ns : List Bool}, RepL K F vs (ns.map .bl) → vs = ns.map V.bl
  | [], [], _ => rfl
  | v :: vs, n :: ns, r => by
    have r1 : v = .bl n := by simpa only [Rep] using r.1
    rw [r1, bls_rep r.2]; rfl
  | [], _ :: _, r => r.elim
  | _ :: _, [], r => r.elim
theorem strs_rep {K : PySem.W.Frag} {F : Hp} : ∀ {vs : List V} {ns : List (List Nat)}, RepL K F vs (ns.map .str) → vs = (ns.map mkS).map V.str
  | [], [], _ => rfl
  | v :: vs, n :: ns, r => by
    rw [r.1.strE.1, strs_rep r.2]; rfl
  | [], _ :: _, r => r.elim
  | _ :: _, [], r => r.elim

theorem bi_len : BiOk p .len (fun xs H Q => ∃ x n, xs = [x] ∧ LenV p.K x H n ∧ Q (.int n) H) := by
  intro S xs ds v Q R r e q
  cases ds with
  | nil => exact none_some e
  | cons d ds => cases ds with
    | cons _ _ => exact none_some e
    | nil =>
      obtain ⟨x, rfl, rx⟩ := r.one
      cases d <;> first | exact none_some e | skip
      case str l =>
        cases (show some (Vl.sh (.int (l.length : Int))) = some v from e)
        obtain ⟨rfl, hl⟩ := rx.str
        exact ⟨_, l.length, rfl, ⟨by rw [mkS_len]; exact hl, (mkS_len l).symm⟩, q.int R⟩
      case lst l =>
        cases (show some (Vl.sh (.int (l.length : Int))) = some v from e)
        obtain ⟨a, vs, rfl, ha, ra⟩ := rx.lst R
        exact ⟨_, l.length, rfl, .inl ⟨vs, SqL.of ha, ra.length.symm⟩, q.int R⟩
      case fl l =>
        cases (show some (Vl.sh (.int (l.length : Int))) = some v from e)
        obtain ⟨a, vs, rfl, ha, ra⟩ := rx.fl R
        exact ⟨_, l.length, rfl, .inl ⟨vs, ha, ra.length.symm⟩, q.int R⟩
      case tup l =>
        cases (show some (Vl.sh (.int (l.length : Int))) = some v from e)
        obtain ⟨a, vs, rfl, _, ha, ra⟩ := rx.tup R
        exact ⟨_, l.length, rfl, .inr ⟨vs, SqT.of ha, ra.length.symm⟩, q.int R⟩
      case ft l =>
        cases (show some (Vl.sh (.int (l.length : Int))) = some v from e)
        obtain ⟨a, vs, rfl, ha, ra⟩ := rx.ft R
        exact ⟨_, l.length, rfl, .inr ⟨vs, ha, ra.length.symm⟩, q.int R⟩
theorem bi_int : BiOk p .int (fun xs H Q => ((∃ i, xs = [.int i] ∧ Q (.int i) H) ∨ ∃ k, xs = [.bl k] ∧ Q (.int (if k then 1 else 0)) H) ∨ ∃ a n, xs = [.str a] ∧ PySem.intText? a = some n ∧ a.length ≤ 640 ∧ Q (.int n) H) := by
  intro S xs ds v Q R r e q
  cases ds with
  | nil => exact none_some e
  | cons d ds => cases ds with
    | cons _ _ => cases d <;> exact none_some e
    | nil =>
      obtain ⟨x, rfl, rx⟩ := r.one
      cases d <;> first | exact none_some e | skip
      case int i =>
        cases (show some (Vl.sh (.int i)) = some v from e)
        exact .inl (.inl ⟨i, by rw [rx.int], q.int R⟩)
      case bl i =>
        cases (show some (Vl.sh (.int (if i then 1 else 0))) = some v from e)
        exact .inl (.inr ⟨i, by rw [rx.bl], q.int R⟩)
      case str l =>
        simp only [biD] at e
        split at e
        · rw [Option.map_eq_some_iff] at e
          obtain ⟨n, h1, rfl⟩ := e
          exact .inr ⟨mkS l, n, by rw [rx.str.1], h1, by rw [mkS_len]; assumption, q.int R⟩
        · cases e
theorem len_str_int (i : Int) (h : i.natAbs.log2 < 1920) : (Str.ofString (toString i)).cps.toList.length ≤ sizeLine := by
  rw [← TL.len_tl]
  exact int_text_fits h
theorem bi_str : BiOk p .str (fun xs H Q => (∃ i, xs = [.int i] ∧ i.natAbs.log2 < 1920 ∧ Q (.str (toString i)) H) ∨ ∃ a, xs = [.str a] ∧ Q (.str a) H) := by
  intro S xs ds v Q R r e q
  cases ds with
  | nil => exact none_some e
  | cons d ds => cases ds with
    | cons _ _ => cases d <;> exact none_some e
    | nil =>
      obtain ⟨x, rfl, rx⟩ := r.one
      cases d <;> first | exact none_some e | skip
      case int i =>
        simp only [biD] at e
        split at e
        · cases e
          exact .inl ⟨i, by rw [rx.int], by assumption, q.str R (len_str_int i (by assumption))⟩
        · cases e
      case str l =>
        cases (show some (Vl.sh (.str l)) = some v from e)
        exact .inr ⟨_, by rw [rx.str.1], q.str R rx.str.2⟩
theorem fmt1 : Op1 p fmtD (fun x H Q => (∃ y : Str, x = .str y ∧ y.length ≤ sizeLine ∧ Q (.str y) H) ∨ ∃ i : Int, x = .int i ∧ i.natAbs.log2 < 1920 ∧ Q (.str (toString i)) H) := by
  intro S x d v Q R r e q
  cases d <;> first | exact none_some e | skip
  case int i =>
    simp only [fmtD] at e
    split at e
    · cases e
      exact .inr ⟨i, r.int, by assumption, q.str R (len_str_int i (by assumption))⟩
    · cases e
  case str l =>
    cases (show some (Vl.sh (.str l)) = some v from e)
    exact .inl ⟨_, r.str.1, by rw [mkS_len]; exact r.str.2, q.str R r.str.2⟩
theorem bi_abs : BiOk p .abs (fun xs H Q => ∃ i, xs = [.int i] ∧ Q (.int (if i < 0 then -i else i)) H) := by
  intro S xs ds v Q R r e q
  cases ds with
  | nil => exact none_some e
  | cons d ds => cases ds with
    | cons _ _ => cases d <;> exact none_some e
    | nil =>
      obtain ⟨x, rfl, rx⟩ := r.one
      cases d <;> first | exact none_some e | skip
      case int i =>
        cases (show some (Vl.sh (.int (if i < 0 then -i else i))) = some v from e)
        exact ⟨i, by rw [rx.int], q.int R⟩
theorem bi_two {f : Bi} {g : Int → Int → Int} (hf : ∀ i j, biD f [.int i, .int j] = some (.sh (.int (g i j)))) (hn : ∀ ds, (∀ i j, ds ≠ [.int i, .int j]) → biD f ds = none) : BiOk p f (fun xs H Q => ∃ i j, xs = [.int i, .int j] ∧ Q (.int (g i j)) H) := by
  intro S xs ds v Q R r e q
  by_cases h : ∃ i j, ds = [.int i, .int j]
  · obtain ⟨i, j, rfl⟩ := h
    obtain ⟨x, y, rfl, rx, ry⟩ := r.two
    rw [hf] at e
    cases e
    exact ⟨i, j, by rw [rx.int, ry.int], q.int R⟩
  · rw [hn ds fun i j z => h ⟨i, j, z⟩] at e
    cases e
theorem bi_min : BiOk p .min (fun xs H Q => ∃ i j, xs = [.int i, .int j] ∧ Q (.int (if j < i then j else i)) H) :=
  bi_two (g := fun i j => if j < i then j else i) (fun _ _ => rfl) fun ds h => by
    match ds with
    | [] => rfl
    | [d] => cases d <;> rfl
    | [d, e] => cases d <;> cases e <;> first | rfl | exact absurd rfl (h _ _)
    | d :: e :: f :: r => cases d <;> cases e <;> rfl
theorem bi_max : BiOk p .max (fun xs H Q => ∃ i j, xs = [.int i, .int j] ∧ Q (.int (if j > i then j else i)) H) :=
  bi_two (g := fun i j => if j > i then j else i) (fun _ _ => rfl) fun ds h => by
    match ds with
    | [] => rfl
    | [d] => cases d <;> rfl
    | [d, e] => cases d <;> cases e <;> first | rfl | exact absurd rfl (h _ _)
    | d :: e :: f :: r => cases d <;> cases e <;> rfl
theorem divOk_p {i j : Int} (h : divOk j = true) : CDivP i j := ⟨(divOk_c (i := i) h).1, PyProof.noPylong_of_log2 (divOk_c (i := i) h).2⟩
theorem bi_divmod : BiOk p .divmod (fun xs H Q => ∃ i j, xs = [.int i, .int j] ∧ CDivP i j ∧ ∀ pp, H pp = none → Q (.ref pp) (upd H pp (.tup [.int (i / j), .int (i % j)]))) := by
  intro S xs ds v Q R r e q
  match ds with
  | [] => exact none_some e
  | [d] => cases d <;> exact none_some e
  | d :: d2 :: d3 :: r2 => cases d <;> cases d2 <;> exact none_some e
  | [d, d2] =>
    obtain ⟨x, y, rfl, rx, ry⟩ := r.two
    cases d <;> cases d2 <;> first | exact none_some e | skip
    case int.int i j =>
      simp only [biD] at e
      split at e
      · cases e
        exact ⟨i, j, by rw [rx.int, ry.int], divOk_p (by assumption), fun pp np => q.newTup R np ⟨by simp only [Rep], by simp only [Rep], trivial⟩⟩
      · cases e
theorem lst_one {f : Bi} {ds : List D} {v : Vl} (hn : ∀ ds, (∀ l, ds ≠ [.lst l]) → biD f ds = none) (e : biD f ds = some v) : ∃ l, ds = [.lst l] := by
  by_cases h : ∃ l, ds = [.lst l]
  · exact h
  · rw [hn ds fun l z => h ⟨l, z⟩] at e; cases e
theorem bi_sum : BiOk p .sum (rSum p.K) := by
  intro S xs ds v Q R r e q
  obtain ⟨l, rfl⟩ := lst_one (fun ds h => by
    match ds with
    | [] => rfl
    | [d] => cases d <;> first | rfl | exact absurd rfl (h _)
    | d :: d2 :: _ => cases d <;> rfl) e
  obtain ⟨x, rfl, rx⟩ := r.one
  have e : (intsD l).map (fun ns => Vl.sh (.int ns.sum)) = some v := e
  rw [Option.map_eq_some_iff] at e
  obtain ⟨ns, h1, rfl⟩ := e
  obtain ⟨a, vs, rfl, ha, ra⟩ := rx.lst R
  rw [intsD_eq h1] at ra
  rw [ints_rep ra] at ha
  exact ⟨a, ns, rfl, SqL.of ha, q.int R⟩
theorem bi_all : BiOk p .all (rAll p.K) := by
  intro S xs ds v Q R r e q
  obtain ⟨l, rfl⟩ := lst_one (fun ds h => by
    match ds with
    | [] => rfl
    | [d] => cases d <;> first | rfl | exact absurd rfl (h _)
    | d :: d2 :: _ => cases d <;> rfl) e
  obtain ⟨x, rfl, rx⟩ := r.one
  have e : (blsD l).map (fun ns => Vl.sh (.bl (ns.all id))) = some v := e
  rw [Option.map_eq_some_iff] at e
  obtain ⟨ns, h1, rfl⟩ := e
  obtain ⟨a, vs, rfl, ha, ra⟩ := rx.lst R
  rw [blsD_eq h1] at ra
  rw [bls_rep ra] at ha
  exact ⟨a, ns, rfl, SqL.of ha, q.bl R⟩
theorem bi_any : BiOk p .any (rAny p.K) := by
  intro S xs ds v Q R r e q
  obtain ⟨l, rfl⟩ := lst_one (fun ds h => by
    match ds with
    | [] => rfl
    | [d] => cases d <;> first | rfl | exact absurd rfl (h _)
    | d :: d2 :: _ => cases d <;> rfl) e
  obtain ⟨x, rfl, rx⟩ := r.one
  have e : (blsD l).map (fun ns => Vl.sh (.bl (ns.any id))) = some v := e
  rw [Option.map_eq_some_iff] at e
  obtain ⟨ns, h1, rfl⟩ := e
  obtain ⟨a, vs, rfl, ha, ra⟩ := rx.lst R
  rw [blsD_eq h1] at ra
  rw [bls_rep ra] at ha
  exact ⟨a, ns, rfl, SqL.of ha, q.bl R⟩
/-- tuple(text) -/
def rTupS : List V → Hp → VK → Prop := fun xs H Q => ∃ l : List Nat, xs = [.str (mkS l)] ∧ l.length ≤ sizeLine ∧ ∀ q, H q = none → Q (.ref q) (upd H q (.tup (l.map fun c => .str (mkS [c]))))
theorem call_tupleS {X : Cx} (hc : X.calm = true) : CallR X (.type "tuple") rTupS := by
  intro pins s σ H vs us Q I r h
  obtain ⟨l, rfl, hl, q⟩ := h
  obtain ⟨u, rfl, ru⟩ := vals1 r
  obtain ⟨t, rfl⟩ := ru
  have hz : (mkS l).cps.size ≤ sizeLine := by show l.toArray.size ≤ _; simpa using hl
  refine call_tuple_str (I.ok.hd hc) (mkS l) t (fun h' tk acc hk hacc => ?_) hz
  have I2 : Inv X pins σ H { s with heap := h', toks := tk } := I.kept hk
  have hsz : acc.toList.length = l.length := by
    rw [Array.length_toList, hacc.1]
    show l.toArray.size = _
    simp
  refine ⟨.ref h'.objs.size, upd H h'.objs.size (.tup (l.map fun c => .str (mkS [c]))), I2.laid (t' := tk) (fun c o e => Heap.get?_push_of_some _ e) (Nat.le_refl _) (show ObjOk X.prog X.w _ _ _ (.tup (l.map fun c => .str (mkS [c]))) from ⟨by rw [List.length_map]; exact hl, acc.toList, ?_, ?_⟩), rfl, q _ (I2.hok.fresh (Nat.le_refl _))⟩
  · refine vals_of_at (by rw [List.length_map]; exact hsz.symm) fun j x u h1 h2 => ?_
    rw [List.getElem?_map, Option.map_eq_some_iff] at h1
    obtain ⟨c, hc, rfl⟩ := h1
    obtain ⟨c', tk', h3, rfl⟩ := hacc.2 j u (by rw [← h2, Array.getElem?_toList])
    have h3 : l.toArray[j]? = some c' := h3
    rw [List.getElem?_toArray, hc] at h3
    cases h3
    exact ⟨tk', rfl⟩
  · rw [Array.toArray_toList]; exact IsTup.new _ _
theorem repL_signs {K : PySem.W.Frag} {F : Hp} : ∀ l : List Nat, RepL K F (l.map fun c => V.str (mkS [c])) (l.map fun c => D.str [c])
  | [] => trivial
  | c :: l => ⟨by
      show Rep K F (.str (mkS [c])) (.str [c])
      simp only [Rep]
      exact ⟨trivial, by rw [sizeLine_eq]; simp⟩, repL_signs l⟩
theorem bi_tuple : BiOk p .tuple (fun xs H Q => (∃ pp ys, xs = [.ref pp] ∧ ((SqL p.K H pp ys ∧ ∀ l, H l = none → Q (.ref l) (upd H l (.tup ys))) ∨ (SqT p.K H pp ys ∧ Q (.ref pp) H))) ∨ rTupS xs H Q) := by
  intro S xs ds v Q R r e q
  match ds with
  | [] => exact none_some e
  | d :: d2 :: _ => cases d <;> exact none_some e
  | [d] =>
    obtain ⟨x, rfl, rx⟩ := r.one
    cases d <;> first | exact none_some e | skip
    case lst l =>
      cases (show some (Vl.sh (.tup l)) = some v from e)
      obtain ⟨a, vs, rfl, ha, ra⟩ := rx.lst R
      exact .inl ⟨a, vs, rfl, .inl ⟨SqL.of ha, fun pp np => q.newTup R np ra⟩⟩
    case tup l =>
      cases (show some (Vl.sh (.tup l)) = some v from e)
      obtain ⟨a, vs, rfl, fa, ha, ra⟩ := rx.tup R
      exact .inl ⟨a, vs, rfl, .inr ⟨SqT.of ha, q.sh R (by simp only [Rep]; exact ⟨a, vs, rfl, fa, ra⟩)⟩⟩
    case str l =>
      cases (show some (Vl.sh (.tup (l.map fun c => D.str [c]))) = some v from e)
      obtain ⟨rfl, hl⟩ := rx.str
      exact .inr ⟨l, rfl, hl, fun pp np => q.newTup R np (repL_signs l)⟩
theorem bi_list : BiOk p .list (fun xs H Q => ∃ pp ys, xs = [.ref pp] ∧ (SqL p.K H pp ys ∨ SqT p.K H pp ys) ∧ ∀ l, H l = none → Q (.ref l) (upd H l (.lst ys))) := by
  intro S xs ds v Q R r e q
  match ds with
  | [] => exact none_some e
  | d :: d2 :: _ => cases d <;> exact none_some e
  | [d] =>
    obtain ⟨x, rfl, rx⟩ := r.one
    cases d <;> first | exact none_some e | skip
    case lst l =>
      cases (show some (Vl.ow (.lst l)) = some v from e)
      obtain ⟨a, vs, rfl, ha, ra⟩ := rx.lst R
      exact ⟨a, vs, rfl, .inl (SqL.of ha), fun pp np => q.ow R np ⟨_, rfl, ra⟩⟩
    case tup l =>
      cases (show some (Vl.ow (.lst l)) = some v from e)
      obtain ⟨a, vs, rfl, fa, ha, ra⟩ := rx.tup R
      exact ⟨a, vs, rfl, .inr (SqT.of ha), fun pp np => q.ow R np ⟨_, rfl, ra⟩⟩

/-! ### methods -/
def MtOk (p : Pm) (m : Mt) (r : V → List V → Hp → VK → Prop) (T : String) : Prop := ∀ (S : Stt) (x : V) (xs : List V) (d : D) (ds : List D) (v : Vl) (Q : VK), ER p.K p.ios S → Rd p.K S x d → RdL p.K S xs ds → metD m d ds = some v → GP p (VR p.K) S (.ok v S.env) Q → r x xs S.H Q
def metF (m : Mt) (mo : En → Rs Vl) (ms : En → Rs (List Vl)) : En → Rs Vl := fun env => (mo env).bind fun x e1 => match strV x e1 with
  | true => (ms e1).bind fun vs e2 => match cont x e2, contL vs e2 with
    | some d, some ds => liftV (metD m d ds) e2
    | _, _ => .stuck
  | false => .stuck
theorem mt_count1 : MtOk p .count (fun x xs H Q => ∃ a b, x = .str a ∧ xs = [.str b] ∧ Q (.int (Txt.count a b)) H) "str" := by
  intro S x xs d ds v Q R rx r e q
  match ds with
  | [] => cases d <;> exact none_some e
  | d1 :: d2 :: _ => cases d <;> cases d1 <;> exact none_some e
  | [d1] =>
    cases d <;> cases d1 <;> first | exact none_some e | skip
    case str.str l m =>
      cases (show some (Vl.sh (.int (Txt.count (mkS l) (mkS m)))) = some v from e)
      obtain ⟨y, rfl, ry⟩ := r.one
      exact ⟨_, _, rx.str.1, by rw [ry.str.1], q.int R⟩
theorem mt_index1 : MtOk p .index (fun x xs H Q => ∃ a b i rest, x = .str a ∧ xs = [.str b] ∧ Builtin.Str.occurrences a b 0 a.length 1 = i :: rest ∧ Q (.int (i : Nat)) H) "str" := by
  intro S x xs d ds v Q R rx r e q
  match ds with
  | [] => cases d <;> exact none_some e
  | d1 :: d2 :: _ => cases d <;> cases d1 <;> exact none_some e
  | [d1] =>
    cases d <;> cases d1 <;> first | exact none_some e | skip
    case str.str l m =>
      obtain ⟨y, rfl, ry⟩ := r.one
      simp only [metD] at e
      cases c : Builtin.Str.occurrences (mkS l) (mkS m) 0 (mkS l).length 1 with
      | nil => rw [c] at e; cases e
      | cons i rest =>
        rw [c] at e
        cases e
        exact ⟨_, _, i, rest, rx.str.1, by rw [ry.str.1], c, q.int R⟩
theorem join_len (y : List Nat) (ls : List (List Nat)) : (TL.joinL y ls).length ≤ (ls.map List.length).sum + ls.length * y.length := by
  match ls with
  | [] => simp [TL.joinL]
  | [a] => simp [TL.joinL]
  | a :: b :: r =>
    have ih := join_len y (b :: r)
    simp only [TL.joinL, List.length_append, List.map_cons, List.sum_cons, List.length_cons] at ih ⊢
    have : (r.length + 1 + 1) * y.length = (r.length + 1) * y.length + y.length := Nat.succ_mul _ _
    omega
theorem join_mk (y : List Nat) (ls : List (List Nat)) : Txt.join (mkS y) (ls.map mkS) = mkS (TL.joinL y ls) := by
  apply TL.ext_tl
  rw [TL.join_eq, TL.tl_join]
  show TL.joinL y ((ls.map mkS).map TL.tl) = TL.joinL y ls
  rw [List.map_map]
  congr 1
  rw [show (TL.tl ∘ mkS) = id from funext fun l => rfl, List.map_id]
theorem mt_join1 : MtOk p .join (fun x xs H Q => ∃ a pp, ∃ ys : List Str, x = .str a ∧ xs = [.ref pp] ∧ (SqL p.K H pp (ys.map V.str) ∨ SqT p.K H pp (ys.map V.str)) ∧ (ys.map (·.length)).sum + ys.length * a.length ≤ 16777216 ∧ Q (.str (Txt.join a ys)) H) "str" := by
  intro S x xs d ds v Q R rx r e q
  have fin : ∀ {y : List Nat} {l : List D} {a : Addr} {vs : List V}, x = .str (mkS y) → xs = [.ref a] → (SqL p.K S.H a vs ∨ SqT p.K S.H a vs) → RepL p.K S.F vs l → ((strsD l).bind fun ls => if (ls.map List.length).sum + ls.length * y.length ≤ 16777216 then some (Vl.sh (.str (TL.joinL y ls))) else none) = some v →
      ∃ a pp, ∃ ys : List Str, x = .str a ∧ xs = [.ref pp] ∧ (SqL p.K S.H pp (ys.map V.str) ∨ SqT p.K S.H pp (ys.map V.str)) ∧ (ys.map (·.length)).sum + ys.length * a.length ≤ 16777216 ∧ Q (.str (Txt.join a ys)) S.H := by
    intro y l a vs hx hxs ha ra e
    rw [Option.bind_eq_some_iff] at e
    obtain ⟨ls, h1, h2⟩ := e
    split at h2
    · rename_i hz
      cases h2
      rw [strsD_eq h1] at ra
      rw [strs_rep ra] at ha
      refine ⟨mkS y, a, ls.map mkS, hx, hxs, ha, ?_, ?_⟩
      · rw [List.map_map, List.length_map, mkS_len, show ((·.length) ∘ mkS) = List.length from funext fun l => mkS_len l]
        exact hz
      · rw [join_mk]
        exact q.str R (Nat.le_trans (join_len y ls) (by rw [sizeLine_eq]; exact hz))
    · cases h2
  match ds with
  | [] => cases d <;> exact none_some e
  | d1 :: d2 :: _ => cases d <;> cases d1 <;> exact none_some e
  | [d1] =>
    cases d <;> cases d1 <;> first | exact none_some e | skip
    case str.lst y l =>
      obtain ⟨z, rfl, rz⟩ := r.one
      obtain ⟨a, vs, rfl, ha, ra⟩ := rz.lst R
      exact fin rx.str.1 rfl (.inl (SqL.of ha)) ra e
    case str.tup y l =>
      obtain ⟨z, rfl, rz⟩ := r.one
      obtain ⟨a, vs, rfl, _, ha, ra⟩ := rz.tup R
      exact fin rx.str.1 rfl (.inr (SqT.of ha)) ra e
theorem mt_upper1 : MtOk p .upper (fun x xs H Q => ∃ a, x = .str a ∧ xs = [] ∧ a.length ≤ 5592405 ∧ Q (.str (Txt.upper a)) H) "str" := by
  intro S x xs d ds v Q R rx r e q
  match ds with
  | d1 :: _ => cases d <;> cases d1 <;> exact none_some e
  | [] =>
    cases d <;> first | exact none_some e | skip
    case str l =>
      simp only [metD] at e
      split at e
      · rename_i hz
        cases e
        cases xs with
        | cons _ _ => exact r.elim
        | nil =>
          refine ⟨_, rx.str.1, rfl, by rw [mkS_len]; exact hz, q.str R ?_⟩
          rw [sizeLine_eq]
          have h2 := PyProof.Rows.len_upper (mkS l)
          have h3 := TL.len_tl (Txt.upper (mkS l))
          have h4 := mkS_len l
          have h5 : (TL.tl (Txt.upper (mkS l))).length = (Txt.upper (mkS l)).cps.toList.length := rfl
          omega
      · cases e
theorem split_mk (l : List Nat) (c : Nat) (h : c < 256) : Txt.split (mkS l) (mkS [c]) = (TL.spl [c] 0 [] l).map mkS := by
  apply TL.map_tl_inj
  rw [TL.split_spl _ _ (by show [c] ≠ []; simp) (TL.kind_ok (by simp [h])), List.map_map, show (TL.tl ∘ mkS) = id from funext fun l => rfl, List.map_id]
theorem spl_len (c : Nat) : ∀ (l acc : List Nat), ∀ x ∈ TL.spl [c] 0 acc l, x.length ≤ acc.length + l.length
  | [], acc, x, hx => by
    simp only [TL.spl, List.mem_singleton] at hx
    subst hx; simp
  | d :: r, acc, x, hx => by
    simp only [TL.spl] at hx
    split at hx
    · rcases List.mem_cons.mp hx with rfl | hx
      · simp only [List.length_cons]; omega
      · have := spl_len c r [] x hx
        simp only [List.length_nil, List.length_cons] at this ⊢; omega
    · have := spl_len c r (acc ++ [d]) x hx
      simp only [List.length_append, List.length_cons, List.length_nil] at this ⊢; omega
theorem strs_ob {K : PySem.W.Frag} {F : Hp} : ∀ {ls : List (List Nat)}, (∀ l ∈ ls, l.length ≤ sizeLine) → RepL K F ((ls.map mkS).map V.str) (ls.map .str)
  | [], _ => trivial
  | l :: ls, h => ⟨by simp only [Rep]; exact ⟨trivial, h l (List.mem_cons_self ..)⟩, strs_ob fun x hx => h x (List.mem_cons_of_mem _ hx)⟩
theorem mt_split1 : MtOk p .split (fun x xs H Q => ∃ a b, x = .str a ∧ xs = [.str b] ∧ (b.length == 0) = false ∧ a.length + 2 ≤ sizeLine ∧ rNewStrs (Txt.split a b) H Q) "str" := by
  intro S x xs d ds v Q R rx r e q
  match ds with
  | [] => cases d <;> exact none_some e
  | d1 :: d2 :: _ =>
    cases d <;> cases d1 <;> first | exact none_some e | skip
    case str.str l m => match m with
      | [] => exact none_some e
      | [_] => exact none_some e
      | _ :: _ :: _ => exact none_some e
  | [d1] =>
    cases d <;> cases d1 <;> first | exact none_some e | skip
    case str.str l m =>
      match m with
      | [] => exact none_some e
      | _ :: _ :: _ => exact none_some e
      | [c] =>
        simp only [metD] at e
        split at e
        · rename_i hz
          cases e
          obtain ⟨y, rfl, ry⟩ := r.one
          obtain ⟨rfl, hl⟩ := rx.str
          obtain ⟨rfl, _⟩ := ry.str
          refine ⟨_, _, rfl, rfl, rfl, by rw [mkS_len]; exact hz.2, fun pp np => ?_⟩
          rw [split_mk l c hz.1]
          exact q.ow R np ⟨_, rfl, strs_ob fun x hx => by have := spl_len c l [] x hx; simp only [List.length_nil] at this; omega⟩
        · cases e
end
end Pv

/-! PvS6: which text stands for which expression. -/
namespace Pv
open PySem PySem.Spec PyProof.Rows L2

/-! ### equality of data, as a test -/
mutual
def beqD : D → D → Bool
  | .non, .non => true
  | .bl a, .bl b => a == b
  | .int a, .int b => a == b
  | .str a, .str b => a == b
  | .tup a, .tup b => beqL a b
  | .lst a, .lst b => beqL a b
  | .fl a, .fl b => beqL a b
  | .ft a, .ft b => beqL a b
  | _, _ => false
def beqL : List D → List D → Bool
  | [], [] => true
  | a :: as, b :: bs => beqD a b && beqL as bs
  | _, _ => false
end
mutual
theorem beqD_eq : ∀ {a b : D}, beqD a b = true → a = b
  | .non, b, h => by cases b <;> first | rfl | cases h
  | .bl a, b, h => by
    cases b <;> first | (cases h; done) | skip
    simp only [beqD, beq_iff_eq] at h; rw [h]
  | .int a, b, h => by
    cases b <;> first | (cases h; done) | skip
    simp only [beqD, beq_iff_eq] at h; rw [h]
  | .str a, b, h => by
    cases b <;> first | (cases h; done) | skip
    simp only [beqD, beq_iff_eq] at h; rw [h]
  | .tup a, b, h => by
    cases b <;> first | (cases h; done) | skip
    simp only [beqD] at h; rw [beqL_eq h]
  | .lst a, b, h => by
    cases b <;> first | (cases h; done) | skip
    simp only [beqD] at h; rw [beqL_eq h]
  | .fl a, b, h => by
    cases b <;> first | (cases h; done) | skip
    simp only [beqD] at h; rw [beqL_eq h]
  | .ft a, b, h => by
    cases b <;> first | (cases h; done) | skip
    simp only [beqD] at h; rw [beqL_eq h]
  | .dic _ _, b, h => by cases b <;> cases h
theorem beqL_eq : ∀ {a b : List D}, beqL a b = true → a = b
  | [], b, h => by cases b <;> first | rfl | cases h
  | a :: as, b, h => by
    cases b <;> first | (cases h; done) | skip
    simp only [beqL, Bool.and_eq_true] at h
    rw [beqD_eq h.1, beqL_eq h.2]
end

/-- the slots that a target stores -/
def slPt : Pt → List Nat
  | .nm i => [i]
  | .tup ts => slPts ts
where slPts : List Pt → List Nat
  | [] => []
  | t :: ts => slPt t ++ slPts ts

/-! ### forms of expressions -/
def noStar : Expr → Bool
  | .Starred .. => false
  | _ => true
def plainT : Expr → Bool
  | .UnaryOp .Not _ _ => false
  | .BoolOp .. => false
  | .IfExp .. => false
  | .Compare .. => false
  | _ => true
def noComp : Expr → Bool
  | .ListComp .. => false
  | .SetComp .. => false
  | .DictComp .. => false
  | _ => true
def noCall0 : Expr → Bool
  | .Call (.Name _ _) [] [] _ => false
  | _ => true
def noSlice : Expr → Bool
  | .Slice .. => false
  | _ => true
def noSet : Expr → Bool
  | .Set .. => false
  | _ => true
theorem star_cons {e : Expr} {es : List Expr} {env : Env} (h : noStar e = true) : starEach (e :: es) env = (false, eval e env) :: starEach es env := by
  cases e <;> first | rfl | cases h
theorem star_plain {env : Env} {pos : Pos} : ∀ {es : List Expr}, es.all noStar = true → (backTo pos (starEach es env)).any (·.1) = false
  | [], _ => rfl
  | e :: es, h => by
    rw [List.all_cons, Bool.and_eq_true] at h
    rw [star_cons h.1]
    show (false || (backTo pos (starEach es env)).any (·.1)) = false
    rw [star_plain h.2]; rfl
theorem isT_plain {e : Expr} {env : Env} (h : plainT e = true) (whole : Sem Value) : isTrue e env whole = (do let v ← whole; standAt e.pos; holding [v] (truthy v)) := by
  cases e <;> first | rfl | (cases h; done) | skip
  case UnaryOp op x pos => cases op <;> first | rfl | cases h
theorem swaps_no {e : Expr} {t : Option Expr} {l : Nat} {env : Env} (h : noComp e = true) : swapsWith e t l env = pure false := by
  cases e <;> first | rfl | cases h
theorem attr_base {o : Expr} {n : Str} {env : Env} {w : Sem Value} (h : noCall0 o = true) : attributeBase o n env w = w := by
  cases o <;> first | rfl | skip
  case Call f args kws pos =>
    cases f <;> first | rfl | skip
    case Name x p =>
      cases args with
      | cons _ _ => rfl
      | nil => cases kws with
        | cons _ _ => rfl
        | nil => cases h
theorem sub_plain {e : Expr} (h : noSlice e = true) : ∀ o i, subscripted e false o i = operate [o, i] (getItem o i) := by
  intro o i
  cases e <;> first | rfl | cases h
theorem no_marks {op : CmpOp} {e : Expr} (h : noSet e = true) : behindInMarks op e = false := by
  cases e <;> first | rfl | cases h
theorem folded_plain {e : Expr} {env : Env} (h : noSet e = true) : ∀ x, foldedSetIterable e env x = pure x := by
  intro x
  cases e <;> first | rfl | cases h

/-! ### what the texts' names stand for -/
structure Cn where
  N : List Str
  sc : Scope
  cs : List (String × D)
  fs : List (String × Nat)
  bs : List String
  kw : List (String × List String × List Nat)
  st : List Str := []
  xs : List String := []
  he : List (String × List Nat × List (String × List Nat)) := []
  lam : Bool := false
/-- inside a comprehension -/
def Cn.blk (c : Cn) (scope : Scope) : Cn := { c with sc := relS scope c.sc, st := (scope.names.filter fun y => y.2 == .cell).map (·.1), lam := false }
/-- inside a lambda -/
def Cn.lamC (c : Cn) (scope : Scope) : Cn := { c with sc := scope, st := [], lam := false }
/-- a name that may be stored -/
def okSt (c : Cn) (x : Str) : Bool := c.sc.names.lookup x == some .local || (c.sc.names.lookup x == some .cell && c.st.contains x)
abbrev so (s : String) : Str := Str.ofString s
def visB (c : Cn) (x : Str) : Bool := match c.sc.names.lookup x with
  | some .local => true
  | some .cell => true
  | some .free => true
  | _ => false
def gloB (c : Cn) (x : Str) : Bool := c.sc.names.lookup x == some .globalImplicit
def nameOk (x : Str) : Bool := !(x == ("__debug__" : Str)) && !(x == ("__classdict__" : Str)) && !(x == ("__name__" : Str))
theorem vis_of {c : Cn} {x : Str} (h : visB c x = true) : Vis c.sc x := by
  unfold visB at h
  cases q : c.sc.names.lookup x with
  | none => rw [q] at h; cases h
  | some k =>
    rw [q] at h
    cases k with
    | «local» => exact .inl q
    | cell => exact .inr (.inl q)
    | free => exact .inr (.inr q)
    | globalExplicit => cases h
    | globalImplicit => cases h
/-- what an exception's __init__ makes of a fresh one: its one field -/
def spInit (K : PySem.W.Frag) (f : Str) : Sp := fun vs H Q _ => ∃ (a C : Addr) (v : V), vs = [.ref a, v] ∧ OexC K C ∧ PySem.W.findIn K (.ref C) f = some none ∧ H a = some (exo a C none) ∧
  ∀ dx, H dx = none → dx ≠ a → Q .non (upd (upd H dx (exd dx [(f, v)])) a (exo a C (some dx)))
/-- an exception of the program's own -/
structure XcOk (P : Program) (w : World) (K : PySem.W.Frag) (mg : Str → Option Value) (base : Heap) (k : Nat) (C : Addr) (f : Str) (x : Str) : Prop where
  gC : mg x = some (.ref C)
  oex : OexC K C
  no : PySem.W.findIn K (.ref C) f = some none
  xf : XfC K C
  te : PySem.W.exmOne K (.ref C) (.ref C) = some true
  ini : ∃ (fI : Addr) (fd : FuncData) (ps : List Str) (j : Nat), j + 1 ≤ k ∧ PySem.W.findIn K (.ref C) "__init__" = some (some (.ref fI)) ∧ PySem.W.typeIn K (.ref fI) = some (.type "function") ∧ Binds K fd ps [] ∧ FnOk P w K mg base (L2.CX P w) j fI fd ps (spInit K f)
/-- what a def that hears makes of what a lambda reads -/
def TTh (K : PySem.W.Frag) (cl : Cl) (ok : List Nat) (hs : List (String × List Nat)) : (XK → Hp → VK → Prop) → Hp → VK → Prop := fun tl H Q =>
  tl (fun cls d H' => ∃ (c : String) (w : List Nat) (C : Addr) (f : Str) (dd : Addr) (v : V), hs.lookup c = some w ∧ cl c = some (C, f) ∧ cls = .ref C ∧ d = some dd ∧ H' dd = some (.xd [(f, v)]) ∧ ∀ p, H' p = none → Q (.ref p) (upd H' p (.lst [.str (mkS w), v]))) H
    (fun v H' => [V.str (mkS ok), v].length ≤ sizeLine ∧ ∀ p, H' p = none → Q (.ref p) (upd H' p (.lst [.str (mkS ok), v])))
/-- a def that hears: try: return [ok, act()] except C as e: return [w, e.f] .. -/
def HeOk (P : Program) (w : World) (K : PySem.W.Frag) (mg : Str → Option Value) (base : Heap) (cl : Cl) (x : Str) (ok : List Nat) (hs : List (String × List Nat)) : Prop :=
  ok.length ≤ sizeLine ∧ (∀ q ∈ hs, q.2.length ≤ sizeLine) ∧ ∃ (g : Addr) (pg : Arguments) (bg : List Stmt) (sg : Scope) (dV kV doc pm cdv ct oc : Value) (an od : Option Addr) (osl : Array (Option Value)) (Ng : List Str) (a : Str),
    mg x = some (.ref g) ∧ PySem.W.keepIn K (.ref g) = true ∧ K.lookup g = some ⟨oc, od, .func (PySem.W.fnOf x x pg bg sg dV kV doc pm an cdv ct), osl⟩ ∧ PySem.W.codeIn K cdv x = true ∧
    L2.Binds K (PySem.W.fnOf x x pg bg sg dV kV doc pm an cdv ct) [a] [] ∧ FnScope Ng [a] sg ∧ Ng[0]? = some a ∧ Vis sg a ∧ (a == ("__debug__" : Str)) = false ∧ (a == ("__classdict__" : Str)) = false ∧
    ∀ (X : Cx) (q : Str), X.prog = P → X.w = w → X.K = K → X.mg = mg → X.base = base → LamX.GivesTo X Ng x sg g cdv bg a q (TTh K cl ok hs)
variable [Tb]
/-- where a lambda may stand: the def's code and its table -/
def LamAt (base : Heap) (mg : Str → Option Value) (code : Value) (qual : Str) : Prop := ∃ cc P, code = .ref cc ∧ LamX.TabB base mg cc P ∧ (P, qual ++ "<lambda>") ∈ Tb.T ∧ ∀ q ∈ Tb.T, q.1 = P → q.2 = qual ++ "<lambda>"
structure Gb (P : Program) (w : World) (K : PySem.W.Frag) (mg : Str → Option Value) (base : Heap) (T : String → Fn) (k : Nat) (cl : Cl) (c : Cn) : Prop where
  glo : ∀ x d, (x, d) ∈ c.cs → ∃ u v, mg (so x) = some u ∧ RelV v u ∧ Rep K (fun _ => none) v d
  fn : ∀ f ∈ c.fs, ∃ (fa : Addr) (fd : FuncData) (ps : List Str), ps.length = f.2 ∧ mg (so f.1) = some (.ref fa) ∧ PySem.W.keepIn K (.ref fa) = true ∧ Binds K fd ps [] ∧ FnOk P w K mg base (L2.CX P w) k fa fd ps (spOf K cl f.2 (T f.1)) ∧
    ∀ ks ord, (f.1, ks, ord) ∈ c.kw → KBn K fd ps 0 (ks.map so) (fun _ ws => ord.map fun i => ws.getD i .none) (fun _ zs => ord.map fun i => zs.getD i .non)
  bi : ∀ x ∈ c.bs, mg (so x) = none
  xc : ∀ x ∈ c.xs, ∃ C f, cl x = some (C, f) ∧ XcOk P w K mg base k C f (so x)
  he : ∀ x ∈ c.he, HeOk P w K mg base cl (so x.1) x.2.1 x.2.2
structure XO (c : Cn) (T : String → Fn) (p : Pm) (X : Cx) : Prop where
  N : X.N = c.N
  nd : c.N.Nodup
  sc : X.env.scope = c.sc
  calm : X.calm = true
  g : ∃ k, Room k X.A ∧ Gb X.prog X.w X.K X.mg X.base T k p.cl c
  pass : PassesOwn (model X.prog X.w) X.A X.env X.xe
  take : Takes X p.W
  K : p.K = X.K
  fnl : ∀ x ∈ c.st, X.fn x = true
  lam : c.lam = true → LamAt X.base X.mg X.env.code X.env.qual ∧ ∃ k, Room (k + 2) X.A ∧ Gb X.prog X.w X.K X.mg X.base T k p.cl c
section
variable {c : Cn} {T : String → Fn} {p : Pm} {X : Cx}
theorem XO.st (o : XO c T p X) {x : Str} (h : okSt c x = true) : Loc X.env.scope x ∧ (X.fn x = true ∨ X.env.scope.names.lookup x = some .local) := by
  unfold okSt at h
  rw [Bool.or_eq_true, Bool.and_eq_true] at h
  rw [o.sc]
  rcases h with h | ⟨h, h2⟩
  · exact ⟨.inl (beq_iff_eq.mp h), .inr (beq_iff_eq.mp h)⟩
  · exact ⟨.inr (beq_iff_eq.mp h), .inl (o.fnl x (by simpa using h2))⟩
theorem XO.gl (o : XO c T p X) {x : Str} (h : gloB c x = true) : Gl X x := by
  show X.env.scope.names.lookup x = _
  rw [o.sc]
  exact beq_iff_eq.mp h
theorem XO.hu5 (o : XO c T p X) : X.A.units + 65 < cLine := by
  obtain ⟨k, r, _⟩ := o.g
  have := r.un
  omega
theorem XO.hu (o : XO c T p X) : X.A.units + 64 < cLine := by obtain ⟨k, r, _⟩ := o.g; exact r.units
end
theorem name_ok {x : Str} (h : nameOk x = true) : (x == ("__debug__" : Str)) = false ∧ (x == ("__classdict__" : Str)) = false ∧ x ≠ ("__name__" : Str) := by
  unfold nameOk at h
  simp only [Bool.and_eq_true, Bool.not_eq_true'] at h
  exact ⟨h.1.1, h.1.2, fun z => by rw [z] at h; simp at h⟩

omit [Tb] in
def biName : Bi → String
  | .len => "len" | .int => "int" | .str => "str" | .abs => "abs" | .min => "min" | .max => "max" | .sum => "sum" | .all => "all" | .any => "any"
  | .tuple => "tuple" | .list => "list" | .sorted => "sorted" | .divmod => "divmod"
omit [Tb] in
def mtName : Mt → String
  | .count => "count" | .replace => "replace" | .join => "join" | .split => "split" | .upper => "upper" | .index => "index"
omit [Tb] in
def ckCon : D → Const → Bool
  | .non, .none => true
  | .bl a, .bool b => a == b
  | .int a, .int b => a == b
  | .str l, .str s => mkS l == s && decide (l.length ≤ sizeLine)
  | _, _ => false
omit [Tb] in
/-- the operators that a comparison may bear -/
def okCmp : CmpOp → Bool
  | .Is => false
  | .IsNot => false
  | _ => true
omit [Tb] in
def okBin : Operator → Bool
  | .Add => true | .Sub => true | .Mult => true | .FloorDiv => true | .Mod => true | .Pow => true
  | _ => false
omit [Tb] in
def okTy (t : String) : Bool := t == "int" || t == "bool" || t == "str" || t == "tuple" || t == "list"
omit [Tb] in
/-- a target -/
def ckPt (c : Cn) : Pt → Expr → Bool
  | .nm i, .Name x _ => c.N[i]? == some x && okSt c x
  | .tup ts, .Tuple es _ _ => ckPts c ts es
  | _, _ => false
where ckPts (c : Cn) : List Pt → List Expr → Bool
  | [], [] => true
  | t :: ts, e :: es => noStar e && ckPt c t e && ckPts c ts es
  | _, _ => false
omit [Tb] in
/-- enumerate: over two names -/
def ckIT : Ex → Expr → Bool
  | .enm _, .Tuple .. => true
  | .enm _, _ => false
  | _, _ => true
omit [Tb] in
def isNm : Expr → String → Bool
  | .Name x _, s => x == so s
  | _, _ => false
omit [Tb]
mutual
def ckE (c : Cn) : Ex → Expr → Bool
  | .var i, .Name x _ => c.N[i]? == some x && visB c x && nameOk x
  | .con d, .Constant k _ _ => ckCon d k
  | .glo s d, .Name x _ => x == so s && gloB c x && nameOk x && c.cs.any fun q => q.1 == s && beqD q.2 d
  | .bin o a b, .BinOp x op y _ => op == o && okBin o && ckE c a x && ckE c b y
  | .neg a, .UnaryOp .USub x _ => ckE c a x
  | .cmp o a b, .Compare x [op] [y] _ => op == o && okCmp o && noSet y && ckE c a x && ckE c b y
  | .chn o1 o2 a b d, .Compare x [p1, p2] [y, z] _ => p1 == o1 && p2 == o2 && okCmp o1 && okCmp o2 && noSet y && noSet z && ckE c a x && ckE c b y && ckE c d z
  | .isn a n, .Compare x [op] [.Constant .none _ _] _ => op == (if n then CmpOp.IsNot else CmpOp.Is) && ckE c a x
  | .not a, .UnaryOp .Not x _ => ckE c a x
  | .and a b, .BoolOp .And (x :: y :: r) q => ckE c a x && (match r with | [] => ckE c b y | z :: r => ckE c b (.BoolOp .And (y :: z :: r) q))
  | .or a b, .BoolOp .Or (x :: y :: r) q => ckE c a x && (match r with | [] => ckE c b y | z :: r => ckE c b (.BoolOp .Or (y :: z :: r) q))
  | .ife t a b, .IfExp u x y _ => ckE c t u && ckE c a x && ckE c b y
  | .tup es, .Tuple xs _ _ => ckL c es xs
  | .lst es, .List xs _ => ckL c es xs
  | .idx a b, .Subscript x y _ => noSlice y && ckE c a x && ckE c b y
  | .slc a lo hi, .Subscript x (.Slice l h none _) _ => ckE c a x && ckO c lo l && ckO c hi h
  | .rev a, .Subscript x (.Slice none none (some (.UnaryOp .USub (.Constant (.int 1) _ _) _)) _) _ => ckE c a x
  | .isi a t, .Call (.Name f _) [x, .Name ty _] [] _ => f == so "isinstance" && ty == so t && okTy t && gloB c f && gloB c ty && c.bs.contains "isinstance" && c.bs.contains t && noStar x && ckE c a x
  | .call f es, .Call (.Name x _) (y :: ys) [] _ => x == so f && gloB c x && nameOk x && c.fs.contains (f, es.length) && (y :: ys).all noStar && ckL c es (y :: ys)
  | .callK f ks ord, .Call (.Name x _) [] kws _ => x == so f && gloB c x && nameOk x && c.fs.contains (f, ord.length) && !kws.isEmpty && c.kw.any (fun q => q.1 == f && q.2.1 == ks.map (·.1) && q.2.2 == ord) && ckK c ks kws
  | .bi f es, .Call (.Name x _) (y :: ys) [] _ => x == so (biName f) && gloB c x && nameOk x && c.bs.contains (biName f) && (y :: ys).all noStar && ckL c es (y :: ys)
  | .met m o [], .Call (.Attribute x n ap) [] [] q => n == so (mtName m) && m == .upper && noCall0 x && ap.endLine == q.line && ckE c o x
  | .met m o es, .Call (.Attribute x n ap) (y :: ys) [] q => n == so (mtName m) && m != .replace && m != .upper && noCall0 x && ap.endLine == q.line && decide ((y :: ys).length < 29) && (y :: ys).all noStar && ckE c o x && ckL c es (y :: ys)
  | .pop i none, .Call (.Attribute (.Name x _) n ap) [] [] q => c.N[i]? == some x && visB c x && nameOk x && n == so "pop" && ap.endLine == q.line
  | .pop i (some e), .Call (.Attribute (.Name x _) n ap) [y] [] q => c.N[i]? == some x && visB c x && nameOk x && n == so "pop" && ap.endLine == q.line && noStar y && ckE c e y
  | .dnew _, .Dict [] [] _ => true
  | .fmt e, .JoinedStr [.FormattedValue x cv none _] _ => cv == -1 && ckE c e x
  | .hear f ok hs e, .Call (.Name x _) [.Lambda ⟨[], [], none, [], [], none, []⟩ body scope _] [] _ => x == so f && gloB c x && nameOk x && c.lam && c.he.contains (f, ok, hs) && LamX.lamSB c.sc scope && ckE (c.lamC scope) e body
  | .lc own elt pt it ifs, .ListComp x [⟨tg, i, fs, 0⟩] scope _ => 
      blkC c.N c.sc scope ((own.map fun j => (c.N.getD j ⟨#[]⟩, j))) && ckI c it i && ckIT it tg && noSet i && ckPt (c.blk scope) pt tg && (slPt pt).all own.contains && ckE (c.blk scope) elt x && ckF (c.blk scope) ifs fs
  | .lc2 own own1 elt pt it ifs pt1 it1 ifs1, .ListComp x [⟨tg, i, fs, 0⟩, ⟨tg1, i1, fs1, 0⟩] scope _ => 
      blkC c.N c.sc scope ((own.map fun j => (c.N.getD j ⟨#[]⟩, j))) && (own1.all fun j => own.contains j) && ckI c it i && ckIT it tg && noSet i && ckPt (c.blk scope) pt tg && (slPt pt).all own.contains && ckF (c.blk scope) ifs fs &&
        ckI (c.blk scope) it1 i1 && ckIT it1 tg1 && noSet i1 && ckPt (c.blk scope) pt1 tg1 && (slPt pt1).all own1.contains && ckF (c.blk scope) ifs1 fs1 && ckE (c.blk scope) elt x
  | _, _ => false
def ckL (c : Cn) : List Ex → List Expr → Bool
  | [], [] => true
  | e :: es, x :: xs => noStar x && ckE c e x && ckL c es xs
  | _, _ => false
def ckF (c : Cn) : List Ex → List Expr → Bool
  | [], [] => true
  | [e], [x] => ckE c e x
  | _, _ => false
def ckK (c : Cn) : List (String × Ex) → List Keyword → Bool
  | [], [] => true
  | (s, e) :: es, ⟨some n, x, _⟩ :: xs => n == so s && ckE c e x && ckK c es xs
  | _, _ => false
def ckO (c : Cn) : Option Ex → Option Expr → Bool
  | none, none => true
  | some e, some x => ckE c e x
  | _, _ => false
def ckI (c : Cn) : Ex → Expr → Bool
  | .rng es, .Call (.Name x _) (y :: ys) [] _ => x == so "range" && gloB c x && c.bs.contains "range" && (y :: ys).all noStar && decide ((y :: ys).length ≤ 3) && ckL c es (y :: ys)
  | .enm e, .Call (.Name x _) [y] [] _ => x == so "enumerate" && gloB c x && c.bs.contains "enumerate" && noStar y && ckE c e y
  | .sq e, x => ckE c e x
  | _, _ => false
end
end Pv

/-! PvS7: expressions keep what their texts say. -/
namespace Pv
open PySem PySem.Spec PyProof.Rows L2
variable [Tb]
section
variable {c : Cn} {T : String → Fn} {p : Pm} {X : Cx} {x y z : Expr} {ma mb mc : En → Rs Vl} {pos : Pos}
theorem ev_bin (op : Operator) (a b : Ex) : evE T (.bin op a b) = op2 (binD op) (evE T a) (evE T b) := rfl
theorem ev_cmp (op : CmpOp) (a b : Ex) : evE T (.cmp op a b) = op2 (cmpV op) (evE T a) (evE T b) := rfl
theorem ev_neg (a : Ex) : evE T (.neg a) = op1 negD (evE T a) := rfl
theorem ev_idx (a b : Ex) : evE T (.idx a b) = op2 (fun a b => (idxD a b).map .sh) (evE T a) (evE T b) := rfl
theorem ev_rev (a : Ex) : evE T (.rev a) = op1 revD (evE T a) := rfl
theorem ev_bi (f : Bi) (es : List Ex) : evE T (.bi f es) = biF f (evL T es) := rfl
theorem ev_met (m : Mt) (o : Ex) (es : List Ex) : evE T (.met m o es) = metF m (evE T o) (evL T es) := rfl
theorem s_bin (o : XO c T p X) {op : Operator} (h : okBin op = true) (ha : PE X x (tSE p ma)) (hb : PE X y (tSE p mb)) : PE X (.BinOp x op y pos) (tSE p (op2 (binD op) ma mb)) := by
  have hK := o.K
  cases op <;> first | (cases h; done) | skip
  case Add =>
    have q := add2 (p := p)
    rw [hK] at q
    exact PE.imp (pe_op (op_add.or (op_add_str.or (op_cat.or op_catA))) ha hb) (op2_ok q)
  case Sub => exact PE.imp (pe_op op_sub ha hb) (op2_ok sub2)
  case Mult => exact PE.imp (pe_op (op_mul.or op_rep) ha hb) (op2_ok mul2)
  case FloorDiv => exact PE.imp (pe_op op_fdivW ha hb) (op2_ok fdiv2)
  case Mod => exact PE.imp (pe_op op_mod ha hb) (op2_ok mod2)
  case Pow => exact PE.imp (pe_op op_pow ha hb) (op2_ok pow2)
/-- the rule of a comparison -/
theorem cmp_rule (o : XO c T p X) {op : CmpOp} (h : okCmp op = true) : ∃ r, OpR X (compareOp op) r ∧ Op2 p (cmpV op) r := by
  have hK := o.K
  have hu := o.hu
  have hu5 := o.hu5
  cases op <;> first | (cases h; done) | skip
  case Eq =>
    have q := eq2 (p := p)
    rw [hK] at q
    exact ⟨_, op_eq.or (op_eqD hu), q⟩
  case NotEq =>
    have q := ne2 (p := p)
    rw [hK] at q
    exact ⟨_, op_ne.or (op_neD hu), q⟩
  case Lt => exact ⟨_, op_lt.or op_lt_str, lt2⟩
  case LtE => exact ⟨_, op_le.or op_le_str, le2⟩
  case Gt => exact ⟨_, op_gt.or op_gt_str, gt2⟩
  case GtE => exact ⟨_, op_ge.or op_ge_str, ge2⟩
  case In => exact ⟨_, op_inU p hK hu5, in2⟩
  case NotIn => exact ⟨_, op_ninU p hK hu5, nin2⟩
theorem s_cmp (o : XO c T p X) {op : CmpOp} (h : okCmp op = true) (hy : noSet y = true) (ha : PE X x (tSE p ma)) (hb : PE X y (tSE p mb)) : PE X (.Compare x [op] [y] pos) (tSE p (op2 (cmpV op) ma mb)) := by
  obtain ⟨r, h1, h2⟩ := cmp_rule o h
  exact PE.imp (pe_cmpR h1 ha hb (no_marks hy)) (op2_ok h2)
theorem s_idx (o : XO c T p X) (hy : noSlice y = true) (ha : PE X x (tSE p ma)) (hb : PE X y (tSE p mb)) : PE X (.Subscript x y pos) (tSE p (op2 (fun a b => (idxD a b).map .sh) ma mb)) := by
  have hK := o.K
  have hu : X.A.units + 1 < cLine := by have := o.hu; omega
  refine ⟨fun pins s σ H Q I h => ?_⟩
  rcases op2_or isDic σ H Q h with h | h
  · have q := idx2 (p := p)
    rw [hK] at q
    exact (pe_ix (pos := pos) (ix_list.or (ix_tup.or ix_str)) ha hb (sub_plain hy)).run pins s σ H Q I (op2_ok q σ H Q h)
  · exact (pe_dget (pos := pos) hu ha hb (sub_plain hy)).run pins s σ H Q I (op2_ok (r := rDG) didx2 σ H Q h)
theorem s_rev (o : XO c T p X) {k : Nat} {p1 p2 p3 : Pos} (ha : PE X x (tSE p ma)) : PE X (.Subscript x (.Slice none none (some (.UnaryOp .USub (.Constant (.int 1) k p1) p2)) p3) pos) (tSE p (op1 revD ma)) := by
  have hK := o.K
  refine ⟨fun pins s σ H Q I h => ?_⟩
  rcases op1_or isStr σ H Q h with h | h
  · have q := revL1 (p := p)
    rw [hK] at q
    exact (pe_revL ha).run pins s σ H Q I (op1_ok q σ H Q h)
  · exact (pe_revS ha).run pins s σ H Q I (op1_ok revS1 σ H Q h)
theorem s_neg (ha : PE X x (tSE p ma)) : PE X (.UnaryOp .USub x pos) (tSE p (op1 negD ma)) := PE.imp (pe_un un_neg ha) (op1_ok neg1)
/-- values that stand -/
theorem s_var (o : XO c T p X) {i : Nat} {n : Str} (h1 : c.N[i]? = some n) (h2 : visB c n = true) (h3 : nameOk n = true) : PE X (.Name n pos) (tSE p (evE T (.var i))) := by
  obtain ⟨n1, n2, _⟩ := name_ok h3
  refine PE.imp (pe_var (i := i) (by rw [o.N]; exact h1) (by rw [o.sc]; exact vis_of h2) n1 n2) fun σ H Q ⟨F, env, R, h⟩ => ?_
  have sl := R.sl i
  simp only [evE] at h
  cases q : env[i]? with
  | none => rw [q] at h; exact h.elim
  | some s =>
    rw [q] at h
    have z := R.sl i s q
    cases s with
    | no => exact h.elim
    | sh d =>
      obtain ⟨v, e1, e2⟩ := z
      exact ⟨v, e1, h v H F R (Ext.refl _) e2⟩
    | ow d =>
      obtain ⟨a, ho, e1, _⟩ := z
      exact ⟨_, e1, h _ H F R (Ext.refl _) e1⟩
    | io d =>
      obtain ⟨a, ho, e1, _⟩ := z
      exact ⟨_, e1, h _ H F R (Ext.refl _) e1⟩
theorem s_con {d : D} {k : Const} {j : Nat} (h : ckCon d k = true) : PE X (.Constant k j pos) (tSE p (evE T (.con d))) := by
  have fin : ∀ {v : V}, (∀ F : Hp, Rep p.K F v d) → ∀ σ H Q, tSE p (evE T (.con d)) σ H Q → tC v σ H Q := fun {v} r σ H Q ⟨F, env, R, q⟩ => q v H F R (Ext.refl _) (r F)
  cases d <;> cases k <;> first | (cases h; done) | skip
  case non.none => exact PE.imp pe_non (fin fun F => by simp only [Rep])
  case bl.bool a b =>
    simp only [ckCon, beq_iff_eq] at h; subst h
    exact PE.imp pe_bl (fin fun F => by simp only [Rep])
  case int.int a b =>
    simp only [ckCon, beq_iff_eq] at h; subst h
    exact PE.imp pe_int (fin fun F => by simp only [Rep])
  case str.str a b =>
    simp only [ckCon, Bool.and_eq_true, beq_iff_eq, decide_eq_true_eq] at h
    obtain ⟨rfl, hl⟩ := h
    exact PE.imp pe_str (fin fun F => by simp only [Rep]; exact ⟨trivial, hl⟩)
theorem s_glo (o : XO c T p X) {s : String} {d : D} (h1 : gloB c (so s) = true) (h2 : nameOk (so s) = true) (h3 : (c.cs.any fun q => q.1 == s && beqD q.2 d) = true) : PE X (.Name (so s) pos) (tSE p (evE T (.glo s d))) := by
  obtain ⟨k, _, g⟩ := o.g
  obtain ⟨q, hq, e⟩ := List.any_eq_true.mp h3
  rw [Bool.and_eq_true, beq_iff_eq] at e
  obtain ⟨e1, e2⟩ := e
  have e2 := beqD_eq e2
  obtain ⟨u, v, g1, g2, g3⟩ := g.glo s d (by rw [← e1, ← e2]; exact hq)
  exact PE.imp (pe_glob (o.gl h1) g1 g2 (name_ok h2).1) fun σ H Q ⟨F, env, R, z⟩ => z v H F R (Ext.refl _) (by
    show Rep p.K F v d
    rw [o.K]
    exact g3.mono fun a o e => by cases e)
theorem s_isn {n : Bool} {op : CmpOp} {j : Nat} {p2 : Pos} {a : Ex} (h : op = (if n then CmpOp.IsNot else CmpOp.Is)) (ha : PE X x (tSE p (evE T a))) : PE X (.Compare x [op] [.Constant .none j p2] pos) (tSE p (evE T (.isn a n))) := by
  have key : ∀ (f : Bool → Bool), (∀ b, f b = if n then !b else b) → ∀ σ H Q, tSE p (evE T (.isn a n)) σ H Q → tSE p (evE T a) σ H fun v H1 => Q (.bl (f (decide (v = .non)))) H1 := by
    intro f hf σ H Q ⟨F, env, R, h⟩
    simp only [evE] at h
    refine ⟨F, env, R, (GP.bind h).imp fun v H1 ⟨w, F1, e1, R1, E1, V1, h1⟩ => ?_⟩
    cases c1 : cont w e1 with
    | none => rw [c1] at h1; exact h1.elim
    | some d =>
      rw [c1] at h1
      have rd := cont_rd R1 V1 c1
      by_cases hd : d = .non
      · subst hd
        simp only at h1
        rw [rd.non, decide_eq_true rfl, hf]
        have h2 : Q (.bl (!n)) H1 := h1 _ H1 F1 R1 E1 (by show Rep p.K F1 _ _; simp only [Rep])
        cases n <;> exact h2
      · have hne : v ≠ .non := by
          intro z
          subst z
          rcases rd with rd | ⟨a, ho, z, _⟩
          · cases d <;> simp [Rep] at rd hd
          · cases z
        rw [decide_eq_false hne, hf]
        have h2 : Q (.bl n) H1 := by
          cases d <;> first | exact absurd rfl hd | exact h1 _ H1 F1 R1 E1 (by show Rep p.K F1 _ _; simp only [Rep])
        cases n <;> exact h2
  cases n with
  | true => subst h; exact PE.imp (pe_cmp (pc_notN ha)) (key (!·) fun _ => rfl)
  | false => subst h; exact PE.imp (pe_cmp (pc_isN ha)) (key id fun _ => rfl)
/-- truth of what is in hand -/
theorem tru_v {S0 S : Stt} {v : V} {w : Vl} {b : Bool} (R : ER p.K p.ios S) (V1 : VR p.K S0 S v w) (h : truV w S.env = some b) : TruV p.K v S.H b := by
  unfold truV at h
  rw [Option.bind_eq_some_iff] at h
  obtain ⟨d, h1, h2⟩ := h
  exact tru_rd R (cont_rd R V1 h1) h2
theorem s_not (o : XO c T p X) {a : Ex} (ha : PE X x (tSE p (evE T a))) : PE X (.UnaryOp .Not x pos) (tSE p (evE T (.not a))) := by
  refine PE.imp (pe_notT ha) fun σ H Q ⟨F, env, R, h⟩ => ?_
  simp only [evE] at h
  refine ⟨F, env, R, (GP.bind h).imp fun v H1 ⟨w, F1, e1, R1, E1, V1, h1⟩ => ?_⟩
  cases c1 : truV w e1 with
  | none => rw [c1] at h1; exact h1.elim
  | some b =>
    rw [c1] at h1
    exact ⟨b, o.K ▸ tru_v R1 V1 c1, h1 _ H1 F1 R1 E1 (by show Rep p.K F1 _ _; simp only [Rep])⟩
theorem s_and (o : XO c T p X) {a b : Ex} {r : List Expr} (ha : PE X x (tSE p (evE T a))) (hb : PE X (.BoolOp .And (y :: r) pos) (tSE p (evE T b))) : PE X (.BoolOp .And (x :: y :: r) pos) (tSE p (evE T (.and a b))) := by
  refine PE.imp (pe_andT ha hb) fun σ H Q ⟨F, env, R, h⟩ => ?_
  simp only [evE] at h
  refine ⟨F, env, R, (GP.bind h).imp fun v H1 ⟨w, F1, e1, R1, E1, V1, h1⟩ => ?_⟩
  cases c1 : truV w e1 with
  | none => rw [c1] at h1; exact h1.elim
  | some k =>
    rw [c1] at h1
    refine ⟨k, o.K ▸ tru_v R1 V1 c1, ?_⟩
    cases k with
    | true => exact ⟨F1, e1, R1, h1.step E1 rfl fun _ _ _ q => q.back E1⟩
    | false => exact h1 _ H1 F1 R1 E1 V1
theorem s_or (o : XO c T p X) {a b : Ex} {r : List Expr} (ha : PE X x (tSE p (evE T a))) (hb : PE X (.BoolOp .Or (y :: r) pos) (tSE p (evE T b))) : PE X (.BoolOp .Or (x :: y :: r) pos) (tSE p (evE T (.or a b))) := by
  refine PE.imp (pe_orT ha hb) fun σ H Q ⟨F, env, R, h⟩ => ?_
  simp only [evE] at h
  refine ⟨F, env, R, (GP.bind h).imp fun v H1 ⟨w, F1, e1, R1, E1, V1, h1⟩ => ?_⟩
  cases c1 : truV w e1 with
  | none => rw [c1] at h1; exact h1.elim
  | some k =>
    rw [c1] at h1
    refine ⟨k, o.K ▸ tru_v R1 V1 c1, ?_⟩
    cases k with
    | true => exact h1 _ H1 F1 R1 E1 V1
    | false => exact ⟨F1, e1, R1, h1.step E1 rfl fun _ _ _ q => q.back E1⟩

/-! ### tests -/
/-- the reading of a test -/
def tru1 (T : String → Fn) (a : Ex) : En → Rs Bool := fun env => (evE T a env).bind fun v e1 => match truV v e1 with
  | some b => .ok b e1
  | none => .stuck
theorem t_val (o : XO c T p X) {a : Ex} (h : plainT x = true) (ha : PE X x (tSE p (evE T a))) : PT X x (tST p (tru1 T a)) := by
  refine PT.imp (pt_truth ha (fun w => isT_plain h w)) fun σ H Q ⟨F, env, R, h⟩ => ?_
  simp only [tru1] at h
  refine ⟨F, env, R, (GP.bind h).imp fun v H1 ⟨w, F1, e1, R1, E1, V1, h1⟩ => ?_⟩
  cases c1 : truV w e1 with
  | none => rw [c1] at h1; exact h1.elim
  | some b =>
    rw [c1] at h1
    exact ⟨b, o.K ▸ tru_v R1 V1 c1, h1 b H1 F1 R1 E1 rfl⟩
theorem GP.bindE {α β γ δ : Type} {R : Stt → Stt → β → α → Prop} {R' : Stt → Stt → δ → γ → Prop} {S : Stt} {r : Rs α} {f : α → En → Rs γ} {Q : δ → Hp → Prop} (h : GP p R' S (r.bind f) Q) :
    GP p R S r fun x H => ∃ v F e, r = .ok v e ∧ ER p.K p.ios ⟨F, e, S.σ, H⟩ ∧ Ext S ⟨F, e, S.σ, H⟩ ∧ R S ⟨F, e, S.σ, H⟩ x v ∧ GP p R' S (f v e) Q := by
  cases r with
  | ok v e => exact fun x H F a b c => ⟨v, F, e, rfl, a, b, c, h⟩
  | ex c d e => exact h
  | stuck => exact h
/-- a comparison gives a truth value -/
theorem op2_bl {op : CmpOp} {env e : En} {w : Vl} (h : op2 (cmpV op) ma mb env = .ok w e) : ∃ b, w = .sh (.bl b) := by
  unfold op2 at h
  cases c1 : ma env with
  | stuck => rw [c1] at h; cases h
  | ex _ _ _ => rw [c1] at h; cases h
  | ok x e1 =>
    rw [c1] at h
    simp only [Rs.bind_ok] at h
    cases c2 : mb e1 with
    | stuck => rw [c2] at h; cases h
    | ex _ _ _ => rw [c2] at h; cases h
    | ok y e2 =>
      rw [c2] at h
      simp only [Rs.bind_ok] at h
      cases c3 : cont x e2 with
      | none => rw [c3] at h; cases h
      | some dx =>
        cases c4 : cont y e2 with
        | none => rw [c3, c4] at h; cases h
        | some dy =>
          rw [c3, c4] at h
          simp only [cmpV] at h
          cases c5 : cmpD op dx dy with
          | none => rw [c5] at h; cases h
          | some b => rw [c5] at h; cases h; exact ⟨b, rfl⟩
theorem truV_bl {b k : Bool} {e : En} (h : truV (.sh (.bl b)) e = some k) : k = b := by
  have h : some b = some k := h
  exact (Option.some.inj h).symm
/-- a test whose value is always a truth value -/
theorem t_bl {a : Ex} {t : TE} (hp : PT X x (tTest t)) (hb : ∀ env w e, evE T a env = .ok w e → ∃ b, w = .sh (.bl b)) (hr : ∀ σ H Q, tSE p (evE T a) σ H Q → t σ H Q) : PT X x (tST p (tru1 T a)) := by
  refine PT.imp hp fun σ H Q ⟨F, env, R, h⟩ => ?_
  refine hr σ H (fun v H' => ∃ k, v = .bl k ∧ Q k H') ⟨F, env, R, ?_⟩
  simp only [tru1] at h
  refine (GP.bindE h).imp fun v H1 ⟨w, F1, e1, ew, R1, E1, V1, h1⟩ => ?_
  obtain ⟨b, rfl⟩ := hb env w e1 ew
  have rv : v = .bl b := by
    have V1 : Rep p.K F1 v (.bl b) := V1
    simpa only [Rep] using V1
  cases c1 : truV (.sh (.bl b)) e1 with
  | none => rw [c1] at h1; exact h1.elim
  | some k =>
    rw [c1] at h1
    have := truV_bl c1
    subst this
    exact ⟨k, rv, h1 k H1 F1 R1 E1 rfl⟩
theorem t_cmp (o : XO c T p X) {a b : Ex} {op : CmpOp} (h : okCmp op = true) (hy : noSet y = true) (ha : PE X x (tSE p (evE T a))) (hb : PE X y (tSE p (evE T b))) : PT X (.Compare x [op] [y] pos) (tST p (tru1 T (.cmp op a b))) := by
  obtain ⟨r, h1, h2⟩ := cmp_rule o h
  exact t_bl (pt_cmpR h1 ha hb (no_marks hy)) (fun env w e he => op2_bl he) (op2_ok h2)
/-- a < b < c -/
theorem chn_ok {r r' : R2} {o1 o2 : CmpOp} {a b d : Ex} (h1 : Op2 p (cmpV o1) r) (h2 : Op2 p (cmpV o2) r') (σ : L2.St) (H : Hp) (Q : VK) (h : tSE p (evE T (.chn o1 o2 a b d)) σ H Q) : tChain r r' (tSE p (evE T a)) (tSE p (evE T b)) (tSE p (evE T d)) σ H Q := by
  obtain ⟨F, env, R, h⟩ := h
  simp only [evE] at h
  refine ⟨F, env, R, (GP.bind h).imp fun u H1 ⟨v, F1, e1, R1, E1, V1, h1'⟩ => ?_⟩
  refine ⟨F1, e1, R1, (GP.bindS h1' E1 rfl).imp fun w H2 ⟨v2, F2, e2, R2, E2, V2, h2'⟩ => ?_⟩
  have V1' := V1.step (ios := p.ios) E2 rfl
  cases c1 : cont v e2 with
  | none => rw [c1] at h2'; exact h2'.elim
  | some dx =>
    cases c2 : cont v2 e2 with
    | none => rw [c1, c2] at h2'; exact h2'.elim
    | some dy =>
      rw [c1, c2] at h2'
      simp only at h2'
      cases c3 : cmpD o1 dx dy with
      | none => rw [c3] at h2'; exact h2'.elim
      | some k =>
        rw [c3] at h2'
        refine h1 ⟨F2, e2, σ, H2⟩ u w dx dy (.sh (.bl k)) _ R2 (cont_rd R2 V1' c1) (cont_rd R2 V2 c2) (by simp only [cmpV, c3, Option.map_some]) fun z H3 F3 R3 E3 V3 => ?_
        have V3 : z = .bl k := by
          have V3 : Rep p.K F3 z (.bl k) := V3
          simpa only [Rep] using V3
        refine ⟨k, V3, ?_⟩
        have E03 := (E1.trans E2).trans E3
        have V2' := V2.step (ios := p.ios) E3 rfl
        cases k with
        | false => exact h2' (.bl false) H3 F3 R3 E03 (by show Rep p.K F3 _ _; simp only [Rep])
        | true =>
          refine ⟨F3, e2, R3, (GP.bindS h2' E03 rfl).imp fun z2 H4 ⟨v4, F4, e4, R4, E4, V4, h4⟩ => ?_⟩
          have V2'' := V2'.step (ios := p.ios) E4 rfl
          cases c4 : cont v2 e4 with
          | none => rw [c4] at h4; exact h4.elim
          | some dy2 =>
            cases c5 : cont v4 e4 with
            | none => rw [c4, c5] at h4; exact h4.elim
            | some dz =>
              rw [c4, c5] at h4
              simp only at h4
              cases c6 : cmpD o2 dy2 dz with
              | none => rw [c6] at h4; exact h4.elim
              | some k2 =>
                rw [c6] at h4
                exact h2 ⟨F4, e4, σ, H4⟩ w z2 dy2 dz (.sh (.bl k2)) Q R4 (cont_rd R4 V2'' c4) (cont_rd R4 V4 c5) (by simp only [cmpV, c6, Option.map_some]) (GP.step (S := ⟨F, env, σ, H⟩) (S1 := ⟨F4, e4, σ, H4⟩) h4 (E03.trans E4) rfl fun _ _ _ q => q.back (E03.trans E4))
theorem chn_bl {o1 o2 : CmpOp} {a b d : Ex} {env e : En} {w : Vl} (h : evE T (.chn o1 o2 a b d) env = .ok w e) : ∃ b, w = .sh (.bl b) := by
  simp only [evE] at h
  cases c1 : evE T a env with
  | stuck => rw [c1] at h; cases h
  | ex _ _ _ => rw [c1] at h; cases h
  | ok x e1 =>
    rw [c1] at h
    simp only [Rs.bind_ok] at h
    cases c2 : evE T b e1 with
    | stuck => rw [c2] at h; cases h
    | ex _ _ _ => rw [c2] at h; cases h
    | ok y e2 =>
      rw [c2] at h
      simp only [Rs.bind_ok] at h
      cases c3 : cont x e2 with
      | none => rw [c3] at h; cases h
      | some dx =>
        cases c4 : cont y e2 with
        | none => rw [c3, c4] at h; cases h
        | some dy =>
          rw [c3, c4] at h
          simp only at h
          cases c5 : cmpD o1 dx dy with
          | none => rw [c5] at h; cases h
          | some k =>
            rw [c5] at h
            cases k with
            | false => cases h; exact ⟨_, rfl⟩
            | true =>
              simp only at h
              cases c6 : evE T d e2 with
              | stuck => rw [c6] at h; cases h
              | ex _ _ _ => rw [c6] at h; cases h
              | ok z e3 =>
                rw [c6] at h
                simp only [Rs.bind_ok] at h
                cases c7 : cont y e3 with
                | none => rw [c7] at h; cases h
                | some dy2 =>
                  cases c8 : cont z e3 with
                  | none => rw [c7, c8] at h; cases h
                  | some dz =>
                    rw [c7, c8] at h
                    simp only at h
                    cases c9 : cmpD o2 dy2 dz with
                    | none => rw [c9] at h; cases h
                    | some k => rw [c9] at h; cases h; exact ⟨_, rfl⟩
theorem s_chn (o : XO c T p X) {a b d : Ex} {o1 o2 : CmpOp} (h1 : okCmp o1 = true) (h2 : okCmp o2 = true) (hy : noSet y = true) (hz : noSet z = true) (ha : PE X x (tSE p (evE T a))) (hb : PE X y (tSE p (evE T b))) (hd : PE X z (tSE p (evE T d))) :
    PE X (.Compare x [o1, o2] [y, z] pos) (tSE p (evE T (.chn o1 o2 a b d))) := by
  obtain ⟨r, r1, r2⟩ := cmp_rule o h1
  obtain ⟨s, s1, s2⟩ := cmp_rule o h2
  exact PE.imp (pe_chain r1 s1 ha hb hd (no_marks hz)) (chn_ok r2 s2)
theorem t_chn (o : XO c T p X) {a b d : Ex} {o1 o2 : CmpOp} (h1 : okCmp o1 = true) (h2 : okCmp o2 = true) (hy : noSet y = true) (hz : noSet z = true) (ha : PE X x (tSE p (evE T a))) (hb : PE X y (tSE p (evE T b))) (hd : PE X z (tSE p (evE T d))) :
    PT X (.Compare x [o1, o2] [y, z] pos) (tST p (tru1 T (.chn o1 o2 a b d))) := by
  obtain ⟨r, r1, r2⟩ := cmp_rule o h1
  obtain ⟨s, s1, s2⟩ := cmp_rule o h2
  exact t_bl (pt_chain r1 s1 ha hb hd (no_marks hz)) (fun env w e he => chn_bl he) (chn_ok r2 s2)
end
end Pv

/-! PvS8: what is walked; targets; comprehensions. -/
namespace Pv
open PySem PySem.Spec PyProof.Rows L2
variable [Tb]
/-- an iterator that yields just these -/
structure ItS (K : PySem.W.Frag) (J : It) (ds : List D) (F0 : Hp) : Prop where
  stop : ∀ F H, Same F0 F → Same F H → ∀ i, ds.length ≤ i → J.stop i H
  go : ∀ F H, Same F0 F → Same F H → ∀ i d, ds[i]? = some d → J.go i H ∧ ∀ x H1, J.yld i H x H1 → ∃ F1, FExt F H (fun _ => False) F1 H1 ∧ Rep K F1 x d
def IR (K : PySem.W.Frag) : Stt → Stt → It → List D → Prop := fun _ S' J ds => ItS K J ds S'.F
def tSI (p : Pm) (m : En → Rs (List D)) : TI := fun σ H R => ∃ F env, ER p.K p.ios ⟨F, env, σ, H⟩ ∧ GP p (IR p.K) ⟨F, env, σ, H⟩ (m env) R
theorem FExt.refl {F H : Hp} (s : Same F H) : FExt F H (fun _ => False) F H := ⟨Same.refl _, s, fun h _ _ => h, fun _ _ h => .inl h, fun t => t⟩
theorem ItS.list {K : PySem.W.Frag} {F0 : Hp} {a : Addr} {vs : List V} {ds : List D} (h : SqL K F0 a vs) (r : RepL K F0 vs ds) : ItS K (Itl K a) ds F0 where
  stop := fun F H s1 s2 i hi => ⟨vs, SqL.sub s2 (SqL.sub s1 h), by rw [r.length]; exact hi⟩
  go := fun F H s1 s2 i d e => by
    obtain ⟨v, h1, h2⟩ := r.get e
    have q := SqL.sub s2 (SqL.sub s1 h)
    refine ⟨⟨vs, v, q, h1⟩, fun x H1 ⟨e1, e2⟩ => ?_⟩
    subst e1
    have := e2 vs q
    rw [h1] at this; cases this
    exact ⟨F, FExt.refl s2, h2.mono s1⟩
theorem ItS.tup {K : PySem.W.Frag} {F0 : Hp} {a : Addr} {vs : List V} {ds : List D} (h : SqT K F0 a vs) (r : RepL K F0 vs ds) : ItS K (Itt K a) ds F0 where
  stop := fun F H s1 s2 i hi => ⟨vs, SqT.sub s2 (SqT.sub s1 h), by rw [r.length]; exact hi⟩
  go := fun F H s1 s2 i d e => by
    obtain ⟨v, h1, h2⟩ := r.get e
    have q := SqT.sub s2 (SqT.sub s1 h)
    refine ⟨⟨vs, v, q, h1⟩, fun x H1 ⟨e1, e2⟩ => ?_⟩
    subst e1
    have := e2 vs q
    rw [h1] at this; cases this
    exact ⟨F, FExt.refl s2, h2.mono s1⟩
theorem ItS.str {K : PySem.W.Frag} {F0 : Hp} (l : List Nat) : ItS K (Its (mkS l)) (l.map fun c => .str [c]) F0 where
  stop := fun F H s1 s2 i hi => by
    rw [List.length_map] at hi
    show l.toArray.size ≤ i
    simpa using hi
  go := fun F H s1 s2 i d e => by
    rw [List.getElem?_map, Option.map_eq_some_iff] at e
    obtain ⟨c, hc, rfl⟩ := e
    have hlt : i < l.length := (List.getElem?_eq_some_iff.mp hc).1
    refine ⟨by show i < l.toArray.size; simpa using hlt, fun x H1 ⟨e1, c', h1, h2⟩ => ?_⟩
    subst e1
    have h1 : l.toArray[i]? = some c' := h1
    rw [List.getElem?_toArray, hc] at h1
    cases h1
    refine ⟨F, FExt.refl s2, ?_⟩
    subst h2
    exact (show (V.str (mkS [c]) = V.str (mkS [c]) ∧ [c].length ≤ sizeLine) from ⟨rfl, by rw [sizeLine_eq]; simp⟩)
theorem ItS.rng {K : PySem.W.Frag} {F0 : Hp} (lo : Int) (n : Nat) : ItS K (Itr lo n) ((List.range n).map fun (k : Nat) => .int (lo + k)) F0 where
  stop := fun F H s1 s2 i hi => by
    rw [List.length_map, List.length_range] at hi
    exact hi
  go := fun F H s1 s2 i d e => by
    rw [List.getElem?_map, Option.map_eq_some_iff] at e
    obtain ⟨k, hk, rfl⟩ := e
    obtain ⟨hlt, e⟩ := List.getElem?_eq_some_iff.mp hk
    rw [List.length_range] at hlt
    rw [List.getElem_range] at e
    subst e
    refine ⟨hlt, fun x H1 ⟨e1, e2⟩ => ?_⟩
    subst e1
    exact ⟨F, FExt.refl s2, by rw [e2]; simp only [Rep]⟩
theorem ItS.rngC {K : PySem.W.Frag} {F0 : Hp} (lo c : Int) (n : Nat) : ItS K (Itc lo c n) ((List.range n).map fun (k : Nat) => .int (lo + k * c)) F0 where
  stop := fun F H s1 s2 i hi => by
    rw [List.length_map, List.length_range] at hi
    exact hi
  go := fun F H s1 s2 i d e => by
    rw [List.getElem?_map, Option.map_eq_some_iff] at e
    obtain ⟨k, hk, rfl⟩ := e
    obtain ⟨hlt, e⟩ := List.getElem?_eq_some_iff.mp hk
    rw [List.length_range] at hlt
    rw [List.getElem_range] at e
    subst e
    refine ⟨hlt, fun x H1 ⟨e1, e2⟩ => ?_⟩
    subst e1
    exact ⟨F, FExt.refl s2, by rw [e2]; simp only [Rep]⟩
theorem numD_get : ∀ (l : List D) (n i : Nat), (numD n l)[i]? = (l[i]?).map fun d => .tup [.int ((n + i : Nat) : Int), d]
  | [], n, i => by simp [numD]
  | d :: l, n, 0 => by simp [numD]
  | d :: l, n, i + 1 => by
    simp only [numD, List.getElem?_cons_succ]
    rw [numD_get l (n + 1) i]
    rw [show n + 1 + i = n + (i + 1) by omega]
theorem numD_len : ∀ (l : List D) (n : Nat), (numD n l).length = l.length
  | [], _ => rfl
  | _ :: l, n => by simp [numD, numD_len l]
theorem fext_tup {K : PySem.W.Frag} {F H : Hp} {T : Addr} {vs : List V} {ds : List D} (s : Same F H) (n : H T = none) (r : RepL K F vs ds) : FExt F H (fun _ => False) (upd F T (.tup vs)) (upd H T (.tup vs)) ∧ Rep K (upd F T (.tup vs)) (.ref T) (.tup ds) := by
  have nF : F T = none := by
    cases q : F T with
    | none => rfl
    | some u => rw [s _ _ q] at n; cases n
  refine ⟨⟨same_updF nF, fun b o e => ?_, fun {b o} e _ _ => by rw [upd_ne (ne_of_none e n)]; exact e, fun b o e => ?_, fun t => ⟨t.t.ext fun b o e => by rw [upd_ne (ne_of_none e n)]; exact e, fun b o e => by
    by_cases hb : b = T
    · subst hb; rw [upd_same] at e; cases e; exact fun _ z => by cases z
    · rw [upd_ne hb] at e; exact t.f b o e⟩⟩, ?_⟩
  · by_cases hb : b = T
    · subst hb; rw [upd_same] at e ⊢; exact e
    · rw [upd_ne hb] at e ⊢; exact s _ _ e
  · by_cases hb : b = T
    · subst hb; exact .inr (fr0_none n)
    · rw [upd_ne hb] at e; exact .inl e
  · simp only [Rep]
    exact ⟨T, vs, rfl, upd_same, r.mono (same_updF nF)⟩
theorem ItS.enum {K : PySem.W.Frag} {F0 : Hp} {a : Addr} {vs : List V} {ds : List D} (h : SqL K F0 a vs) (r : RepL K F0 vs ds) : ItS K (Ite K a) (numD 0 ds) F0 where
  stop := fun F H s1 s2 i hi => ⟨vs, SqL.sub s2 (SqL.sub s1 h), by rw [numD_len] at hi; rw [r.length]; exact hi⟩
  go := fun F H s1 s2 i d e => by
    rw [numD_get, Option.map_eq_some_iff] at e
    obtain ⟨d', e, rfl⟩ := e
    obtain ⟨v, h1, h2⟩ := r.get e
    have q := SqL.sub s2 (SqL.sub s1 h)
    refine ⟨⟨vs, v, q, h1⟩, fun x H1 ⟨T, y, ex, nT, eH, f⟩ => ?_⟩
    subst ex eH
    have := f vs q
    rw [h1] at this; cases this
    exact ⟨_, fext_tup s2 nT ⟨by simp only [Rep, Nat.zero_add], h2.mono s1, trivial⟩⟩
theorem PI.imp {X : Cx} {tg e : Expr} {w w' : TI} (h : PI X tg e w) (i : ∀ σ H R, w' σ H R → w σ H R) : PI X tg e w' := ⟨fun pins s σ H R I q => h.run pins s σ H R I (i _ _ _ q)⟩
section
variable {c : Cn} {T : String → Fn} {p : Pm} {X : Cx} {x y z tg : Expr} {pos : Pos}
/-- over a list, a tuple, a text -/
theorem i_sq (o : XO c T p X) {a : Ex} (ha : PE X x (tSE p (evE T a))) : PI X tg x (tSI p (evI T (.sq a))) := by
  have hK := o.K
  refine ⟨fun pins s σ H R I h => ?_⟩
  obtain ⟨F, env, Rr, h⟩ := h
  simp only [evI] at h
  -- what it is
  have kind : (iList X.K (tSE p (evE T a)) σ H R) ∨ (iTup X.K (tSE p (evE T a)) σ H R) ∨ (iStr (tSE p (evE T a)) σ H R) := by
    cases c0 : evE T a env with
    | stuck => rw [c0] at h; exact h.elim
    | ex cc d e =>
      rw [c0] at h
      exact .inl ⟨F, env, Rr, by rw [c0]; exact h⟩
    | ok v e1 =>
      rw [c0] at h
      simp only [Rs.bind_ok] at h
      cases c1 : fz v e1 with
      | none => rw [c1] at h; exact h.elim
      | some de =>
        obtain ⟨d, e2⟩ := de
        rw [c1] at h
        simp only at h
        cases c2 : itemsD d with
        | none => rw [c2] at h; exact h.elim
        | some r =>
          rw [c2] at h
          have next : ∀ {Q : VK}, (∀ w H1 F2, ER p.K p.ios ⟨F2, e2, σ, H1⟩ → Ext ⟨F, env, σ, H⟩ ⟨F2, e2, σ, H1⟩ → Rep p.K F2 w d → Q w H1) → tSE p (evE T a) σ H Q := by
            intro Q hq
            refine ⟨F, env, Rr, ?_⟩
            rw [c0]
            intro w H1 F1 R1 E1 V1
            obtain ⟨F2, R2, E2, rep, _, _⟩ := fz_ok (S := ⟨F1, e1, σ, H1⟩) R1 E1 V1 c1
            exact hq w H1 F2 R2 E2 rep
          cases d <;> first | exact none_some c2 | skip
          case lst l =>
            cases (show some l = some r from c2)
            refine .inl (next fun w H1 F2 R2 E2 rep => ?_)
            simp only [Rep] at rep
            obtain ⟨aa, vs, rfl, h1, h2⟩ := rep
            refine ⟨aa, rfl, ⟨vs, SqL.of (R2.sub _ _ h1)⟩, ?_⟩
            rw [← hK]
            exact h _ H1 F2 R2 E2 (ItS.list (SqL.of h1) h2)
          case fl l =>
            cases (show some l = some r from c2)
            refine .inl (next fun w H1 F2 R2 E2 rep => ?_)
            simp only [Rep] at rep
            obtain ⟨aa, vs, rfl, h1, h2⟩ := rep
            refine ⟨aa, rfl, ⟨vs, by rw [← hK]; exact SqL.sub R2.sub h1⟩, ?_⟩
            rw [← hK]
            exact h _ H1 F2 R2 E2 (ItS.list h1 h2)
          case tup l =>
            cases (show some l = some r from c2)
            refine .inr (.inl (next fun w H1 F2 R2 E2 rep => ?_))
            simp only [Rep] at rep
            obtain ⟨aa, vs, rfl, h1, h2⟩ := rep
            refine ⟨aa, rfl, ⟨vs, SqT.of (R2.sub _ _ h1)⟩, ?_⟩
            rw [← hK]
            exact h _ H1 F2 R2 E2 (ItS.tup (SqT.of h1) h2)
          case ft l =>
            cases (show some l = some r from c2)
            refine .inr (.inl (next fun w H1 F2 R2 E2 rep => ?_))
            simp only [Rep] at rep
            obtain ⟨aa, vs, rfl, h1, h2⟩ := rep
            refine ⟨aa, rfl, ⟨vs, by rw [← hK]; exact SqT.sub R2.sub h1⟩, ?_⟩
            rw [← hK]
            exact h _ H1 F2 R2 E2 (ItS.tup h1 h2)
          case str l =>
            cases (show some (l.map fun c => D.str [c]) = some r from c2)
            refine .inr (.inr (next fun w H1 F2 R2 E2 rep => ?_))
            exact ⟨mkS l, rep.strE.1, h _ H1 F2 R2 E2 (ItS.str l)⟩
  rcases kind with k | k | k
  · exact (pi_list ha).run pins s σ H R I k
  · exact (pi_tup ha).run pins s σ H R I k
  · exact (pi_str ha).run pins s σ H R I k
theorem evL_len : ∀ {es : List Ex} {env e : En} {vs : List Vl}, evL T es env = .ok vs e → vs.length = es.length
  | [], env, e, vs, h => by
    simp only [evL] at h; cases h; rfl
  | a :: es, env, e, vs, h => by
    simp only [evL] at h
    cases c1 : evE T a env with
    | stuck => rw [c1] at h; cases h
    | ex _ _ _ => rw [c1] at h; cases h
    | ok v e1 =>
      rw [c1] at h
      simp only [Rs.bind_ok] at h
      cases c2 : evL T es e1 with
      | stuck => rw [c2] at h; cases h
      | ex _ _ _ => rw [c2] at h; cases h
      | ok ws e2 => rw [c2] at h; cases h; simp [evL_len c2]
theorem contL_len : ∀ {vs : List Vl} {env : En} {ds : List D}, contL vs env = some ds → ds.length = vs.length
  | [], env, ds, h => by simp only [contL] at h; cases h; rfl
  | v :: vs, env, ds, h => by
    cases c : cont v env with
    | none => simp only [contL, c] at h; cases h
    | some d =>
      cases c2 : contL vs env with
      | none => simp only [contL, c, c2] at h; cases h
      | some ds' =>
        simp only [contL, c, c2, Option.some.injEq] at h; subst h
        simp [contL_len c2]
/-- the values of the arguments -/
theorem rng_key {es : List Ex} (σ : L2.St) (H : Hp) (R : It → Hp → Prop) (h : tSI p (evI T (.rng es)) σ H R) :
    tSA p (evL T es) σ H fun vs H1 => ∃ ds r, ds.length = es.length ∧ rngD ds = some r ∧ (∃ S, RdL p.K S vs ds) ∧ ∀ J, (∀ F0, ItS p.K J r F0) → R J H1 := by
  obtain ⟨F, env, Rr, h⟩ := h
  simp only [evI] at h
  refine ⟨F, env, Rr, (GP.bindE h).imp fun vs H1 ⟨ws, F1, e1, ew, R1, E1, V1, h1⟩ => ?_⟩
  cases c1 : contL ws e1 with
  | none => rw [c1] at h1; exact h1.elim
  | some ds =>
    rw [c1] at h1
    simp only at h1
    cases c2 : rngD ds with
    | none => rw [c2] at h1; exact h1.elim
    | some r =>
      rw [c2] at h1
      exact ⟨ds, r, (contL_len c1).trans (evL_len ew), c2, ⟨_, contL_rd R1 V1 c1⟩, fun J hJ => h1 J H1 F1 R1 E1 (hJ F1)⟩
variable {a b d : Expr}
theorem inB_62 {i : Int} (h : inB (2 ^ 62) i = true) : -(2 ^ 62) ≤ i ∧ i < 2 ^ 62 := by
  have := inB_iff.mp h
  omega
theorem in2_62 {i j : Int} (h : inB (2 ^ 62) i = true ∧ inB (2 ^ 62) j = true) : -(2 ^ 62) ≤ i ∧ i < 2 ^ 62 ∧ -(2 ^ 62) ≤ j ∧ j < 2 ^ 62 := by
  have h1 := inB_iff.mp h.1
  have h2 := inB_iff.mp h.2
  omega
theorem i_rng1 (o : XO c T p X) {e1 : Ex} {p1 : Pos} (hg : gloB c (so "range") = true) (hb : c.bs.contains "range" = true) (hst : noStar a = true) (ha : PA X [a] (tSA p (evL T [e1]))) :
    PI X tg (.Call (.Name (so "range") p1) [a] [] pos) (tSI p (evI T (.rng [e1]))) := by
  obtain ⟨k, _, g⟩ := o.g
  refine PI.imp (pi_range1 (o.gl hg) (g.bi "range" (by simpa using hb)) ha (star_cons hst)) fun σ H R h => ?_
  obtain ⟨F, env, Rr, h⟩ := rng_key σ H R h
  refine ⟨F, env, Rr, h.imp fun vs H1 ⟨ds, r, hl, hr, ⟨S, rd⟩, q⟩ => ?_⟩
  match ds, hl with
  | [d], hl =>
    clear hl
    cases d <;> first | exact none_some hr | skip
    case int j =>
      simp only [rngD] at hr
      split at hr
      · rename_i hb0
        have hb := inB_62 hb0
        cases hr
        obtain ⟨u, rfl, ru⟩ := rd.one
        refine ⟨j, by rw [ru.int], hb.1, hb.2, q _ fun F0 => ?_⟩
        have z := ItS.rng (K := p.K) (F0 := F0) 0 j.toNat
        have e : ((List.range j.toNat).map fun (k : Nat) => D.int (0 + k)) = (List.range j.toNat).map fun (k : Nat) => D.int k := by
          apply List.map_congr_left
          intro k _
          rw [Int.zero_add]
        rw [e] at z
        exact z
      · cases hr
theorem i_rng2 (o : XO c T p X) {e1 e2 : Ex} {p1 : Pos} (hg : gloB c (so "range") = true) (hb : c.bs.contains "range" = true) (hst : noStar a = true) (hst2 : noStar b = true) (ha : PA X [a, b] (tSA p (evL T [e1, e2]))) :
    PI X tg (.Call (.Name (so "range") p1) [a, b] [] pos) (tSI p (evI T (.rng [e1, e2]))) := by
  obtain ⟨k, _, g⟩ := o.g
  refine PI.imp (pi_range2 (o.gl hg) (g.bi "range" (by simpa using hb)) ha (by rw [star_cons hst, star_cons hst2] <;> rfl) (star_cons hst2)) fun σ H R h => ?_
  obtain ⟨F, env, Rr, h⟩ := rng_key σ H R h
  refine ⟨F, env, Rr, h.imp fun vs H1 ⟨ds, r, hl, hr, ⟨S, rd⟩, q⟩ => ?_⟩
  match ds, hl with
  | [d, d2], hl =>
    clear hl
    cases d <;> cases d2 <;> first | exact none_some hr | skip
    case int.int i j =>
      simp only [rngD] at hr
      split at hr
      · rename_i hb0
        have hb := in2_62 hb0
        cases hr
        obtain ⟨u, u2, rfl, ru, ru2⟩ := rd.two
        exact ⟨i, j, by rw [ru.int, ru2.int], hb, q _ fun F0 => ItS.rng i (j - i).toNat⟩
      · cases hr
theorem i_rng3 (o : XO c T p X) {e1 e2 e3 : Ex} {p1 : Pos} (hg : gloB c (so "range") = true) (hb : c.bs.contains "range" = true) (hst : noStar a = true) (hst2 : noStar b = true) (hst3 : noStar d = true) (ha : PA X [a, b, d] (tSA p (evL T [e1, e2, e3]))) :
    PI X tg (.Call (.Name (so "range") p1) [a, b, d] [] pos) (tSI p (evI T (.rng [e1, e2, e3]))) := by
  obtain ⟨k, _, g⟩ := o.g
  refine PI.imp (pi_range3 (o.gl hg) (g.bi "range" (by simpa using hb)) ha (star_cons hst) (star_plain (by simp [hst2, hst3]))) fun σ H R h => ?_
  obtain ⟨F, env, Rr, h⟩ := rng_key σ H R h
  refine ⟨F, env, Rr, h.imp fun vs H1 ⟨ds, r, hl, hr, ⟨S, rd⟩, q⟩ => ?_⟩
  match ds, hl with
  | [d, d2, d3], hl =>
    clear hl
    cases d <;> cases d2 <;> cases d3 <;> first | exact none_some hr | skip
    case int.int.int i j st =>
      by_cases hs : st = -1
      · subst hs
        simp only [rngD] at hr
        split at hr
        · rename_i hb0
          have hb := in2_62 hb0
          cases hr
          cases vs with
          | nil => exact rd.elim
          | cons u us =>
            obtain ⟨u2, u3, rfl, ru2, ru3⟩ := RdL.two rd.2
            refine ⟨i, j, -1, (i - j).toNat, by rw [rd.1.int, ru2.int, ru3.int], RgC.neg hb.1 hb.2.1 hb.2.2.1 hb.2.2.2, q _ fun F0 => ?_⟩
            have z := ItS.rngC (K := p.K) (F0 := F0) i (-1) (i - j).toNat
            have e : ((List.range (i - j).toNat).map fun (k : Nat) => D.int (i + k * (-1))) = (List.range (i - j).toNat).map fun (k : Nat) => D.int (i - k) := by
              apply List.map_congr_left
              intro k _
              congr 1
              omega
            rw [e] at z
            exact z
        · cases hr
      · exfalso
        unfold rngD at hr
        split at hr <;> simp_all
theorem i_enm (o : XO c T p X) {a : Ex} {e1 : Expr} {p1 p2 : Pos} {ts : List Expr} {kk : Nat} (hg : gloB c (so "enumerate") = true) (hb : c.bs.contains "enumerate" = true) (hst : noStar e1 = true) (ha : PE X e1 (tSE p (evE T a))) :
    PI X (.Tuple ts kk p2) (.Call (.Name (so "enumerate") p1) [e1] [] pos) (tSI p (evI T (.enm a))) := by
  obtain ⟨k, _, g⟩ := o.g
  refine PI.imp (pi_enum (o.gl hg) (g.bi "enumerate" (by simpa using hb)) (pa_cons ha pa_nil (star_cons hst)) (star_cons hst)) fun σ H R ⟨F, env, Rr, h⟩ => ?_
  simp only [evI] at h
  refine ⟨F, env, Rr, (GP.bind h).imp fun v H1 ⟨w, F1, e1, R1, E1, V1, h1⟩ => ?_⟩
  cases c1 : fz w e1 with
  | none => rw [c1] at h1; exact h1.elim
  | some de =>
    obtain ⟨d, e2⟩ := de
    rw [c1] at h1
    obtain ⟨F2, R2, E2, rep, _, _⟩ := fz_ok (S := ⟨F1, e1, σ, H1⟩) R1 E1 V1 c1
    cases d <;> first | exact h1.elim | skip
    case lst l =>
      simp only at h1
      simp only [Rep] at rep
      obtain ⟨aa, vs, rfl, q1, q2⟩ := rep
      refine ⟨aa, vs, rfl, SqL.of (R2.sub _ _ q1), ?_⟩
      rw [← o.K]
      exact h1 _ H1 F2 R2 E2 (ItS.enum (SqL.of q1) q2)

/-! ### targets -/
/-- the reading of a target of a loop -/
def tSG (p : Pm) (pt : Pt) : TG := fun v σ H Q => ∃ F env d e1, ER p.K p.ios ⟨F, env, σ, H⟩ ∧ Rep p.K F v d ∧ bindPt pt d env = some e1 ∧
  ∀ σ', σ'.length = σ.length → (∀ j, j ∉ slPt pt → σ'[j]? = σ[j]?) → ER p.K p.ios ⟨F, e1, σ', H⟩ → Ext ⟨F, env, σ, H⟩ ⟨F, e1, σ', H⟩ → Q σ' H
theorem stN_sh {i : Nat} {d : D} {env e1 : En} (h : stN i (.sh d) env = some e1) : e1 = env.set i (.sh d) ∧ i < env.length ∧ ∀ d', env[i]? ≠ some (.io d') := by
  simp only [stN] at h
  cases q : env[i]? with
  | none => rw [q] at h; cases h
  | some s =>
    rw [q] at h
    simp only [Option.map_eq_some_iff] at h
    obtain ⟨s', h1, h2⟩ := h
    have hlt := (List.getElem?_eq_some_iff.mp q).1
    cases s with
    | io d' => simp only [stO] at h1; cases h1
    | _ => simp only [stO, Option.some.injEq] at h1; subst h1; exact ⟨h2.symm, hlt, fun _ z => by cases z⟩
/-- a name is stored: shared, or owned now -/
theorem er_store {S : Stt} {i : Nat} {v : V} {s' : Sl} (R : ER p.K p.ios S) (hi : i < S.env.length) (hio : ∀ d', S.env[i]? ≠ some (.io d'))
    (hs : (s' = .no) ∨ (∃ d, s' = .sh d ∧ Rep p.K S.F v d) ∨ ∃ d a ho, s' = .ow d ∧ v = .ref a ∧ S.H a = some ho ∧ Ob p.K S.F ho d ∧ S.F a = none ∧ ¬ Own S a) :
    ER p.K p.ios ⟨S.F, S.env.set i s', S.σ.set i (some v), S.H⟩ := by
  have hi2 : i < S.σ.length := by rw [← R.len]; exact hi
  have old : ∀ {j q}, j ≠ i → OwnAt ⟨S.F, S.env.set i s', S.σ.set i (some v), S.H⟩ j q → OwnAt S j q := fun {j q} hj ⟨⟨d', e⟩, e2⟩ => by
    have e : (S.env.set i s')[j]? = some (.ow d') ∨ (S.env.set i s')[j]? = some (.io d') := e
    have e2 : (S.σ.set i (some v))[j]? = some (some (.ref q)) := e2
    rw [List.getElem?_set_ne (Ne.symm hj)] at e e2
    exact ⟨⟨d', e⟩, e2⟩
  have at_i : ∀ {q}, OwnAt ⟨S.F, S.env.set i s', S.σ.set i (some v), S.H⟩ i q → v = .ref q ∧ ¬ Own S q := fun {q} ⟨⟨d', f0⟩, f2⟩ => by
    have f1 : (S.env.set i s')[i]? = some (.ow d') ∨ (S.env.set i s')[i]? = some (.io d') := f0
    have f3 : (S.σ.set i (some v))[i]? = some (some (.ref q)) := f2
    rw [List.getElem?_set_self hi] at f1
    rw [List.getElem?_set_self hi2] at f3
    have hv : v = .ref q := Option.some.inj (Option.some.inj f3)
    rcases hs with h | ⟨d, h, _⟩ | ⟨d, a, ho, h, hv2, _, _, _, hn⟩
    · rw [h] at f1; rcases f1 with f1 | f1 <;> cases f1
    · rw [h] at f1; rcases f1 with f1 | f1 <;> cases f1
    · rw [hv2] at hv; cases hv; exact ⟨hv2, hn⟩
  refine ⟨R.sub, by simpa using R.len, fun j s e => ?_, fun j k q o1 o2 => ?_, R.tab⟩
  · have e : (S.env.set i s')[j]? = some s := e
    show SlotR p.K p.ios S.F S.H j (S.σ.set i (some v))[j]? s
    by_cases hj : j = i
    · subst hj
      rw [List.getElem?_set_self hi] at e
      rw [List.getElem?_set_self hi2]
      cases e
      rcases hs with rfl | ⟨d, rfl, r⟩ | ⟨d, a, ho, rfl, hv, h1, h2, h3, _⟩
      · trivial
      · exact ⟨v, rfl, r⟩
      · exact ⟨a, ho, by rw [hv], h1, h2, h3⟩
    · rw [List.getElem?_set_ne (Ne.symm hj)] at e ⊢
      exact R.sl j s e
  · by_cases hj : j = i
    · by_cases hk : k = i
      · rw [hj, hk]
      · subst hj
        obtain ⟨_, n⟩ := at_i o1
        exact absurd ⟨k, old hk o2⟩ n
    · by_cases hk : k = i
      · subst hk
        obtain ⟨_, n⟩ := at_i o2
        exact absurd ⟨j, old hj o1⟩ n
      · exact R.sep j k q (old hj o1) (old hk o2)
theorem ext_store {S0 S : Stt} {i : Nat} {v : V} {s' : Sl} (E : Ext S0 S) (hi : i < S.env.length) (hi2 : i < S.σ.length) (hs : (∀ d, s' ≠ .ow d ∧ s' ≠ .io d) ∨ ∃ a, v = .ref a ∧ (Fr0 S0.H a ∨ Own S0 a)) :
    Ext S0 ⟨S.F, S.env.set i s', S.σ.set i (some v), S.H⟩ := by
  refine ⟨E.fsub, E.keep, E.fnew, fun q ⟨j, ⟨d', f0⟩, f2⟩ => ?_⟩
  have f1 : (S.env.set i s')[j]? = some (.ow d') ∨ (S.env.set i s')[j]? = some (.io d') := f0
  have f3 : (S.σ.set i (some v))[j]? = some (some (.ref q)) := f2
  by_cases hj : j = i
  · rw [hj, List.getElem?_set_self hi] at f1
    rw [hj, List.getElem?_set_self hi2] at f3
    have hv : v = .ref q := Option.some.inj (Option.some.inj f3)
    rcases hs with h | ⟨a, hv2, h⟩
    · rcases f1 with f1 | f1
      · exact absurd (Option.some.inj f1) (h d').1
      · exact absurd (Option.some.inj f1) (h d').2
    · rw [hv2] at hv; cases hv; exact h.symm
  · rw [List.getElem?_set_ne (Ne.symm hj)] at f1 f3
    exact E.onew q ⟨j, ⟨d', f1⟩, f3⟩
end
end Pv

/-! PvS9: targets, comprehensions. -/
namespace Pv
open PySem PySem.Spec PyProof.Rows L2
variable [Tb]
theorem PG.imp {X : Cx} {tg : Expr} {t t' : TG} (h : PG X tg t) (i : ∀ v σ H Q, t' v σ H Q → t v σ H Q) : PG X tg t' := ⟨fun pins s σ H v u Q I r q => h.run pins s σ H v u Q I r (i _ _ _ _ q)⟩
theorem PGs.imp {X : Cx} {tg : List Expr} {t t' : TGs} (h : PGs X tg t) (i : ∀ v σ H Q, t' v σ H Q → t v σ H Q) : PGs X tg t' := ⟨fun pins s σ H v u Q I r q => h.run pins s σ H v u Q I r (i _ _ _ _ q)⟩
theorem asg_cons {e : Expr} {es : List Expr} {env : Env} (h : noStar e = true) : assignEach (e :: es) env = (false, assign e env) :: assignEach es env := by
  cases e <;> first | rfl | cases h
theorem asg_len {env : Env} : ∀ {es : List Expr}, es.all noStar = true → (assignEach es env).length = es.length ∧ (assignEach es env).findIdx? (·.1) = none
  | [], _ => ⟨rfl, rfl⟩
  | e :: es, h => by
    rw [List.all_cons, Bool.and_eq_true] at h
    obtain ⟨h1, h2⟩ := asg_len (env := env) h.2
    rw [asg_cons h.1]
    refine ⟨by rw [List.length_cons, h1, List.length_cons], ?_⟩
    rw [List.findIdx?_cons, h2]; rfl
section
variable {c : Cn} {T : String → Fn} {p : Pm} {X : Cx}
def tSGs (p : Pm) (pts : List Pt) : TGs := fun vs σ H Q => ∃ F env ds e1, ER p.K p.ios ⟨F, env, σ, H⟩ ∧ RepL p.K F vs ds ∧ bindPt.bindPts pts ds env = some e1 ∧
  ∀ σ', σ'.length = σ.length → (∀ j, j ∉ slPt.slPts pts → σ'[j]? = σ[j]?) → ER p.K p.ios ⟨F, e1, σ', H⟩ → Ext ⟨F, env, σ, H⟩ ⟨F, e1, σ', H⟩ → Q σ' H
theorem ckPts_star {c : Cn} : ∀ {ts : List Pt} {es : List Expr}, ckPt.ckPts c ts es = true → es.all noStar = true ∧ es.length = ts.length
  | [], [], _ => ⟨rfl, rfl⟩
  | [], _ :: _, h => by cases h
  | _ :: _, [], h => by cases h
  | t :: ts, e :: es, h => by
    have h : (noStar e && ckPt c t e && ckPt.ckPts c ts es) = true := h
    simp only [Bool.and_eq_true] at h
    obtain ⟨h1, h2⟩ := ckPts_star h.2
    exact ⟨by rw [List.all_cons, h.1.1, h1]; rfl, by simp [h2]⟩
theorem bindPts_len : ∀ {ts : List Pt} {ds : List D} {env e1 : En}, bindPt.bindPts ts ds env = some e1 → ds.length = ts.length
  | [], [], _, _, _ => rfl
  | [], _ :: _, _, _, h => by cases h
  | _ :: _, [], _, _, h => by cases h
  | t :: ts, d :: ds, env, e1, h => by
    have h : (match bindPt t d env with
      | some e2 => bindPt.bindPts ts ds e2
      | none => none) = some e1 := h
    cases q : bindPt t d env with
    | none => rw [q] at h; cases h
    | some e2 => rw [q] at h; simp [bindPts_len h]
mutual
theorem pg_ok (o : XO c T p X) : ∀ (pt : Pt) (tg : Expr), ckPt c pt tg = true → PG X tg (tSG p pt)
  | .nm i, tg, h => by
    cases tg <;> first | (cases h; done) | skip
    case Name x pos =>
      have h : (c.N[i]? == some x && okSt c x) = true := h
      simp only [Bool.and_eq_true, beq_iff_eq] at h
      obtain ⟨hl, hf⟩ := o.st h.2
      refine PG.imp (pg_name (i := i) (by rw [o.N]; exact o.nd) (by rw [o.N]; exact h.1) hl hf) fun v σ H Q ⟨F, env, d, e1, R, rep, hb, fin⟩ => ?_
      obtain ⟨rfl, hi, hio⟩ := stN_sh (show stN i (.sh d) env = some e1 from hb)
      have hi2 : i < σ.length := by have := R.len; simp only at this; omega
      exact fin (σ.set i (some v)) (by simp) (fun j hj => List.getElem?_set_ne (fun z => hj (by rw [← z]; exact List.mem_singleton.mpr rfl)))
        (er_store (S := ⟨F, env, σ, H⟩) R hi hio (.inr (.inl ⟨d, rfl, rep⟩))) (ext_store (S := ⟨F, env, σ, H⟩) (Ext.refl _) hi hi2 (.inl fun d' => ⟨fun z => (by cases z), fun z => (by cases z)⟩))
  | .tup ts, tg, h => by
    cases tg <;> first | (cases h; done) | skip
    case Tuple es k pos =>
      have h : ckPt.ckPts c ts es = true := h
      obtain ⟨h1, h2⟩ := ckPts_star h
      obtain ⟨h3, h4⟩ := asg_len (env := X.env) h1
      refine PG.imp (pg_tup o.calm (pgs_ok o ts es h) h3 h4) fun v σ H Q ⟨F, env, d, e1, R, rep, hb, fin⟩ => ?_
      have key : ∀ {a : Addr} {vs : List V} {ds : List D}, v = .ref a → SqT p.K H a vs → RepL p.K F vs ds → bindPt.bindPts ts ds env = some e1 → gTup X.K es.length (tSGs p ts) v σ H Q := by
        intro a vs ds e1 e2 e3 e4
        refine ⟨a, vs, e1, by rw [← o.K]; exact e2, by rw [e3.length, bindPts_len e4, h2], F, env, ds, _, R, e3, e4, fin⟩
      cases d <;> first | (cases hb; done) | skip
      case tup ds =>
        simp only [Rep] at rep
        obtain ⟨a, vs, e, h1, h2⟩ := rep
        exact key e (SqT.of (R.sub _ _ h1)) h2 hb
      case ft ds =>
        simp only [Rep] at rep
        obtain ⟨a, vs, e, h1, h2⟩ := rep
        exact key e (SqT.sub R.sub h1) h2 hb
theorem pgs_ok (o : XO c T p X) : ∀ (pts : List Pt) (es : List Expr), ckPt.ckPts c pts es = true → PGs X es (tSGs p pts)
  | [], [], _ => PGs.imp pgs_nil fun vs σ H Q ⟨F, env, ds, e1, R, rep, hb, fin⟩ => by
    cases ds with
    | cons _ _ => cases hb
    | nil =>
      cases vs with
      | cons _ _ => exact rep.elim
      | nil =>
        cases (show some env = some e1 from hb)
        exact ⟨rfl, fin σ rfl (fun _ _ => rfl) R (Ext.refl _)⟩
  | [], _ :: _, h => by cases h
  | _ :: _, [], h => by cases h
  | t :: ts, e :: es, h => by
    have h : (noStar e && ckPt c t e && ckPt.ckPts c ts es) = true := h
    simp only [Bool.and_eq_true] at h
    refine PGs.imp (pgs_cons (pg_ok o t e h.1.2) (pgs_ok o ts es h.2) (by rw [asg_cons h.1.1]; rfl)) fun vs σ H Q ⟨F, env, ds, e1, R, rep, hb, fin⟩ => ?_
    cases ds with
    | nil => cases hb
    | cons d ds =>
      cases vs with
      | nil => exact rep.elim
      | cons v vs =>
        have hb : (match bindPt t d env with
          | some e2 => bindPt.bindPts ts ds e2
          | none => none) = some e1 := hb
        cases q : bindPt t d env with
        | none => rw [q] at hb; cases hb
        | some e2 =>
          rw [q] at hb
          refine ⟨v, vs, rfl, F, env, d, e2, R, rep.1, q, fun σ1 l1 a1 R1 E1 => ⟨F, e2, ds, e1, R1, rep.2, hb, fun σ2 l2 a2 R2 E2 => fin σ2 (l2.trans l1) (fun j hj => ?_) R2 (E1.trans E2)⟩⟩
          have hj : j ∉ slPt t ++ slPt.slPts ts := hj
          rw [List.mem_append, not_or] at hj
          rw [a2 j hj.2, a1 j hj.1]
end
end

/-! ### slots forgotten and told again -/
theorem wipe_in {σ : L2.St} {j : Nat} : ∀ {vs : List Nat}, j ∈ vs → j < σ.length → (wipe σ vs)[j]? = some none
  | v :: vs, h, hl => by
    unfold wipe
    by_cases e : v = j
    · subst e
      rw [List.getElem?_set_self (by rw [wipe_length]; exact hl)]
    · rw [List.getElem?_set_ne e]
      exact wipe_in ((List.mem_cons.mp h).resolve_left fun z => e z.symm) hl
theorem wipe_no {σ : L2.St} {j : Nat} : ∀ {vs : List Nat}, j ∉ vs → (wipe σ vs)[j]? = σ[j]?
  | [], _ => rfl
  | v :: vs, h => by
    have hne : v ≠ j := fun e => h (by rw [e]; exact List.mem_cons_self)
    unfold wipe
    rw [List.getElem?_set_ne hne]
    exact wipe_no fun m => h (List.mem_cons_of_mem _ m)
theorem wipe_same {σ τ : L2.St} {vs : List Nat} (hl : τ.length = σ.length) (h : ∀ j, j ∉ vs → τ[j]? = σ[j]?) : wipe τ vs = wipe σ vs := by
  refine List.ext_getElem? fun j => ?_
  by_cases hj : j ∈ vs
  · by_cases hlt : j < σ.length
    · rw [wipe_in hj hlt, wipe_in hj (by rw [hl]; exact hlt)]
    · rw [List.getElem?_eq_none (by rw [wipe_length, hl]; omega), List.getElem?_eq_none (by rw [wipe_length]; omega)]
  · rw [wipe_no hj, wipe_no hj, h j hj]
theorem wipe_two {σ : L2.St} {vs ws : List Nat} (h : ∀ j ∈ vs, j ∈ ws) : wipe (wipe σ vs) ws = wipe σ ws :=
  wipe_same (wipe_length _ _) fun j hj => wipe_no fun m => hj (h j m)
theorem wipeE_len : ∀ {vs : List Nat} {e : En}, (wipeE e vs).length = e.length
  | [], _ => rfl
  | v :: vs, e => by unfold wipeE; rw [wipeE_len, List.length_set]
theorem wipeE_no {j : Nat} : ∀ {vs : List Nat} {e : En}, j ∉ vs → (wipeE e vs)[j]? = e[j]?
  | [], _, _ => rfl
  | v :: vs, e, h => by
    have hne : v ≠ j := fun e => h (by rw [e]; exact List.mem_cons_self)
    unfold wipeE
    rw [wipeE_no fun m => h (List.mem_cons_of_mem _ m), List.getElem?_set_ne hne]
theorem wipeE_in {j : Nat} : ∀ {vs : List Nat} {e : En} {s : Sl}, j ∈ vs → (wipeE e vs)[j]? = some s → s = .no
  | v :: vs, e, s, h, hs => by
    unfold wipeE at hs
    by_cases hv : j ∈ vs
    · exact wipeE_in hv hs
    · rw [wipeE_no hv] at hs
      have e1 : j = v := (List.mem_cons.mp h).resolve_right hv
      subst e1
      by_cases hlt : j < e.length
      · rw [List.getElem?_set_self hlt] at hs; cases hs; rfl
      · rw [List.getElem?_eq_none (by rw [List.length_set]; omega)] at hs; cases hs
theorem backE_len {e0 : En} : ∀ {vs : List Nat} {e : En}, (backE e0 e vs).length = e.length
  | [], _ => rfl
  | v :: vs, e => by
    unfold backE
    rw [backE_len]
    cases e0[v]? <;> simp
theorem backE_no {e0 : En} {j : Nat} : ∀ {vs : List Nat} {e : En}, j ∉ vs → (backE e0 e vs)[j]? = e[j]?
  | [], _, _ => rfl
  | v :: vs, e, h => by
    have hne : v ≠ j := fun e => h (by rw [e]; exact List.mem_cons_self)
    unfold backE
    rw [backE_no fun m => h (List.mem_cons_of_mem _ m)]
    cases e0[v]? with
    | none => rfl
    | some s => exact List.getElem?_set_ne hne
theorem backE_in {e0 : En} {j : Nat} : ∀ {vs : List Nat} {e : En}, e.length = e0.length → j ∈ vs → (backE e0 e vs)[j]? = e0[j]?
  | v :: vs, e, hl, h => by
    unfold backE
    by_cases hv : j ∈ vs
    · rw [backE_in _ hv]
      cases e0[v]? <;> simp [hl]
    · rw [backE_no hv]
      have e1 : j = v := (List.mem_cons.mp h).resolve_right hv
      subst e1
      cases q : e0[j]? with
      | none =>
        have hlt : ¬ j < e0.length := fun z => by rw [List.getElem?_eq_getElem z] at q; cases q
        show e[j]? = none
        exact List.getElem?_eq_none (by omega)
      | some s =>
        have hlt : j < e0.length := (List.getElem?_eq_some_iff.mp q).1
        exact List.getElem?_set_self (by rw [hl]; exact hlt)
def wipeS (S : Stt) (vs : List Nat) : Stt := ⟨S.F, wipeE S.env vs, wipe S.σ vs, S.H⟩
section
variable {K : PySem.W.Frag} {ios : Nat → Option Addr} {S : Stt} {vs : List Nat}
theorem own_wipe {i : Nat} {q : Addr} (o : OwnAt (wipeS S vs) i q) : OwnAt S i q ∧ i ∉ vs := by
  obtain ⟨⟨d, e⟩, e2⟩ := o
  have e : (wipeE S.env vs)[i]? = some (.ow d) ∨ (wipeE S.env vs)[i]? = some (.io d) := e
  have e2 : (wipe S.σ vs)[i]? = some (some (.ref q)) := e2
  have hi : i ∉ vs := fun m => by
    rcases e with e | e <;> cases wipeE_in m e
  rw [wipeE_no hi] at e
  rw [wipe_no hi] at e2
  exact ⟨⟨⟨d, e⟩, e2⟩, hi⟩
theorem er_wipe (R : ER K ios S) (vs : List Nat) : ER K ios (wipeS S vs) where
  sub := R.sub
  len := by show (wipeE S.env vs).length = (wipe S.σ vs).length; rw [wipeE_len, wipe_length, R.len]
  sl := fun i s e => by
    have e : (wipeE S.env vs)[i]? = some s := e
    show SlotR K ios S.F S.H i (wipe S.σ vs)[i]? s
    by_cases hi : i ∈ vs
    · rw [wipeE_in hi e]; trivial
    · rw [wipeE_no hi] at e
      rw [wipe_no hi]
      exact R.sl i s e
  sep := fun i j q o1 o2 => R.sep i j q (own_wipe o1).1 (own_wipe o2).1
  tab := R.tab
theorem ext_wipe {S0 : Stt} (E : Ext S0 S) (vs : List Nat) : Ext S0 (wipeS S vs) := ⟨E.fsub, E.keep, E.fnew, fun q ⟨i, o⟩ => E.onew q ⟨i, (own_wipe o).1⟩⟩
/-- told again -/
theorem er_back {F' : Hp} {e' : En} {H' : Hp} (R : ER K ios S) (R' : ER K ios ⟨F', e', wipe S.σ vs, H'⟩) (E' : Ext (wipeS S vs) ⟨F', e', wipe S.σ vs, H'⟩) :
    ER K ios ⟨F', backE S.env e' vs, S.σ, H'⟩ ∧ Ext S ⟨F', backE S.env e' vs, S.σ, H'⟩ := by
  have hlen : e'.length = S.env.length := by
    have := R'.len
    simp only at this
    rw [wipe_length] at this
    rw [this, R.len]
  -- what a slot in vs owned is left alone
  have still : ∀ i ∈ vs, ∀ q, OwnAt S i q → ¬ Own (wipeS S vs) q := fun i hi q o ⟨k, ok⟩ => by
    obtain ⟨o2, hk⟩ := own_wipe ok
    exact hk (R.sep i k q o o2 ▸ hi)
  have split : ∀ {i q}, OwnAt ⟨F', backE S.env e' vs, S.σ, H'⟩ i q → (i ∈ vs ∧ OwnAt S i q) ∨ (i ∉ vs ∧ OwnAt ⟨F', e', wipe S.σ vs, H'⟩ i q) := fun {i q} ⟨⟨d, e⟩, e2⟩ => by
    have e : (backE S.env e' vs)[i]? = some (.ow d) ∨ (backE S.env e' vs)[i]? = some (.io d) := e
    have e2 : S.σ[i]? = some (some (.ref q)) := e2
    by_cases hi : i ∈ vs
    · rw [backE_in hlen hi] at e
      exact .inl ⟨hi, ⟨d, e⟩, e2⟩
    · rw [backE_no hi] at e
      refine .inr ⟨hi, ⟨d, e⟩, ?_⟩
      show (wipe S.σ vs)[i]? = _
      rw [wipe_no hi]; exact e2
  refine ⟨⟨R'.sub, by show (backE S.env e' vs).length = _; rw [backE_len, hlen, R.len], fun i s e => ?_, fun i j q o1 o2 => ?_, R'.tab⟩, ⟨E'.fsub, fun h n t => E'.keep h (fun ⟨k, ok⟩ => n ⟨k, (own_wipe ok).1⟩) t, fun q o h => ?_, fun q ⟨i, o⟩ => ?_⟩⟩
  · have e : (backE S.env e' vs)[i]? = some s := e
    show SlotR K ios F' H' i S.σ[i]? s
    by_cases hi : i ∈ vs
    · rw [backE_in hlen hi] at e
      have q := R.sl i s e
      have st : ∀ a ho, OwnAt S i a → S.H a = some ho → NT ho → S.F a = none → H' a = some ho ∧ F' a = none := fun a ho o h1 nt h2 => by
        refine ⟨E'.keep h1 (still i hi a o) nt, ?_⟩
        cases z : F' a with
        | none => rfl
        | some u =>
          rcases E'.fnew a u z with y | y | y
          · have y : S.F a = some u := y
            rw [h2] at y; cases y
          · exact absurd y (still i hi a o)
          · exact absurd nt (y ho h1)
      cases s with
      | no => trivial
      | sh d => obtain ⟨x, q1, q2⟩ := q; exact ⟨x, q1, q2.mono E'.fsub⟩
      | ow d =>
        obtain ⟨a, ho, q1, q2, q3, q4⟩ := q
        obtain ⟨z1, z2⟩ := st a ho ⟨⟨d, .inl e⟩, q1⟩ q2 q3.nt q4
        exact ⟨a, ho, q1, z1, q3.mono E'.fsub, z2⟩
      | io d =>
        obtain ⟨a, ho, q1, q0, q2, q3, q4⟩ := q
        obtain ⟨z1, z2⟩ := st a ho ⟨⟨d, .inr e⟩, q1⟩ q2 q3.nt q4
        exact ⟨a, ho, q1, q0, z1, q3.mono E'.fsub, z2⟩
    · rw [backE_no hi] at e
      have q := R'.sl i s e
      have q : SlotR K ios F' H' i (wipe S.σ vs)[i]? s := q
      rw [wipe_no hi] at q
      exact q
  · have cross : ∀ {i j}, i ∈ vs → OwnAt S i q → OwnAt ⟨F', e', wipe S.σ vs, H'⟩ j q → False := fun {i j} hi o o' => by
      rcases E'.onew q ⟨j, o'⟩ with z | z
      · exact still i hi q o z
      · obtain ⟨_, ho, y, nt⟩ := R.own_free ⟨i, o⟩
        exact z ho y nt
    rcases split o1 with ⟨h1, a1⟩ | ⟨h1, a1⟩
    · rcases split o2 with ⟨h2, a2⟩ | ⟨h2, a2⟩
      · exact R.sep i j q a1 a2
      · exact (cross h1 a1 a2).elim
    · rcases split o2 with ⟨h2, a2⟩ | ⟨h2, a2⟩
      · exact (cross h2 a2 a1).elim
      · exact R'.sep i j q a1 a2
  · rcases E'.fnew q o h with z | ⟨k, ok⟩ | z
    · exact .inl z
    · exact .inr (.inl ⟨k, (own_wipe ok).1⟩)
    · exact .inr (.inr z)
  · rcases split o with ⟨h1, a1⟩ | ⟨h1, a1⟩
    · exact .inl ⟨i, a1⟩
    · rcases E'.onew q ⟨i, a1⟩ with ⟨k, ok⟩ | z
      · exact .inl ⟨k, (own_wipe ok).1⟩
      · exact .inr z
end

/-! ### the list that is gathered -/
def hole (L : Addr) (S : Stt) : Stt := { S with H := fun b => if b = L then none else S.H b }
theorem own_hole {L : Addr} {S : Stt} {q : Addr} : Own (hole L S) q ↔ Own S q := Own.of rfl rfl
theorem ext_hole {L : Addr} {S0 S : Stt} (E : Ext S0 S) (h : S0.H L = none) : Ext S0 (hole L S) :=
  ⟨E.fsub, fun {q o} e n t => by
    have hq : q ≠ L := fun z => by rw [z, h] at e; cases e
    show (if q = L then none else S.H q) = some o
    rw [if_neg hq]; exact E.keep e n t, E.fnew, fun q o => E.onew q (own_hole.mp o)⟩
theorem hole_same {L : Addr} {S : Stt} (h : S.H L = none) : hole L S = S := by
  obtain ⟨F, e, σ, H⟩ := S
  unfold hole
  congr 1
  funext b
  by_cases hb : b = L
  · rw [if_pos hb, hb]; exact h.symm
  · rw [if_neg hb]
theorem hole_at {L : Addr} {S : Stt} : (hole L S).H L = none := if_pos rfl
theorem ext_of_hole {L : Addr} {S S' : Stt} (E : Ext S S') (hn : ¬ Own S L) (hf : S.F L = none) : Ext (hole L S) S' :=
  ⟨E.fsub, fun {q o} e n t => by
    have e : (if q = L then none else S.H q) = some o := e
    split at e
    · cases e
    · exact E.keep e (fun z => n (own_hole.mpr z)) t, fun q o e => by
    rcases E.fnew q o e with z | z | z
    · exact .inl z
    · exact .inr (.inl (own_hole.mpr z))
    · refine .inr (.inr fun u e => ?_)
      have e : (if q = L then none else S.H q) = some u := e
      split at e
      · cases e
      · exact z u e, fun q o => by
    rcases E.onew q o with z | z
    · exact .inl (own_hole.mpr z)
    · refine .inr fun u e => ?_
      have e : (if q = L then none else S.H q) = some u := e
      split at e
      · cases e
      · exact z u e⟩
/-- L stands for what is gathered, nobody owns it -/
structure Lst (p : Pm) (L : Addr) (S : Stt) (acc : List D) : Prop where
  er : ER p.K p.ios S
  at_ : ∃ vs, S.H L = some (.lst vs) ∧ RepL p.K S.F vs acc
  nf : S.F L = none
  no : ¬ Own S L
section
variable {p : Pm} {L : Addr} {S S' : Stt} {acc : List D}
theorem Lst.step (h : Lst p L S acc) (R : ER p.K p.ios S') (E : Ext S S') : Lst p L S' acc := by
  obtain ⟨vs, h1, h2⟩ := h.at_
  have nt : NT (.lst vs) := fun _ z => by cases z
  refine ⟨R, ⟨vs, E.keep h1 h.no nt, h2.mono E.fsub⟩, ?_, fun o => ?_⟩
  · cases z : S'.F L with
    | none => rfl
    | some u =>
      rcases E.fnew L u z with y | y | y
      · rw [h.nf] at y; cases y
      · exact absurd y h.no
      · exact absurd nt (y _ h1)
  · rcases E.onew L o with y | y
    · exact h.no y
    · exact y _ h1 nt
theorem Lst.wipe (h : Lst p L S acc) (vs : List Nat) : Lst p L (wipeS S vs) acc := h.step (er_wipe h.er vs) (ext_wipe (Ext.refl S) vs)
theorem er_poke {K : PySem.W.Frag} {ios : Nat → Option Addr} {o : HO} (R : ER K ios S) (nf : S.F L = none) (no : ¬ Own S L) (hk : ∀ u, S.H L = some u → ¬ KO u) : ER K ios { S with H := upd S.H L o } where
  sub := fun b u e => by
    have hb : b ≠ L := fun z => by rw [z, nf] at e; cases e
    show upd S.H L o b = _
    rw [upd_ne hb]; exact R.sub b u e
  len := R.len
  sl := fun i s e => by
    have q := R.sl i s e
    have ne : ∀ b, Own S b → b ≠ L := fun b z y => no (y ▸ z)
    cases s with
    | no => trivial
    | sh d => exact q
    | ow d =>
      obtain ⟨b, u, e1, e2, e3, e4⟩ := q
      exact ⟨b, u, e1, by show upd S.H L o b = _; rw [upd_ne (ne b ⟨i, ⟨d, .inl e⟩, e1⟩)]; exact e2, e3, e4⟩
    | io d =>
      obtain ⟨b, u, e1, e0, e2, e3, e4⟩ := q
      exact ⟨b, u, e1, e0, by show upd S.H L o b = _; rw [upd_ne (ne b ⟨i, ⟨d, .inr e⟩, e1⟩)]; exact e2, e3, e4⟩
  sep := R.sep
  tab := ⟨tabs_kept R.tab.t fun b u e ku => by
    have hb : b ≠ L := fun z => hk u (z ▸ e) ku
    show upd S.H L o b = _
    rw [upd_ne hb]; exact e, R.tab.f⟩
theorem ext_poke {S0 : Stt} {o : HO} (E : Ext S0 S) (h : S0.H L = none) : Ext S0 { S with H := upd S.H L o } :=
  ⟨E.fsub, fun {q u} e n t => by
    have hq : q ≠ L := fun z => by rw [z, h] at e; cases e
    show upd S.H L o q = _
    rw [upd_ne hq]; exact E.keep e n t, E.fnew, fun q z => E.onew q ((Own.of (S := S) (S' := { S with H := upd S.H L o }) rfl rfl).mp z)⟩
theorem Lst.push {vs : List V} {y : V} {d : D} (h : Lst p L S acc) (h1 : S.H L = some (.lst vs)) (r : Rep p.K S.F y d) : Lst p L { S with H := upd S.H L (.lst (vs ++ [y])) } (acc ++ [d]) := by
  obtain ⟨vs', e1, e2⟩ := h.at_
  rw [h1] at e1; cases e1
  exact ⟨er_poke h.er h.nf h.no (fun u e => by rw [h1] at e; cases e; exact ko_lst), ⟨_, upd_same, e2.append (.one r)⟩, h.nf, fun o => h.no ((Own.of (S := S) (S' := { S with H := upd S.H L (.lst (vs ++ [y])) }) rfl rfl).mp o)⟩
end
theorem lcLoop_len {own : List Nat} {ev : En → Rs Vl} {ts : En → Rs Bool} {pt : Pt} : ∀ {ds acc : List D} {env : En} {r : List D} {e : En}, lcLoop own ev ts pt ds acc env = .ok r e → acc.length ≤ r.length
  | [], acc, env, r, e, h => by cases h; exact Nat.le_refl _
  | d :: ds, acc, env, r, e, h => by
    unfold lcLoop at h
    cases c1 : bindPt pt d env with
    | none => rw [c1] at h; cases h
    | some e1 =>
      rw [c1] at h
      simp only at h
      cases c2 : ts e1 with
      | stuck => rw [c2] at h; cases h
      | ex _ _ _ => rw [c2] at h; cases h
      | ok b e2 =>
        rw [c2] at h
        cases b with
        | false => exact lcLoop_len h
        | true =>
          simp only at h
          cases c3 : ev e2 with
          | stuck => rw [c3] at h; cases h
          | ex _ _ _ => rw [c3] at h; cases h
          | ok v e3 =>
            rw [c3] at h
            simp only at h
            cases c4 : fz v e3 with
            | none => rw [c4] at h; cases h
            | some xe =>
              obtain ⟨x, e4⟩ := xe
              rw [c4] at h
              have := lcLoop_len h
              rw [List.length_append] at this
              omega
/-- one loop of a comprehension -/
theorem lc_loop {p : Pm} {own : List Nat} {ev : En → Rs Vl} {ts : En → Rs Bool} {pt : Pt} {L : Addr} {J : It} {S1 : Stt} {ds acc r : List D} {e2 : En} (h0 : Lst p L S1 acc) (hw : wipe S1.σ own = S1.σ) (hJ : ItS p.K J ds S1.F)
    (hr : lcLoop own ev ts pt ds acc S1.env = .ok r e2) (hl : r.length ≤ sizeLine) (hs : ∀ j ∈ slPt pt, j ∈ own) {Qd : Hp → Prop} (hd : ∀ F' H', Lst p L ⟨F', e2, S1.σ, H'⟩ r → Ext (hole L S1) ⟨F', e2, S1.σ, H'⟩ → Qd H') :
    ∃ W : Nat → Nat → Hp → Prop, (∃ m, W 0 m S1.H) ∧ ∀ i m H, W i m H → (J.stop i H ∧ Qd H) ∨ (J.go i H ∧ ∃ Nx : Hp → Prop, (∀ H', Nx H' → ∃ m', m' < m ∧ W (i + 1) m' H') ∧
      ∀ x H', J.yld i H x H' → tSG p pt x S1.σ H' fun σ2 H2 => wipe σ2 own = S1.σ ∧ tST p ts σ2 H2 fun b H3 => if b = true then tSE p ev σ2 H3 fun y H4 => ∃ vs, H4 L = some (.lst vs) ∧ vs.length < sizeLine ∧ Nx (upd H4 L (.lst (vs ++ [y]))) else Nx H3) := by
  let Iv : Nat → Hp → Prop := fun i H => ∃ F e a, Lst p L ⟨F, e, S1.σ, H⟩ a ∧ Ext (hole L S1) ⟨F, e, S1.σ, H⟩ ∧ lcLoop own ev ts pt (ds.drop i) a e = .ok r e2
  refine ⟨fun i m H => m = ds.length - i ∧ i ≤ ds.length ∧ Iv i H, ⟨ds.length, by simp, Nat.zero_le _, S1.F, S1.env, acc, h0, ext_of_hole (Ext.refl S1) h0.no h0.nf, hr⟩, ?_⟩
  rintro i m H ⟨rfl, hi, F, e, a, hL, E, hv⟩
  by_cases hlt : i < ds.length
  · have hdrop : ds.drop i = ds[i] :: ds.drop (i + 1) := List.drop_eq_getElem_cons hlt
    have hget : ds[i]? = some ds[i] := List.getElem?_eq_getElem hlt
    obtain ⟨go, yl⟩ := hJ.go F H E.fsub hL.er.sub i ds[i] hget
    refine .inr ⟨go, Iv (i + 1), fun H' q => ⟨ds.length - (i + 1), by omega, rfl, hlt, q⟩, fun x H' y => ?_⟩
    obtain ⟨F1, fe, rep⟩ := yl x H' y
    rw [hdrop] at hv
    unfold lcLoop at hv
    cases c1 : bindPt pt ds[i] e with
    | none => rw [c1] at hv; cases hv
    | some eb =>
      rw [c1] at hv
      simp only at hv
      have R1 := fe.er (S := ⟨F, e, S1.σ, H⟩) hL.er (fun _ z => z.elim)
      have E1 := fe.ext (S := ⟨F, e, S1.σ, H⟩) (Ext.refl _) (fun _ z => z.elim)
      refine ⟨F1, e, ds[i], eb, R1, rep, c1, fun σ2 l2 a2 R2 E2 => ⟨?_, F1, eb, R2, ?_⟩⟩
      · rw [← hw]; exact wipe_same l2 fun j hj => a2 j fun m => hj (hs j m)
      · have w2 : wipe σ2 own = S1.σ := by rw [← hw]; exact wipe_same l2 fun j hj => a2 j fun m => hj (hs j m)
        have L2 := hL.step R2 (E1.trans E2)
        have E02 := E.trans (E1.trans E2)
        cases c2 : ts eb with
        | stuck => rw [c2] at hv; cases hv
        | ex _ _ _ => rw [c2] at hv; cases hv
        | ok b e3 =>
          rw [c2] at hv
          intro b' H3 F3 R3 E3 hb
          have hb : b' = b := hb
          subst hb
          have L3 := L2.step R3 E3
          have E03 := E02.trans E3
          cases b' with
          | false =>
            rw [if_neg (by decide)]
            refine ⟨F3, wipeE e3 own, a, ?_, ?_, hv⟩
            · have := L3.wipe own
              unfold wipeS at this
              simp only [w2] at this
              exact this
            · have := ext_wipe E03 own
              unfold wipeS at this
              simp only [w2] at this
              exact this
          | true =>
            simp only at hv
            rw [if_pos rfl]
            refine ⟨F3, e3, R3, ?_⟩
            cases c3 : ev e3 with
            | stuck => rw [c3] at hv; cases hv
            | ex _ _ _ => rw [c3] at hv; cases hv
            | ok v e4 =>
              rw [c3] at hv
              simp only at hv
              cases c4 : fz v e4 with
              | none => rw [c4] at hv; cases hv
              | some xe =>
                obtain ⟨xd, e5⟩ := xe
                rw [c4] at hv
                intro yv H4 F4 R4 E4 V4
                obtain ⟨F5, R5, E5, rep5, _, _⟩ := fz_ok (S := ⟨F4, e4, σ2, H4⟩) R4 E4 V4 c4
                have L5 := L3.step R5 E5
                obtain ⟨vs, v1, v2⟩ := L5.at_
                have hlen := lcLoop_len hv
                rw [List.length_append, ← v2.length] at hlen
                refine ⟨vs, v1, by simp only [List.length_singleton] at hlen; omega, F5, wipeE e5 own, a ++ [xd], ?_, ?_, hv⟩
                · have := (L5.push v1 rep5).wipe own
                  unfold wipeS at this
                  simp only [w2] at this
                  exact this
                · have := ext_wipe (ext_poke (L := L) (o := .lst (vs ++ [yv])) (E03.trans E5) hole_at) own
                  unfold wipeS at this
                  simp only [w2] at this
                  exact this
  · have e : i = ds.length := by omega
    subst e
    rw [List.drop_length] at hv
    cases (show Rs.ok a e = Rs.ok r e2 from hv)
    exact .inl ⟨hJ.stop F H E.fsub hL.er.sub _ (Nat.le_refl _), hd F H hL E⟩
end Pv

/-! PvS10: displays, slices, calls, methods, comprehensions. -/
namespace Pv
open PySem PySem.Spec PyProof.Rows L2
variable [Tb]
section
variable {c : Cn} {T : String → Fn} {p : Pm} {X : Cx} {x y z : Expr} {pos : Pos}
/-! ### tests in general -/
/-- behind a test: what its outcome leads to -/
theorem test_then {α : Type} {R' : Stt → Stt → V → α → Prop} {a : Ex} {S : Stt} {k : Bool → Vl → En → Rs α} {Q : VK} {Qb : Bool → Hp → Prop} (h : GP p R' S ((evE T a S.env).bind fun v e1 => match truV v e1 with
      | some true => k true v e1
      | some false => k false v e1
      | none => .stuck) Q)
    (hk : ∀ b v e1 F H, ER p.K p.ios ⟨F, e1, S.σ, H⟩ → Ext S ⟨F, e1, S.σ, H⟩ → GP p R' S (k b v e1) Q → Qb b H) : GP p BR S (tru1 T a S.env) Qb := by
  unfold tru1
  cases c0 : evE T a S.env with
  | stuck => rw [c0] at h; exact h.elim
  | ex cc d e => rw [c0] at h; exact h
  | ok v e1 =>
    rw [c0] at h
    simp only [Rs.bind_ok] at h ⊢
    cases c1 : truV v e1 with
    | none => rw [c1] at h; exact h.elim
    | some b =>
      rw [c1] at h
      intro b' H F R E hb
      have hb : b' = b := hb
      subst hb
      cases b' with
      | true => exact hk true v e1 F H R E h
      | false => exact hk false v e1 F H R E h
theorem s_ife {e a b : Ex} (he : PT X x (tST p (tru1 T e))) (ha : PE X y (tSE p (evE T a))) (hb : PE X z (tSE p (evE T b))) : PE X (.IfExp x y z pos) (tSE p (evE T (.ife e a b))) := by
  refine PE.imp (pe_ifExp he ha hb) fun σ H Q ⟨F, env, R, h⟩ => ⟨F, env, R, ?_⟩
  refine test_then (R' := VR p.K) (S := ⟨F, env, σ, H⟩) (k := fun bb _ e1 => if bb = true then evE T a e1 else evE T b e1) (Q := Q) h fun bb v e1 F1 H1 R1 E1 q => ?_
  cases bb with
  | true => exact ⟨F1, e1, R1, GP.step (S1 := ⟨F1, e1, σ, H1⟩) q E1 rfl fun _ _ _ q => q.back E1⟩
  | false => exact ⟨F1, e1, R1, GP.step (S1 := ⟨F1, e1, σ, H1⟩) q E1 rfl fun _ _ _ q => q.back E1⟩
/-- tests of not, and, or, if -/
theorem t_not {a : Ex} (ha : PT X x (tST p (tru1 T a))) : PT X (.UnaryOp .Not x pos) (tST p (tru1 T (.not a))) := by
  refine PT.imp (pt_not ha) fun σ H Q ⟨F, env, R, h⟩ => ⟨F, env, R, ?_⟩
  simp only [tru1, evE] at h ⊢
  cases c0 : evE T a env with
  | stuck => rw [c0] at h; exact h.elim
  | ex cc d e => rw [c0] at h; exact h
  | ok v e1 =>
    rw [c0] at h
    simp only [Rs.bind_ok] at h ⊢
    cases c1 : truV v e1 with
    | none => rw [c1] at h; exact h.elim
    | some b =>
      rw [c1] at h
      intro b' H1 F1 R1 E1 hb
      have hb : b' = b := hb
      subst hb
      exact h (!b') H1 F1 R1 E1 rfl
theorem t_and {a b : Ex} {r : List Expr} (ha : PT X x (tST p (tru1 T a))) (hb : PW X (.BoolOp .And (y :: r) pos) (tST p (tru1 T b))) : PW X (.BoolOp .And (x :: y :: r) pos) (tST p (tru1 T (.and a b))) := by
  refine PW.imp (pw_and ha hb) fun σ H Q ⟨F, env, R, h⟩ => ⟨F, env, R, ?_⟩
  simp only [tru1, evE] at h ⊢
  cases c0 : evE T a env with
  | stuck => rw [c0] at h; exact h.elim
  | ex cc d e => rw [c0] at h; exact h
  | ok v e1 =>
    rw [c0] at h
    simp only [Rs.bind_ok] at h ⊢
    cases c1 : truV v e1 with
    | none => rw [c1] at h; exact h.elim
    | some k =>
      rw [c1] at h
      intro b' H1 F1 R1 E1 hb
      have hb : b' = k := hb
      subst hb
      cases b' with
      | true => exact ⟨F1, e1, R1, GP.step (R := BR) (S1 := ⟨F1, e1, σ, H1⟩) h E1 rfl fun _ _ _ q => q⟩
      | false =>
        simp only [Rs.bind_ok, c1] at h
        exact h false H1 F1 R1 E1 rfl
theorem t_or {a b : Ex} {r : List Expr} (ha : PT X x (tST p (tru1 T a))) (hb : PW X (.BoolOp .Or (y :: r) pos) (tST p (tru1 T b))) : PW X (.BoolOp .Or (x :: y :: r) pos) (tST p (tru1 T (.or a b))) := by
  refine PW.imp (pw_or ha hb) fun σ H Q ⟨F, env, R, h⟩ => ⟨F, env, R, ?_⟩
  simp only [tru1, evE] at h ⊢
  cases c0 : evE T a env with
  | stuck => rw [c0] at h; exact h.elim
  | ex cc d e => rw [c0] at h; exact h
  | ok v e1 =>
    rw [c0] at h
    simp only [Rs.bind_ok] at h ⊢
    cases c1 : truV v e1 with
    | none => rw [c1] at h; exact h.elim
    | some k =>
      rw [c1] at h
      intro b' H1 F1 R1 E1 hb
      have hb : b' = k := hb
      subst hb
      cases b' with
      | false => exact ⟨F1, e1, R1, GP.step (R := BR) (S1 := ⟨F1, e1, σ, H1⟩) h E1 rfl fun _ _ _ q => q⟩
      | true =>
        simp only [Rs.bind_ok, c1] at h
        exact h true H1 F1 R1 E1 rfl
theorem pt_ife {tc ta tb : TT} (hc : PT X x tc) (ha : PT X y ta) (hb : PT X z tb) : PT X (.IfExp x y z pos) (fun σ H Q => tc σ H fun k H1 => if k = true then ta σ H1 Q else tb σ H1 Q) := by
  refine ⟨fun pins s σ H Q I h => ?_⟩
  refine isTrue_IfExp (thn (hc.run pins s σ H _ I h) fun k s1 ⟨H1, I1, q1⟩ => ?_)
  cases k with
  | true => exact ha.run pins s1 σ H1 Q I1 q1
  | false => exact hb.run pins s1 σ H1 Q I1 q1
theorem t_ife {e a b : Ex} (he : PT X x (tST p (tru1 T e))) (ha : PT X y (tST p (tru1 T a))) (hb : PT X z (tST p (tru1 T b))) : PT X (.IfExp x y z pos) (tST p (tru1 T (.ife e a b))) := by
  refine PT.imp (pt_ife he ha hb) fun σ H Q ⟨F, env, R, h⟩ => ⟨F, env, R, ?_⟩
  simp only [tru1, evE] at h ⊢
  cases c0 : evE T e env with
  | stuck => rw [c0] at h; exact h.elim
  | ex cc d e => rw [c0] at h; exact h
  | ok v e1 =>
    rw [c0] at h
    simp only [Rs.bind_ok] at h ⊢
    cases c1 : truV v e1 with
    | none => rw [c1] at h; exact h.elim
    | some k =>
      rw [c1] at h
      intro b' H1 F1 R1 E1 hb
      have hb : b' = k := hb
      subst hb
      cases b' with
      | true => exact ⟨F1, e1, R1, GP.step (R := BR) (S1 := ⟨F1, e1, σ, H1⟩) h E1 rfl fun _ _ _ q => q⟩
      | false => exact ⟨F1, e1, R1, GP.step (R := BR) (S1 := ⟨F1, e1, σ, H1⟩) h E1 rfl fun _ _ _ q => q⟩
/-- x is None as a test -/
theorem isn_bl {a : Ex} {n : Bool} {env e : En} {w : Vl} (h : evE T (.isn a n) env = .ok w e) : ∃ b, w = .sh (.bl b) := by
  simp only [evE] at h
  cases c0 : evE T a env with
  | stuck => rw [c0] at h; cases h
  | ex cc d e => rw [c0] at h; cases h
  | ok v e1 =>
    rw [c0] at h
    simp only [Rs.bind_ok] at h
    cases c1 : cont v e1 with
    | none => rw [c1] at h; cases h
    | some d =>
      rw [c1] at h
      cases d <;> (cases h; exact ⟨_, rfl⟩)
theorem isn_key {n : Bool} {a : Ex} (f : Bool → Bool) (hf : ∀ b, f b = if n then !b else b) (σ : L2.St) (H : Hp) (Q : VK) (h : tSE p (evE T (.isn a n)) σ H Q) : tSE p (evE T a) σ H fun v H1 => Q (.bl (f (decide (v = .non)))) H1 := by
  obtain ⟨F, env, R, h⟩ := h
  simp only [evE] at h
  refine ⟨F, env, R, (GP.bind h).imp fun v H1 ⟨w, F1, e1, R1, E1, V1, h1⟩ => ?_⟩
  cases c1 : cont w e1 with
  | none => rw [c1] at h1; exact h1.elim
  | some d =>
    rw [c1] at h1
    have rd := cont_rd R1 V1 c1
    by_cases hd : d = .non
    · subst hd
      simp only at h1
      rw [rd.non, decide_eq_true rfl, hf]
      have h2 : Q (.bl (!n)) H1 := h1 _ H1 F1 R1 E1 (by show Rep p.K F1 _ _; simp only [Rep])
      cases n <;> exact h2
    · have hne : v ≠ .non := by
        intro z
        subst z
        rcases rd with rd | ⟨a, ho, z, _⟩
        · cases d <;> simp [Rep] at rd hd
        · cases z
      rw [decide_eq_false hne, hf]
      have h2 : Q (.bl n) H1 := by
        cases d <;> first | exact absurd rfl hd | exact h1 _ H1 F1 R1 E1 (by show Rep p.K F1 _ _; simp only [Rep])
      cases n <;> exact h2
theorem t_isn {n : Bool} {op : CmpOp} {j : Nat} {p2 : Pos} {a : Ex} (h : op = (if n then CmpOp.IsNot else CmpOp.Is)) (ha : PE X x (tSE p (evE T a))) : PT X (.Compare x [op] [.Constant .none j p2] pos) (tST p (tru1 T (.isn a n))) := by
  have fin : ∀ (f : Bool → Bool), (∀ b, f b = if n then !b else b) → PC X op x (.Constant .none j p2) (fun σ H Q => tSE p (evE T a) σ H fun v H1 => Q (.bl (f (decide (v = .non)))) H1) → PT X (.Compare x [op] [.Constant .none j p2] pos) (tST p (tru1 T (.isn a n))) := by
    intro f hf hp
    refine PT.imp (pt_cmp hp) fun σ H Q ⟨F, env, R, q⟩ => ?_
    have q2 : tSE p (evE T (.isn a n)) σ H (fun v H' => ∃ k, v = .bl k ∧ Q k H') := by
      refine ⟨F, env, R, ?_⟩
      simp only [tru1] at q
      refine (GP.bindE q).imp fun v H1 ⟨w, F1, e1, ew, R1, E1, V1, h1⟩ => ?_
      obtain ⟨b, rfl⟩ := isn_bl ew
      have rv : v = .bl b := by
        have V1 : Rep p.K F1 v (.bl b) := V1
        simpa only [Rep] using V1
      cases c1 : truV (.sh (.bl b)) e1 with
      | none => rw [c1] at h1; exact h1.elim
      | some k =>
        rw [c1] at h1
        have := truV_bl c1
        subst this
        exact ⟨k, rv, h1 k H1 F1 R1 E1 rfl⟩
    have z := isn_key f hf σ H _ q2
    obtain ⟨F2, env2, R2, z⟩ := z
    exact ⟨F2, env2, R2, z.imp fun v H1 ⟨k, e, w⟩ => by cases e; exact ⟨_, rfl, w⟩⟩
  cases n with
  | true => subst h; exact fin (!·) (fun _ => rfl) (pc_notN ha)
  | false => subst h; exact fin id (fun _ => rfl) (pc_isN ha)

/-! ### displays -/
theorem s_tup {es : List Expr} {ms : List Ex} {k : Nat} (ha : PA X es (tSA p (evL T ms))) : PE X (.Tuple es k pos) (tSE p (evE T (.tup ms))) := by
  refine PE.imp (pe_tup ha) fun σ H Q ⟨F, env, R, h⟩ => ⟨F, env, R, ?_⟩
  simp only [evE] at h
  refine (GP.bind h).imp fun xs H1 ⟨vs, F1, e1, R1, E1, V1, h1⟩ => ?_
  cases c1 : fzL vs e1 with
  | none => rw [c1] at h1; exact h1.elim
  | some de =>
    obtain ⟨ds, e2⟩ := de
    rw [c1] at h1
    simp only at h1
    obtain ⟨F2, R2, E2, rep, _, _⟩ := fzL_ok (S := ⟨F1, e1, σ, H1⟩) R1 E1 V1 c1
    split at h1
    · rename_i hz
      exact ⟨by rw [rep.length]; exact hz, fun a na => GP.newTup (S := ⟨F2, e2, σ, H1⟩) (GP.step (S1 := ⟨F2, e2, σ, H1⟩) h1 E2 rfl fun _ _ _ q => q.back E2) R2 na rep⟩
    · exact h1.elim
theorem s_lst {es : List Expr} {ms : List Ex} (ha : PA X es (tSA p (evL T ms))) : PE X (.List es pos) (tSE p (evE T (.lst ms))) := by
  refine PE.imp (pe_lst ha) fun σ H Q ⟨F, env, R, h⟩ => ⟨F, env, R, ?_⟩
  simp only [evE] at h
  refine (GP.bind h).imp fun xs H1 ⟨vs, F1, e1, R1, E1, V1, h1⟩ => ?_
  cases c1 : fzL vs e1 with
  | none => rw [c1] at h1; exact h1.elim
  | some de =>
    obtain ⟨ds, e2⟩ := de
    rw [c1] at h1
    simp only at h1
    obtain ⟨F2, R2, E2, rep, _, _⟩ := fzL_ok (S := ⟨F1, e1, σ, H1⟩) R1 E1 V1 c1
    split at h1
    · rename_i hz
      exact ⟨by rw [rep.length]; exact hz, fun a na => GP.ow (S := ⟨F2, e2, σ, H1⟩) (GP.step (S1 := ⟨F2, e2, σ, H1⟩) h1 E2 rfl fun _ _ _ q => q.back E2) R2 na ⟨_, rfl, rep⟩⟩
    · exact h1.elim
theorem s_dnew {tk : Bool} : PE X (.Dict [] [] pos) (tSE p (evE T (.dnew tk))) := by
  cases tk with
  | true => exact PE.imp pe_dnewT fun σ H Q ⟨F, env, R, h⟩ a na => GP.ow (S := ⟨F, env, σ, H⟩) h R na ⟨[], ⟨[], rfl, rfl⟩, trivial⟩
  | false => exact PE.imp pe_dnewK fun σ H Q ⟨F, env, R, h⟩ a na => GP.ow (S := ⟨F, env, σ, H⟩) h R na ⟨[], ⟨[], rfl, rfl⟩, trivial⟩

/-! ### slices -/
theorem o_none : PO X none (tSO p (evO T none)) := PO.imp po_none fun σ H Q ⟨F, env, R, h⟩ => h none H F R (Ext.refl _) rfl
theorem o_some {a : Ex} (ha : PE X x (tSE p (evE T a))) : PO X (some x) (tSO p (evO T (some a))) := by
  refine PO.imp (po_some ha) fun σ H Q ⟨F, env, R, h⟩ => ⟨F, env, R, ?_⟩
  simp only [evO] at h
  refine (GP.bind h).imp fun v H1 ⟨w, F1, e1, R1, E1, V1, h1⟩ => ?_
  cases c1 : cont w e1 with
  | none => rw [c1] at h1; exact h1.elim
  | some d =>
    rw [c1] at h1
    have rd := cont_rd R1 V1 c1
    cases d <;> first | exact h1.elim | skip
    case int i => exact ⟨i, rd.int, h1 (some i) H1 F1 R1 E1 rfl⟩
theorem s_slc (o : XO c T p X) {a : Ex} {lo hi : Option Ex} {l h : Option Expr} {p2 : Pos} (ha : PE X x (tSE p (evE T a))) (hl : PO X l (tSO p (evO T lo))) (hh : PO X h (tSO p (evO T hi))) :
    PE X (.Subscript x (.Slice l h none p2) pos) (tSE p (evE T (.slc a lo hi))) := by
  refine PE.imp (pe_slice sl_or3 ha hl hh) fun σ H Q ⟨F, env, R, h⟩ => ⟨F, env, R, ?_⟩
  simp only [evE] at h
  refine (GP.bind h).imp fun v H1 ⟨w, F1, e1, R1, E1, V1, h1⟩ => ⟨F1, e1, R1, ?_⟩
  refine (GP.bindS (R := OR) (S1 := ⟨F1, e1, σ, H1⟩) h1 E1 rfl).imp fun l1 H2 ⟨l2, F2, e2, R2, E2, V2, h2⟩ => ⟨F2, e2, R2, ?_⟩
  have E02 : Ext ⟨F, env, σ, H⟩ ⟨F2, e2, σ, H2⟩ := E1.trans E2
  refine (GP.bindS (R := OR) (S1 := ⟨F2, e2, σ, H2⟩) h2 E02 rfl).imp fun l3 H3 ⟨l4, F3, e3, R3, E3, V3, h3⟩ => ?_
  have V2 : l1 = l2 := V2
  have V3 : l3 = l4 := V3
  subst V2 V3
  have V1' := (V1.step (ios := p.ios) E2 rfl).step (ios := p.ios) E3 rfl
  cases c1 : cont w e3 with
  | none => rw [c1] at h3; exact h3.elim
  | some d =>
    rw [c1] at h3
    simp only at h3
    cases c2 : slcD d l1 l3 with
    | none => rw [c2] at h3; exact h3.elim
    | some u =>
      rw [c2] at h3
      rw [← o.K]
      exact slc_ok (S := ⟨F3, e3, σ, H3⟩) R3 (cont_rd R3 V1' c1) c2 (GP.step (S1 := ⟨F3, e3, σ, H3⟩) h3 (E02.trans E3) rfl fun _ _ _ q => q.back (E02.trans E3))
/-- isinstance(x, T) -/
theorem s_isi (o : XO c T p X) {a : Ex} {t : String} {p1 p2 : Pos} (ht : okTy t = true) (h1 : gloB c (so "isinstance") = true) (h2 : gloB c (so t) = true) (h3 : c.bs.contains "isinstance" = true) (h4 : c.bs.contains t = true) (hs : noStar x = true) (ha : PE X x (tSE p (evE T a))) :
    PE X (.Call (.Name (so "isinstance") p1) [x, .Name (so t) p2] [] pos) (tSE p (evE T (.isi a t))) := by
  obtain ⟨k, _, g⟩ := o.g
  have hb : bootBuiltins (so t) = some (.type t) ∧ so t ≠ "__name__" ∧ (so t == ("__debug__" : Str)) = false := by
    unfold okTy at ht
    simp only [Bool.or_eq_true, beq_iff_eq] at ht
    rcases ht with (((rfl | rfl) | rfl) | rfl) | rfl <;> exact ⟨by decide +kernel, by decide, by decide⟩
  have hty : PE X (.Name (so t) p2) (tC (.ty t)) := pe_bltn (o.gl h2) (g.bi t (by simpa using h4)) hb.1 rfl hb.2.1 hb.2.2
  refine PE.imp (pe_callB call_isi (o.gl h1) (g.bi "isinstance" (by simpa using h3)) (by decide +kernel) (pa_cons ha (pa_cons hty pa_nil (star_cons rfl)) (star_cons hs)) (by decide) (by decide) (star_cons hs) (star_plain rfl)) fun σ H Q h => ?_
  refine op1_ok (p := p) (f := fun d => (isiD d t).map fun b => .sh (.bl b)) (r := fun v H1 Q => rIsi X.K [v, .ty t] H1 Q) (fun S v d w Q R rd e q => ?_) σ H Q h
  rw [Option.map_eq_some_iff] at e
  obtain ⟨b, e, rfl⟩ := e
  exact ⟨v, .ty t, .type (tyD d), .type t, b, rfl, .ty t, o.K ▸ ty_rd R rd, kit_ty (isi_kit d t b e), q.bl R⟩

/-! ### calls -/
theorem s_call (o : XO c T p X) {f : String} {ms : List Ex} {es : List Expr} {p1 : Pos} (hg : gloB c (so f) = true) (hn : nameOk (so f) = true) (hf : c.fs.contains (f, ms.length) = true) (hs : (x :: es).all noStar = true) (ha : PA X (x :: es) (tSA p (evL T ms))) :
    PE X (.Call (.Name (so f) p1) (x :: es) [] pos) (tSE p (evE T (.call f ms))) := by
  obtain ⟨k, hr, g⟩ := o.g
  obtain ⟨fa, fd, ps, hl, hm, hk, hb, hF, _⟩ := g.fn (f, ms.length) (by simpa using hf)
  rw [List.all_cons, Bool.and_eq_true] at hs
  refine PE.imp (pe_callSD (E := WE p.W) hF hr (o.gl hg) hm hk hb .nil (fun σ => passAt o.take σ) ha (name_ok hn).1 (star_cons hs.1) (star_plain hs.2)) fun σ H Q ⟨F, env, R, h⟩ => ⟨F, env, R, ?_⟩
  simp only [evE] at h
  refine (GP.bindE h).imp fun xs H1 ⟨vs, F1, e1, ev, R1, E1, V1, h1⟩ => ?_
  rw [List.append_nil]
  show spOf X.K p.cl ms.length (T f) xs H1 Q (WE p.W σ)
  rw [← o.K]
  exact callF_ok (S := ⟨F, env, σ, H⟩) (S1 := ⟨F1, e1, σ, H1⟩) R1 E1 rfl V1 (evL_len ev) h1
theorem k_nil : PK X [] (tSA p fun env => .ok [] env) := ⟨fun po pins s σ H Q I ⟨F, env, R, h⟩ => pk_nil.run po pins s σ H Q I (h [] H F R (Ext.refl _) trivial)⟩
theorem k_cons {kws : List Keyword} {m : En → Rs Vl} {ms : En → Rs (List Vl)} {nm : Option Str} {kp : Pos} (h : PE X x (tSE p m)) (hs : PK X kws (tSA p ms)) : PK X (⟨nm, x, kp⟩ :: kws) (tSA p fun env => (m env).bind fun v e1 => (ms e1).bind fun vs e2 => .ok (v :: vs) e2) := by
  refine ⟨fun po pins s σ H Q I ⟨F, env, R, q⟩ => (pk_cons h hs).run po pins s σ H Q I ?_⟩
  refine ⟨F, env, R, (GP.bind q).imp fun x H1 ⟨v, F1, e1, R1, E1, V1, h1⟩ => ?_⟩
  refine ⟨F1, e1, R1, (GP.bindS (R := VRs p.K) h1 E1 rfl).imp fun ys H2 ⟨w, F2, e2, R2, E2, V2, h2⟩ => ?_⟩
  exact h2 (x :: ys) H2 F2 R2 (E1.trans E2) ⟨V1.step (ios := p.ios) E2 rfl, sep_later V1 V2, V2.back E1⟩
theorem getD_rep {K : PySem.W.Frag} {F : Hp} {vs : List V} {ds : List D} (r : RepL K F vs ds) (i : Nat) : Rep K F (vs.getD i .non) (ds.getD i .non) := by
  rw [List.getD_eq_getElem?_getD, List.getD_eq_getElem?_getD]
  cases q : ds[i]? with
  | some d =>
    obtain ⟨v, h1, h2⟩ := r.get q
    rw [h1]; exact h2
  | none =>
    have : vs[i]? = none := by
      rw [List.getElem?_eq_none_iff] at q ⊢
      rw [r.length]; exact q
    rw [this]
    show Rep K F .non .non
    simp only [Rep]
theorem vrs_sh {K : PySem.W.Frag} {S0 S : Stt} {vs : List V} {ds : List D} (r : RepL K S.F vs ds) : ∀ ord : List Nat, VRs K S0 S (ord.map fun i => vs.getD i .non) (ord.map fun i => .sh (ds.getD i .non))
  | [] => trivial
  | i :: ord => ⟨getD_rep r i, sep_shared _ ord, vrs_sh r ord⟩
where sep_shared (x : V) {d : D} {vs : List V} {ds : List D} : ∀ ord : List Nat, Sep x (.sh d) (ord.map fun i => vs.getD i .non) (ord.map fun i => Vl.sh (ds.getD i .non))
  | [] => trivial
  | _ :: ord => ⟨fun _ _ h _ => (by cases h), sep_shared x ord⟩
theorem kw_all {env : Env} : ∀ {pos : Pos} {kws : List Keyword} {ns : List String}, (kws.map (·.arg)) = ns.map (fun n => some (so n)) →
    (backToKw pos (keywordEach kws env)).all (·.1.isSome) = true ∧ (backToKw pos (keywordEach kws env)).any (·.1.isNone) = false ∧ (backToKw pos (keywordEach kws env)).filterMap (·.1) = ns.map so
  | _, [], ns, h => by
    cases ns with
    | nil => exact ⟨rfl, rfl, rfl⟩
    | cons _ _ => cases h
  | pos, ⟨a, v, kp⟩ :: kws, ns, h => by
    cases ns with
    | nil => cases h
    | cons n ns =>
      simp only [List.map_cons, List.cons.injEq] at h
      obtain ⟨rfl, h⟩ := h
      obtain ⟨h1, h2, h3⟩ := kw_all (env := env) (pos := pos) h
      refine ⟨?_, ?_, ?_⟩
      · show (true && (backToKw pos (keywordEach kws env)).all (·.1.isSome)) = true
        rw [h1]; rfl
      · show (false || (backToKw pos (keywordEach kws env)).any (·.1.isNone)) = false
        rw [h2]; rfl
      · show so n :: (backToKw pos (keywordEach kws env)).filterMap (·.1) = _
        rw [h3]; rfl
theorem evK_len : ∀ {es : List (String × Ex)} {env e : En} {vs : List Vl}, evK T es env = .ok vs e → vs.length = es.length
  | [], env, e, vs, h => by
    simp only [evK] at h; cases h; rfl
  | (_, a) :: es, env, e, vs, h => by
    simp only [evK] at h
    cases c1 : evE T a env with
    | stuck => rw [c1] at h; cases h
    | ex _ _ _ => rw [c1] at h; cases h
    | ok v e1 =>
      rw [c1] at h
      simp only [Rs.bind_ok] at h
      cases c2 : evK T es e1 with
      | stuck => rw [c2] at h; cases h
      | ex _ _ _ => rw [c2] at h; cases h
      | ok ws e2 => rw [c2] at h; cases h; simp [evK_len c2]
theorem vrs_len {K : PySem.W.Frag} {S S1 : Stt} : ∀ {xs : List V} {vs : List Vl}, VRs K S S1 xs vs → xs.length = vs.length
  | [], [], _ => rfl
  | _ :: _, _ :: _, r => by simp [vrs_len r.2.2]
  | [], _ :: _, r => r.elim
  | _ :: _, [], r => r.elim
theorem s_callK (o : XO c T p X) {f : String} {ks : List (String × Ex)} {ord : List Nat} {kws : List Keyword} {p1 : Pos} (hg : gloB c (so f) = true) (hn : nameOk (so f) = true) (hf : c.fs.contains (f, ord.length) = true) (hkw : (f, ks.map (·.1), ord) ∈ c.kw)
    (hk : kws.map (·.arg) = (ks.map (·.1)).map (fun n => some (so n))) (hp : PK X kws (tSA p (evK T ks))) : PE X (.Call (.Name (so f) p1) [] kws pos) (tSE p (evE T (.callK f ks ord))) := by
  obtain ⟨k, hr, g⟩ := o.g
  obtain ⟨fa, fd, ps, hl, hm, hki, hb, hF, hK⟩ := g.fn (f, ord.length) (by simpa using hf)
  have hK := hK (ks.map (·.1)) ord hkw
  refine ⟨fun pins s σ H Q I h => ?_⟩
  obtain ⟨k1, k2, k3⟩ := kw_all (env := X.env) (pos := pos) hk
  refine wpAny_Call_Name_kw (ld_glob I (o.gl hg) hm ?_ (name_ok hn).1)
  refine PySem.W.callWith_KW0 (h₀ := X.base) I.ok.mod.kin hki k1 ?_ (by rw [k2]; rfl)
  obtain ⟨F, env, R, h⟩ := h
  simp only [evE] at h
  have h' : tSA p (evK T ks) σ H fun zs H1 => zs.length = ks.length ∧ spOf p.K p.cl ord.length (T f) (ord.map fun i => zs.getD i .non) H1 Q (WE p.W σ) := by
    refine ⟨F, env, R, (GP.bindE h).imp fun zs H1 ⟨vs, F1, e1, ev, R1, E1, V1, h1⟩ => ⟨(vrs_len V1).trans (evK_len ev), ?_⟩⟩
    cases c1 : fzL vs e1 with
    | none => rw [c1] at h1; exact h1.elim
    | some de =>
      obtain ⟨ds, e2⟩ := de
      rw [c1] at h1
      simp only at h1
      obtain ⟨F2, R2, E2, rep, _, _⟩ := fzL_ok (S := ⟨F1, e1, σ, H1⟩) R1 E1 V1 c1
      exact callF_ok (S := ⟨F, env, σ, H⟩) (S1 := ⟨F2, e2, σ, H1⟩) R2 E2 rfl (vrs_sh (S0 := ⟨F, env, σ, H⟩) (S := ⟨F2, e2, σ, H1⟩) rep ord) (by simp) h1
  refine thn (hp.run pos pins s σ H _ I h') fun ws s2 ⟨zs, H2, I2, rz, hz, q2⟩ => ⟨I2.kIn, ?_⟩
  rw [k3]
  have hw : ws.length = ((ks.map (·.1)).map so).length := by rw [← rz.length, hz]; simp
  refine wpAny_call (codeAny_mono (hF.run X.A X.stack s2 H2 ⟨[] ++ [], ((ks.map (·.1)).map so).zip ws⟩ _ _ Q (WE p.W σ) hr I2.env0 (hK.to s2 [] ws I2.kIn rfl hw) (hK.rel .nil rz) (by rw [← o.K]; exact q2)) fun r s' hq => ?_)
  cases r with
  | error e => exact passAt o.take σ pins H2 s2 e s' I2 hq
  | ok fl =>
    cases fl with
    | ret u => exact I2.after hq
    | next => exact False.elim hq
    | brk => exact False.elim hq
    | cont => exact False.elim hq
end
end Pv

/-! PvS11: sorting, built-in functions, methods, comprehensions as expressions. -/
namespace Pv
open PySem PySem.Spec PyProof.Rows L2
variable [Tb]
/-! ### one sorted order -/
theorem perm_uniq {α : Type} {R : α → α → Prop} (anti : ∀ x y, R x y → R y x → x = y) : ∀ {l m : List α}, l.Perm m → l.Pairwise R → m.Pairwise R → l = m
  | [], m, h, _, _ => h.nil_eq
  | a :: l, m, h, h1, h2 => by
    cases m with
    | nil => exact h.eq_nil
    | cons b m =>
      rw [List.pairwise_cons] at h1 h2
      have ma : a ∈ b :: m := h.mem_iff.mp List.mem_cons_self
      have mb : b ∈ a :: l := h.mem_iff.mpr List.mem_cons_self
      have e : a = b := by
        rcases List.mem_cons.mp ma with e | ma
        · exact e
        · rcases List.mem_cons.mp mb with e | mb
          · exact e.symm
          · exact anti a b (h1.1 b mb) (h2.1 a ma)
      subst e
      rw [perm_uniq anti h.cons_inv h1.2 h2.2]
theorem insB_perm {α : Type} (lt : α → α → Bool) (x : α) : ∀ l : List α, (insB lt x l).Perm (x :: l)
  | [] => List.Perm.refl _
  | y :: r => by
    unfold insB
    split
    · exact ((insB_perm lt x r).cons y).trans (List.Perm.swap x y r)
    · exact List.Perm.refl _
theorem insB_srt {α : Type} {lt : α → α → Bool} (O : SrtO.Swo lt) (x : α) : ∀ l : List α, SrtO.Srtd lt l → SrtO.Srtd lt (insB lt x l)
  | [], _ => List.pairwise_singleton _ _
  | y :: r, h => by
    have h := List.pairwise_cons.mp h
    unfold insB
    split
    · rename_i hc
      refine List.pairwise_cons.mpr ⟨fun z hz => ?_, insB_srt O x r h.2⟩
      rcases List.mem_cons.mp ((insB_perm lt x r).mem_iff.mp hz) with e | hz
      · rw [e]; exact O.asym y x hc
      · exact h.1 z hz
    · rename_i hc
      have hc : lt y x = false := by simpa using hc
      refine List.pairwise_cons.mpr ⟨fun z hz => ?_, List.pairwise_cons.mpr h⟩
      rcases List.mem_cons.mp hz with e | hz
      · rw [e]; exact hc
      · exact O.tr x y z hc (h.1 z hz)
theorem sortB_perm {α : Type} (lt : α → α → Bool) : ∀ l : List α, (sortB lt l).Perm l
  | [] => List.Perm.refl _
  | x :: l => (insB_perm lt x (sortB lt l)).trans ((sortB_perm lt l).cons x)
theorem sortB_srt {α : Type} {lt : α → α → Bool} (O : SrtO.Swo lt) : ∀ l : List α, SrtO.Srtd lt (sortB lt l)
  | [] => List.Pairwise.nil
  | x :: l => insB_srt O x _ (sortB_srt O l)
theorem swoI : SrtO.Swo ltI := ⟨fun x y h => by simp only [ltI, decide_eq_true_eq, decide_eq_false_iff_not] at h ⊢; omega, fun x y z h1 h2 => by simp only [ltI, decide_eq_false_iff_not] at h1 h2 ⊢; omega⟩
theorem ltP2_iff {a b : Int × Int} : ltP2 a b = true ↔ a.1 < b.1 ∨ (a.1 = b.1 ∧ a.2 < b.2) := by
  unfold ltP2
  rw [Bool.or_eq_true, Bool.and_eq_true, decide_eq_true_eq, decide_eq_true_eq, decide_eq_true_eq]
theorem ltP2_no {a b : Int × Int} : ltP2 a b = false ↔ b.1 < a.1 ∨ (a.1 = b.1 ∧ b.2 ≤ a.2) := by
  rw [← Bool.not_eq_true, ltP2_iff]
  omega
theorem swoP2 : SrtO.Swo ltP2 := ⟨fun x y h => by rw [ltP2_iff] at h; rw [ltP2_no]; omega, fun x y z h1 h2 => by rw [ltP2_no] at h1 h2 ⊢; omega⟩
theorem prsD_eq : ∀ {l : List D} {ps : List (Int × Int)}, prsD l = some ps → l = ps.map fun p => .tup [.int p.1, .int p.2]
  | [], ps, h => by simp only [prsD, Option.some.injEq] at h; subst h; rfl
  | d :: l, ps, h => by
    unfold prsD at h
    split at h
    · rename_i e; cases e
    · rename_i i j ds e
      cases e
      rw [Option.map_eq_some_iff] at h
      obtain ⟨ms, h1, rfl⟩ := h
      rw [prsD_eq h1]; rfl
    · cases h
section
variable {p : Pm}
/-- the pair at a reference -/
def kOf (F : Hp) : V → Int × Int
  | .ref t => match F t with
    | some (.tup [.int i, .int j]) => (i, j)
    | _ => (0, 0)
  | _ => (0, 0)
theorem pair_at {K : PySem.W.Frag} {F : Hp} {v : V} {q : Int × Int} (r : Rep K F v (.tup [.int q.1, .int q.2])) : kOf F v = q ∧ ∃ t, v = .ref t ∧ F t = some (.tup [.int q.1, .int q.2]) := by
  simp only [Rep] at r
  obtain ⟨t, vs, rfl, h1, h2⟩ := r
  have e : vs = [.int q.1, .int q.2] := ints_rep (ns := [q.1, q.2]) h2
  subst e
  refine ⟨?_, t, rfl, h1⟩
  unfold kOf
  simp only [h1]
theorem pairs_at {K : PySem.W.Frag} {F : Hp} : ∀ {vs : List V} {ps : List (Int × Int)}, RepL K F vs (ps.map fun p => .tup [.int p.1, .int p.2]) → vs.map (kOf F) = ps ∧ ∀ v ∈ vs, ∃ t, v = .ref t ∧ F t = some (.tup [.int (kOf F v).1, .int (kOf F v).2])
  | [], [], _ => ⟨rfl, fun _ h => by cases h⟩
  | v :: vs, q :: ps, r => by
    obtain ⟨h1, h2⟩ := pairs_at r.2
    obtain ⟨k1, k2⟩ := pair_at r.1
    refine ⟨by rw [List.map_cons, h1, k1], fun u hu => ?_⟩
    rcases List.mem_cons.mp hu with rfl | hu
    · rw [k1]; exact k2
    · exact h2 u hu
  | [], _ :: _, r => r.elim
  | _ :: _, [], r => r.elim
theorem repL_at {K : PySem.W.Frag} {F : Hp} {g : V → D} : ∀ {ys : List V}, (∀ y ∈ ys, Rep K F y (g y)) → RepL K F ys (ys.map g)
  | [], _ => trivial
  | y :: ys, h => ⟨h y List.mem_cons_self, repL_at fun z hz => h z (List.mem_cons_of_mem _ hz)⟩
theorem ints_repL {K : PySem.W.Frag} {F : Hp} : ∀ ns : List Int, RepL K F (ns.map V.int) (ns.map D.int)
  | [] => trivial
  | n :: ns => ⟨by simp only [Rep], ints_repL ns⟩
theorem bi_sorted : BiOk p .sorted (fun xs H Q => rSortedI p.K xs H Q ∨ rSortedPO p.K xs H Q) := by
  intro S xs ds v Q R r e q
  obtain ⟨l, rfl⟩ := lst_one (fun ds h => by
    match ds with
    | [] => rfl
    | [d] => cases d <;> first | rfl | exact absurd rfl (h _)
    | d :: d2 :: _ => cases d <;> rfl) e
  obtain ⟨x, rfl, rx⟩ := r.one
  have e : (sortD l).map (fun r => Vl.ow (.lst r)) = some v := e
  rw [Option.map_eq_some_iff] at e
  obtain ⟨r, h1, rfl⟩ := e
  obtain ⟨a, vs, rfl, ha, ra⟩ := rx.lst R
  unfold sortD at h1
  cases c : intsD l with
  | some ns =>
    rw [c] at h1
    cases h1
    rw [intsD_eq c] at ra
    rw [ints_rep ra] at ha
    refine .inl ⟨a, ns, rfl, SqL.of ha, fun ns' pp pe pw np => q.ow R np ⟨_, rfl, ?_⟩⟩
    have : ns' = sortB ltI ns := perm_uniq (R := (· ≤ ·)) (fun x y h1 h2 => Int.le_antisymm h1 h2) (pe.trans (sortB_perm ltI ns).symm) pw ((sortB_srt swoI ns).imp fun {a b} h => by
      simp only [ltI, decide_eq_false_iff_not] at h; omega)
    rw [this]
    exact ints_repL _
  | none =>
    rw [c] at h1
    simp only at h1
    cases c2 : prsD l with
    | none => rw [c2] at h1; cases h1
    | some ps =>
      rw [c2] at h1
      cases h1
      rw [prsD_eq c2] at ra
      obtain ⟨k1, k2⟩ := pairs_at ra
      refine .inr ⟨a, vs, kOf S.F, rfl, SqL.of ha, fun x hx => ?_, fun ys pp h1 h2 np => q.ow R np ⟨_, rfl, ?_⟩⟩
      · obtain ⟨t, e1, e2⟩ := k2 x hx
        exact ⟨t, e1, R.sub _ _ e2⟩
      · have e1 : ys.map (kOf S.F) = sortB ltP2 ps := by
          refine perm_uniq (R := fun a b => ltP2 b a = false) (fun x y h1 h2 => ?_) ?_ ?_ (sortB_srt swoP2 ps)
          · rw [ltP2_no] at h1 h2
            exact Prod.ext (by omega) (by omega)
          · rw [← k1]
            exact (h2.perm.map _).trans (by rw [k1]; exact (sortB_perm ltP2 ps).symm)
          · rw [List.pairwise_map]
            exact h1.imp fun {a b} h => by
              rw [ltP2_no]
              have := SrtO.lexB_no.mp h
              omega
        rw [← e1, List.map_map]
        refine repL_at fun y hy => ?_
        obtain ⟨t, e1, e2⟩ := k2 y (h2.perm.mem_iff.mp hy)
        show Rep p.K S.F y (.tup [.int (kOf S.F y).1, .int (kOf S.F y).2])
        rw [e1] at e2 ⊢
        simp only [Rep]
        exact ⟨t, _, rfl, e2, ints_repL [(kOf S.F (.ref t)).1, (kOf S.F (.ref t)).2]⟩
end
section
variable {c : Cn} {T : String → Fn} {p : Pm} {X : Cx} {x y z : Expr} {pos : Pos}
/-! ### built-in functions -/
theorem s_biOf (o : XO c T p X) {f : Bi} {r : List V → Hp → VK → Prop} {ms : List Ex} {es : List Expr} {p1 : Pos} {id : String} (hr : BiOk p f r) (hc : CallR X (.builtin id) r) (hg : gloB c (so (biName f)) = true) (hb : c.bs.contains (biName f) = true) (hs : (x :: es).all noStar = true)
    (hv : bootBuiltins (so (biName f)) = some (.builtin id)) (hn : so (biName f) ≠ "__name__") (hd : (so (biName f) == ("__debug__" : Str)) = false) (ha : PA X (x :: es) (tSA p (evL T ms))) : PE X (.Call (.Name (so (biName f)) p1) (x :: es) [] pos) (tSE p (evE T (.bi f ms))) := by
  obtain ⟨k, _, g⟩ := o.g
  rw [List.all_cons, Bool.and_eq_true] at hs
  exact PE.imp (pe_callB hc (o.gl hg) (g.bi _ (by simpa using hb)) hv ha hn hd (star_cons hs.1) (star_plain hs.2)) (bi_ok hr)
theorem s_biTy (o : XO c T p X) {f : Bi} {r : List V → Hp → VK → Prop} {ms : List Ex} {es : List Expr} {p1 : Pos} {id : String} (hr : BiOk p f r) (hc : CallR X (.type id) r) (hg : gloB c (so (biName f)) = true) (hb : c.bs.contains (biName f) = true) (hs : (x :: es).all noStar = true)
    (hv : bootBuiltins (so (biName f)) = some (.type id)) (hn : so (biName f) ≠ "__name__") (hd : (so (biName f) == ("__debug__" : Str)) = false) (ha : PA X (x :: es) (tSA p (evL T ms))) : PE X (.Call (.Name (so (biName f)) p1) (x :: es) [] pos) (tSE p (evE T (.bi f ms))) := by
  obtain ⟨k, _, g⟩ := o.g
  rw [List.all_cons, Bool.and_eq_true] at hs
  exact PE.imp (pe_callTy hc (o.gl hg) (g.bi _ (by simpa using hb)) hv ha hn hd (star_cons hs.1) (star_plain hs.2)) (bi_ok hr)
theorem CallR.or2 {f : Value} {r r' : List V → Hp → VK → Prop} (h : CallR X f r) (h' : CallR X f r') : CallR X f (fun xs H Q => r xs H Q ∨ r' xs H Q) := by
  intro pins s σ H xs us Q I rv q
  rcases q with q | q
  · exact h pins s σ H xs us Q I rv q
  · exact h' pins s σ H xs us Q I rv q
theorem s_bi (o : XO c T p X) {f : Bi} {ms : List Ex} {es : List Expr} {p1 : Pos} (hg : gloB c (so (biName f)) = true) (hb : c.bs.contains (biName f) = true) (hs : (x :: es).all noStar = true) (ha : PA X (x :: es) (tSA p (evL T ms))) :
    PE X (.Call (.Name (so (biName f)) p1) (x :: es) [] pos) (tSE p (evE T (.bi f ms))) := by
  have hK := o.K
  cases f
  case len => exact s_biOf o bi_len (by rw [hK]; exact call_len) hg hb hs (by decide +kernel) (by decide) (by decide) ha
  case int => exact s_biTy o bi_int (CallR.or2 call_int1 call_int_str) hg hb hs (by decide +kernel) (by decide) (by decide) ha
  case str => exact s_biTy o bi_str (CallR.or2 call_str_int SkE.call_str_str) hg hb hs (by decide +kernel) (by decide) (by decide) ha
  case abs => exact s_biOf o bi_abs call_abs hg hb hs (by decide +kernel) (by decide) (by decide) ha
  case min => exact s_biOf o bi_min (call_min2 o.calm) hg hb hs (by decide +kernel) (by decide) (by decide) ha
  case max => exact s_biOf o bi_max (call_max2 o.calm) hg hb hs (by decide +kernel) (by decide) (by decide) ha
  case sum => exact s_biOf o bi_sum (by rw [hK]; exact cr_sum o.calm) hg hb hs (by decide +kernel) (by decide) (by decide) ha
  case all => exact s_biOf o bi_all (by rw [hK]; exact cr_all o.calm) hg hb hs (by decide +kernel) (by decide) (by decide) ha
  case any => exact s_biOf o bi_any (by rw [hK]; exact cr_any o.calm) hg hb hs (by decide +kernel) (by decide) (by decide) ha
  case tuple => exact s_biTy o bi_tuple (CallR.or2 (by rw [hK]; exact call_tuple_of) (call_tupleS o.calm)) hg hb hs (by decide +kernel) (by decide) (by decide) ha
  case list => exact s_biTy o bi_list (by rw [hK]; exact call_list_of) hg hb hs (by decide +kernel) (by decide) (by decide) ha
  case sorted => exact s_biOf o bi_sorted (CallR.or2 (by rw [hK]; exact cr_sortedI) (by rw [hK]; exact cr_sortedPO)) hg hb hs (by decide +kernel) (by decide) (by decide) ha
  case divmod => exact s_biOf o bi_divmod call_divmodW hg hb hs (by decide +kernel) (by decide) (by decide) ha

/-! ### methods of texts -/
theorem star_all {env : Env} {pos : Pos} : ∀ {es : List Expr}, es.all noStar = true → (backTo pos (starEach es env)).all (fun x => !x.1) = true
  | [], _ => rfl
  | e :: es, h => by
    rw [List.all_cons, Bool.and_eq_true] at h
    rw [star_cons h.1]
    show (true && (backTo pos (starEach es env)).all (fun x => !x.1)) = true
    rw [star_all h.2]; rfl
theorem str_ty {S0 S : Stt} {u : V} {v : Vl} (R : ER p.K p.ios S) (V1 : VR p.K S0 S u v) (h : strV v S.env = true) : tyV p.K "str" u S.H := by
  unfold strV at h
  cases c1 : cont v S.env with
  | none => rw [c1] at h; cases h
  | some d =>
    rw [c1] at h
    cases d <;> first | (cases h; done) | skip
    case str l =>
      obtain ⟨rfl, _⟩ := (cont_rd R V1 c1).str
      rfl
/-- a method's reading by parts -/
theorem met_key {m : Mt} {r : V → List V → Hp → VK → Prop} (hr : MtOk p m r "str") {mo : En → Rs Vl} {ms : En → Rs (List Vl)} (σ : L2.St) (H : Hp) (Q : VK) (h : tSE p (metF m mo ms) σ H Q) : tBM p.K "str" r (tSE p mo) (tSA p ms) σ H Q := by
  obtain ⟨F, env, R, h⟩ := h
  refine ⟨F, env, R, (GP.bind h).imp fun u H1 ⟨v, F1, e1, R1, E1, V1, h1⟩ => ?_⟩
  cases hc : strV v e1 with
  | false => rw [hc] at h1; exact h1.elim
  | true =>
    rw [hc] at h1
    refine ⟨str_ty R1 V1 hc, F1, e1, R1, (GP.bindS (R := VRs p.K) h1 E1 rfl).imp fun us H2 ⟨ws, F2, e2, R2, E2, V2, h2⟩ => ?_⟩
    have V1' := V1.step (ios := p.ios) E2 rfl
    cases c1 : cont v e2 with
    | none => rw [c1] at h2; exact h2.elim
    | some d =>
      cases c2 : contL ws e2 with
      | none => rw [c1, c2] at h2; exact h2.elim
      | some ds =>
        rw [c1, c2] at h2
        simp only at h2
        cases c3 : metD m d ds with
        | none => rw [c3] at h2; exact h2.elim
        | some w =>
          rw [c3] at h2
          exact hr ⟨F2, e2, σ, H2⟩ u us d ds w Q R2 (cont_rd R2 V1' c1) (contL_rd R2 V2 c2) c3 (GP.step (S := ⟨F, env, σ, H⟩) (S1 := ⟨F2, e2, σ, H2⟩) h2 (E1.trans E2) rfl fun _ _ _ q => q.back (E1.trans E2))
theorem s_metOf (o : XO c T p X) {m : Mt} {r : V → List V → Hp → VK → Prop} {a : Ex} {ms : List Ex} {e : Expr} {es : List Expr} {p1 : Pos} {id : String} (hr : MtOk p m r "str") (slot : Slot "str" (so (mtName m)) id) (hty : typeOf (.builtin id) = pure (.type "method_descriptor")) (hm : MtR X id r)
    (ho : PE X x (tSE p (evE T a))) (h0 : noCall0 x = true) (hline : (p1.endLine == pos.line) = true) (hlen : (e :: es).length < 29) (hs : (e :: es).all noStar = true) (ha : PA X (e :: es) (tSA p (evL T ms))) :
    PE X (.Call (.Attribute x (so (mtName m)) p1) (e :: es) [] pos) (tSE p (evE T (.met m a ms))) := by
  have hs1 := hs
  rw [List.all_cons, Bool.and_eq_true] at hs
  refine PE.imp (pe_bm PySem.F.plainAttrs_str slot hty hm ho ha (attr_base h0) ?_ hline (star_cons hs.1) (star_plain hs.2)) fun σ H Q h => ?_
  · rw [star_all hs1]
    show (true && true && decide ((e :: es).length + 0 + 0 < 30)) = true
    rw [decide_eq_true (by omega)]; rfl
  · rw [← o.K]
    exact met_key hr σ H Q h
theorem s_met (o : XO c T p X) {m : Mt} {a : Ex} {ms : List Ex} {e : Expr} {es : List Expr} {p1 : Pos} (hm : (m != .replace) = true) (hm2 : (m != .upper) = true)
    (ho : PE X x (tSE p (evE T a))) (h0 : noCall0 x = true) (hline : (p1.endLine == pos.line) = true) (hlen : (e :: es).length < 29) (hs : (e :: es).all noStar = true) (ha : PA X (e :: es) (tSA p (evL T ms))) :
    PE X (.Call (.Attribute x (so (mtName m)) p1) (e :: es) [] pos) (tSE p (evE T (.met m a ms))) := by
  have hK := o.K
  cases m
  case count => exact s_metOf o mt_count1 PySem.F.slot_str_count PySem.F.type_str_count mt_count ho h0 hline hlen hs ha
  case replace => cases hm
  case upper => cases hm2
  case join => exact s_metOf o mt_join1 PySem.F.slot_str_join PySem.F.type_str_join (by rw [hK]; exact mt_join) ho h0 hline hlen hs ha
  case split => exact s_metOf o mt_split1 PySem.F.slot_str_split PySem.F.type_str_split mt_split ho h0 hline hlen hs ha
  case index => exact s_metOf o mt_index1 PySem.F.slot_str_index PySem.F.type_str_index mt_sindex ho h0 hline hlen hs ha
theorem s_upper (o : XO c T p X) {a : Ex} {p1 : Pos} (ho : PE X x (tSE p (evE T a))) (h0 : noCall0 x = true) (hline : (p1.endLine == pos.line) = true) :
    PE X (.Call (.Attribute x (so "upper") p1) [] [] pos) (tSE p (evE T (.met .upper a []))) := by
  refine PE.imp (pe_bm0 PySem.F.plainAttrs_str PySem.F.slot_str_upper PySem.F.type_str_upper mt_upper ho (attr_base h0) hline) fun σ H Q h => ?_
  rw [← o.K]
  obtain ⟨F, env, R, h⟩ := met_key (ms := fun env => .ok [] env) mt_upper1 σ H Q (by
    obtain ⟨F, env, R, h⟩ := h
    refine ⟨F, env, R, ?_⟩
    simp only [evE, evL] at h
    exact h)
  refine ⟨F, env, R, h.imp fun u H1 ⟨h1, F1, e1, R1, h2⟩ => ⟨h1, ?_⟩⟩
  exact h2 [] H1 F1 R1 (Ext.refl _) trivial

/-! ### pop -/
theorem lst_slot {S : Stt} {i : Nat} {l : List D} {io : Bool} (R : ER p.K p.ios S) (h : lstS S.env[i]? = some (l, io)) : ∃ a vs, S.σ[i]? = some (some (.ref a)) ∧ S.H a = some (.lst vs) ∧ RepL p.K S.F vs l ∧ OwnAt S i a ∧
    ((∃ d0, S.env[i]? = some (.ow d0) ∧ io = false) ∨ (∃ d0, S.env[i]? = some (.io d0) ∧ io = true)) := by
  cases q : S.env[i]? with
  | none => rw [q] at h; cases h
  | some s =>
    rw [q] at h
    cases s <;> first | (cases h; done) | skip
    case ow d =>
      cases d <;> first | (cases h; done) | skip
      case lst l' =>
        cases (show some (l', false) = some (l, io) from h)
        obtain ⟨a, ho, h1, h2, ⟨vs, rfl, h3⟩, h4⟩ := R.sl i _ q
        exact ⟨a, vs, h1, h2, h3, ⟨⟨_, .inl q⟩, h1⟩, .inl ⟨_, rfl, rfl⟩⟩
    case io d =>
      cases d <;> first | (cases h; done) | skip
      case lst l' =>
        cases (show some (l', true) = some (l, io) from h)
        obtain ⟨a, ho, h1, h0, h2, ⟨vs, rfl, h3⟩, h4⟩ := R.sl i _ q
        exact ⟨a, vs, h1, h2, h3, ⟨⟨_, .inr q⟩, h1⟩, .inr ⟨_, rfl, rfl⟩⟩
/-- a list in a slot is written -/
theorem lst_put {S : Stt} {i : Nat} {l m : List D} {io : Bool} {a : Addr} {ws : List V} (R : ER p.K p.ios S) (o : OwnAt S i a) (hs : (∃ d0, S.env[i]? = some (.ow d0) ∧ io = false) ∨ (∃ d0, S.env[i]? = some (.io d0) ∧ io = true)) (r : RepL p.K S.F ws m) :
    ER p.K p.ios ⟨S.F, S.env.set i (if io then .io (.lst m) else .ow (.lst m)), S.σ, upd S.H a (.lst ws)⟩ ∧ Ext S ⟨S.F, S.env.set i (if io then .io (.lst m) else .ow (.lst m)), S.σ, upd S.H a (.lst ws)⟩ := by
  refine ⟨R.write (ho := .lst ws) (d := .lst m) o ⟨ws, rfl, r⟩ _ ?_, Ext.write o⟩
  rcases hs with ⟨d0, e, rfl⟩ | ⟨d0, e, rfl⟩
  · exact .inl ⟨d0, e, rfl⟩
  · exact .inr ⟨d0, e, rfl⟩
theorem s_pop (o : XO c T p X) {i : Nat} {n : Str} {p1 p2 : Pos} (h1 : c.N[i]? = some n) (h2 : visB c n = true) (h3 : nameOk n = true) (hline : (p1.endLine == pos.line) = true) :
    PE X (.Call (.Attribute (.Name n p2) (so "pop") p1) [] [] pos) (tSE p (evE T (.pop i none))) := by
  obtain ⟨n1, n2, _⟩ := name_ok h3
  refine PE.imp (pe_bm0 PySem.F.plainAttrs_list PySem.F.slot_list_pop PySem.F.type_list_pop mt_pop (pe_var (i := i) (by rw [o.N]; exact h1) (by rw [o.sc]; exact vis_of h2) n1 n2) rfl hline) fun σ H Q ⟨F, env, R, h⟩ => ?_
  simp only [evE] at h
  cases c1 : lstS env[i]? with
  | none => rw [c1] at h; exact h.elim
  | some lo =>
    obtain ⟨l, io⟩ := lo
    rw [c1] at h
    simp only at h
    obtain ⟨a, vs, q1, q2, q3, q4, q5⟩ := lst_slot (S := ⟨F, env, σ, H⟩) R c1
    cases c2 : l.getLast? with
    | none => rw [c2] at h; exact h.elim
    | some d =>
      rw [c2] at h
      rw [List.getLast?_eq_getElem?] at c2
      obtain ⟨y, y1, y2⟩ := q3.get c2
      obtain ⟨w1, w2⟩ := lst_put (S := ⟨F, env, σ, H⟩) (l := l) R q4 q5 q3.dropLast
      refine ⟨.ref a, q1, by rw [← o.K]; exact .inl ⟨rfl, vs, SqL.of q2⟩, a, vs, y, rfl, rfl, q2, by rw [q3.length]; exact y1, ?_⟩
      exact h y _ F w1 w2 y2
theorem s_popAt (o : XO c T p X) {i : Nat} {n : Str} {e : Ex} {p1 p2 : Pos} (h1 : c.N[i]? = some n) (h2 : visB c n = true) (h3 : nameOk n = true) (hline : (p1.endLine == pos.line) = true) (hs : noStar x = true) (ha : PE X x (tSE p (evE T e))) :
    PE X (.Call (.Attribute (.Name n p2) (so "pop") p1) [x] [] pos) (tSE p (evE T (.pop i (some e)))) := by
  obtain ⟨n1, n2, _⟩ := name_ok h3
  refine PE.imp (pe_bm PySem.F.plainAttrs_list PySem.F.slot_list_pop PySem.F.type_list_pop mt_popAt (pe_var (i := i) (by rw [o.N]; exact h1) (by rw [o.sc]; exact vis_of h2) n1 n2) (pa_cons ha pa_nil (star_cons hs)) rfl ?_ hline (star_cons hs) (star_plain rfl)) fun σ H Q ⟨F, env, R, h⟩ => ?_
  · rw [star_all (by rw [List.all_cons, hs]; rfl)]; rfl
  simp only [evE] at h
  cases c1 : lstS env[i]? with
  | none => rw [c1] at h; exact h.elim
  | some lo =>
    obtain ⟨l0, io0⟩ := lo
    rw [c1] at h
    simp only at h
    obtain ⟨a, vs, q1, q2, _⟩ := lst_slot (S := ⟨F, env, σ, H⟩) R c1
    refine ⟨.ref a, q1, by rw [← o.K]; exact .inl ⟨rfl, vs, SqL.of q2⟩, F, env, R, (GP.bind h).imp fun u H1 ⟨v, F1, e1, R1, E1, V1, h1⟩ => ?_⟩
    cases c2 : lstS e1[i]? with
    | none => rw [c2] at h1; exact h1.elim
    | some lo =>
      obtain ⟨l, io⟩ := lo
      cases c3 : cont v e1 with
      | none => rw [c2, c3] at h1; exact h1.elim
      | some d =>
        rw [c2, c3] at h1
        cases d <;> first | exact h1.elim | skip
        case int k =>
          simp only at h1
          obtain ⟨a', vs', k1, k2, k3, k4, k5⟩ := lst_slot (S := ⟨F1, e1, σ, H1⟩) R1 c2
          have ea : a' = a := by
            have k1 : σ[i]? = some (some (.ref a')) := k1
            have q1 : σ[i]? = some (some (.ref a)) := q1
            rw [q1] at k1; cases k1; rfl
          subst ea
          split at h1
          · rename_i hk
            cases c4 : ixN l.length k with
            | none => rw [c4] at h1; exact h1.elim
            | some j =>
              rw [c4] at h1
              simp only at h1
              cases c5 : l[j]? with
              | none => rw [c5] at h1; exact h1.elim
              | some d =>
                rw [c5] at h1
                obtain ⟨y, y1, y2⟩ := k3.get c5
                obtain ⟨w1, w2⟩ := lst_put (S := ⟨F1, e1, σ, H1⟩) (l := l) R1 k4 k5 (k3.eraseIdx j)
                refine ⟨a', vs', k, j, y, rfl, by rw [(cont_rd R1 V1 c3).int], k2, by have := inB_iff.mp hk; omega, by have := inB_iff.mp hk; omega, by rw [k3.length]; exact (ixN_seq c4).1, y1, ?_⟩
                exact h1 y _ F1 w1 (E1.trans w2) y2
          · exact h1.elim

/-! ### comprehensions -/
/-- the parameters inside: nothing may be raised -/
def Pm.calm (p : Pm) : Pm := { p with W := fun _ _ _ _ => False }
theorem ts_one (e : Ex) : evT T [e] = tru1 T e := by
  funext env
  simp only [evT, tru1]
  congr 1
  funext v e1
  cases truV v e1 with
  | none => rfl
  | some b => cases b <;> rfl
theorem xo_blk (o : XO c T p X) (s : Shared) (H : Hp) (C : Addr) (cl : List (Str × Addr)) (fp : List Addr) (scope : Scope) (huq : ∀ y ∈ scope.names, scope.names.lookup y.1 = some y.2) :
    XO (c.blk scope) T p.calm (X.blk s H scope (compEnvC scope cl C X.env) fp) where
  N := o.N
  nd := o.nd
  sc := by show relabel scope X.env = relS scope c.sc; rw [← o.sc]; rfl
  calm := o.calm
  g := by
    obtain ⟨k, r, g⟩ := o.g
    exact ⟨k, r, ⟨g.glo, g.fn, g.bi, g.xc, g.he⟩⟩
  pass := PassesOwn.never
  take := fun _ _ ⟨_, _, _, _, _, _, _, _, _, _, _, _, _, _, _, _, w⟩ => w.elim
  K := o.K
  fnl := fun x hx => by
    obtain ⟨y, hy, rfl⟩ := List.mem_map.mp hx
    rw [List.mem_filter] at hy
    show (scope.names.lookup y.1 == some .cell) = true
    rw [huq y hy.1, beq_iff_eq.mp hy.2]; rfl
  lam := fun h => by cases h
theorem own_slots {own : List Nat} {N : List Str} : ((own.map fun j => (N.getD j ⟨#[]⟩, j)).map (·.2)) = own := by
  rw [List.map_map]
  exact List.map_id own
theorem slots_in {ss own : List Nat} (h : ss.all own.contains = true) : ∀ j ∈ ss, j ∈ own := fun j hj => by
  have := List.all_eq_true.mp h j hj
  simpa using this
theorem lc_end {S : Stt} {own : List Nat} {r : List D} {e2 : En} {F' : Hp} {H' : Hp} {L : Addr} {Q : VK} {S0 : Stt} (R : ER p.K p.ios S) (E0 : Ext S0 S) (hs : S.σ = S0.σ) (hn : S.H L = none) (hz : r.length ≤ sizeLine)
    (h : GP p (VR p.K) S0 (if r.length ≤ sizeLine then .ok (.ow (.lst r)) (backE S.env e2 own) else .stuck) Q) (hL : Lst p L ⟨F', e2, wipe S.σ own, H'⟩ r) (E : Ext (wipeS S own) ⟨F', e2, wipe S.σ own, H'⟩) : Q (.ref L) H' := by
  rw [if_pos hz] at h
  obtain ⟨R2, E2⟩ := er_back R hL.er E
  refine h (.ref L) H' F' (hs ▸ R2) (hs ▸ E0.trans E2) ?_
  obtain ⟨vs, v1, v2⟩ := hL.at_
  have noL : ¬ Own ⟨F', backE S.env e2 own, S.σ, H'⟩ L := fun q => by
    rcases E2.onew L q with z | z
    · obtain ⟨_, ho, y, _⟩ := R.own_free z
      rw [hn] at y; cases y
    · -- a slot outside own would own L
      obtain ⟨j, ⟨d, e⟩, e3⟩ := q
      have e3 : S.σ[j]? = some (some (.ref L)) := e3
      by_cases hj : j ∈ own
      · have hlen : e2.length = S.env.length := by
          have := hL.er.len
          simp only at this
          rw [wipe_length] at this
          rw [this, R.len]
        have e : (backE S.env e2 own)[j]? = some (.ow d) ∨ (backE S.env e2 own)[j]? = some (.io d) := e
        rw [backE_in hlen hj] at e
        obtain ⟨_, ho, y, _⟩ := R.own_free ⟨j, ⟨d, e⟩, e3⟩
        rw [hn] at y; cases y
      · have e : (backE S.env e2 own)[j]? = some (.ow d) ∨ (backE S.env e2 own)[j]? = some (.io d) := e
        rw [backE_no hj] at e
        refine hL.no ⟨j, ⟨d, e⟩, ?_⟩
        show (wipe S.σ own)[j]? = _
        rw [wipe_no hj]; exact e3
  refine ⟨L, .lst vs, rfl, v1, ⟨vs, rfl, v2⟩, hL.nf, fun q => noL ((Own.of (S := ⟨F', backE S.env e2 own, S.σ, H'⟩) (S' := ⟨F', backE S.env e2 own, S0.σ, H'⟩) rfl hs.symm).mp q), ?_⟩
  exact (E0.there (fr0_none hn)).symm
/-- a new list at L, the slots own forgotten -/
theorem lc_start {S : Stt} {own : List Nat} {L : Addr} (R : ER p.K p.ios S) (hn : S.H L = none) : Lst p.calm L ⟨S.F, wipeE S.env own, wipe S.σ own, upd S.H L (.lst [])⟩ [] := by
  have R2 := (er_wipe R own).laid (p := L) (o := .lst []) hn
  have no := (er_wipe R own).free (p := L) hn
  exact ⟨R2, ⟨[], upd_same, trivial⟩, no.1, fun q => no.2 ((Own.of (S := wipeS S own) (S' := ⟨S.F, wipeE S.env own, wipe S.σ own, upd S.H L (.lst [])⟩) rfl rfl).mp q)⟩
theorem hole_start {S : Stt} {own : List Nat} {L : Addr} (hn : S.H L = none) : hole L ⟨S.F, wipeE S.env own, wipe S.σ own, upd S.H L (.lst [])⟩ = wipeS S own := by
  unfold hole wipeS
  congr 1
  funext b
  by_cases hb : b = L
  · rw [if_pos hb, hb]; exact hn.symm
  · rw [if_neg hb]
    show upd S.H L _ b = _
    rw [upd_ne hb]
theorem lc_key {own : List Nat} {el it : Ex} {pt : Pt} {ifs : List Ex} (hsl : (slPt pt).all own.contains = true) (σ : L2.St) (H : Hp) (Q : VK) (h : tSE p (evE T (.lc own el pt it ifs)) σ H Q) :
    tLc (tSI p (evI T it)) (tSG p.calm pt) (tST p.calm (evT T ifs)) (tSE p.calm (evE T el)) own σ H Q := by
  obtain ⟨F, env, R, h⟩ := h
  simp only [evE] at h
  refine ⟨F, env, R, (GP.bind h).imp fun J H1 ⟨ds, F1, e1, R1, E1, hJ, h1⟩ => ?_⟩
  intro L hL
  cases c1 : lcLoop own (evE T el) (evT T ifs) pt ds [] (wipeE e1 own) with
  | stuck => rw [c1] at h1; exact h1.elim
  | ex _ _ _ => rw [c1] at h1; exact h1.elim
  | ok r e2 =>
    rw [c1] at h1
    simp only at h1
    have hz : r.length ≤ sizeLine := by
      by_cases hz : r.length ≤ sizeLine
      · exact hz
      · rw [if_neg hz] at h1; exact h1.elim
    refine lc_loop (p := p.calm) (S1 := ⟨F1, wipeE e1 own, wipe σ own, upd H1 L (.lst [])⟩) (lc_start (S := ⟨F1, e1, σ, H1⟩) R1 hL) (wipe_two fun _ h => h) hJ c1 hz (slots_in hsl) fun F' H' q1 q2 => ?_
    rw [hole_start (S := ⟨F1, e1, σ, H1⟩) hL] at q2
    exact lc_end (p := p) (S := ⟨F1, e1, σ, H1⟩) (S0 := ⟨F, env, σ, H⟩) R1 E1 rfl hL hz h1 ⟨q1.er, q1.at_, q1.nf, q1.no⟩ q2
theorem s_lc (o : XO c T p X) {own : List Nat} {el it : Ex} {pt : Pt} {ifs : List Ex} {elt tg iter : Expr} {fs : List Expr} {scope : Scope} (hb : blkC c.N c.sc scope (own.map fun j => (c.N.getD j ⟨#[]⟩, j)) = true) (hi : PI X tg iter (tSI p (evI T it))) (hs : noSet iter = true)
    (hpt : ckPt (c.blk scope) pt tg = true) (hsl : (slPt pt).all own.contains = true)
    (he : ∀ X', XO (c.blk scope) T p.calm X' → PE X' elt (tSE p.calm (evE T el))) (hf : ∀ X', XO (c.blk scope) T p.calm X' → PTs X' fs (tST p.calm (evT T ifs))) :
    PE X (.ListComp elt [⟨tg, iter, fs, 0⟩] scope pos) (tSE p (evE T (.lc own el pt it ifs))) := by
  have ok := blkOk_by hb
  refine PE.imp (pe_lc (g := tSG p.calm pt) (tt := tST p.calm (evT T ifs)) (te := tSE p.calm (evE T el)) o.calm (by rw [o.N]; exact o.nd) hi (by rw [o.N, o.sc]; exact ok) (fun s H C cl fp => pg_ok (xo_blk o s H C cl fp scope ok.uniq) pt tg hpt) (fun s H C cl fp => hf _ (xo_blk o s H C cl fp scope ok.uniq)) (fun s H C cl fp => he _ (xo_blk o s H C cl fp scope ok.uniq)) (folded_plain hs)) fun σ H Q h => ?_
  rw [own_slots]
  exact lc_key hsl σ H Q h
/-- name = [..], the name stored ahead of the end of the comprehension -/
theorem st_lc (o : XO c T p X) {j : Nat} {n : Str} {py spos : Pos} {own : List Nat} {el it : Ex} {pt : Pt} {ifs : List Ex} {elt tg iter : Expr} {fs : List Expr} {scope : Scope} (hn : c.N[j]? = some n) (hl : c.sc.names.lookup n = some .local)
    (hsw : swapsWith (.ListComp elt [⟨tg, iter, fs, 0⟩] scope pos) (some (.Name n py)) spos.line X.env = pure true) (hb : blkC c.N c.sc scope (own.map fun j => (c.N.getD j ⟨#[]⟩, j)) = true) (hi : PI X tg iter (tSI p (evI T it))) (hs : noSet iter = true)
    (hpt : ckPt (c.blk scope) pt tg = true) (hsl : (slPt pt).all own.contains = true)
    (he : ∀ X', XO (c.blk scope) T p.calm X' → PE X' elt (tSE p.calm (evE T el))) (hf : ∀ X', XO (c.blk scope) T p.calm X' → PTs X' fs (tST p.calm (evT T ifs))) :
    PS X (.Assign [.Name n py] (.ListComp elt [⟨tg, iter, fs, 0⟩] scope pos) spos) (tAsg (tSE p (evE T (.lc own el pt it ifs))) (gName j)) := by
  have ok := blkOk_by hb
  refine PS.imp (ps_setLc (g := tSG p.calm pt) (tt := tST p.calm (evT T ifs)) (te := tSE p.calm (evE T el)) o.calm (by rw [o.N]; exact o.nd) (by rw [o.N]; exact hn) (by rw [o.sc]; exact hl) hsw hi (by rw [o.N, o.sc]; exact ok) (fun s H C cl fp => pg_ok (xo_blk o s H C cl fp scope ok.uniq) pt tg hpt) (fun s H C cl fp => hf _ (xo_blk o s H C cl fp scope ok.uniq)) (fun s H C cl fp => he _ (xo_blk o s H C cl fp scope ok.uniq)) (folded_plain hs)) fun D σ H h => ?_
  rw [own_slots]
  exact lc_key hsl σ H _ h
end
end Pv

/-! PvX: parts of formatted texts; lambdas that are heard. -/
namespace Pv
open PySem PySem.Spec PyProof.Rows L2
variable [Tb]
section
variable {c : Cn} {T : String → Fn} {p : Pm} {X : Cx} {x : Expr} {pos : Pos}
theorem s_fmt {ma : En → Rs Vl} {p1 : Pos} (ha : PE X x (tSE p ma)) : PE X (.JoinedStr [.FormattedValue x (-1) none p1] pos) (tSE p (op1 fmtD ma)) :=
  PE.imp (pe_joined1 (pe_fmt ha)) (op1_ok fmt1)
/-- the tables have grown -/
theorem er_tabs {K : PySem.W.Frag} {ios : Nat → Option Addr} {S : Stt} (R : ER K ios S) {H1 : Hp} (e : LamX.ExtN S.H H1) (t : LamX.Tabs Tb.T H1) : ER K ios { S with H := H1 } ∧ Ext S { S with H := H1 } := by
  refine ⟨⟨fun b o q => e b o (R.sub b o q) (R.tab.f b o q), R.len, fun i s q => ?_, R.sep, ⟨t, R.tab.f⟩⟩, ⟨Same.refl _, fun h _ t => e _ _ h t, fun _ _ h => .inl h, fun q o => .inl ((Own.of (S := S) (S' := { S with H := H1 }) rfl rfl).mp o)⟩⟩
  have z := R.sl i s q
  cases s with
  | no => trivial
  | sh d => exact z
  | ow d =>
    obtain ⟨a, ho, e1, e2, e3, e4⟩ := z
    exact ⟨a, ho, e1, e _ _ e2 e3.nt, e3, e4⟩
  | io d =>
    obtain ⟨a, ho, e1, e0, e2, e3, e4⟩ := z
    exact ⟨a, ho, e1, e0, e _ _ e2 e3.nt, e3, e4⟩
theorem xo_lam (o : XO c T p X) {A : Around} {outer : List Env} {s : Shared} {H : Hp} {E : XK} {scope : Scope} {f c' : Addr} {k : Nat} (g : Gb X.prog X.w X.K X.mg X.base T k p.cl c) (hr : Room k (A.deeper (LamX.lamEnv X scope s.heap.objs.size f c'))) :
    XO (c.lamC scope) T { p with W := fun cls d _ H => E cls d H } (LamX.lamCx X A outer s H E scope f c') where
  N := o.N
  nd := o.nd
  sc := rfl
  calm := rfl
  g := ⟨k, hr, ⟨g.glo, g.fn, g.bi, g.xc, g.he⟩⟩
  pass := passes_of rfl
  take := takes_of rfl rfl rfl rfl
  K := o.K
  fnl := fun _ h => nomatch h
  lam := fun h => nomatch h
omit [Tb] in
theorem lookup_mem {α : Type} {c : String} {w : α} : ∀ {hs : List (String × α)}, hs.lookup c = some w → (c, w) ∈ hs
  | q :: hs, h => by
    obtain ⟨a, b⟩ := q
    rw [List.lookup_cons] at h
    split at h
    · rename_i e
      rw [beq_iff_eq] at e
      cases h
      rw [e]
      exact List.mem_cons_self
    · exact List.mem_cons_of_mem _ (lookup_mem h)
theorem hear_ok {x : String} {ok : List Nat} {hs : List (String × List Nat)} {e : Ex} (hok : ok.length ≤ sizeLine) (hhs : ∀ q ∈ hs, q.2.length ≤ sizeLine) (σ : L2.St) (H : Hp) (Q : VK) (h : tSE p (evE T (.hear x ok hs e)) σ H Q) :
    LamX.tLam Tb.T (TTh p.K p.cl ok hs) (fun E => tSE { p with W := fun cls d _ H => E cls d H } (evE T e)) σ H Q := by
  obtain ⟨F, env, R, h⟩ := h
  refine ⟨R.tab.t, fun H1 eN T1 => ?_⟩
  obtain ⟨R1, E1⟩ := er_tabs R eN T1
  refine ⟨F, env, R1, ?_⟩
  simp only [evE] at h
  cases c1 : evE T e env with
  | stuck => rw [c1] at h; exact h.elim
  | ok v e1 =>
    intro y H' F' R' E' V'
    refine ⟨by rw [sizeLine_eq]; show 2 ≤ _; omega, fun q hq => ?_⟩
    rw [c1] at h
    simp only at h
    cases c2 : fz v e1 with
    | none => rw [c2] at h; exact h.elim
    | some de =>
      obtain ⟨d, e2⟩ := de
      rw [c2] at h
      simp only at h
      have E0 : Ext ⟨F, env, σ, H⟩ ⟨F', e1, σ, H'⟩ := E1.trans E'
      have V0 : VR p.K ⟨F, env, σ, H⟩ ⟨F', e1, σ, H'⟩ y v := VR.back V' E1
      obtain ⟨F2, R2, E2, rep, _, _⟩ := fz_ok (S := ⟨F', e1, σ, H'⟩) R' E0 V0 c2
      exact (GP.step (S1 := ⟨F2, e2, σ, H'⟩) h E2 rfl fun _ _ _ z => z.back E2).ow R2 hq ⟨_, rfl, ⟨by simp only [Rep]; exact ⟨trivial, hok⟩, rep, trivial⟩⟩
  | ex cc d e1 =>
    intro cls dx H' F' R' E' X'
    rw [c1] at h
    simp only at h
    cases c2 : hs.lookup cc with
    | none => rw [c2] at h; exact h.elim
    | some w =>
      obtain ⟨C, f, dd, v, z1, z2, z3, z4, z5⟩ := X'
      rw [c2] at h
      simp only at h
      refine ⟨cc, w, C, f, dd, v, c2, z1, z2, z3, z4, fun q hq => ?_⟩
      have E0 : Ext ⟨F, env, σ, H⟩ ⟨F', e1, σ, H'⟩ := E1.trans E'
      exact (GP.step (S1 := ⟨F', e1, σ, H'⟩) h E0 rfl fun _ _ _ z => z.back E0).ow R' hq ⟨_, rfl, ⟨by simp only [Rep]; exact ⟨trivial, hhs _ (lookup_mem c2)⟩, z5, trivial⟩⟩
theorem s_hear (o : XO c T p X) {f : String} {ok : List Nat} {hs : List (String × List Nat)} {e : Ex} {body : Expr} {scope : Scope} {p1 lpos : Pos} (hg : gloB c (so f) = true) (hn : nameOk (so f) = true) (hl : c.lam = true) (hh : c.he.contains (f, ok, hs) = true)
    (hL : LamX.lamSB c.sc scope = true) (hb : ∀ (p' : Pm) (X' : Cx), XO (c.lamC scope) T p' X' → PE X' body (tSE p' (evE T e))) :
    PE X (.Call (.Name (so f) p1) [.Lambda ⟨[], [], none, [], [], none, []⟩ body scope lpos] [] pos) (tSE p (evE T (.hear f ok hs e))) := by
  obtain ⟨⟨cc, P, hc, TB, mT, uT⟩, k, hr, g⟩ := o.lam hl
  obtain ⟨h1, h2, ga, pg, bg, sg, dV, kV, doc, pm, cdv, ct, oc, an, od, osl, Ng, a, m1, m2, m3, m4, m5, m6, m7, m8, m9, m10, m11⟩ := g.he (f, ok, hs) (by simpa using hh)
  have hG := m11 X (X.env.qual ++ "<lambda>") rfl rfl rfl rfl rfl
  have hK := o.K
  refine PE.imp (LamX.pe_lamcall (T := Tb.T) (TT := TTh p.K p.cl ok hs) (t := fun E => tSE { p with W := fun cls d _ H => E cls d H } (evE T e)) (o.gl hg) m1 m2 m3 m4 m5 m6 m7 m8 (by rw [hK]; exact hG) TB hc mT uT hr (LamX.lamS_by (by rw [o.sc]; exact hL)) rfl (fun _ _ _ _ _ => rfl)
    (fun A outer s H E f' c' hr' => hb _ _ (xo_lam o g hr')) (name_ok hn).1 m9 m10) (hear_ok h1 h2)
end
end Pv

/-! PvS12: two clauses; every expression keeps what its text says. -/
namespace Pv
open PySem PySem.Spec PyProof.Rows L2
variable [Tb]
theorem lcLoop2_len {own own1 : List Nat} {ev : En → Rs Vl} {ts ts1 : En → Rs Bool} {it1 : En → Rs (List D)} {pt pt1 : Pt} : ∀ {ds acc : List D} {env : En} {r : List D} {e : En}, lcLoop2 own own1 ev ts ts1 it1 pt pt1 ds acc env = .ok r e → acc.length ≤ r.length
  | [], acc, env, r, e, h => by cases h; exact Nat.le_refl _
  | d :: ds, acc, env, r, e, h => by
    unfold lcLoop2 at h
    cases c1 : bindPt pt d env with
    | none => rw [c1] at h; cases h
    | some e1 =>
      rw [c1] at h
      simp only at h
      cases c2 : ts e1 with
      | stuck => rw [c2] at h; cases h
      | ex _ _ _ => rw [c2] at h; cases h
      | ok b e2 =>
        rw [c2] at h
        cases b with
        | false => exact lcLoop2_len h
        | true =>
          simp only at h
          cases c3 : it1 e2 with
          | stuck => rw [c3] at h; cases h
          | ex _ _ _ => rw [c3] at h; cases h
          | ok ds1 e3 =>
            rw [c3] at h
            simp only at h
            cases c4 : lcLoop own1 ev ts1 pt1 ds1 acc (wipeE e3 own1) with
            | stuck => rw [c4] at h; cases h
            | ex _ _ _ => rw [c4] at h; cases h
            | ok acc' e4 =>
              rw [c4] at h
              exact Nat.le_trans (lcLoop_len c4) (lcLoop2_len h)
theorem lc_loop2 {p : Pm} {own own1 : List Nat} {ev : En → Rs Vl} {ts ts1 : En → Rs Bool} {it1 : En → Rs (List D)} {pt pt1 : Pt} {L : Addr} {J : It} {S1 : Stt} {ds acc r : List D} {e2 : En} (h0 : Lst p L S1 acc) (hw : wipe S1.σ own = S1.σ) (hJ : ItS p.K J ds S1.F)
    (hr : lcLoop2 own own1 ev ts ts1 it1 pt pt1 ds acc S1.env = .ok r e2) (hl : r.length ≤ sizeLine) (hs : ∀ j ∈ slPt pt, j ∈ own) (hs1 : ∀ j ∈ slPt pt1, j ∈ own1) (ho : ∀ j ∈ own1, j ∈ own) {Qd : Hp → Prop} (hd : ∀ F' H', Lst p L ⟨F', e2, S1.σ, H'⟩ r → Ext (hole L S1) ⟨F', e2, S1.σ, H'⟩ → Qd H') :
    ∃ W : Nat → Nat → Hp → Prop, (∃ m, W 0 m S1.H) ∧ ∀ i m H, W i m H → (J.stop i H ∧ Qd H) ∨ (J.go i H ∧ ∃ Nx : Hp → Prop, (∀ H', Nx H' → ∃ m', m' < m ∧ W (i + 1) m' H') ∧
      ∀ x H', J.yld i H x H' → tSG p pt x S1.σ H' fun σ2 H2 => wipe σ2 own = S1.σ ∧ tST p ts σ2 H2 fun b H3 => if b = true then tSI p it1 σ2 H3 fun J1 H4 => ∃ W1 : Nat → Nat → Hp → Prop, (∃ m, W1 0 m H4) ∧ ∀ j k H, W1 j k H →
        (J1.stop j H ∧ Nx H) ∨ (J1.go j H ∧ ∃ Nx1 : Hp → Prop, (∀ H', Nx1 H' → ∃ k', k' < k ∧ W1 (j + 1) k' H') ∧ ∀ x H', J1.yld j H x H' → tSG p pt1 x (wipe σ2 own1) H' fun σ3 H5 => wipe σ3 own1 = wipe σ2 own1 ∧ tST p ts1 σ3 H5 fun b H6 =>
          if b = true then tSE p ev σ3 H6 fun y H7 => ∃ acc, H7 L = some (.lst acc) ∧ acc.length < sizeLine ∧ Nx1 (upd H7 L (.lst (acc ++ [y]))) else Nx1 H6)
        else Nx H3) := by
  let Iv : Nat → Hp → Prop := fun i H => ∃ F e a, Lst p L ⟨F, e, S1.σ, H⟩ a ∧ Ext (hole L S1) ⟨F, e, S1.σ, H⟩ ∧ lcLoop2 own own1 ev ts ts1 it1 pt pt1 (ds.drop i) a e = .ok r e2
  refine ⟨fun i m H => m = ds.length - i ∧ i ≤ ds.length ∧ Iv i H, ⟨ds.length, by simp, Nat.zero_le _, S1.F, S1.env, acc, h0, ext_of_hole (Ext.refl S1) h0.no h0.nf, hr⟩, ?_⟩
  rintro i m H ⟨rfl, hi, F, e, a, hL, E, hv⟩
  by_cases hlt : i < ds.length
  · have hdrop : ds.drop i = ds[i] :: ds.drop (i + 1) := List.drop_eq_getElem_cons hlt
    have hget : ds[i]? = some ds[i] := List.getElem?_eq_getElem hlt
    obtain ⟨go, yl⟩ := hJ.go F H E.fsub hL.er.sub i ds[i] hget
    refine .inr ⟨go, Iv (i + 1), fun H' q => ⟨ds.length - (i + 1), by omega, rfl, hlt, q⟩, fun x H' y => ?_⟩
    obtain ⟨F1, fe, rep⟩ := yl x H' y
    rw [hdrop] at hv
    unfold lcLoop2 at hv
    cases c1 : bindPt pt ds[i] e with
    | none => rw [c1] at hv; cases hv
    | some eb =>
      rw [c1] at hv
      simp only at hv
      have R1 := fe.er (S := ⟨F, e, S1.σ, H⟩) hL.er (fun _ z => z.elim)
      have E1 := fe.ext (S := ⟨F, e, S1.σ, H⟩) (Ext.refl _) (fun _ z => z.elim)
      refine ⟨F1, e, ds[i], eb, R1, rep, c1, fun σ2 l2 a2 R2 E2 => ⟨?_, F1, eb, R2, ?_⟩⟩
      · rw [← hw]; exact wipe_same l2 fun j hj => a2 j fun m => hj (hs j m)
      · have w2 : wipe σ2 own = S1.σ := by rw [← hw]; exact wipe_same l2 fun j hj => a2 j fun m => hj (hs j m)
        have L2 := hL.step R2 (E1.trans E2)
        have E02 := E.trans (E1.trans E2)
        cases c2 : ts eb with
        | stuck => rw [c2] at hv; cases hv
        | ex _ _ _ => rw [c2] at hv; cases hv
        | ok b e3 =>
          rw [c2] at hv
          intro b' H3 F3 R3 E3 hb
          have hb : b' = b := hb
          subst hb
          have L3 := L2.step R3 E3
          have E03 := E02.trans E3
          cases b' with
          | false =>
            rw [if_neg (by decide)]
            refine ⟨F3, wipeE e3 own, a, ?_, ?_, hv⟩
            · have := L3.wipe own
              unfold wipeS at this
              simp only [w2] at this
              exact this
            · have := ext_wipe E03 own
              unfold wipeS at this
              simp only [w2] at this
              exact this
          | true =>
            simp only at hv
            rw [if_pos rfl]
            refine ⟨F3, e3, R3, ?_⟩
            cases c3 : it1 e3 with
            | stuck => rw [c3] at hv; cases hv
            | ex _ _ _ => rw [c3] at hv; cases hv
            | ok ds1 e4 =>
              rw [c3] at hv
              simp only at hv
              cases c4 : lcLoop own1 ev ts1 pt1 ds1 a (wipeE e4 own1) with
              | stuck => rw [c4] at hv; cases hv
              | ex _ _ _ => rw [c4] at hv; cases hv
              | ok acc' e5 =>
                rw [c4] at hv
                intro J1 H4 F4 R4 E4 hJ1
                have L4 := (L3.step R4 E4).wipe own1
                have E04 := ext_wipe (E03.trans E4) own1
                have hlen := lcLoop2_len hv
                refine lc_loop (S1 := ⟨F4, wipeE e4 own1, wipe σ2 own1, H4⟩) L4 (wipe_two fun _ h => h) hJ1 c4 (by omega) hs1 fun F' H' q1 q2 => ?_
                have E05 := (ext_hole E04 hole_at).trans q2
                refine ⟨F', wipeE e5 own, acc', ?_, ?_, hv⟩
                · have := q1.wipe own
                  unfold wipeS at this
                  simp only [wipe_two ho, w2] at this
                  exact this
                · have := ext_wipe E05 own
                  unfold wipeS at this
                  simp only [wipe_two ho, w2] at this
                  exact this
  · have e : i = ds.length := by omega
    subst e
    rw [List.drop_length] at hv
    cases (show Rs.ok a e = Rs.ok r e2 from hv)
    exact .inl ⟨hJ.stop F H E.fsub hL.er.sub _ (Nat.le_refl _), hd F H hL E⟩
section
variable {c : Cn} {T : String → Fn} {p : Pm} {X : Cx} {x y z : Expr} {pos : Pos}
theorem lc_key2 {own own1 : List Nat} {el it it1 : Ex} {pt pt1 : Pt} {ifs ifs1 : List Ex} (ho : (own1.all fun j => own.contains j) = true) (hsl : (slPt pt).all own.contains = true) (hsl1 : (slPt pt1).all own1.contains = true) (σ : L2.St) (H : Hp) (Q : VK)
    (h : tSE p (evE T (.lc2 own own1 el pt it ifs pt1 it1 ifs1)) σ H Q) : tLc2 (tSI p (evI T it)) (tSG p.calm pt) (tST p.calm (evT T ifs)) (tSI p.calm (evI T it1)) (tSG p.calm pt1) (tST p.calm (evT T ifs1)) (tSE p.calm (evE T el)) own own1 σ H Q := by
  have hin := slots_in (own := own) (ss := own1) ho
  obtain ⟨F, env, R, h⟩ := h
  simp only [evE] at h
  refine ⟨F, env, R, (GP.bind h).imp fun J H1 ⟨ds, F1, e1, R1, E1, hJ, h1⟩ => ?_⟩
  intro L hL
  cases c1 : lcLoop2 own own1 (evE T el) (evT T ifs) (evT T ifs1) (evI T it1) pt pt1 ds [] (wipeE e1 own) with
  | stuck => rw [c1] at h1; exact h1.elim
  | ex _ _ _ => rw [c1] at h1; exact h1.elim
  | ok r e2 =>
    rw [c1] at h1
    simp only at h1
    have hz : r.length ≤ sizeLine := by
      by_cases hz : r.length ≤ sizeLine
      · exact hz
      · rw [if_neg hz] at h1; exact h1.elim
    refine lc_loop2 (p := p.calm) (S1 := ⟨F1, wipeE e1 own, wipe σ own, upd H1 L (.lst [])⟩) (lc_start (S := ⟨F1, e1, σ, H1⟩) R1 hL) (wipe_two fun _ h => h) hJ c1 hz (slots_in hsl) (slots_in hsl1) hin fun F' H' q1 q2 => ?_
    rw [hole_start (S := ⟨F1, e1, σ, H1⟩) hL] at q2
    exact lc_end (p := p) (S := ⟨F1, e1, σ, H1⟩) (S0 := ⟨F, env, σ, H⟩) R1 E1 rfl hL hz h1 ⟨q1.er, q1.at_, q1.nf, q1.no⟩ q2
theorem s_lc2 (o : XO c T p X) {own own1 : List Nat} {el it it1 : Ex} {pt pt1 : Pt} {ifs ifs1 : List Ex} {elt tg iter tg1 iter1 : Expr} {fs fs1 : List Expr} {scope : Scope} (hb : blkC c.N c.sc scope (own.map fun j => (c.N.getD j ⟨#[]⟩, j)) = true) (ho : (own1.all fun j => own.contains j) = true)
    (hi : PI X tg iter (tSI p (evI T it))) (hs : noSet iter = true) (hs1 : noSet iter1 = true)
    (hpt : ckPt (c.blk scope) pt tg = true) (hsl : (slPt pt).all own.contains = true) (hpt1 : ckPt (c.blk scope) pt1 tg1 = true) (hsl1 : (slPt pt1).all own1.contains = true)
    (he : ∀ X', XO (c.blk scope) T p.calm X' → PE X' elt (tSE p.calm (evE T el))) (hf : ∀ X', XO (c.blk scope) T p.calm X' → PTs X' fs (tST p.calm (evT T ifs))) (hf1 : ∀ X', XO (c.blk scope) T p.calm X' → PTs X' fs1 (tST p.calm (evT T ifs1)))
    (hi1 : ∀ X', XO (c.blk scope) T p.calm X' → PI X' tg1 iter1 (tSI p.calm (evI T it1))) :
    PE X (.ListComp elt [⟨tg, iter, fs, 0⟩, ⟨tg1, iter1, fs1, 0⟩] scope pos) (tSE p (evE T (.lc2 own own1 el pt it ifs pt1 it1 ifs1))) := by
  have ok := blkOk_by hb
  have hin := slots_in (own := own) (ss := own1) ho
  refine PE.imp (pe_lc2 (vs1 := own1) (g := tSG p.calm pt) (tt := tST p.calm (evT T ifs)) (te := tSE p.calm (evE T el)) (wi1 := tSI p.calm (evI T it1)) (g1 := tSG p.calm pt1) (tt1 := tST p.calm (evT T ifs1)) o.calm (by rw [o.N]; exact o.nd) hi (by rw [o.N, o.sc]; exact ok)
    (by rw [own_slots]; exact hin) (fun s H C cl fp => pg_ok (xo_blk o s H C cl fp scope ok.uniq) pt tg hpt) (fun s H C cl fp => hf _ (xo_blk o s H C cl fp scope ok.uniq)) (fun s H C cl fp => hi1 _ (xo_blk o s H C cl fp scope ok.uniq)) (fun s H C cl fp => pg_ok (xo_blk o s H C cl fp scope ok.uniq) pt1 tg1 hpt1)
    (fun s H C cl fp => hf1 _ (xo_blk o s H C cl fp scope ok.uniq)) (fun s H C cl fp => he _ (xo_blk o s H C cl fp scope ok.uniq)) (folded_plain hs) (fun env => folded_plain hs1)) fun σ H Q h => ?_
  rw [own_slots]
  exact lc_key2 ho hsl hsl1 σ H Q h
theorem st_lc2 (o : XO c T p X) {j : Nat} {n : Str} {py spos : Pos} {own own1 : List Nat} {el it it1 : Ex} {pt pt1 : Pt} {ifs ifs1 : List Ex} {elt tg iter tg1 iter1 : Expr} {fs fs1 : List Expr} {scope : Scope} (hn : c.N[j]? = some n) (hl : c.sc.names.lookup n = some .local)
    (hsw : swapsWith (.ListComp elt [⟨tg, iter, fs, 0⟩, ⟨tg1, iter1, fs1, 0⟩] scope pos) (some (.Name n py)) spos.line X.env = pure true) (hb : blkC c.N c.sc scope (own.map fun j => (c.N.getD j ⟨#[]⟩, j)) = true) (ho : (own1.all fun j => own.contains j) = true)
    (hi : PI X tg iter (tSI p (evI T it))) (hs : noSet iter = true) (hs1 : noSet iter1 = true)
    (hpt : ckPt (c.blk scope) pt tg = true) (hsl : (slPt pt).all own.contains = true) (hpt1 : ckPt (c.blk scope) pt1 tg1 = true) (hsl1 : (slPt pt1).all own1.contains = true)
    (he : ∀ X', XO (c.blk scope) T p.calm X' → PE X' elt (tSE p.calm (evE T el))) (hf : ∀ X', XO (c.blk scope) T p.calm X' → PTs X' fs (tST p.calm (evT T ifs))) (hf1 : ∀ X', XO (c.blk scope) T p.calm X' → PTs X' fs1 (tST p.calm (evT T ifs1)))
    (hi1 : ∀ X', XO (c.blk scope) T p.calm X' → PI X' tg1 iter1 (tSI p.calm (evI T it1))) :
    PS X (.Assign [.Name n py] (.ListComp elt [⟨tg, iter, fs, 0⟩, ⟨tg1, iter1, fs1, 0⟩] scope pos) spos) (tAsg (tSE p (evE T (.lc2 own own1 el pt it ifs pt1 it1 ifs1))) (gName j)) := by
  have ok := blkOk_by hb
  have hin := slots_in (own := own) (ss := own1) ho
  refine PS.imp (ps_setLc2 (vs1 := own1) (g := tSG p.calm pt) (tt := tST p.calm (evT T ifs)) (te := tSE p.calm (evE T el)) (wi1 := tSI p.calm (evI T it1)) (g1 := tSG p.calm pt1) (tt1 := tST p.calm (evT T ifs1)) o.calm (by rw [o.N]; exact o.nd) (by rw [o.N]; exact hn) (by rw [o.sc]; exact hl) hsw hi (by rw [o.N, o.sc]; exact ok)
    (by rw [own_slots]; exact hin) (fun s H C cl fp => pg_ok (xo_blk o s H C cl fp scope ok.uniq) pt tg hpt) (fun s H C cl fp => hf _ (xo_blk o s H C cl fp scope ok.uniq)) (fun s H C cl fp => hi1 _ (xo_blk o s H C cl fp scope ok.uniq)) (fun s H C cl fp => pg_ok (xo_blk o s H C cl fp scope ok.uniq) pt1 tg1 hpt1)
    (fun s H C cl fp => hf1 _ (xo_blk o s H C cl fp scope ok.uniq)) (fun s H C cl fp => he _ (xo_blk o s H C cl fp scope ok.uniq)) (folded_plain hs) (fun env => folded_plain hs1)) fun D σ H h => ?_
  rw [own_slots]
  exact lc_key2 ho hsl hsl1 σ H _ h
end

/-! ### what a text must be -/
section
variable {c : Cn} {x : Expr}
theorem inv_rev {a : Ex} (h : ckE c (.rev a) x = true) : ∃ x1 k1 q1 q2 q3 pos, x = .Subscript x1 (.Slice none none (some (.UnaryOp .USub (.Constant (.int 1) k1 q1) q2)) q3) pos ∧ ckE c a x1 = true := by
  cases x <;> first | (cases h; done) | skip
  case Subscript x1 y pos =>
    cases y <;> first | (cases h; done) | skip
    case Slice lo hi st q3 =>
      cases lo <;> first | (cases h; done) | skip
      cases hi <;> first | (cases h; done) | skip
      cases st <;> first | (cases h; done) | skip
      rename_i st
      cases st <;> first | (cases h; done) | skip
      case UnaryOp op y q2 =>
        cases op <;> first | (cases h; done) | skip
        cases y <;> first | (cases h; done) | skip
        case Constant k k1 q1 =>
          cases k <;> first | (cases h; done) | skip
          case int i =>
            cases i <;> first | (cases h; done) | skip
            rename_i n
            cases n <;> first | (cases h; done) | skip
            rename_i n
            cases n <;> first | (cases h; done) | skip
            exact ⟨x1, k1, q1, q2, q3, pos, rfl, h⟩
theorem inv_isi {a : Ex} {t : String} (h : ckE c (.isi a t) x = true) : ∃ f p1 x1 ty p2 pos, x = .Call (.Name f p1) [x1, .Name ty p2] [] pos ∧ (f == so "isinstance" && ty == so t && okTy t && gloB c f && gloB c ty && c.bs.contains "isinstance" && c.bs.contains t && noStar x1 && ckE c a x1) = true := by
  cases x <;> first | (cases h; done) | skip
  case Call f es kws pos =>
    cases f <;> first | (cases h; done) | skip
    case Name f p1 =>
      cases es with
      | nil => cases h
      | cons x1 es => cases es with
        | nil => cases h
        | cons y es =>
          cases y <;> first | (cases h; done) | skip
          case Name ty p2 => cases es with
            | cons _ _ => cases h
            | nil => cases kws with
              | cons _ _ => cases h
              | nil => exact ⟨f, p1, x1, ty, p2, pos, rfl, h⟩
theorem inv_call {f : String} {es : List Ex} (h : ckE c (.call f es) x = true) : ∃ n p1 y1 ys pos, x = .Call (.Name n p1) (y1 :: ys) [] pos ∧ (n == so f && gloB c n && nameOk n && c.fs.contains (f, es.length) && (y1 :: ys).all noStar && ckL c es (y1 :: ys)) = true := by
  cases x <;> first | (cases h; done) | skip
  case Call g xs kws pos =>
    cases g <;> first | (cases h; done) | skip
    case Name n p1 =>
      cases xs with
      | nil => cases h
      | cons y1 ys => cases kws with
        | cons _ _ => cases h
        | nil => exact ⟨n, p1, y1, ys, pos, rfl, h⟩
theorem inv_callK {f : String} {ks : List (String × Ex)} {ord : List Nat} (h : ckE c (.callK f ks ord) x = true) : ∃ n p1 kws pos, x = .Call (.Name n p1) [] kws pos ∧
    (n == so f && gloB c n && nameOk n && c.fs.contains (f, ord.length) && !kws.isEmpty && c.kw.any (fun q => q.1 == f && q.2.1 == ks.map (·.1) && q.2.2 == ord) && ckK c ks kws) = true := by
  cases x <;> first | (cases h; done) | skip
  case Call g xs kws pos =>
    cases g <;> first | (cases h; done) | skip
    case Name n p1 =>
      cases xs with
      | cons _ _ => cases h
      | nil => exact ⟨n, p1, kws, pos, rfl, h⟩
theorem inv_bi {f : Bi} {es : List Ex} (h : ckE c (.bi f es) x = true) : ∃ n p1 y1 ys pos, x = .Call (.Name n p1) (y1 :: ys) [] pos ∧ (n == so (biName f) && gloB c n && nameOk n && c.bs.contains (biName f) && (y1 :: ys).all noStar && ckL c es (y1 :: ys)) = true := by
  cases x <;> first | (cases h; done) | skip
  case Call g xs kws pos =>
    cases g <;> first | (cases h; done) | skip
    case Name n p1 =>
      cases xs with
      | nil => cases h
      | cons y1 ys => cases kws with
        | cons _ _ => cases h
        | nil => exact ⟨n, p1, y1, ys, pos, rfl, h⟩
theorem inv_met0 {m : Mt} {a : Ex} (h : ckE c (.met m a []) x = true) : ∃ x1 n ap pos, x = .Call (.Attribute x1 n ap) [] [] pos ∧ (n == so (mtName m) && m == .upper && noCall0 x1 && ap.endLine == pos.line && ckE c a x1) = true := by
  cases x <;> first | (cases h; done) | skip
  case Call g xs kws pos =>
    cases g <;> first | (cases h; done) | skip
    case Attribute x1 n ap =>
      cases kws with
      | cons _ _ => cases xs <;> cases h
      | nil => cases xs with
        | nil => exact ⟨x1, n, ap, pos, rfl, h⟩
        | cons y1 ys =>
          have h : (n == so (mtName m) && m != .replace && m != .upper && noCall0 x1 && ap.endLine == pos.line && decide ((y1 :: ys).length < 29) && (y1 :: ys).all noStar && ckE c a x1 && ckL c [] (y1 :: ys)) = true := h
          rw [Bool.and_eq_true] at h
          exact absurd h.2 (by intro z; cases z)
theorem inv_met {m : Mt} {a e1 : Ex} {es : List Ex} (h : ckE c (.met m a (e1 :: es)) x = true) : ∃ x1 n ap y1 ys pos, x = .Call (.Attribute x1 n ap) (y1 :: ys) [] pos ∧
    (n == so (mtName m) && m != .replace && m != .upper && noCall0 x1 && ap.endLine == pos.line && decide ((y1 :: ys).length < 29) && (y1 :: ys).all noStar && ckE c a x1 && ckL c (e1 :: es) (y1 :: ys)) = true := by
  cases x <;> first | (cases h; done) | skip
  case Call g xs kws pos =>
    cases g <;> first | (cases h; done) | skip
    case Attribute x1 n ap =>
      cases xs with
      | nil => cases kws <;> cases h
      | cons y1 ys => cases kws with
        | cons _ _ => cases h
        | nil => exact ⟨x1, n, ap, y1, ys, pos, rfl, h⟩
theorem inv_fmt {e : Ex} (h : ckE c (.fmt e) x = true) : ∃ x1 p1 pos, x = .JoinedStr [.FormattedValue x1 (-1) none p1] pos ∧ ckE c e x1 = true := by
  cases x <;> first | (cases h; done) | skip
  case JoinedStr vs pos =>
    cases vs with
    | nil => cases h
    | cons v vs =>
      cases v <;> first | (cases h; done) | skip
      case FormattedValue x1 cv sp p1 =>
        cases sp with
        | some _ => cases h
        | none => cases vs with
          | cons _ _ => cases h
          | nil =>
            have h : (cv == -1 && ckE c e x1) = true := h
            rw [Bool.and_eq_true, beq_iff_eq] at h
            obtain ⟨rfl, h⟩ := h
            exact ⟨x1, p1, pos, rfl, h⟩
theorem inv_hear {f : String} {ok : List Nat} {hs : List (String × List Nat)} {e : Ex} (h : ckE c (.hear f ok hs e) x = true) : ∃ n p1 body scope lpos pos, x = .Call (.Name n p1) [.Lambda ⟨[], [], none, [], [], none, []⟩ body scope lpos] [] pos ∧
    (n == so f && gloB c n && nameOk n && c.lam && c.he.contains (f, ok, hs) && LamX.lamSB c.sc scope && ckE (c.lamC scope) e body) = true := by
  cases x <;> first | (cases h; done) | skip
  case Call g xs kws pos =>
    cases g <;> first | (cases h; done) | skip
    case Name n p1 =>
      cases xs with
      | nil => cases h
      | cons y ys =>
        cases y <;> first | (cases h; done) | skip
        case Lambda pr body scope lpos =>
          cases ys with
          | cons _ _ =>
            obtain ⟨a1, a2, a3, a4, a5, a6, a7⟩ := pr
            cases a1 <;> first | (cases h; done) | skip
            cases a2 <;> first | (cases h; done) | skip
            cases a3 <;> first | (cases h; done) | skip
            cases a4 <;> first | (cases h; done) | skip
            cases a5 <;> first | (cases h; done) | skip
            cases a6 <;> first | (cases h; done) | skip
            cases a7 <;> cases h
          | nil => cases kws with
            | cons _ _ =>
              obtain ⟨a1, a2, a3, a4, a5, a6, a7⟩ := pr
              cases a1 <;> first | (cases h; done) | skip
              cases a2 <;> first | (cases h; done) | skip
              cases a3 <;> first | (cases h; done) | skip
              cases a4 <;> first | (cases h; done) | skip
              cases a5 <;> first | (cases h; done) | skip
              cases a6 <;> first | (cases h; done) | skip
              cases a7 <;> cases h
            | nil =>
              obtain ⟨a1, a2, a3, a4, a5, a6, a7⟩ := pr
              cases a1 <;> first | (cases h; done) | skip
              cases a2 <;> first | (cases h; done) | skip
              cases a3 <;> first | (cases h; done) | skip
              cases a4 <;> first | (cases h; done) | skip
              cases a5 <;> first | (cases h; done) | skip
              cases a6 <;> first | (cases h; done) | skip
              cases a7 <;> first | (cases h; done) | skip
              exact ⟨n, p1, body, scope, lpos, pos, rfl, h⟩
theorem inv_pop0 {i : Nat} (h : ckE c (.pop i none) x = true) : ∃ n p2 m ap pos, x = .Call (.Attribute (.Name n p2) m ap) [] [] pos ∧ (c.N[i]? == some n && visB c n && nameOk n && m == so "pop" && ap.endLine == pos.line) = true := by
  cases x <;> first | (cases h; done) | skip
  case Call g xs kws pos =>
    cases g <;> first | (cases h; done) | skip
    case Attribute x1 m ap =>
      cases x1 <;> first | (cases h; done) | skip
      case Name n p2 =>
        cases xs with
        | cons _ _ => cases h
        | nil => cases kws with
          | cons _ _ => cases h
          | nil => exact ⟨n, p2, m, ap, pos, rfl, h⟩
theorem inv_pop1 {i : Nat} {e : Ex} (h : ckE c (.pop i (some e)) x = true) : ∃ n p2 m ap y1 pos, x = .Call (.Attribute (.Name n p2) m ap) [y1] [] pos ∧ (c.N[i]? == some n && visB c n && nameOk n && m == so "pop" && ap.endLine == pos.line && noStar y1 && ckE c e y1) = true := by
  cases x <;> first | (cases h; done) | skip
  case Call g xs kws pos =>
    cases g <;> first | (cases h; done) | skip
    case Attribute x1 m ap =>
      cases x1 <;> first | (cases h; done) | skip
      case Name n p2 =>
        cases xs with
        | nil => cases h
        | cons y1 ys => cases ys with
          | cons _ _ => cases h
          | nil => cases kws with
            | cons _ _ => cases h
            | nil => exact ⟨n, p2, m, ap, y1, pos, rfl, h⟩
theorem inv_dnew {tk : Bool} (h : ckE c (.dnew tk) x = true) : ∃ pos, x = .Dict [] [] pos := by
  cases x <;> first | (cases h; done) | skip
  case Dict ks vs pos =>
    cases ks with
    | cons _ _ => cases h
    | nil => cases vs with
      | cons _ _ => cases h
      | nil => exact ⟨pos, rfl⟩
theorem inv_lc {own : List Nat} {el it : Ex} {pt : Pt} {ifs : List Ex} (h : ckE c (.lc own el pt it ifs) x = true) : ∃ x1 tg i fs scope pos, x = .ListComp x1 [⟨tg, i, fs, 0⟩] scope pos ∧
    (blkC c.N c.sc scope ((own.map fun j => (c.N.getD j ⟨#[]⟩, j))) && ckI c it i && ckIT it tg && noSet i && ckPt (c.blk scope) pt tg && (slPt pt).all own.contains && ckE (c.blk scope) el x1 && ckF (c.blk scope) ifs fs) = true := by
  cases x <;> first | (cases h; done) | skip
  case ListComp x1 gs scope pos =>
    cases gs with
    | nil => cases h
    | cons g gs =>
      obtain ⟨tg, i, fs, k⟩ := g
      cases gs with
      | cons g1 gs =>
        obtain ⟨tg1, i1, fs1, k1⟩ := g1
        exact absurd h (by intro z; cases k with | ofNat k => (cases k <;> cases z) | negSucc k => cases z)
      | nil => cases k with
        | negSucc _ => cases h
        | ofNat k => cases k with
          | succ _ => cases h
          | zero => exact ⟨x1, tg, i, fs, scope, pos, rfl, h⟩
theorem inv_lc2 {own own1 : List Nat} {el it it1 : Ex} {pt pt1 : Pt} {ifs ifs1 : List Ex} (h : ckE c (.lc2 own own1 el pt it ifs pt1 it1 ifs1) x = true) : ∃ x1 tg i fs tg1 i1 fs1 scope pos, x = .ListComp x1 [⟨tg, i, fs, 0⟩, ⟨tg1, i1, fs1, 0⟩] scope pos ∧
    (blkC c.N c.sc scope ((own.map fun j => (c.N.getD j ⟨#[]⟩, j))) && (own1.all fun j => own.contains j) && ckI c it i && ckIT it tg && noSet i && ckPt (c.blk scope) pt tg && (slPt pt).all own.contains && ckF (c.blk scope) ifs fs &&
        ckI (c.blk scope) it1 i1 && ckIT it1 tg1 && noSet i1 && ckPt (c.blk scope) pt1 tg1 && (slPt pt1).all own1.contains && ckF (c.blk scope) ifs1 fs1 && ckE (c.blk scope) el x1) = true := by
  cases x <;> first | (cases h; done) | skip
  case ListComp x1 gs scope pos =>
    cases gs with
    | nil => cases h
    | cons g gs =>
      obtain ⟨tg, i, fs, k⟩ := g
      cases gs with
      | nil => exact absurd h (by intro z; cases k with | ofNat k => (cases k <;> cases z) | negSucc k => cases z)
      | cons g1 gs =>
        obtain ⟨tg1, i1, fs1, k1⟩ := g1
        cases gs with
        | cons g2 gs => exact absurd h (by intro z; cases k with | ofNat k => (cases k with | zero => (cases k1 with | ofNat k1 => (cases k1 <;> cases z) | negSucc k1 => cases z) | succ k => cases z) | negSucc k => cases z)
        | nil => cases k with
          | negSucc _ => cases h
          | ofNat k => cases k with
            | succ _ => cases h
            | zero => cases k1 with
              | negSucc _ => cases h
              | ofNat k1 => cases k1 with
                | succ _ => cases h
                | zero => exact ⟨x1, tg, i, fs, tg1, i1, fs1, scope, pos, rfl, h⟩
theorem inv_rng {es : List Ex} (h : ckI c (.rng es) x = true) : ∃ n p1 y1 ys pos, x = .Call (.Name n p1) (y1 :: ys) [] pos ∧ (n == so "range" && gloB c n && c.bs.contains "range" && (y1 :: ys).all noStar && decide ((y1 :: ys).length ≤ 3) && ckL c es (y1 :: ys)) = true := by
  cases x <;> first | (cases h; done) | skip
  case Call g xs kws pos =>
    cases g <;> first | (cases h; done) | skip
    case Name n p1 =>
      cases xs with
      | nil => cases h
      | cons y1 ys => cases kws with
        | cons _ _ => cases h
        | nil => exact ⟨n, p1, y1, ys, pos, rfl, h⟩
theorem inv_enm {e : Ex} (h : ckI c (.enm e) x = true) : ∃ n p1 y1 pos, x = .Call (.Name n p1) [y1] [] pos ∧ (n == so "enumerate" && gloB c n && c.bs.contains "enumerate" && noStar y1 && ckE c e y1) = true := by
  cases x <;> first | (cases h; done) | skip
  case Call g xs kws pos =>
    cases g <;> first | (cases h; done) | skip
    case Name n p1 =>
      cases xs with
      | nil => cases h
      | cons y1 ys => cases ys with
        | cons _ _ => cases h
        | nil => cases kws with
          | cons _ _ => cases h
          | nil => exact ⟨n, p1, y1, pos, rfl, h⟩
end

/-! ### every expression -/
theorem ck_len {c : Cn} : ∀ {es : List Ex} {xs : List Expr}, ckL c es xs = true → es.length = xs.length
  | [], [], _ => rfl
  | [], _ :: _, h => by cases h
  | _ :: _, [], h => by cases h
  | e :: es, x :: xs, h => by
    have h : (noStar x && ckE c e x && ckL c es xs) = true := h
    simp only [Bool.and_eq_true] at h
    rw [List.length_cons, List.length_cons, ck_len h.2]
def isBo : Expr → Bool
  | .BoolOp .. => true
  | _ => false
/-- as a value, as a test -/
def Big (T : String → Fn) (p : Pm) (X : Cx) (e : Ex) (x : Expr) : Prop := PE X x (tSE p (evE T e)) ∧ PT X x (tST p (tru1 T e)) ∧ (isBo x = true → PW X x (tST p (tru1 T e)))
section
variable {c : Cn} {T : String → Fn} {p : Pm} {X : Cx} {x : Expr}
theorem Big.plain (o : XO c T p X) {e : Ex} (h : plainT x = true) (ha : PE X x (tSE p (evE T e))) : Big T p X e x :=
  ⟨ha, t_val o h ha, fun z => by cases x <;> first | (cases z; done) | cases h⟩
end
mutual
theorem sE : ∀ (e : Ex) (c : Cn) (T : String → Fn) (p : Pm) (X : Cx) (x : Expr), XO c T p X → ckE c e x = true → Big T p X e x
  | .var i, c, T, p, X, x, o, h => by
    cases x <;> first | (cases h; done) | skip
    case Name n pos =>
      have h : (c.N[i]? == some n && visB c n && nameOk n) = true := h
      simp only [Bool.and_eq_true, beq_iff_eq] at h
      exact .plain o rfl (s_var o h.1.1 h.1.2 h.2)
  | .con d, c, T, p, X, x, o, h => by
    cases x <;> first | (cases h; done) | skip
    case Constant k j pos => exact .plain o rfl (s_con (show ckCon d k = true from h))
  | .glo s d, c, T, p, X, x, o, h => by
    cases x <;> first | (cases h; done) | skip
    case Name n pos =>
      have h : (n == so s && gloB c n && nameOk n && c.cs.any fun q => q.1 == s && beqD q.2 d) = true := h
      simp only [Bool.and_eq_true, beq_iff_eq] at h
      obtain ⟨⟨⟨rfl, h2⟩, h3⟩, h4⟩ := h
      exact .plain o rfl (s_glo o h2 h3 (by simpa only [Bool.and_eq_true, beq_iff_eq] using h4))
  | .bin op a b, c, T, p, X, x, o, h => by
    cases x <;> first | (cases h; done) | skip
    case BinOp x1 op1 y1 pos =>
      have h : (op1 == op && okBin op && ckE c a x1 && ckE c b y1) = true := h
      simp only [Bool.and_eq_true, beq_iff_eq] at h
      obtain ⟨⟨⟨rfl, h2⟩, h3⟩, h4⟩ := h
      exact .plain o rfl (s_bin o h2 (sE a c T p X x1 o h3).1 (sE b c T p X y1 o h4).1)
  | .neg a, c, T, p, X, x, o, h => by
    cases x <;> first | (cases h; done) | skip
    case UnaryOp op x1 pos =>
      cases op <;> first | (cases h; done) | skip
      case USub => exact .plain o rfl (s_neg (sE a c T p X x1 o h).1)
  | .cmp op a b, c, T, p, X, x, o, h => by
    cases x <;> first | (cases h; done) | skip
    case Compare x1 ops ys pos =>
      match ops, ys, h with
      | [op1], [y1], h =>
        have h : (op1 == op && okCmp op && noSet y1 && ckE c a x1 && ckE c b y1) = true := h
        simp only [Bool.and_eq_true, beq_iff_eq] at h
        obtain ⟨⟨⟨⟨rfl, h2⟩, h5⟩, h3⟩, h4⟩ := h
        have A := (sE a c T p X x1 o h3).1
        have B := (sE b c T p X y1 o h4).1
        exact ⟨s_cmp o h2 h5 A B, t_cmp o h2 h5 A B, fun z => by cases z⟩
      | [], _, h => cases h
      | _ :: _ :: _, _, h => cases h
      | [_], [], h => cases h
      | [_], _ :: _ :: _, h => cases h
  | .chn o1 o2 a b d, c, T, p, X, x, o, h => by
    cases x <;> first | (cases h; done) | skip
    case Compare x1 ops ys pos =>
      match ops, ys, h with
      | [p1, p2], [y1, z1], h =>
        have h : (p1 == o1 && p2 == o2 && okCmp o1 && okCmp o2 && noSet y1 && noSet z1 && ckE c a x1 && ckE c b y1 && ckE c d z1) = true := h
        simp only [Bool.and_eq_true, beq_iff_eq] at h
        obtain ⟨⟨⟨⟨⟨⟨⟨⟨rfl, rfl⟩, h3⟩, h4⟩, h5⟩, h6⟩, h7⟩, h8⟩, h9⟩ := h
        have A := (sE a c T p X x1 o h7).1
        have B := (sE b c T p X y1 o h8).1
        have C := (sE d c T p X z1 o h9).1
        exact ⟨s_chn o h3 h4 h5 h6 A B C, t_chn o h3 h4 h5 h6 A B C, fun z => by cases z⟩
      | [], _, h => cases h
      | [_], _, h => cases h
      | _ :: _ :: _ :: _, _, h => cases h
      | [_, _], [], h => cases h
      | [_, _], [_], h => cases h
      | [_, _], _ :: _ :: _ :: _, h => cases h
  | .isn a n, c, T, p, X, x, o, h => by
    cases x <;> first | (cases h; done) | skip
    case Compare x1 ops ys pos =>
      match ops, ys, h with
      | [op1], [y1], h =>
        cases y1 <;> first | (cases h; done) | skip
        case Constant k j p2 =>
          cases k <;> first | (cases h; done) | skip
          case none =>
            have h : (op1 == (if n then CmpOp.IsNot else CmpOp.Is) && ckE c a x1) = true := h
            simp only [Bool.and_eq_true, beq_iff_eq] at h
            have A := (sE a c T p X x1 o h.2).1
            exact ⟨s_isn h.1 A, t_isn h.1 A, fun z => by cases z⟩
      | [], _, h => cases h
      | _ :: _ :: _, _, h => cases h
      | [_], [], h => cases h
      | [_], y1 :: _ :: _, h => cases y1 <;> first | (cases h; done) | (rename_i k _ _; cases k <;> cases h)
  | .not a, c, T, p, X, x, o, h => by
    cases x <;> first | (cases h; done) | skip
    case UnaryOp op x1 pos =>
      cases op <;> first | (cases h; done) | skip
      case Not =>
        have A := sE a c T p X x1 o h
        exact ⟨s_not o A.1, t_not A.2.1, fun z => by cases z⟩
  | .and a b, c, T, p, X, x, o, h => by
    cases x <;> first | (cases h; done) | skip
    case BoolOp op xs pos =>
      cases op <;> first | (cases h; done) | skip
      case And =>
        match xs, h with
        | x1 :: y1 :: [], h =>
          have h : (ckE c a x1 && ckE c b y1) = true := h
          rw [Bool.and_eq_true] at h
          have A := sE a c T p X x1 o h.1
          have B := sE b c T p X y1 o h.2
          have W := t_and (T := T) (a := a) (b := b) (pos := pos) A.2.1 (pw_and1 B.2.1)
          exact ⟨s_and o A.1 (pe_one B.1), W.pt, fun _ => W⟩
        | x1 :: y1 :: z1 :: r, h =>
          have h : (ckE c a x1 && ckE c b (.BoolOp .And (y1 :: z1 :: r) pos)) = true := h
          rw [Bool.and_eq_true] at h
          have A := sE a c T p X x1 o h.1
          have B := sE b c T p X (.BoolOp .And (y1 :: z1 :: r) pos) o h.2
          have W := t_and (T := T) (a := a) (b := b) (pos := pos) A.2.1 (B.2.2 rfl)
          exact ⟨s_and o A.1 B.1, W.pt, fun _ => W⟩
        | [], h => cases h
        | [_], h => cases h
  | .or a b, c, T, p, X, x, o, h => by
    cases x <;> first | (cases h; done) | skip
    case BoolOp op xs pos =>
      cases op <;> first | (cases h; done) | skip
      case Or =>
        match xs, h with
        | x1 :: y1 :: [], h =>
          have h : (ckE c a x1 && ckE c b y1) = true := h
          rw [Bool.and_eq_true] at h
          have A := sE a c T p X x1 o h.1
          have B := sE b c T p X y1 o h.2
          have W := t_or (T := T) (a := a) (b := b) (pos := pos) A.2.1 (pw_or1 B.2.1)
          exact ⟨s_or o A.1 (pe_one B.1), W.pt, fun _ => W⟩
        | x1 :: y1 :: z1 :: r, h =>
          have h : (ckE c a x1 && ckE c b (.BoolOp .Or (y1 :: z1 :: r) pos)) = true := h
          rw [Bool.and_eq_true] at h
          have A := sE a c T p X x1 o h.1
          have B := sE b c T p X (.BoolOp .Or (y1 :: z1 :: r) pos) o h.2
          have W := t_or (T := T) (a := a) (b := b) (pos := pos) A.2.1 (B.2.2 rfl)
          exact ⟨s_or o A.1 B.1, W.pt, fun _ => W⟩
        | [], h => cases h
        | [_], h => cases h
  | .ife e a b, c, T, p, X, x, o, h => by
    cases x <;> first | (cases h; done) | skip
    case IfExp u x1 y1 pos =>
      have h : (ckE c e u && ckE c a x1 && ckE c b y1) = true := h
      simp only [Bool.and_eq_true] at h
      have E := sE e c T p X u o h.1.1
      have A := sE a c T p X x1 o h.1.2
      have B := sE b c T p X y1 o h.2
      exact ⟨s_ife E.2.1 A.1 B.1, t_ife E.2.1 A.2.1 B.2.1, fun z => by cases z⟩
  | .tup es, c, T, p, X, x, o, h => by
    cases x <;> first | (cases h; done) | skip
    case Tuple xs k pos => exact .plain o rfl (s_tup (sL es c T p X xs o h))
  | .lst es, c, T, p, X, x, o, h => by
    cases x <;> first | (cases h; done) | skip
    case List xs pos => exact .plain o rfl (s_lst (sL es c T p X xs o h))
  | .idx a b, c, T, p, X, x, o, h => by
    cases x <;> first | (cases h; done) | skip
    case Subscript x1 y1 pos =>
      have h : (noSlice y1 && ckE c a x1 && ckE c b y1) = true := h
      simp only [Bool.and_eq_true] at h
      exact .plain o rfl (s_idx o h.1.1 (sE a c T p X x1 o h.1.2).1 (sE b c T p X y1 o h.2).1)
  | .slc a lo hi, c, T, p, X, x, o, h => by
    cases x <;> first | (cases h; done) | skip
    case Subscript x1 y1 pos =>
      cases y1 <;> first | (cases h; done) | skip
      case Slice l hh st p2 =>
        cases st <;> first | (cases h; done) | skip
        case none =>
          have h : (ckE c a x1 && ckO c lo l && ckO c hi hh) = true := h
          simp only [Bool.and_eq_true] at h
          exact .plain o rfl (s_slc o (sE a c T p X x1 o h.1.1).1 (sO lo c T p X l o h.1.2) (sO hi c T p X hh o h.2))
  | .rev a, c, T, p, X, x, o, h => by
    obtain ⟨x1, k1, q1, q2, q3, pos, hx, hq⟩ := inv_rev h
    clear h
    subst hx
    have h := hq; clear hq
    exact .plain o rfl (s_rev o (sE a c T p X x1 o h).1)
  | .isi a t, c, T, p, X, x, o, h => by
    obtain ⟨f, p1, x1, ty, p2, pos, hx, hq⟩ := inv_isi h
    clear h
    subst hx
    have h := hq; clear hq
    simp only [Bool.and_eq_true, beq_iff_eq] at h
    obtain ⟨⟨⟨⟨⟨⟨⟨⟨rfl, rfl⟩, h3⟩, h4⟩, h5⟩, h6⟩, h7⟩, h8⟩, h9⟩ := h
    exact .plain o rfl (s_isi o h3 h4 h5 h6 h7 h8 (sE a c T p X x1 o h9).1)
  | .call f es, c, T, p, X, x, o, h => by
    obtain ⟨n, p1, y1, ys, pos, hx, hq⟩ := inv_call h
    clear h
    subst hx
    have h := hq; clear hq
    simp only [Bool.and_eq_true, beq_iff_eq] at h
    obtain ⟨⟨⟨⟨⟨rfl, h2⟩, h3⟩, h4⟩, h5⟩, h6⟩ := h
    exact .plain o rfl (s_call o h2 h3 h4 h5 (sL es c T p X (y1 :: ys) o h6))
  | .callK f ks ord, c, T, p, X, x, o, h => by
    obtain ⟨n, p1, kws, pos, hx, hq⟩ := inv_callK h
    clear h
    subst hx
    have h := hq; clear hq
    simp only [Bool.and_eq_true, beq_iff_eq] at h
    obtain ⟨⟨⟨⟨⟨⟨rfl, h2⟩, h3⟩, h4⟩, h5⟩, h6⟩, h7⟩ := h
    obtain ⟨k1, k2⟩ := sK ks c T p X kws o h7
    refine .plain o rfl (s_callK o h2 h3 h4 ?_ k2 k1)
    obtain ⟨q, hq, e⟩ := List.any_eq_true.mp h6
    simp only [Bool.and_eq_true, beq_iff_eq] at e
    obtain ⟨⟨e1, e2⟩, e3⟩ := e
    rw [← e1, ← e2, ← e3]
    exact hq
  | .bi f es, c, T, p, X, x, o, h => by
    obtain ⟨n, p1, y1, ys, pos, hx, hq⟩ := inv_bi h
    clear h
    subst hx
    have h := hq; clear hq
    simp only [Bool.and_eq_true, beq_iff_eq] at h
    obtain ⟨⟨⟨⟨⟨rfl, h2⟩, h3⟩, h4⟩, h5⟩, h6⟩ := h
    exact .plain o rfl (s_bi o h2 h4 h5 (sL es c T p X (y1 :: ys) o h6))
  | .met m a [], c, T, p, X, x, o, h => by
    obtain ⟨x1, n, ap, pos, hx, hq⟩ := inv_met0 h
    clear h
    subst hx
    have h := hq; clear hq
    simp only [Bool.and_eq_true, beq_iff_eq] at h
    obtain ⟨⟨⟨⟨rfl, rfl⟩, h3⟩, h4⟩, h5⟩ := h
    exact .plain o rfl (s_upper o (sE a c T p X x1 o h5).1 h3 (beq_iff_eq.mpr h4))
  | .met m a (e1 :: es), c, T, p, X, x, o, h => by
    obtain ⟨x1, n, ap, y1, ys, pos, hx, hq⟩ := inv_met h
    clear h
    subst hx
    have h := hq; clear hq
    rw [Bool.and_eq_true, Bool.and_eq_true, Bool.and_eq_true, Bool.and_eq_true, Bool.and_eq_true, Bool.and_eq_true, Bool.and_eq_true, Bool.and_eq_true] at h
    obtain ⟨⟨⟨⟨⟨⟨⟨⟨h1, h2⟩, h3⟩, h4⟩, h5⟩, h6⟩, h7⟩, h8⟩, h9⟩ := h
    rw [beq_iff_eq] at h1
    subst h1
    exact .plain o rfl (s_met o h2 h3 (sE a c T p X x1 o h8).1 h4 h5 (decide_eq_true_eq.mp h6) h7 (sL (e1 :: es) c T p X (y1 :: ys) o h9))
  | .pop i none, c, T, p, X, x, o, h => by
    obtain ⟨n, p2, m, ap, pos, hx, hq⟩ := inv_pop0 h
    clear h
    subst hx
    have h := hq; clear hq
    rw [Bool.and_eq_true, Bool.and_eq_true, Bool.and_eq_true, Bool.and_eq_true] at h
    obtain ⟨⟨⟨⟨h1, h2⟩, h3⟩, h4⟩, h5⟩ := h
    rw [beq_iff_eq] at h1 h4
    subst h4
    exact .plain o rfl (s_pop o h1 h2 h3 h5)
  | .pop i (some e), c, T, p, X, x, o, h => by
    obtain ⟨n, p2, m, ap, y1, pos, hx, hq⟩ := inv_pop1 h
    clear h
    subst hx
    have h := hq; clear hq
    rw [Bool.and_eq_true, Bool.and_eq_true, Bool.and_eq_true, Bool.and_eq_true, Bool.and_eq_true, Bool.and_eq_true] at h
    obtain ⟨⟨⟨⟨⟨⟨h1, h2⟩, h3⟩, h4⟩, h5⟩, h6⟩, h7⟩ := h
    rw [beq_iff_eq] at h1 h4
    subst h4
    exact .plain o rfl (s_popAt o h1 h2 h3 h5 h6 (sE e c T p X y1 o h7).1)
  | .dnew tk, c, T, p, X, x, o, h => by
    obtain ⟨pos, rfl⟩ := inv_dnew h
    exact .plain o rfl s_dnew
  | .rng es, c, T, p, X, x, o, h => by cases h
  | .enm e, c, T, p, X, x, o, h => by cases h
  | .zp a b, c, T, p, X, x, o, h => by cases h
  | .its e, c, T, p, X, x, o, h => by cases h
  | .sq e, c, T, p, X, x, o, h => by cases h
  | .lc own el pt it ifs, c, T, p, X, x, o, h => by
    obtain ⟨x1, tg, i, fs, scope, pos, hx, hq⟩ := inv_lc h
    clear h
    subst hx
    have h := hq; clear hq
    rw [Bool.and_eq_true, Bool.and_eq_true, Bool.and_eq_true, Bool.and_eq_true, Bool.and_eq_true, Bool.and_eq_true, Bool.and_eq_true] at h
    obtain ⟨⟨⟨⟨⟨⟨⟨h1, h2⟩, h3⟩, h4⟩, h5⟩, h6⟩, h7⟩, h8⟩ := h
    exact .plain o rfl (s_lc o h1 (sI it c T p X tg i o h2 h3) h4 h5 h6 (fun X' o' => (sE el _ T _ X' x1 o' h7).1) (fun X' o' => sF ifs _ T _ X' fs o' h8))
  | .lc2 own own1 el pt it ifs pt1 it1 ifs1, c, T, p, X, x, o, h => by
    obtain ⟨x1, tg, i, fs, tg1, i1, fs1, scope, pos, hx, hq⟩ := inv_lc2 h
    clear h
    subst hx
    have h := hq; clear hq
    rw [Bool.and_eq_true, Bool.and_eq_true, Bool.and_eq_true, Bool.and_eq_true, Bool.and_eq_true, Bool.and_eq_true, Bool.and_eq_true, Bool.and_eq_true, Bool.and_eq_true, Bool.and_eq_true, Bool.and_eq_true, Bool.and_eq_true, Bool.and_eq_true, Bool.and_eq_true] at h
    obtain ⟨⟨⟨⟨⟨⟨⟨⟨⟨⟨⟨⟨⟨⟨h1, h2⟩, h3⟩, h4⟩, h5⟩, h6⟩, h7⟩, h8⟩, h9⟩, h10⟩, h11⟩, h12⟩, h13⟩, h14⟩, h15⟩ := h
    exact .plain o rfl (s_lc2 o h1 h2 (sI it c T p X tg i o h3 h4) h5 h11 h6 h7 h12 h13 (fun X' o' => (sE el _ T _ X' x1 o' h15).1) (fun X' o' => sF ifs _ T _ X' fs o' h8) (fun X' o' => sF ifs1 _ T _ X' fs1 o' h14) (fun X' o' => sI it1 _ T _ X' tg1 i1 o' h9 h10))
  | .fmt a, c, T, p, X, x, o, h => by
    obtain ⟨x1, p1, pos, hx, hq⟩ := inv_fmt h
    clear h
    subst hx
    exact .plain o rfl (s_fmt (sE a c T p X x1 o hq).1)
  | .hear f ok hs e, c, T, p, X, x, o, h => by
    obtain ⟨n, p1, body, scope, lpos, pos, hx, hq⟩ := inv_hear h
    clear h
    subst hx
    rw [Bool.and_eq_true, Bool.and_eq_true, Bool.and_eq_true, Bool.and_eq_true, Bool.and_eq_true, Bool.and_eq_true] at hq
    obtain ⟨⟨⟨⟨⟨⟨h1, h2⟩, h3⟩, h4⟩, h5⟩, h6⟩, h7⟩ := hq
    rw [beq_iff_eq] at h1
    subst h1
    exact .plain o rfl (s_hear o h2 h3 h4 h5 h6 fun p' X' o' => (sE e _ T p' X' body o' h7).1)
theorem sL : ∀ (es : List Ex) (c : Cn) (T : String → Fn) (p : Pm) (X : Cx) (xs : List Expr), XO c T p X → ckL c es xs = true → PA X xs (tSA p (evL T es))
  | [], c, T, p, X, [], o, h => sA_nil
  | [], c, T, p, X, _ :: _, o, h => by cases h
  | _ :: _, c, T, p, X, [], o, h => by cases h
  | e :: es, c, T, p, X, x :: xs, o, h => by
    have h : (noStar x && ckE c e x && ckL c es xs) = true := h
    simp only [Bool.and_eq_true] at h
    exact sA_cons (sE e c T p X x o h.1.2).1 (sL es c T p X xs o h.2) (star_cons h.1.1)
theorem sF : ∀ (es : List Ex) (c : Cn) (T : String → Fn) (p : Pm) (X : Cx) (xs : List Expr), XO c T p X → ckF c es xs = true → PTs X xs (tST p (evT T es))
  | [], c, T, p, X, [], o, h => ⟨fun pins s σ H Q I ⟨F, env, R, q⟩ => pts_nil.run pins s σ H Q I (q true H F R (Ext.refl _) rfl)⟩
  | [], c, T, p, X, _ :: _, o, h => by cases h
  | [e], c, T, p, X, [x], o, h => by
    rw [ts_one]
    exact pts_one (sE e c T p X x o h).2.1
  | [_], c, T, p, X, [], o, h => by cases h
  | [_], c, T, p, X, _ :: _ :: _, o, h => by cases h
  | _ :: _ :: _, c, T, p, X, _, o, h => by cases h
theorem sK : ∀ (ks : List (String × Ex)) (c : Cn) (T : String → Fn) (p : Pm) (X : Cx) (xs : List Keyword), XO c T p X → ckK c ks xs = true → PK X xs (tSA p (evK T ks)) ∧ xs.map (·.arg) = (ks.map (·.1)).map (fun n => some (so n))
  | [], c, T, p, X, [], o, h => ⟨k_nil, rfl⟩
  | [], c, T, p, X, _ :: _, o, h => by cases h
  | _ :: _, c, T, p, X, [], o, h => by cases h
  | (s, e) :: es, c, T, p, X, ⟨a, x, kp⟩ :: xs, o, h => by
    cases a with
    | none => cases h
    | some n =>
      have h : (n == so s && ckE c e x && ckK c es xs) = true := h
      simp only [Bool.and_eq_true, beq_iff_eq] at h
      obtain ⟨⟨rfl, h2⟩, h3⟩ := h
      obtain ⟨k1, k2⟩ := sK es c T p X xs o h3
      exact ⟨k_cons (sE e c T p X x o h2).1 k1, by rw [List.map_cons, List.map_cons, List.map_cons, k2]⟩
theorem sO : ∀ (e : Option Ex) (c : Cn) (T : String → Fn) (p : Pm) (X : Cx) (x : Option Expr), XO c T p X → ckO c e x = true → PO X x (tSO p (evO T e))
  | none, c, T, p, X, none, o, h => o_none
  | none, c, T, p, X, some _, o, h => by cases h
  | some _, c, T, p, X, none, o, h => by cases h
  | some e, c, T, p, X, some x, o, h => o_some (sE e c T p X x o h).1
theorem sI : ∀ (e : Ex) (c : Cn) (T : String → Fn) (p : Pm) (X : Cx) (tg x : Expr), XO c T p X → ckI c e x = true → ckIT e tg = true → PI X tg x (tSI p (evI T e))
  | .rng es, c, T, p, X, tg, x, o, h, h' => by
    obtain ⟨n, p1, y1, ys, pos, hx, hq⟩ := inv_rng h
    clear h
    subst hx
    have h := hq; clear hq
    rw [Bool.and_eq_true, Bool.and_eq_true, Bool.and_eq_true, Bool.and_eq_true, Bool.and_eq_true] at h
    obtain ⟨⟨⟨⟨⟨h1, h2⟩, h3⟩, h4⟩, h5⟩, h6⟩ := h
    rw [beq_iff_eq] at h1
    subst h1
    have A := sL es c T p X (y1 :: ys) o h6
    rw [List.all_cons, Bool.and_eq_true] at h4
    have hlen := ck_len h6
    have h5 := decide_eq_true_eq.mp h5
    match es, ys, h4, h5, hlen, A with
    | [e1], [], h4, _, _, A => exact i_rng1 o h2 h3 h4.1 A
    | [e1, e2], [y2], h4, _, _, A =>
      rw [List.all_cons, Bool.and_eq_true] at h4
      exact i_rng2 o h2 h3 h4.1 h4.2.1 A
    | [e1, e2, e3], [y2, y3], h4, _, _, A =>
      rw [List.all_cons, Bool.and_eq_true, List.all_cons, Bool.and_eq_true] at h4
      exact i_rng3 o h2 h3 h4.1 h4.2.1 h4.2.2.1 A
    | es, _ :: _ :: _ :: _, _, h5, _, _ => exact absurd h5 (by simp)
    | [], _, _, _, hl, _ => exact absurd hl (by simp)
    | [_], _ :: _, _, _, hl, _ => exact absurd hl (by simp)
    | [_, _], [], _, _, hl, _ => exact absurd hl (by simp)
    | [_, _], [_, _], _, _, hl, _ => exact absurd hl (by simp)
    | [_, _, _], [], _, _, hl, _ => exact absurd hl (by simp)
    | [_, _, _], [_], _, _, hl, _ => exact absurd hl (by simp)
    | _ :: _ :: _ :: _ :: _, [], _, _, hl, _ => exact absurd hl (by simp)
    | _ :: _ :: _ :: _ :: _, [_], _, _, hl, _ => exact absurd hl (by simp)
    | _ :: _ :: _ :: _ :: _, [_, _], _, _, hl, _ => exact absurd hl (by simp)
  | .enm e, c, T, p, X, tg, x, o, h, h' => by
    obtain ⟨n, p1, y1, pos, hx, hq⟩ := inv_enm h
    clear h
    subst hx
    have h := hq; clear hq
    cases tg <;> first | (cases h'; done) | skip
    case Tuple ts kk p2 =>
      simp only [Bool.and_eq_true, beq_iff_eq] at h
      obtain ⟨⟨⟨⟨rfl, h2⟩, h3⟩, h4⟩, h5⟩ := h
      exact i_enm o h2 h3 h4 (sE e c T p X y1 o h5).1
  | .sq e, c, T, p, X, tg, x, o, h, h' => i_sq o (sE e c T p X x o h).1
  | .var _, c, T, p, X, tg, x, o, h, h' => by cases h
  | .con _, c, T, p, X, tg, x, o, h, h' => by cases h
  | .glo _ _, c, T, p, X, tg, x, o, h, h' => by cases h
  | .bin _ _ _, c, T, p, X, tg, x, o, h, h' => by cases h
  | .neg _, c, T, p, X, tg, x, o, h, h' => by cases h
  | .cmp _ _ _, c, T, p, X, tg, x, o, h, h' => by cases h
  | .chn _ _ _ _ _, c, T, p, X, tg, x, o, h, h' => by cases h
  | .isn _ _, c, T, p, X, tg, x, o, h, h' => by cases h
  | .not _, c, T, p, X, tg, x, o, h, h' => by cases h
  | .and _ _, c, T, p, X, tg, x, o, h, h' => by cases h
  | .or _ _, c, T, p, X, tg, x, o, h, h' => by cases h
  | .ife _ _ _, c, T, p, X, tg, x, o, h, h' => by cases h
  | .tup _, c, T, p, X, tg, x, o, h, h' => by cases h
  | .lst _, c, T, p, X, tg, x, o, h, h' => by cases h
  | .idx _ _, c, T, p, X, tg, x, o, h, h' => by cases h
  | .slc _ _ _, c, T, p, X, tg, x, o, h, h' => by cases h
  | .rev _, c, T, p, X, tg, x, o, h, h' => by cases h
  | .isi _ _, c, T, p, X, tg, x, o, h, h' => by cases h
  | .call _ _, c, T, p, X, tg, x, o, h, h' => by cases h
  | .callK _ _ _, c, T, p, X, tg, x, o, h, h' => by cases h
  | .bi _ _, c, T, p, X, tg, x, o, h, h' => by cases h
  | .met _ _ _, c, T, p, X, tg, x, o, h, h' => by cases h
  | .pop _ _, c, T, p, X, tg, x, o, h, h' => by cases h
  | .dnew _, c, T, p, X, tg, x, o, h, h' => by cases h
  | .zp _ _, c, T, p, X, tg, x, o, h, h' => by cases h
  | .its _, c, T, p, X, tg, x, o, h, h' => by cases h
  | .lc _ _ _ _ _, c, T, p, X, tg, x, o, h, h' => by cases h
  | .lc2 _ _ _ _ _ _ _ _ _, c, T, p, X, tg, x, o, h, h' => by cases h
  | .fmt _, c, T, p, X, tg, x, o, h, h' => by cases h
  | .hear _ _ _ _, c, T, p, X, tg, x, o, h, h' => by cases h
end
end Pv

/-! PvStm: statements in short, what they come to; which text stands for which. -/
namespace Pv
open PySem PySem.Spec PyProof.Rows L2
/-- what an assignment stores in -/
inductive Tg | nm (i : Nat) | sub (i : Nat) (e : Ex) | tup (ts : List Tg)
inductive Sx where
  | asg (tg : Tg) (e : Ex)
  | par (is : List Nat) (es : List Ex)
  | ex (e : Ex)
  | app (i : Nat) (e : Ex)
  | ret (e : Ex)
  | retN
  | ife (c : Ex) (a b : List Sx)
  | fr (pt : Pt) (it : Ex) (body : List Sx)
  | wh (n : Nat) (c : Ex) (body : List Sx)
  | brk
  | cnt
  | pas
  | die
  | rs (cls : String) (e : Ex)
inductive Ss | nx (env : En) | rt (v : Vl) (env : En) | bk (env : En) | ct (env : En) | ex (c : String) (d : D) (env : En) | stuck
def Rs.toS {α : Type} (r : Rs α) (f : α → En → Ss) : Ss := match r with
  | .ok a e => f a e
  | .ex c d e => .ex c d e
  | .stuck => .stuck
@[simp] theorem Rs.toS_ok {α : Type} (a : α) (e : En) (f : α → En → Ss) : (Rs.ok a e).toS f = f a e := rfl
@[simp] theorem Rs.toS_ex {α : Type} (c : String) (d : D) (e : En) (f : α → En → Ss) : (Rs.ex c d e : Rs α).toS f = .ex c d e := rfl
@[simp] theorem Rs.toS_stuck {α : Type} (f : α → En → Ss) : (Rs.stuck : Rs α).toS f = .stuck := rfl
/-- what a slot owns -/
def ownS : Option Sl → Option (D × Bool)
  | some (.ow d) => some (d, false)
  | some (.io d) => some (d, true)
  | _ => none
mutual
def setT (T : String → Fn) : Tg → Vl → En → Rs Unit
  | .nm i, v, env => match stN i v env with
    | some e => .ok () e
    | none => .stuck
  | .sub i k, v, env => match fz v env with
    | some (d, e1) => match ownS e1[i]? with
      | some _ => (evE T k e1).bind fun kv e2 => match ownS e2[i]?, cont kv e2 with
        | some (o, io), some dk => match setD o dk d with
          | some o' => .ok () (e2.set i (if io then .io o' else .ow o'))
          | none => .stuck
        | _, _ => .stuck
      | none => .stuck
    | none => .stuck
  | .tup ts, v, env => match fz v env with
    | some (.tup ds, e1) => if ds.length = ts.length then setTs T ts ds e1 else .stuck
    | some (.ft ds, e1) => if ds.length = ts.length then setTs T ts ds e1 else .stuck
    | _ => .stuck
def setTs (T : String → Fn) : List Tg → List D → En → Rs Unit
  | [], [], env => .ok () env
  | t :: ts, d :: ds, env => (setT T t (.sh d) env).bind fun _ e1 => setTs T ts ds e1
  | _, _, _ => .stuck
end
/-- what stands in slots is shared -/
def shB : List Vl → En → Option (List Vl × En)
  | [], env => some ([], env)
  | .bo i :: vs, env => match fz (.bo i) env with
    | some (d, e1) => (shB vs e1).map fun q => (.sh d :: q.1, q.2)
    | none => none
  | v :: vs, env => (shB vs env).map fun q => (v :: q.1, q.2)
def parS : List Nat → List Vl → En → Option En
  | [], [], env => some env
  | i :: is, .sh d :: vs, env => (stN i (.sh d) env).bind fun e1 => parS is vs e1
  | i :: is, .ow d :: vs, env => (stN i (.ow d) env).bind fun e1 => parS is vs e1
  | _, _, _ => none
def frLoop (body : En → Ss) (pt : Pt) : List D → En → Ss
  | [], env => .nx env
  | d :: ds, env => match bindPt pt d env with
    | none => .stuck
    | some e1 => match body e1 with
      | .nx e2 => frLoop body pt ds e2
      | .ct e2 => frLoop body pt ds e2
      | .bk e2 => .nx e2
      | .rt v e2 => .rt v e2
      | .ex c d e2 => .ex c d e2
      | .stuck => .stuck
def whLoop (tst : En → Rs Bool) (body : En → Ss) : Nat → En → Ss
  | 0, _ => .stuck
  | n + 1, env => (tst env).toS fun b e1 => match b with
    | true => match body e1 with
      | .nx e2 => whLoop tst body n e2
      | .ct e2 => whLoop tst body n e2
      | .bk e2 => .nx e2
      | .rt v e2 => .rt v e2
      | .ex c d e2 => .ex c d e2
      | .stuck => .stuck
    | false => .nx e1
mutual
def evS (T : String → Fn) : Sx → En → Ss
  | .asg tg e, env => (evE T e env).toS fun v e1 => (setT T tg v e1).toS fun _ e2 => .nx e2
  | .par is es, env => (evL T es env).toS fun vs e1 => match shB vs e1 with
    | some (ws, e2) => match parS is ws e2 with
      | some e3 => .nx e3
      | none => .stuck
    | none => .stuck
  | .ex e, env => (evE T e env).toS fun _ e1 => .nx e1
  | .app i e, env => match lstS env[i]? with
    | some _ => (evE T e env).toS fun v e1 => match fz v e1 with
      | some (d, e2) => match lstS e2[i]? with
        | some (l, io) => if l.length < sizeLine then .nx (e2.set i (if io then .io (.lst (l ++ [d])) else .ow (.lst (l ++ [d])))) else .stuck
        | none => .stuck
      | none => .stuck
    | none => .stuck
  | .ret e, env => (evE T e env).toS fun v e1 => .rt v e1
  | .retN, env => .rt (.sh .non) env
  | .ife c a b, env => (tru1 T c env).toS fun t e1 => match t with
    | true => evB T a e1
    | false => evB T b e1
  | .fr pt it body, env => (evI T it env).toS fun ds e1 => frLoop (evB T body) pt ds e1
  | .wh n c body, env => whLoop (tru1 T c) (evB T body) n env
  | .brk, env => .bk env
  | .cnt, env => .ct env
  | .pas, env => .nx env
  | .die, _ => .stuck
  | .rs k e, env => (evE T e env).toS fun v e1 => match fz v e1 with
    | some (d, e2) => .ex k d e2
    | none => .stuck
def evB (T : String → Fn) : List Sx → En → Ss
  | [], env => .nx env
  | s :: ss, env => match evS T s env with
    | .nx e => evB T ss e
    | .rt v e => .rt v e
    | .bk e => .bk e
    | .ct e => .ct e
    | .ex c d e => .ex c d e
    | .stuck => .stuck
end

/-! ### texts -/
def starX : Expr → Bool
  | .Starred .. => true
  | _ => false
def swNames (sc : Scope) (ts : List Expr) : List Str :=
  ts.filterMap fun
    | .Name id pos => if sc.names.lookup id == some .local && pos.line == (ts.head?.map (·.pos.line)).getD 0 then some id else none
    | _ => none
def swKind (sc : Scope) : ScopeKind := if sc.kind.isAnnotationScope then .function else sc.kind
/-- one after another: nothing is swapped -/
def swN (sc : Scope) : Expr → Expr → Bool
  | .Tuple ts _ _, .Tuple vs _ _ => (!(ts.length == 2 || ts.length == 3) || vs.length != ts.length || swKind sc != .function) || (vs.any starX) || ((swNames sc ts).length != ts.length || (swNames sc ts).eraseDups.length != (swNames sc ts).length) || (vs.all (foldedForSure 8))
  | .List .., .Tuple .. => false
  | _, _ => true
/-- swapped stores -/
def swS (sc : Scope) (ts vs : List Expr) : Bool := !(!(ts.length == 2 || ts.length == 3) || vs.length != ts.length || swKind sc != .function) && !(vs.any starX) && !((swNames sc ts).length != ts.length || (swNames sc ts).eraseDups.length != (swNames sc ts).length) &&
  !(vs.all (foldedForSure 8)) && !(vs.all (constantsAlone 8))
theorem sw_none {env : Env} {sc : Scope} {t v : Expr} (hs : env.scope = sc) (h : swN sc t v = true) : swappedStores [t] v env = pure none := by
  subst hs
  cases t <;> first | rfl | skip
  case Tuple ts k p =>
    cases v <;> first | rfl | skip
    case Tuple vs k2 p2 =>
      have h : ((!(ts.length == 2 || ts.length == 3) || vs.length != ts.length || env.blockKind != .function) || (vs.any starX) || ((swNames env.scope ts).length != ts.length || (swNames env.scope ts).eraseDups.length != (swNames env.scope ts).length) || (vs.all (foldedForSure 8))) = true := h
      show (if (!(ts.length == 2 || ts.length == 3) || vs.length != ts.length || env.blockKind != .function) = true then pure none else if vs.any starX = true then pure none else if ((swNames env.scope ts).length != ts.length || (swNames env.scope ts).eraseDups.length != (swNames env.scope ts).length) = true then pure none
        else if vs.all (foldedForSure 8) = true then pure none else if vs.all (constantsAlone 8) = true then unsupported "assign.tuple-of-constant-expressions:order-of-the-stores" >>= fun _ => pure (some (swNames env.scope ts)) else pure (some (swNames env.scope ts)) : Sem (Option (List Str))) = pure none
      rw [Bool.or_eq_true, Bool.or_eq_true, Bool.or_eq_true] at h
      by_cases c1 : (!(ts.length == 2 || ts.length == 3) || vs.length != ts.length || env.blockKind != .function) = true
      · rw [if_pos c1]
      · rw [if_neg c1]
        by_cases c2 : vs.any starX = true
        · rw [if_pos c2]
        · rw [if_neg c2]
          by_cases c3 : ((swNames env.scope ts).length != ts.length || (swNames env.scope ts).eraseDups.length != (swNames env.scope ts).length) = true
          · rw [if_pos c3]
          · rw [if_neg c3]
            rcases h with ((h | h) | h) | h
            · exact absurd h c1
            · exact absurd h c2
            · exact absurd h c3
            · rw [if_pos h]
  case List ts p =>
    cases v <;> first | rfl | cases h
theorem sw_some {env : Env} {sc : Scope} {ts vs : List Expr} {k k2 : Nat} {p p2 : Pos} (hs : env.scope = sc) (h : swS sc ts vs = true) : swappedStores [.Tuple ts k p] (.Tuple vs k2 p2) env = pure (some (swNames sc ts)) := by
  subst hs
  have h : (!(!(ts.length == 2 || ts.length == 3) || vs.length != ts.length || env.blockKind != .function) && !(vs.any starX) && !((swNames env.scope ts).length != ts.length || (swNames env.scope ts).eraseDups.length != (swNames env.scope ts).length) &&
    !(vs.all (foldedForSure 8)) && !(vs.all (constantsAlone 8))) = true := h
  show (if (!(ts.length == 2 || ts.length == 3) || vs.length != ts.length || env.blockKind != .function) = true then pure none else if vs.any starX = true then pure none else if ((swNames env.scope ts).length != ts.length || (swNames env.scope ts).eraseDups.length != (swNames env.scope ts).length) = true then pure none
        else if vs.all (foldedForSure 8) = true then pure none else if vs.all (constantsAlone 8) = true then unsupported "assign.tuple-of-constant-expressions:order-of-the-stores" >>= fun _ => pure (some (swNames env.scope ts)) else pure (some (swNames env.scope ts)) : Sem (Option (List Str))) = pure (some (swNames env.scope ts))
  rw [Bool.and_eq_true, Bool.and_eq_true, Bool.and_eq_true, Bool.and_eq_true] at h
  obtain ⟨⟨⟨⟨h1, h2⟩, h3⟩, h4⟩, h5⟩ := h
  rw [Bool.not_eq_true'] at h1 h2 h3 h4 h5
  rw [h1, h2, h3, h4, h5]
  rfl
theorem sole_no {t v : Expr} {l : Nat} {env : Env} (h : ∀ x p, t ≠ .Name x p) (hv : noComp v = true ∨ True) : swapsWithSole [t] v l env = pure false := by
  show swapsWith v (some t) l env = pure false
  cases t <;> first | (exact absurd rfl (h _ _)) | (cases v <;> rfl)
def ckTg (c : Cn) : Tg → Expr → Bool
  | .nm i, .Name x _ => c.N[i]? == some x && okSt c x
  | .sub i k, .Subscript (.Name x _) y _ => c.N[i]? == some x && visB c x && nameOk x && noSlice y && ckE c k y
  | .tup ts, .Tuple es _ _ => ckTgs ts es
  | _, _ => false
where ckTgs : List Tg → List Expr → Bool
  | [], [] => true
  | t :: ts, e :: es => noStar e && ckTg c t e && ckTgs ts es
  | _, _ => false
def ckNms (c : Cn) : List Nat → List Expr → Bool
  | [], [] => true
  | i :: is, .Name x _ :: es => c.N[i]? == some x && c.sc.names.lookup x == some .local && ckNms c is es
  | _, _ => false
def isLc : Ex → Bool
  | .lc .. => true
  | .lc2 .. => true
  | _ => false
mutual
def ckS (c : Cn) : Sx → Stmt → Bool
  | .asg tg e, .Assign [t] v _ => noStar t && ckTg c tg t && ckE c e v && swN c.sc t v && (noComp v || isLc e)
  | .par is es, .Assign [.Tuple ts _ _] (.Tuple vs _ _) _ => (is.length == 2 || is.length == 3) && decide is.Nodup && ckNms c is ts && swS c.sc ts vs && swNames c.sc ts == is.map (fun i => c.N.getD i ⟨#[]⟩) && ckL c es vs
  | .app i e, .Expr (.Call (.Attribute (.Name x _) n ap) [y] [] q) _ => c.N[i]? == some x && visB c x && nameOk x && n == so "append" && ap.endLine == q.line && noStar y && ckE c e y
  | .ex e, .Expr x _ => noComp x && ckE c e x
  | .ret e, .Return (some x) _ => ckE c e x
  | .retN, .Return none _ => true
  | .ife e a b, .If x p q _ => ckE c e x && ckB c a p && ckB c b q
  | .fr pt it body, .For tg x bd [] _ => ckI c it x && ckIT it tg && noSet x && ckPt c pt tg && ckB c body bd
  | .wh _ e body, .While x bd [] _ => ckE c e x && ckB c body bd
  | .brk, .Break _ => true
  | .cnt, .Continue _ => true
  | .pas, .Pass _ => true
  | .die, _ => true
  | .rs k e, .Raise (some (.Call (.Name x _) [y] [] _)) none _ => x == so k && gloB c x && nameOk x && c.xs.contains k && noStar y && ckE c e y
  | _, _ => false
def ckB (c : Cn) : List Sx → List Stmt → Bool
  | [], [] => true
  | s :: ss, x :: xs => ckS c s x && ckB c ss xs
  | _, _ => false
end
end Pv

/-! PvT1: statements keep what their texts say. -/
namespace Pv
open PySem PySem.Spec PyProof.Rows L2
variable [Tb]
/-- what must follow of a block's outcome -/
def GS (p : Pm) (S : Stt) (r : Ss) (D : Ends) : Prop := match r with
  | .nx e => ∀ σ H F, ER p.K p.ios ⟨F, e, σ, H⟩ → Ext S ⟨F, e, σ, H⟩ → D.nx σ H
  | .rt v e => ∀ σ H F x, ER p.K p.ios ⟨F, e, σ, H⟩ → Ext S ⟨F, e, σ, H⟩ → VR p.K S ⟨F, e, σ, H⟩ x v → D.rt x H
  | .bk e => ∀ σ H F, ER p.K p.ios ⟨F, e, σ, H⟩ → Ext S ⟨F, e, σ, H⟩ → D.bk σ H
  | .ct e => ∀ σ H F, ER p.K p.ios ⟨F, e, σ, H⟩ → Ext S ⟨F, e, σ, H⟩ → D.ct σ H
  | .ex c d e => ∀ cls dx σ H F, ER p.K p.ios ⟨F, e, σ, H⟩ → Ext S ⟨F, e, σ, H⟩ → ExR p.K p.cl c d cls dx F H → p.W cls dx σ H
  | .stuck => False
def tSS (p : Pm) (m : En → Ss) : TS := fun D σ H => ∃ F env, ER p.K p.ios ⟨F, env, σ, H⟩ ∧ GS p ⟨F, env, σ, H⟩ (m env) D
section
variable {p : Pm} {S S1 : Stt} {D D' : Ends}
theorem GS.step {r : Ss} (h : GS p S r D) (e : Ext S S1) : GS p S1 r D := by
  cases r with
  | nx en => exact fun σ H F a b => h σ H F a (e.trans b)
  | rt v en => exact fun σ H F x a b c => h σ H F x a (e.trans b) (c.back e)
  | bk en => exact fun σ H F a b => h σ H F a (e.trans b)
  | ct en => exact fun σ H F a b => h σ H F a (e.trans b)
  | ex c d en => exact fun cls dx σ H F a b z => h cls dx σ H F a (e.trans b) z
  | stuck => exact h
theorem GS.expr {α β : Type} {R : Stt → Stt → β → α → Prop} {r : Rs α} {f : α → En → Ss} (h : GS p S (r.toS f) D) : GP p R S r fun x H => ∃ v F e, r = .ok v e ∧ ER p.K p.ios ⟨F, e, S.σ, H⟩ ∧ Ext S ⟨F, e, S.σ, H⟩ ∧ R S ⟨F, e, S.σ, H⟩ x v ∧ GS p S (f v e) D := by
  cases r with
  | ok v e => exact fun x H F a b c => ⟨v, F, e, rfl, a, b, c, h⟩
  | ex c d e => exact fun cls dx H F a b z => h cls dx S.σ H F a b z
  | stuck => exact h
/-- a store's outcome -/
def GU (p : Pm) (S : Stt) (r : Rs Unit) (Q : L2.St → Hp → Prop) : Prop := match r with
  | .ok _ e => ∀ σ H F, ER p.K p.ios ⟨F, e, σ, H⟩ → Ext S ⟨F, e, σ, H⟩ → Q σ H
  | .ex c d e => ∀ cls dx σ H F, ER p.K p.ios ⟨F, e, σ, H⟩ → Ext S ⟨F, e, σ, H⟩ → ExR p.K p.cl c d cls dx F H → p.W cls dx σ H
  | .stuck => False
theorem GU.of {r : Rs Unit} (h : GS p S (r.toS fun _ e => .nx e) D) : GU p S r D.nx := by
  cases r with
  | ok v e => exact h
  | ex c d e => exact h
  | stuck => exact h
theorem GU.step {r : Rs Unit} {Q : L2.St → Hp → Prop} (h : GU p S r Q) (e : Ext S S1) : GU p S1 r Q := by
  cases r with
  | ok v en => exact fun σ H F a b => h σ H F a (e.trans b)
  | ex c d en => exact fun cls dx σ H F a b z => h cls dx σ H F a (e.trans b) z
  | stuck => exact h
theorem GU.bind {r : Rs Unit} {f : Unit → En → Rs Unit} {Q : L2.St → Hp → Prop} (h : GU p S (r.bind f) Q) : GU p S r fun σ H => ∃ F e, ER p.K p.ios ⟨F, e, σ, H⟩ ∧ Ext S ⟨F, e, σ, H⟩ ∧ GU p S (f () e) Q := by
  cases r with
  | ok v e => exact fun σ H F a b => ⟨F, e, a, b, h⟩
  | ex c d e => exact h
  | stuck => exact h
end
/-! ### stores -/
def tSV (p : Pm) (m : Vl → En → Rs Unit) : TG := fun x σ H Q => ∃ S0 F env w, ER p.K p.ios ⟨F, env, σ, H⟩ ∧ Ext S0 ⟨F, env, σ, H⟩ ∧ VR p.K S0 ⟨F, env, σ, H⟩ x w ∧ GU p S0 (m w env) Q
def tSVs (p : Pm) (m : List D → En → Rs Unit) : TGs := fun xs σ H Q => ∃ S0 F env ds, ER p.K p.ios ⟨F, env, σ, H⟩ ∧ Ext S0 ⟨F, env, σ, H⟩ ∧ RepL p.K F xs ds ∧ GU p S0 (m ds env) Q
section
variable {c : Cn} {T : String → Fn} {p : Pm} {X : Cx} {x y z : Expr} {pos : Pos}
/-- a name is stored: the state behind it -/
theorem stN_ok {S0 S : Stt} {i : Nat} {u : V} {w : Vl} {e1 : En} (R : ER p.K p.ios S) (E : Ext S0 S) (V1 : VR p.K S0 S u w) (h : stN i w S.env = some e1) :
    ∃ F', ER p.K p.ios ⟨F', e1, S.σ.set i (some u), S.H⟩ ∧ Ext S0 ⟨F', e1, S.σ.set i (some u), S.H⟩ := by
  have shc : ∀ {F : Hp} {env : En} {d : D}, ER p.K p.ios ⟨F, env, S.σ, S.H⟩ → Ext S0 ⟨F, env, S.σ, S.H⟩ → Rep p.K F u d → stN i (.sh d) env = some e1 → ∃ F', ER p.K p.ios ⟨F', e1, S.σ.set i (some u), S.H⟩ ∧ Ext S0 ⟨F', e1, S.σ.set i (some u), S.H⟩ := by
    intro F env d R' E' rep hb
    obtain ⟨rfl, hi, hio⟩ := stN_sh hb
    have hi2 : i < S.σ.length := by have := R'.len; simp only at this; omega
    exact ⟨F, er_store (S := ⟨F, env, S.σ, S.H⟩) R' hi hio (.inr (.inl ⟨d, rfl, rep⟩)), ext_store (S := ⟨F, env, S.σ, S.H⟩) E' hi hi2 (.inl fun d' => ⟨fun z => (by cases z), fun z => (by cases z)⟩)⟩
  cases w with
  | sh d => exact shc (F := S.F) (env := S.env) R E V1 h
  | bo j =>
    simp only [stN] at h
    cases c1 : fz (.bo j) S.env with
    | none => rw [c1] at h; cases h
    | some de =>
      obtain ⟨d, e2⟩ := de
      rw [c1] at h
      obtain ⟨F', R', E', rep, _, _⟩ := fz_ok R E V1 c1
      exact shc (F := F') (env := e2) R' E' rep h
  | ow d =>
    simp only [stN] at h
    cases q : S.env[i]? with
    | none => rw [q] at h; cases h
    | some s =>
      rw [q] at h
      simp only [Option.map_eq_some_iff] at h
      obtain ⟨s', h1, h2⟩ := h
      have hi := (List.getElem?_eq_some_iff.mp q).1
      have hi2 : i < S.σ.length := by have := R.len; omega
      obtain ⟨a, ho, v1, v2, v3, v4, v5, v6⟩ := V1
      have hs : s' = .ow d ∧ ∀ d', S.env[i]? ≠ some (.io d') := by
        cases s with
        | io d' => simp only [stO] at h1; cases h1
        | _ => simp only [stO, Option.some.injEq] at h1; exact ⟨h1.symm, fun _ z => by rw [q] at z; cases z⟩
      obtain ⟨rfl, hio⟩ := hs
      subst h2
      exact ⟨S.F, er_store R hi hio (.inr (.inr ⟨d, a, ho, rfl, v1, v2, v3, v4, v5⟩)), ext_store E hi hi2 (.inr ⟨a, v1, v6⟩)⟩
theorem g_nm (o : XO c T p X) {i : Nat} {n : Str} (h1 : c.N[i]? = some n) (h2 : okSt c n = true) : PG X (.Name n pos) (tSV p (setT T (.nm i))) := by
  obtain ⟨hl, hf⟩ := o.st h2
  refine PG.imp (pg_name (i := i) (by rw [o.N]; exact o.nd) (by rw [o.N]; exact h1) hl hf) fun u σ H Q ⟨S0, F, env, w, R, E, V1, h⟩ => ?_
  simp only [setT] at h
  cases q : stN i w env with
  | none => rw [q] at h; exact h.elim
  | some e1 =>
    rw [q] at h
    obtain ⟨F', R', E'⟩ := stN_ok (S := ⟨F, env, σ, H⟩) R E V1 q
    exact h _ H F' R' E'
theorem own_slot {S : Stt} {i : Nat} {d : D} {io : Bool} (R : ER p.K p.ios S) (h : ownS S.env[i]? = some (d, io)) : ∃ a ho, S.σ[i]? = some (some (.ref a)) ∧ S.H a = some ho ∧ Ob p.K S.F ho d ∧ OwnAt S i a ∧
    ((∃ d0, S.env[i]? = some (.ow d0) ∧ io = false) ∨ (∃ d0, S.env[i]? = some (.io d0) ∧ io = true)) := by
  cases q : S.env[i]? with
  | none => rw [q] at h; cases h
  | some s =>
    rw [q] at h
    cases s <;> first | (cases h; done) | skip
    case ow d' =>
      cases (show some (d', false) = some (d, io) from h)
      obtain ⟨a, ho, h1, h2, h3, h4⟩ := R.sl i _ q
      exact ⟨a, ho, h1, h2, h3, ⟨⟨_, .inl q⟩, h1⟩, .inl ⟨_, rfl, rfl⟩⟩
    case io d' =>
      cases (show some (d', true) = some (d, io) from h)
      obtain ⟨a, ho, h1, h0, h2, h3, h4⟩ := R.sl i _ q
      exact ⟨a, ho, h1, h2, h3, ⟨⟨_, .inr q⟩, h1⟩, .inr ⟨_, rfl, rfl⟩⟩
theorem own_put {S : Stt} {i : Nat} {m : D} {io : Bool} {a : Addr} {ho : HO} (R : ER p.K p.ios S) (o : OwnAt S i a) (hs : (∃ d0, S.env[i]? = some (.ow d0) ∧ io = false) ∨ (∃ d0, S.env[i]? = some (.io d0) ∧ io = true)) (r : Ob p.K S.F ho m) :
    ER p.K p.ios ⟨S.F, S.env.set i (if io then .io m else .ow m), S.σ, upd S.H a ho⟩ ∧ Ext S ⟨S.F, S.env.set i (if io then .io m else .ow m), S.σ, upd S.H a ho⟩ := by
  refine ⟨R.write (ho := ho) (d := m) o r _ ?_, Ext.write o⟩
  rcases hs with ⟨d0, e, rfl⟩ | ⟨d0, e, rfl⟩
  · exact .inl ⟨d0, e, rfl⟩
  · exact .inr ⟨d0, e, rfl⟩
theorem putL_rep {κ : Type} [DecidableEq κ] {K : PySem.W.Frag} {F : Hp} (g : κ → Ky) (gi : ∀ a b, g a = g b → a = b) (k : κ) {v : V} {d : D} (rv : Rep K F v d) {l : List (κ × V)} {ds : List (Ky × D)} (r : RepK K F (l.map fun q => (g q.1, q.2)) ds) :
    RepK K F ((putK l k v).map fun q => (g q.1, q.2)) (putL (g k) d ds) := by
  have hany : ∀ {l : List (κ × V)} {ds : List (Ky × D)}, RepK K F (l.map fun q => (g q.1, q.2)) ds → (ds.any fun q => decide (q.1 = g k)) = l.any fun kv => decide (kv.1 = k) := by
    intro l
    induction l with
    | nil => intro ds r; cases ds with
      | nil => rfl
      | cons _ _ => exact r.elim
    | cons q l ih => intro ds r; cases ds with
      | nil => exact r.elim
      | cons q2 ds =>
        have r : g q.1 = q2.1 ∧ Rep K F q.2 q2.2 ∧ RepK K F (l.map fun q => (g q.1, q.2)) ds := r
        rw [List.any_cons, List.any_cons, ih r.2.2, ← r.1]
        congr 1
        by_cases e : q.1 = k
        · rw [e]; simp
        · rw [decide_eq_false e, decide_eq_false fun z => e (gi _ _ z)]
  have hmap : ∀ {l : List (κ × V)} {ds : List (Ky × D)}, RepK K F (l.map fun q => (g q.1, q.2)) ds → RepK K F ((l.map fun kv => if kv.1 = k then (kv.1, v) else kv).map fun q => (g q.1, q.2)) (ds.map fun q => if q.1 = g k then (q.1, d) else q) := by
    intro l
    induction l with
    | nil => intro ds r; cases ds with
      | nil => trivial
      | cons _ _ => exact r.elim
    | cons q l ih => intro ds r; cases ds with
      | nil => exact r.elim
      | cons q2 ds =>
        have r : g q.1 = q2.1 ∧ Rep K F q.2 q2.2 ∧ RepK K F (l.map fun q => (g q.1, q.2)) ds := r
        obtain ⟨a, b⟩ := q
        obtain ⟨a2, b2⟩ := q2
        obtain ⟨r1, r2, r3⟩ := r
        simp only at r1 r2
        subst r1
        rw [List.map_cons, List.map_cons, List.map_cons]
        by_cases e : a = k
        · subst e
          rw [if_pos rfl, if_pos rfl]
          exact ⟨rfl, rv, ih r3⟩
        · rw [if_neg e, if_neg fun z => e (gi _ _ z)]
          exact ⟨rfl, r2, ih r3⟩
  have happ : ∀ {l : List (Ky × V)} {ds : List (Ky × D)}, RepK K F l ds → RepK K F (l ++ [(g k, v)]) (ds ++ [(g k, d)]) := by
    intro l
    induction l with
    | nil => intro ds r; cases ds with
      | nil => exact ⟨rfl, rv, trivial⟩
      | cons _ _ => exact r.elim
    | cons q l ih => intro ds r; cases ds with
      | nil => exact r.elim
      | cons q2 ds => exact ⟨r.1, r.2.1, ih r.2.2⟩
  unfold putK putL
  rw [hany r]
  split
  · exact hmap r
  · rw [List.map_append]
    exact happ r
theorem repK_len {K : PySem.W.Frag} {F : Hp} : ∀ {l : List (Ky × V)} {ds : List (Ky × D)}, RepK K F l ds → l.length = ds.length
  | [], [], _ => rfl
  | _ :: _, _ :: _, r => by simp [repK_len r.2.2]
  | [], _ :: _, r => r.elim
  | _ :: _, [], r => r.elim
def rSetU : TSet := fun o i v H Q => rSetL o i v H Q ∨ rSetD o i v H Q
theorem set_u (hu : X.A.units + 1 < cLine) : PSet X rSetU := by
  intro pins s σ H o i v ov iv u Q I ro ri rv h
  rcases h with h | h
  · exact set_list pins s σ H o i v ov iv u Q I ro ri rv h
  · exact set_dict hu pins s σ H o i v ov iv u Q I ro ri rv h
/-- an owned object is written at a place -/
theorem setD_ok {S : Stt} {i : Nat} {o o' dk d : D} {io : Bool} {k u : V} {Q : Hp → Prop} {a : Addr} (R : ER p.K p.ios S) (h : ownS S.env[i]? = some (o, io)) (ha : S.σ[i]? = some (some (.ref a))) (rk : Rd p.K S k dk) (rv : Rep p.K S.F u d) (e : setD o dk d = some o')
    (q : ∀ H', ER p.K p.ios ⟨S.F, S.env.set i (if io then .io o' else .ow o'), S.σ, H'⟩ → Ext S ⟨S.F, S.env.set i (if io then .io o' else .ow o'), S.σ, H'⟩ → Q H') : rSetU (.ref a) k u S.H Q := by
  obtain ⟨a', ho, h1, h2, h3, h4, h5⟩ := own_slot R h
  rw [ha] at h1
  cases h1
  cases o <;> first | exact none_some e | skip
  case lst l =>
    cases dk <;> first | exact none_some e | skip
    case int n =>
      have e : (ixN l.length n).map (fun j => D.lst (l.set j d)) = some o' := e
      rw [Option.map_eq_some_iff] at e
      obtain ⟨j, hj, rfl⟩ := e
      obtain ⟨vs, rfl, r⟩ := h3
      obtain ⟨w1, w2⟩ := own_put (m := .lst (l.set j d)) (ho := .lst (vs.set j u)) R h4 h5 ⟨_, rfl, r.set rv j⟩
      exact .inl ⟨a, vs, n, j, rfl, rk.int, h2, by rw [r.length]; exact hj, q _ w1 w2⟩
  case dic tk kvs =>
    have e : (if kvs.length < sizeLine then (keyD tk dk).map fun k => D.dic tk (putL k d kvs) else none) = some o' := e
    split at e
    · rename_i hz
      rw [Option.map_eq_some_iff] at e
      obtain ⟨k', hk, rfl⟩ := e
      obtain ⟨vs, hD, rK⟩ := h3
      rcases key_ok R rk hk with ⟨rfl, k2, rfl, rfl⟩ | ⟨rfl, ks, b, rfl, rfl, hb⟩
      · obtain ⟨l, rfl, rfl⟩ := hD
        have hl := repK_len rK
        rw [List.length_map] at hl
        obtain ⟨w1, w2⟩ := own_put (m := .dic false (putL (.one (k1of k2)) d kvs)) (ho := .dK (putK l k2 u)) R h4 h5 ⟨_, ⟨_, rfl, rfl⟩, putL_rep (fun k => Ky.one (k1of k)) one_inj k2 rv rK⟩
        exact .inr ⟨a, _, rfl, DPut.k h2 (by omega), q _ w1 w2⟩
      · obtain ⟨l, rfl, rfl⟩ := hD
        have hl := repK_len rK
        rw [List.length_map] at hl
        obtain ⟨w1, w2⟩ := own_put (m := .dic true (putL (.tup (ks.map k1of)) d kvs)) (ho := .dT (putK l ks u)) R h4 h5 ⟨_, ⟨_, rfl, rfl⟩, putL_rep (fun ks => Ky.tup (ks.map k1of)) tup_inj ks rv rK⟩
        exact .inr ⟨a, _, rfl, DPut.t h2 hb (by omega), q _ w1 w2⟩
    · cases e
theorem sub_asg {o i : Expr} {env : Env} (h : noSlice i = true) : ∀ v, assign (.Subscript o i pos) env v = (do
      let ov ← holding [v] (eval o env)
      let iv ← holding [v, ov] (eval i env)
      standAt pos
      holding [v, ov, iv] (setItem ov iv v)
      release [v, ov, iv] []) := by
  intro v
  cases i <;> first | rfl | cases h
theorem g_sub (o : XO c T p X) {i : Nat} {n : Str} {k : Ex} {p2 : Pos} (h1 : c.N[i]? = some n) (h2 : visB c n = true) (h3 : nameOk n = true) (hs : noSlice y = true) (hk : PE X y (tSE p (evE T k))) : PG X (.Subscript (.Name n p2) y pos) (tSV p (setT T (.sub i k))) := by
  obtain ⟨n1, n2, _⟩ := name_ok h3
  have hu : X.A.units + 1 < cLine := by have := o.hu; omega
  refine PG.imp (pg_sub (pe_var (i := i) (by rw [o.N]; exact h1) (by rw [o.sc]; exact vis_of h2) n1 n2) hk (set_u hu) (sub_asg hs)) fun u σ H Q ⟨S0, F, env, w, R, E, V1, h⟩ => ?_
  simp only [setT] at h
  cases c1 : fz w env with
  | none => rw [c1] at h; exact h.elim
  | some de =>
    obtain ⟨d, e1⟩ := de
    rw [c1] at h
    simp only at h
    obtain ⟨F1, R1, E1, rep, _, _⟩ := fz_ok (S := ⟨F, env, σ, H⟩) R E V1 c1
    cases c2 : ownS e1[i]? with
    | none => rw [c2] at h; exact h.elim
    | some q0 =>
      obtain ⟨o0, io0⟩ := q0
      rw [c2] at h
      simp only at h
      obtain ⟨a, _, ha, _⟩ := own_slot (S := ⟨F1, e1, σ, H⟩) R1 c2
      refine ⟨.ref a, ha, F1, e1, R1, ?_⟩
      -- the key
      cases c3 : evE T k e1 with
      | stuck => rw [c3] at h; exact h.elim
      | ex cc dd ee =>
        rw [c3] at h
        exact fun cls dx H2 F2 R2 E2 z => h cls dx σ H2 F2 R2 (E1.trans E2) z
      | ok kv e2 =>
        rw [c3] at h
        simp only [Rs.bind_ok] at h
        intro kx H2 F2 R2 E2 V2
        cases c4 : ownS e2[i]? with
        | none => rw [c4] at h; exact h.elim
        | some q =>
          obtain ⟨o1, io⟩ := q
          cases c5 : cont kv e2 with
          | none => rw [c4, c5] at h; exact h.elim
          | some dk =>
            rw [c4, c5] at h
            simp only at h
            cases c6 : setD o1 dk d with
            | none => rw [c6] at h; exact h.elim
            | some o' =>
              rw [c6] at h
              exact setD_ok (S := ⟨F2, e2, σ, H2⟩) R2 c4 ha (cont_rd R2 V2 c5) (rep.mono E2.fsub) c6 fun H' w1 w2 => h σ H' F2 w1 ((E1.trans E2).trans w2)
theorem ckTgs_star {c : Cn} : ∀ {ts : List Tg} {es : List Expr}, ckTg.ckTgs c ts es = true → es.all noStar = true ∧ es.length = ts.length
  | [], [], _ => ⟨rfl, rfl⟩
  | [], _ :: _, h => by cases h
  | _ :: _, [], h => by cases h
  | t :: ts, e :: es, h => by
    have h : (noStar e && ckTg c t e && ckTg.ckTgs c ts es) = true := h
    simp only [Bool.and_eq_true] at h
    obtain ⟨h1, h2⟩ := ckTgs_star h.2
    exact ⟨by rw [List.all_cons, h.1.1, h1]; rfl, by simp [h2]⟩
mutual
theorem g_ok (o : XO c T p X) : ∀ (tg : Tg) (x : Expr), ckTg c tg x = true → PG X x (tSV p (setT T tg))
  | .nm i, x, h => by
    cases x <;> first | (cases h; done) | skip
    case Name n pos =>
      have h : (c.N[i]? == some n && okSt c n) = true := h
      simp only [Bool.and_eq_true, beq_iff_eq] at h
      exact g_nm o h.1 h.2
  | .sub i k, x, h => by
    cases x <;> first | (cases h; done) | skip
    case Subscript x1 y1 pos =>
      cases x1 <;> first | (cases h; done) | skip
      case Name n p2 =>
        have h : (c.N[i]? == some n && visB c n && nameOk n && noSlice y1 && ckE c k y1) = true := h
        simp only [Bool.and_eq_true, beq_iff_eq] at h
        obtain ⟨⟨⟨⟨h1, h2⟩, h3⟩, h4⟩, h5⟩ := h
        exact g_sub o h1 h2 h3 h4 (sE k c T p X y1 o h5).1
  | .tup ts, x, h => by
    cases x <;> first | (cases h; done) | skip
    case Tuple es k pos =>
      have h : ckTg.ckTgs c ts es = true := h
      obtain ⟨h1, h2⟩ := ckTgs_star h
      obtain ⟨h3, h4⟩ := asg_len (env := X.env) h1
      refine PG.imp (pg_tup o.calm (gs_ok o ts es h) h3 h4) fun u σ H Q ⟨S0, F, env, w, R, E, V1, hh⟩ => ?_
      simp only [setT] at hh
      cases c1 : fz w env with
      | none => rw [c1] at hh; exact hh.elim
      | some de =>
        obtain ⟨d, e1⟩ := de
        rw [c1] at hh
        obtain ⟨F1, R1, E1, rep, _, _⟩ := fz_ok (S := ⟨F, env, σ, H⟩) R E V1 c1
        have key : ∀ {a : Addr} {vs : List V} {ds : List D}, u = .ref a → SqT p.K H a vs → RepL p.K F1 vs ds → GU p S0 (if ds.length = ts.length then setTs T ts ds e1 else .stuck) Q → gTup X.K es.length (tSVs p (setTs T ts)) u σ H Q := by
          intro a vs ds q1 q2 q3 q4
          split at q4
          · rename_i hl
            exact ⟨a, vs, q1, by rw [← o.K]; exact q2, by rw [q3.length, hl, h2], S0, F1, e1, ds, R1, E1, q3, q4⟩
          · exact q4.elim
        cases d <;> first | exact hh.elim | skip
        case tup ds =>
          simp only [Rep] at rep
          obtain ⟨a, vs, q, k1, k2⟩ := rep
          exact key q (SqT.of (R1.sub _ _ k1)) k2 hh
        case ft ds =>
          simp only [Rep] at rep
          obtain ⟨a, vs, q, k1, k2⟩ := rep
          exact key q (SqT.sub R1.sub k1) k2 hh
theorem gs_ok (o : XO c T p X) : ∀ (ts : List Tg) (es : List Expr), ckTg.ckTgs c ts es = true → PGs X es (tSVs p (setTs T ts))
  | [], [], _ => PGs.imp pgs_nil fun vs σ H Q ⟨S0, F, env, ds, R, E, rep, hh⟩ => by
    cases ds with
    | cons _ _ => simp only [setTs] at hh; exact hh.elim
    | nil =>
      cases vs with
      | cons _ _ => exact rep.elim
      | nil =>
        simp only [setTs] at hh
        exact ⟨rfl, hh σ H F R E⟩
  | [], _ :: _, h => by cases h
  | _ :: _, [], h => by cases h
  | t :: ts, e :: es, h => by
    have h : (noStar e && ckTg c t e && ckTg.ckTgs c ts es) = true := h
    simp only [Bool.and_eq_true] at h
    refine PGs.imp (pgs_cons (g_ok o t e h.1.2) (gs_ok o ts es h.2) (by rw [asg_cons h.1.1]; rfl)) fun vs σ H Q ⟨S0, F, env, ds, R, E, rep, hh⟩ => ?_
    cases ds with
    | nil => simp only [setTs] at hh; exact hh.elim
    | cons d ds =>
      cases vs with
      | nil => exact rep.elim
      | cons v vs =>
        simp only [setTs] at hh
        refine ⟨v, vs, rfl, ⟨F, env, σ, H⟩, F, env, .sh d, R, Ext.refl _, rep.1, ?_⟩
        have q := GU.bind (GU.step hh E)
        cases c1 : setT T t (.sh d) env with
        | stuck => rw [c1] at q; exact q.elim
        | ex cc dd ee => rw [c1] at q; exact q
        | ok _ e2 =>
          rw [c1] at q
          intro σ2 H2 F2 R2 E2
          obtain ⟨F3, e3, R3, E3, q3⟩ := q σ2 H2 F2 R2 E2
          exact ⟨⟨F, env, σ, H⟩, F3, e3, ds, R3, E3, rep.2.mono E3.fsub, q3⟩
end
theorem asg_key {tg : Tg} {e : Ex} (D : Ends) (σ : L2.St) (H : Hp) (h : tSS p (evS T (.asg tg e)) D σ H) : tAsg (tSE p (evE T e)) (tSV p (setT T tg)) D σ H := by
  obtain ⟨F, env, R, h⟩ := h
  simp only [evS] at h
  exact ⟨F, env, R, (GS.expr h).imp fun x H1 ⟨v, F1, e1, _, R1, E1, V1, h1⟩ => ⟨⟨F, env, σ, H⟩, F1, e1, v, R1, E1, V1, GU.of h1⟩⟩
theorem s_asg (o : XO c T p X) {tg : Tg} {e : Ex} {t v : Expr} (hn : ∀ n q, t ≠ .Name n q) (hst : noStar t = true) (ht : ckTg c tg t = true) (hv : PE X v (tSE p (evE T e))) (hw : swN c.sc t v = true) : PS X (.Assign [t] v pos) (tSS p (evS T (.asg tg e))) :=
  PS.imp (ps_asg hv (g_ok o tg t ht) (sole_no hn (.inr trivial)) (sw_none o.sc hw) (by rw [asg_cons hst]; rfl)) asg_key
theorem nm_key {i : Nat} (u : V) (σ : L2.St) (H : Hp) (Q : L2.St → Hp → Prop) (h : tSV p (setT T (.nm i)) u σ H Q) : gName i u σ H Q := by
  obtain ⟨S0, F, env, w, R, E, V1, h⟩ := h
  simp only [setT] at h
  cases q : stN i w env with
  | none => rw [q] at h; exact h.elim
  | some e1 =>
    rw [q] at h
    obtain ⟨F', R', E'⟩ := stN_ok (S := ⟨F, env, σ, H⟩) R E V1 q
    exact h _ H F' R' E'
theorem asg_nm {i : Nat} {e : Ex} (D : Ends) (σ : L2.St) (H : Hp) (h : tSS p (evS T (.asg (.nm i) e)) D σ H) : tAsg (tSE p (evE T e)) (gName i) D σ H := by
  obtain ⟨F, env, R, h⟩ := asg_key D σ H h
  exact ⟨F, env, R, h.imp fun x H1 q => nm_key x σ H1 _ q⟩
theorem s_set (o : XO c T p X) {i : Nat} {e : Ex} {n : Str} {v : Expr} {p2 : Pos} (h1 : c.N[i]? = some n) (h2 : okSt c n = true) (hs : swapsWith v (some (.Name n p2)) pos.line X.env = pure false) (hv : PE X v (tSE p (evE T e))) : PS X (.Assign [.Name n p2] v pos) (tSS p (evS T (.asg (.nm i) e))) := by
  obtain ⟨hl, hf⟩ := o.st h2
  exact PS.imp (ps_set (i := i) (by rw [o.N]; exact o.nd) (by rw [o.N]; exact h1) hl hv hs hf) asg_nm
/-- a comprehension, stored while it ends or behind it -/
theorem s_setLc (o : XO c T p X) {i : Nat} {e : Ex} {n : Str} {v : Expr} {p2 : Pos} (hlc : isLc e = true) (h1 : c.N[i]? = some n) (h2 : okSt c n = true) (hv : ckE c e v = true) : PS X (.Assign [.Name n p2] v pos) (tSS p (evS T (.asg (.nm i) e))) := by
  have sw : ∀ {elt : Expr} {gs : List Comprehension} {scope : Scope} {q : Pos}, (swapsWith (.ListComp elt gs scope q) (some (.Name n p2)) pos.line X.env = pure false) ∨ (swapsWith (.ListComp elt gs scope q) (some (.Name n p2)) pos.line X.env = pure true ∧ c.sc.names.lookup n = some .local) := by
    intro elt gs scope q
    have e : swapsWith (.ListComp elt gs scope q) (some (.Name n p2)) pos.line X.env = pure (X.env.blockKind == .function && X.env.kindOf n == some .local && p2.line == (Expr.ListComp elt gs scope q).pos.line && !(scope.names.any fun (n', k) => n' == n && (k == .local || k == .cell))) := rfl
    rw [e]
    cases q : (X.env.blockKind == .function && X.env.kindOf n == some .local && p2.line == (Expr.ListComp elt gs scope _).pos.line && !(scope.names.any fun (n', k) => n' == n && (k == .local || k == .cell))) with
    | false => exact .inl rfl
    | true =>
      simp only [Bool.and_eq_true] at q
      refine .inr ⟨rfl, ?_⟩
      rw [← o.sc]
      exact beq_iff_eq.mp q.1.1.2
  cases e <;> first | (cases hlc; done) | skip
  case lc own el pt it ifs =>
    have A := (sE (.lc own el pt it ifs) c T p X v o hv).1
    obtain ⟨x1, tg, it2, fs, scope, q, hx, h⟩ := inv_lc hv
    clear hv
    subst hx
    rcases sw (elt := x1) (gs := [⟨tg, it2, fs, 0⟩]) (scope := scope) (q := q) with hb | ⟨hb, h2⟩
    · exact s_set o h1 h2 hb A
    ·
      rw [Bool.and_eq_true, Bool.and_eq_true, Bool.and_eq_true, Bool.and_eq_true, Bool.and_eq_true, Bool.and_eq_true, Bool.and_eq_true] at h
      obtain ⟨⟨⟨⟨⟨⟨⟨k1, k2⟩, k3⟩, k4⟩, k5⟩, k6⟩, k7⟩, k8⟩ := h
      exact PS.imp (st_lc o h1 h2 hb k1 (sI it c T p X tg it2 o k2 k3) k4 k5 k6 (fun X' o' => (sE el _ T _ X' x1 o' k7).1) (fun X' o' => sF ifs _ T _ X' fs o' k8)) asg_nm
  case lc2 own own1 el pt it ifs pt1 it1 ifs1 =>
    have A := (sE (.lc2 own own1 el pt it ifs pt1 it1 ifs1) c T p X v o hv).1
    obtain ⟨x1, tg, it2, fs, tg1, i1, fs1, scope, q, hx, h⟩ := inv_lc2 hv
    clear hv
    subst hx
    rcases sw (elt := x1) (gs := [⟨tg, it2, fs, 0⟩, ⟨tg1, i1, fs1, 0⟩]) (scope := scope) (q := q) with hb | ⟨hb, h2⟩
    · exact s_set o h1 h2 hb A
    ·
      rw [Bool.and_eq_true, Bool.and_eq_true, Bool.and_eq_true, Bool.and_eq_true, Bool.and_eq_true, Bool.and_eq_true, Bool.and_eq_true, Bool.and_eq_true, Bool.and_eq_true, Bool.and_eq_true, Bool.and_eq_true, Bool.and_eq_true, Bool.and_eq_true, Bool.and_eq_true] at h
      obtain ⟨⟨⟨⟨⟨⟨⟨⟨⟨⟨⟨⟨⟨⟨k1, k2⟩, k3⟩, k4⟩, k5⟩, k6⟩, k7⟩, k8⟩, k9⟩, k10⟩, k11⟩, k12⟩, k13⟩, k14⟩, k15⟩ := h
      exact PS.imp (st_lc2 o h1 h2 hb k1 k2 (sI it c T p X tg it2 o k3 k4) k5 k11 k6 k7 k12 k13 (fun X' o' => (sE el _ T _ X' x1 o' k15).1) (fun X' o' => sF ifs _ T _ X' fs o' k8) (fun X' o' => sF ifs1 _ T _ X' fs1 o' k14) (fun X' o' => sI it1 _ T _ X' tg1 i1 o' k9 k10)) asg_nm

/-! ### several names at once -/
def noBo : Vl → Bool
  | .bo _ => false
  | _ => true
theorem sep_sh {x : V} {d : D} : ∀ (xs : List V) (vs : List Vl), Sep x (.sh d) xs vs
  | [], [] => trivial
  | [], _ :: _ => trivial
  | _ :: _, [] => trivial
  | _ :: xs, _ :: vs => ⟨fun _ _ h _ => (by cases h), sep_sh xs vs⟩
theorem shB_ok {S0 : Stt} : ∀ {xs : List V} {vs ws : List Vl} {S : Stt} {e1 : En}, ER p.K p.ios S → Ext S0 S → VRs p.K S0 S xs vs → shB vs S.env = some (ws, e1) →
    ∃ F', ER p.K p.ios ⟨F', e1, S.σ, S.H⟩ ∧ Ext S0 ⟨F', e1, S.σ, S.H⟩ ∧ VRs p.K S0 ⟨F', e1, S.σ, S.H⟩ xs ws ∧ ws.all noBo = true ∧ Ext S ⟨F', e1, S.σ, S.H⟩ ∧ (∀ x v, Sep x v xs vs → (∀ i, v ≠ .bo i) → Sep x v xs ws)
  | [], [], ws, S, e1, R, E, r, h => by
    simp only [shB, Option.some.injEq, Prod.mk.injEq] at h
    obtain ⟨rfl, rfl⟩ := h
    exact ⟨S.F, R, E, trivial, rfl, Ext.refl _, fun _ _ _ _ => trivial⟩
  | [], _ :: _, _, _, _, _, _, r, _ => r.elim
  | _ :: _, [], _, _, _, _, _, r, _ => r.elim
  | x :: xs, .bo i :: vs, ws, S, e1, R, E, r, h => by
    simp only [shB] at h
    cases c1 : fz (.bo i) S.env with
    | none => rw [c1] at h; cases h
    | some de =>
      obtain ⟨d, e2⟩ := de
      rw [c1] at h
      simp only [Option.map_eq_some_iff] at h
      obtain ⟨⟨ws', e3⟩, h1, h2⟩ := h
      simp only [Prod.mk.injEq] at h2
      obtain ⟨rfl, rfl⟩ := h2
      obtain ⟨F1, R1, E01, rep, s1, _⟩ := fz_ok (S0 := S) R (Ext.refl _) (show VR p.K S S x (.bo i) from r.1) c1
      obtain ⟨F2, R2, E2, r2, nb, E12, sp⟩ := shB_ok (S := ⟨F1, e2, S.σ, S.H⟩) R1 (E.trans E01) (VRs.step (ios := p.ios) E01 rfl r.2.2) h1
      exact ⟨F2, R2, E2, ⟨rep.mono E12.fsub, sep_sh _ _, r2⟩, by simpa [noBo] using nb, E01.trans E12, fun y v s hb => ⟨fun d1 d2 q1 q2 => (by cases q2), sp y v s.2 hb⟩⟩
  | x :: xs, .sh d :: vs, ws, S, e1, R, E, r, h => by
    simp only [shB, Option.map_eq_some_iff] at h
    obtain ⟨⟨ws', e3⟩, h1, h2⟩ := h
    simp only [Prod.mk.injEq] at h2
    obtain ⟨rfl, rfl⟩ := h2
    obtain ⟨F2, R2, E2, r2, nb, E12, sp⟩ := shB_ok R E r.2.2 h1
    exact ⟨F2, R2, E2, ⟨Rep.mono E12.fsub r.1, sep_sh _ _, r2⟩, by simpa [noBo] using nb, E12, fun y v s hb => ⟨s.1, sp y v s.2 hb⟩⟩
  | x :: xs, .ow d :: vs, ws, S, e1, R, E, r, h => by
    simp only [shB, Option.map_eq_some_iff] at h
    obtain ⟨⟨ws', e3⟩, h1, h2⟩ := h
    simp only [Prod.mk.injEq] at h2
    obtain ⟨rfl, rfl⟩ := h2
    obtain ⟨F2, R2, E2, r2, nb, E12, sp⟩ := shB_ok R E r.2.2 h1
    exact ⟨F2, R2, E2, ⟨r.1.step (ios := p.ios) E12 rfl, sp x (.ow d) r.2.1 (fun i z => by cases z), r2⟩, by simpa [noBo] using nb, E12, fun y v s hb => ⟨s.1, sp y v s.2 hb⟩⟩
/-- all of σ's slots at is -/
def putS (σ : L2.St) : List Nat → List V → L2.St
  | i :: is, x :: xs => putS (σ.set i (some x)) is xs
  | _, _ => σ
theorem parS_ok {S0 : Stt} : ∀ {is : List Nat} {xs : List V} {ws : List Vl} {S : Stt} {e1 : En}, ER p.K p.ios S → Ext S0 S → VRs p.K S0 S xs ws → ws.all noBo = true → parS is ws S.env = some e1 →
    ∃ F', ER p.K p.ios ⟨F', e1, putS S.σ is xs, S.H⟩ ∧ Ext S0 ⟨F', e1, putS S.σ is xs, S.H⟩ ∧ is.length = xs.length
  | [], [], [], S, e1, R, E, r, _, h => by
    cases (show some S.env = some e1 from h)
    exact ⟨S.F, R, E, rfl⟩
  | _, [], _ :: _, _, _, _, _, r, _, _ => r.elim
  | _, _ :: _, [], _, _, _, _, r, _, _ => r.elim
  | [], _ :: _, _ :: _, _, _, _, _, _, _, h => by cases h
  | _ :: _, [], [], _, _, _, _, _, _, h => by cases h
  | i :: is, x :: xs, w :: ws, S, e1, R, E, r, hb, h => by
    rw [List.all_cons, Bool.and_eq_true] at hb
    have h : (stN i w S.env).bind (fun e1 => parS is ws e1) = some e1 := by
      cases w with
      | bo j => cases hb.1
      | sh d => exact h
      | ow d => exact h
    rw [Option.bind_eq_some_iff] at h
    obtain ⟨e2, h1, h2⟩ := h
    -- one store
    have one : ER p.K p.ios ⟨S.F, e2, S.σ.set i (some x), S.H⟩ ∧ Ext S0 ⟨S.F, e2, S.σ.set i (some x), S.H⟩ ∧ (∀ q, Own ⟨S.F, e2, S.σ.set i (some x), S.H⟩ q → Own S q ∨ (x = .ref q ∧ ∃ d, w = .ow d)) := by
      have new : ∀ {s' : Sl}, i < S.env.length → i < S.σ.length → (∀ d, s' = .ow d ∨ s' = .io d → ∃ d, w = .ow d) → ∀ q, Own ⟨S.F, S.env.set i s', S.σ.set i (some x), S.H⟩ q → Own S q ∨ (x = .ref q ∧ ∃ d, w = .ow d) := by
        intro s' hi hi2 hs q ⟨j, ⟨d', f0⟩, f2⟩
        have f1 : (S.env.set i s')[j]? = some (.ow d') ∨ (S.env.set i s')[j]? = some (.io d') := f0
        have f3 : (S.σ.set i (some x))[j]? = some (some (.ref q)) := f2
        by_cases hj : j = i
        · rw [hj, List.getElem?_set_self hi] at f1
          rw [hj, List.getElem?_set_self hi2] at f3
          have hv : x = .ref q := Option.some.inj (Option.some.inj f3)
          exact .inr ⟨hv, hs d' (f1.imp Option.some.inj Option.some.inj)⟩
        · rw [List.getElem?_set_ne (Ne.symm hj)] at f1 f3
          exact .inl ⟨j, ⟨d', f1⟩, f3⟩
      cases w with
      | bo j => cases hb.1
      | sh d =>
        obtain ⟨rfl, hi, hio⟩ := stN_sh h1
        have hi2 : i < S.σ.length := by have := R.len; omega
        exact ⟨er_store R hi hio (.inr (.inl ⟨d, rfl, r.1⟩)), ext_store E hi hi2 (.inl fun d' => ⟨fun z => (by cases z), fun z => (by cases z)⟩), new hi hi2 fun d' z => (by rcases z with z | z <;> cases z)⟩
      | ow d =>
        simp only [stN] at h1
        cases q : S.env[i]? with
        | none => rw [q] at h1; cases h1
        | some s =>
          rw [q] at h1
          simp only [Option.map_eq_some_iff] at h1
          obtain ⟨s', k1, k2⟩ := h1
          have hi := (List.getElem?_eq_some_iff.mp q).1
          have hi2 : i < S.σ.length := by have := R.len; omega
          obtain ⟨a, ho, v1, v2, v3, v4, v5, v6⟩ := r.1
          have hs : s' = .ow d ∧ ∀ d', S.env[i]? ≠ some (.io d') := by
            cases s with
            | io d' => simp only [stO] at k1; cases k1
            | _ => simp only [stO, Option.some.injEq] at k1; exact ⟨k1.symm, fun _ z => by rw [q] at z; cases z⟩
          obtain ⟨rfl, hio⟩ := hs
          subst k2
          exact ⟨er_store R hi hio (.inr (.inr ⟨d, a, ho, rfl, v1, v2, v3, v4, v5⟩)), ext_store E hi hi2 (.inr ⟨a, v1, v6⟩), new hi hi2 fun _ _ => ⟨d, rfl⟩⟩
    obtain ⟨R2, E2, on⟩ := one
    have rest : ∀ {ys : List V} {us : List Vl}, VRs p.K S0 S ys us → us.all noBo = true → Sep x w ys us → VRs p.K S0 ⟨S.F, e2, S.σ.set i (some x), S.H⟩ ys us := by
      intro ys
      induction ys with
      | nil => intro us r _ _; cases us with
        | nil => trivial
        | cons _ _ => exact r.elim
      | cons y ys ih => intro us r hb sp; cases us with
        | nil => exact r.elim
        | cons u us =>
          rw [List.all_cons, Bool.and_eq_true] at hb
          refine ⟨?_, r.2.1, ih r.2.2 hb.2 sp.2⟩
          cases u with
          | sh d => exact r.1
          | bo j => cases hb.1
          | ow d =>
            obtain ⟨a, ho, v1, v2, v3, v4, v5, v6⟩ := r.1
            refine ⟨a, ho, v1, v2, v3, v4, fun z => ?_, v6⟩
            rcases on a z with z | ⟨z, d9, z9⟩
            · exact v5 z
            · exact sp.1 d9 d z9 rfl (by rw [v1, z])
    obtain ⟨F', R3, E3, hl⟩ := parS_ok (S := ⟨S.F, e2, S.σ.set i (some x), S.H⟩) R2 E2 (rest r.2.2 hb.2 r.2.1) hb.2 h2
    exact ⟨F', R3, E3, by simp [hl]⟩
theorem par_key {is : List Nat} {es : List Ex} (D : Ends) (σ : L2.St) (H : Hp) (h : tSS p (evS T (.par is es)) D σ H) : tSA p (evL T es) σ H fun xs H1 => is.length = xs.length ∧ D.nx (putS σ is xs) H1 := by
  obtain ⟨F, env, R, h⟩ := h
  simp only [evS] at h
  refine ⟨F, env, R, (GS.expr h).imp fun xs H1 ⟨vs, F1, e1, _, R1, E1, V1, h1⟩ => ?_⟩
  cases c1 : shB vs e1 with
  | none => rw [c1] at h1; exact h1.elim
  | some de =>
    obtain ⟨ws, e2⟩ := de
    rw [c1] at h1
    simp only at h1
    cases c2 : parS is ws e2 with
    | none => rw [c2] at h1; exact h1.elim
    | some e3 =>
      rw [c2] at h1
      obtain ⟨F2, R2, E2, r2, nb, _, _⟩ := shB_ok (S := ⟨F1, e1, σ, H1⟩) R1 E1 V1 c1
      obtain ⟨F3, R3, E3, hl⟩ := parS_ok (S := ⟨F2, e2, σ, H1⟩) R2 E2 r2 nb c2
      exact ⟨hl, h1 _ H1 F3 R3 E3⟩
theorem ckNms_cons {i : Nat} {is : List Nat} {ts : List Expr} (h : ckNms c (i :: is) ts = true) : ∃ x px r, ts = .Name x px :: r ∧ c.N[i]? = some x ∧ c.sc.names.lookup x = some .local ∧ ckNms c is r = true := by
  cases ts with
  | nil => cases h
  | cons e r =>
    cases e <;> first | (cases h; done) | skip
    case Name x px =>
      have h : (c.N[i]? == some x && c.sc.names.lookup x == some .local && ckNms c is r) = true := h
      simp only [Bool.and_eq_true, beq_iff_eq] at h
      exact ⟨x, px, r, rfl, h.1.1, h.1.2, h.2⟩
theorem ckNms_nil {ts : List Expr} (h : ckNms c [] ts = true) : ts = [] := by
  cases ts with
  | nil => rfl
  | cons _ _ => cases h
theorem ckNms_two {i j : Nat} {ts : List Expr} (h : ckNms c [i, j] ts = true) : ∃ x y px py, ts = [.Name x px, .Name y py] ∧ c.N[i]? = some x ∧ c.sc.names.lookup x = some .local ∧ c.N[j]? = some y ∧ c.sc.names.lookup y = some .local := by
  obtain ⟨x, px, r, rfl, h1, h2, h⟩ := ckNms_cons h
  obtain ⟨y, py, r, rfl, h3, h4, h⟩ := ckNms_cons h
  cases ckNms_nil h
  exact ⟨x, y, px, py, rfl, h1, h2, h3, h4⟩
theorem ckNms_three {i j l : Nat} {ts : List Expr} (h : ckNms c [i, j, l] ts = true) : ∃ x y z px py pz, ts = [.Name x px, .Name y py, .Name z pz] ∧ c.N[i]? = some x ∧ c.sc.names.lookup x = some .local ∧ c.N[j]? = some y ∧ c.sc.names.lookup y = some .local ∧ c.N[l]? = some z ∧ c.sc.names.lookup z = some .local := by
  obtain ⟨x, px, r, rfl, h1, h2, h⟩ := ckNms_cons h
  obtain ⟨y, py, r, rfl, h3, h4, h⟩ := ckNms_cons h
  obtain ⟨z, pz, r, rfl, h5, h6, h⟩ := ckNms_cons h
  cases ckNms_nil h
  exact ⟨x, y, z, px, py, pz, rfl, h1, h2, h3, h4, h5, h6⟩
theorem getD_of {N : List Str} {i : Nat} {x : Str} (h : N[i]? = some x) : N.getD i ⟨#[]⟩ = x := by rw [List.getD_eq_getElem?_getD, h]; rfl
theorem s_par (o : XO c T p X) {is : List Nat} {ms : List Ex} {ts vs : List Expr} {k k2 : Nat} {p1 p2 : Pos} (hl : (is.length == 2 || is.length == 3) = true) (hnd : is.Nodup) (hn : ckNms c is ts = true) (hw : swS c.sc ts vs = true) (hwn : swNames c.sc ts = is.map (fun i => c.N.getD i ⟨#[]⟩)) (hv : ckL c ms vs = true) :
    PS X (.Assign [.Tuple ts k p1] (.Tuple vs k2 p2) pos) (tSS p (evS T (.par is ms))) := by
  have ha := sL ms c T p X vs o hv
  have sw := sw_some (k := k) (k2 := k2) (p := p1) (p2 := p2) o.sc hw
  have hlen : vs.length = ts.length := by
    unfold swS at hw
    simp only [Bool.and_eq_true, Bool.not_eq_true', Bool.or_eq_false_iff, bne_eq_false_iff_eq] at hw
    exact hw.1.1.1.1.1.2
  have lk : ∀ {x : Str}, c.sc.names.lookup x = some .local → X.env.scope.names.lookup x = some .local := fun h => by rw [o.sc]; exact h
  match is, hl, hnd, hn, hwn with
  | [i, j], _, hnd, hn, hwn =>
    obtain ⟨x, y, px, py, rfl, h1, h2, h3, h4⟩ := ckNms_two hn
    simp only [List.map_cons, List.map_nil, getD_of h1, getD_of h3] at hwn
    rw [hwn] at sw
    match vs, hlen, ha, sw with
    | [a, b], _, ha, sw =>
      have hij : i ≠ j := by
        intro z; subst z; simp at hnd
      refine PS.imp (ps_par o.calm (by rw [o.N]; exact o.nd) (by rw [o.N]; exact h1) (by rw [o.N]; exact h3) hij (lk h2) (lk h4) ha sw) fun D σ H h => ?_
      obtain ⟨F, env, R, h⟩ := par_key D σ H h
      refine ⟨F, env, R, h.imp fun xs H1 ⟨q1, q2⟩ => ?_⟩
      match xs, q1, q2 with
      | [v, w], _, q2 => exact ⟨v, w, rfl, q2⟩
  | [i, j, l], _, hnd, hn, hwn =>
    obtain ⟨x, y, z, px, py, pz, rfl, h1, h2, h3, h4, h5, h6⟩ := ckNms_three hn
    simp only [List.map_cons, List.map_nil, getD_of h1, getD_of h3, getD_of h5] at hwn
    rw [hwn] at sw
    match vs, hlen, ha, sw with
    | [a, b, d], _, ha, sw =>
      have hij : i ≠ j := by
        intro z; subst z; simp at hnd
      have hil : i ≠ l := by
        intro z; subst z; simp at hnd
      have hjl : j ≠ l := by
        intro z; subst z; simp at hnd
      refine PS.imp (ps_par3 o.calm (by rw [o.N]; exact o.nd) (by rw [o.N]; exact h1) (by rw [o.N]; exact h3) (by rw [o.N]; exact h5) hij hil hjl (lk h2) (lk h4) (lk h6) ha sw) fun D σ H h => ?_
      obtain ⟨F, env, R, h⟩ := par_key D σ H h
      refine ⟨F, env, R, h.imp fun xs H1 ⟨q1, q2⟩ => ?_⟩
      match xs, q1, q2 with
      | [v, w, u], _, q2 => exact ⟨v, w, u, rfl, q2⟩
  | [], hl, _, _, _ => cases hl
  | [_], hl, _, _, _ => cases hl
  | _ :: _ :: _ :: _ :: _, hl, _, _, _ => simp at hl

/-! ### append -/
theorem s_app (o : XO c T p X) {i : Nat} {n : Str} {e : Ex} {p1 p2 q : Pos} (h1 : c.N[i]? = some n) (h2 : visB c n = true) (h3 : nameOk n = true) (hline : (p1.endLine == q.line) = true) (hs : noStar x = true) (ha : PE X x (tSE p (evE T e))) :
    PS X (.Expr (.Call (.Attribute (.Name n p2) (so "append") p1) [x] [] q) pos) (tSS p (evS T (.app i e))) := by
  obtain ⟨n1, n2, _⟩ := name_ok h3
  refine PS.imp (ps_expr (pe_bm PySem.F.plainAttrs_list PySem.F.slot_list_append PySem.F.type_list_append mt_append (pe_var (i := i) (by rw [o.N]; exact h1) (by rw [o.sc]; exact vis_of h2) n1 n2) (pa_cons ha pa_nil (star_cons hs)) rfl ?_ hline (star_cons hs) (star_plain rfl)) (swaps_no rfl)) fun D σ H ⟨F, env, R, h⟩ => ?_
  · rw [star_all (by rw [List.all_cons, hs]; rfl)]; rfl
  simp only [evS] at h
  cases c1 : lstS env[i]? with
  | none => rw [c1] at h; exact h.elim
  | some lo =>
    obtain ⟨l0, io0⟩ := lo
    rw [c1] at h
    simp only at h
    obtain ⟨a, vs, q1, q2, _⟩ := lst_slot (S := ⟨F, env, σ, H⟩) R c1
    refine ⟨.ref a, q1, by rw [← o.K]; exact .inl ⟨rfl, vs, SqL.of q2⟩, F, env, R, (GS.expr h).imp fun u H1 ⟨v, F1, e1, _, R1, E1, V1, h1⟩ => ?_⟩
    cases c2 : fz v e1 with
    | none => rw [c2] at h1; exact h1.elim
    | some de =>
      obtain ⟨d, e2⟩ := de
      rw [c2] at h1
      simp only at h1
      obtain ⟨F2, R2, E2, rep, _, _⟩ := fz_ok (S := ⟨F1, e1, σ, H1⟩) R1 E1 V1 c2
      cases c3 : lstS e2[i]? with
      | none => rw [c3] at h1; exact h1.elim
      | some lo =>
        obtain ⟨l, io⟩ := lo
        rw [c3] at h1
        simp only at h1
        obtain ⟨a', vs', k1, k2, k3, k4, k5⟩ := lst_slot (S := ⟨F2, e2, σ, H1⟩) R2 c3
        have ea : a' = a := by
          have k1 : σ[i]? = some (some (.ref a')) := k1
          have q1 : σ[i]? = some (some (.ref a)) := q1
          rw [q1] at k1; cases k1; rfl
        subst ea
        split at h1
        · rename_i hz
          obtain ⟨w1, w2⟩ := lst_put (S := ⟨F2, e2, σ, H1⟩) (l := l) R2 k4 k5 (k3.append (.one rep))
          exact ⟨a', vs', u, rfl, rfl, k2, by rw [k3.length]; exact hz, h1 σ _ F2 w1 (E2.trans w2)⟩
        · exact h1.elim

/-! ### errors -/
theorem s_rs (o : XO c T p X) {k : String} {e : Ex} {p1 p2 : Pos} (hg : gloB c (so k) = true) (hn : nameOk (so k) = true) (hx : c.xs.contains k = true) (hs : noStar x = true) (ha : PE X x (tSE p (evE T e))) :
    PS X (.Raise (some (.Call (.Name (so k) p1) [x] [] p2)) none pos) (tSS p (evS T (.rs k e))) := by
  obtain ⟨kk, hr, g⟩ := o.g
  obtain ⟨C, f, hcl, xc⟩ := g.xc k (by simpa using hx)
  obtain ⟨fI, fd, ps, j, hj, i1, i2, hb, hF⟩ := xc.ini
  refine PS.imp (ps_raise o.calm o.take (pmk_oex xc.oex i1 i2 hF (hr.mono hj) hb .nil passL (o.gl hg) xc.gC (pa_cons ha pa_nil (star_cons hs)) (name_ok hn).1 (star_cons hs) (star_plain rfl))) fun D σ H ⟨F, env, R, h⟩ => ?_
  simp only [evS] at h
  refine ⟨F, env, R, (GS.expr h).imp fun v H1 ⟨w, F1, e1, _, R1, E1, V1, h1⟩ => ?_⟩
  cases c2 : fz w e1 with
  | none => rw [c2] at h1; exact h1.elim
  | some de =>
    obtain ⟨d, e2⟩ := de
    rw [c2] at h1
    simp only at h1
    obtain ⟨F2, R2, E2, rep, _, _⟩ := fz_ok (S := ⟨F1, e1, σ, H1⟩) R1 E1 V1 c2
    refine ⟨by simp, fun a na => ⟨a, C, v, rfl, xc.oex, xc.no, upd_same, fun dx nd ne => ⟨rfl, dx, [(f, v)], upd_same, ?_, ?_, ?_⟩⟩⟩
    · rw [upd_ne ne, upd_same]
    · rw [upd_ne ne] at nd; exact nd
    · have n1 : H1 dx = none := by rw [upd_ne ne] at nd; exact nd
      have eH : upd (del (upd (upd (upd H1 a (exo a C none)) dx (exd dx [(f, v)])) a (exo a C (some dx))) a) dx (.xd [(f, v)]) = upd H1 dx (.xd [(f, v)]) := by
        funext b
        by_cases hb : b = dx
        · rw [hb, upd_same, upd_same]
        · rw [upd_ne hb, upd_ne hb]
          by_cases hba : b = a
          · rw [hba, del_same]; exact na.symm
          · rw [del_ne hba, upd_ne hba, upd_ne hb, upd_ne hba]
      show p.W (.ref C) (some dx) σ _
      rw [eH]
      exact h1 (.ref C) (some dx) σ _ F2 (R2.laid (S := ⟨F2, e2, σ, H1⟩) n1) (E2.trans (Ext.laid ⟨F2, e2, σ, H1⟩ n1)) ⟨C, f, dx, v, hcl, rfl, rfl, upd_same, rep⟩
/-! ### blocks, loops -/
theorem s_for (o : XO c T p X) {pt : Pt} {it : Ex} {body : List Sx} {tg iter : Expr} {bd : List Stmt} (hi : PI X tg iter (tSI p (evI T it))) (hs : noSet iter = true) (hpt : ckPt c pt tg = true) (hb : PSs X bd (tSS p (evB T body))) :
    PS X (.For tg iter bd [] pos) (tSS p (evS T (.fr pt it body))) := by
  refine PS.imp (ps_for o.pass o.calm hi (pg_ok o pt tg hpt) hb (folded_plain hs)) fun D σ H ⟨F, env, R, h⟩ => ?_
  simp only [evS] at h
  refine ⟨F, env, R, (GS.expr h).imp fun J H1 ⟨ds, F1, e1, _, R1, E1, hJ, h1⟩ => ?_⟩
  have hJ : ItS p.K J ds F1 := hJ
  refine ⟨fun i m σ H => m = ds.length - i ∧ i ≤ ds.length ∧ ∃ F e, ER p.K p.ios ⟨F, e, σ, H⟩ ∧ Same F1 F ∧ GS p ⟨F, e, σ, H⟩ (frLoop (evB T body) pt (ds.drop i) e) D, ⟨ds.length, by simp, Nat.zero_le _, F1, e1, R1, Same.refl _, by rw [List.drop_zero]; exact GS.step h1 E1⟩, ?_⟩
  rintro i m σ2 H2 ⟨rfl, hi, F2, e2, R2, s2, h2⟩
  by_cases hlt : i < ds.length
  · rw [List.drop_eq_getElem_cons hlt] at h2
    have hget : ds[i]? = some ds[i] := List.getElem?_eq_getElem hlt
    obtain ⟨go, yl⟩ := hJ.go F2 H2 s2 R2.sub i ds[i] hget
    refine .inr ⟨go, fun σ' H' => ∃ F e, ER p.K p.ios ⟨F, e, σ', H'⟩ ∧ Same F1 F ∧ GS p ⟨F, e, σ', H'⟩ (frLoop (evB T body) pt (ds.drop (i + 1)) e) D, fun σ' H' q => ⟨ds.length - (i + 1), by omega, rfl, hlt, q⟩, fun x H3 y => ?_⟩
    obtain ⟨F3, fe, rep⟩ := yl x H3 y
    unfold frLoop at h2
    cases c1 : bindPt pt ds[i] e2 with
    | none => rw [c1] at h2; exact h2.elim
    | some eb =>
      rw [c1] at h2
      simp only at h2
      have R3 := fe.er (S := ⟨F2, e2, σ2, H2⟩) R2 (fun _ z => z.elim)
      have E3 := fe.ext (S := ⟨F2, e2, σ2, H2⟩) (Ext.refl _) (fun _ z => z.elim)
      refine ⟨F3, e2, ds[i], eb, R3, rep, c1, fun σ4 l4 a4 R4 E4 => ⟨F3, eb, R4, ?_⟩⟩
      have E24 := E3.trans E4
      have h4 := GS.step h2 E24
      cases c2 : evB T body eb with
      | stuck => rw [c2] at h4; exact h4.elim
      | ex cc dd ee => rw [c2] at h4; exact h4
      | rt v ee => rw [c2] at h4; exact h4
      | bk ee => rw [c2] at h4; exact h4
      | nx ee =>
        rw [c2] at h4
        exact fun σ5 H5 F5 R5 E5 => ⟨F5, ee, R5, (s2.trans E24.fsub).trans E5.fsub, GS.step h4 E5⟩
      | ct ee =>
        rw [c2] at h4
        exact fun σ5 H5 F5 R5 E5 => ⟨F5, ee, R5, (s2.trans E24.fsub).trans E5.fsub, GS.step h4 E5⟩
  · have e : i = ds.length := by omega
    subst e
    rw [List.drop_length] at h2
    exact .inl ⟨hJ.stop F2 H2 s2 R2.sub _ (Nat.le_refl _), h2 σ2 H2 F2 R2 (Ext.refl _)⟩
theorem s_wh (o : XO c T p X) {n : Nat} {e : Ex} {body : List Sx} {bd : List Stmt} (hc : PT X x (tST p (tru1 T e))) (hb : PSs X bd (tSS p (evB T body))) : PS X (.While x bd [] pos) (tSS p (evS T (.wh n e body))) := by
  refine PS.imp (ps_while o.pass hc hb) fun D σ H ⟨F, env, R, h⟩ => ?_
  simp only [evS] at h
  refine ⟨fun m σ H => ∃ F e1, ER p.K p.ios ⟨F, e1, σ, H⟩ ∧ GS p ⟨F, e1, σ, H⟩ (whLoop (tru1 T e) (evB T body) m e1) D, ⟨n, F, env, R, h⟩, ?_⟩
  rintro m σ1 H1 ⟨F1, e1, R1, h1⟩
  cases m with
  | zero => exact h1.elim
  | succ m =>
    unfold whLoop at h1
    refine ⟨F1, e1, R1, (GS.expr h1).imp fun b H2 ⟨b', F2, e2, _, R2, E2, hb', h2⟩ => ?_⟩
    have hb' : b = b' := hb'
    subst hb'
    cases b with
    | false =>
      rw [if_neg (by decide)]
      exact h2 σ1 H2 F2 R2 E2
    | true =>
      rw [if_pos rfl]
      simp only at h2
      refine ⟨fun σ' H' => ∃ F e1, ER p.K p.ios ⟨F, e1, σ', H'⟩ ∧ GS p ⟨F, e1, σ', H'⟩ (whLoop (tru1 T e) (evB T body) m e1) D, fun σ' H' q => ⟨m, Nat.lt_succ_self _, q⟩, F2, e2, R2, ?_⟩
      have h4 := GS.step h2 E2
      cases c2 : evB T body e2 with
      | stuck => rw [c2] at h4; exact h4.elim
      | ex cc dd ee => rw [c2] at h4; exact h4
      | rt v ee => rw [c2] at h4; exact h4
      | bk ee => rw [c2] at h4; exact h4
      | nx ee =>
        rw [c2] at h4
        exact fun σ5 H5 F5 R5 E5 => ⟨F5, ee, R5, GS.step h4 E5⟩
      | ct ee =>
        rw [c2] at h4
        exact fun σ5 H5 F5 R5 E5 => ⟨F5, ee, R5, GS.step h4 E5⟩
end
section
variable {c : Cn} {x : Stmt}
theorem inv_asg {tg : Tg} {e : Ex} (h : ckS c (.asg tg e) x = true) : ∃ t v pos, x = .Assign [t] v pos ∧ (noStar t && ckTg c tg t && ckE c e v && swN c.sc t v && (noComp v || isLc e)) = true := by
  cases x <;> first | (cases h; done) | skip
  case Assign ts v pos =>
    cases ts with
    | nil => cases h
    | cons t ts => cases ts with
      | cons _ _ => cases h
      | nil => exact ⟨t, v, pos, rfl, h⟩
theorem inv_par {is : List Nat} {es : List Ex} (h : ckS c (.par is es) x = true) : ∃ ts k p1 vs k2 p2 pos, x = .Assign [.Tuple ts k p1] (.Tuple vs k2 p2) pos ∧
    ((is.length == 2 || is.length == 3) && decide is.Nodup && ckNms c is ts && swS c.sc ts vs && swNames c.sc ts == is.map (fun i => c.N.getD i ⟨#[]⟩) && ckL c es vs) = true := by
  cases x <;> first | (cases h; done) | skip
  case Assign ts v pos =>
    cases ts with
    | nil => cases h
    | cons t ts =>
      cases t <;> first | (cases h; done) | skip
      case Tuple ts1 k p1 =>
        cases ts with
        | cons _ _ => cases h
        | nil =>
          cases v <;> first | (cases h; done) | skip
          case Tuple vs k2 p2 => exact ⟨ts1, k, p1, vs, k2, p2, pos, rfl, h⟩
theorem inv_app {i : Nat} {e : Ex} (h : ckS c (.app i e) x = true) : ∃ n p2 m ap y q pos, x = .Expr (.Call (.Attribute (.Name n p2) m ap) [y] [] q) pos ∧ (c.N[i]? == some n && visB c n && nameOk n && m == so "append" && ap.endLine == q.line && noStar y && ckE c e y) = true := by
  cases x <;> first | (cases h; done) | skip
  case Expr v pos =>
    cases v <;> first | (cases h; done) | skip
    case Call g xs kws q =>
      cases g <;> first | (cases h; done) | skip
      case Attribute x1 m ap =>
        cases x1 <;> first | (cases h; done) | skip
        case Name n p2 =>
          cases xs with
          | nil => cases h
          | cons y ys => cases ys with
            | cons _ _ => cases h
            | nil => cases kws with
              | cons _ _ => cases h
              | nil => exact ⟨n, p2, m, ap, y, q, pos, rfl, h⟩
theorem inv_fr {pt : Pt} {it : Ex} {body : List Sx} (h : ckS c (.fr pt it body) x = true) : ∃ tg x1 bd pos, x = .For tg x1 bd [] pos ∧ (ckI c it x1 && ckIT it tg && noSet x1 && ckPt c pt tg && ckB c body bd) = true := by
  cases x <;> first | (cases h; done) | skip
  case For tg x1 bd els pos =>
    cases els with
    | cons _ _ => cases h
    | nil => exact ⟨tg, x1, bd, pos, rfl, h⟩
theorem inv_wh {n : Nat} {e : Ex} {body : List Sx} (h : ckS c (.wh n e body) x = true) : ∃ x1 bd pos, x = .While x1 bd [] pos ∧ (ckE c e x1 && ckB c body bd) = true := by
  cases x <;> first | (cases h; done) | skip
  case While x1 bd els pos =>
    cases els with
    | cons _ _ => cases h
    | nil => exact ⟨x1, bd, pos, rfl, h⟩
end
section
variable {c : Cn} {x : Stmt}
theorem inv_rs {k : String} {e : Ex} (h : ckS c (.rs k e) x = true) : ∃ n p1 y p2 pos, x = .Raise (some (.Call (.Name n p1) [y] [] p2)) none pos ∧ (n == so k && gloB c n && nameOk n && c.xs.contains k && noStar y && ckE c e y) = true := by
  cases x <;> first | (cases h; done) | skip
  case Raise ex ca pos =>
    cases ex with
    | none => cases h
    | some v =>
      cases v <;> first | (cases h; done) | skip
      case Call g xs kws p2 =>
        cases g <;> first | (cases h; done) | skip
        case Name n p1 =>
          cases xs with
          | nil => cases h
          | cons y ys => cases ys with
            | cons _ _ => cases h
            | nil => cases kws with
              | cons _ _ => cases h
              | nil => cases ca with
                | some _ => cases h
                | none => exact ⟨n, p1, y, p2, pos, rfl, h⟩
end
mutual
theorem sS : ∀ (s : Sx) (c : Cn) (T : String → Fn) (p : Pm) (X : Cx) (x : Stmt), XO c T p X → ckS c s x = true → PS X x (tSS p (evS T s))
  | .asg tg e, c, T, p, X, x, o, h => by
    obtain ⟨t, v, pos, hx, hq⟩ := inv_asg h
    clear h
    subst hx
    rw [Bool.and_eq_true, Bool.and_eq_true, Bool.and_eq_true, Bool.and_eq_true] at hq
    obtain ⟨⟨⟨⟨h1, h2⟩, h3⟩, h4⟩, h5⟩ := hq
    cases t
    case Name n q =>
      cases tg <;> first | (cases h2; done) | skip
      case nm i =>
        have h2 : (c.N[i]? == some n && okSt c n) = true := h2
        simp only [Bool.and_eq_true, beq_iff_eq] at h2
        rw [Bool.or_eq_true] at h5
        rcases h5 with h5 | h5
        · exact s_set o h2.1 h2.2 (swaps_no h5) (sE e c T p X v o h3).1
        · exact s_setLc o h5 h2.1 h2.2 h3
    all_goals exact s_asg o (fun n q z => by cases z) h1 h2 (sE e c T p X v o h3).1 h4
  | .par is es, c, T, p, X, x, o, h => by
    obtain ⟨ts, k, p1, vs, k2, p2, pos, hx, hq⟩ := inv_par h
    clear h
    subst hx
    rw [Bool.and_eq_true, Bool.and_eq_true, Bool.and_eq_true, Bool.and_eq_true, Bool.and_eq_true] at hq
    obtain ⟨⟨⟨⟨⟨h1, h2⟩, h3⟩, h4⟩, h5⟩, h6⟩ := hq
    exact s_par o h1 (decide_eq_true_eq.mp h2) h3 h4 (beq_iff_eq.mp h5) h6
  | .ex e, c, T, p, X, x, o, h => by
    cases x <;> first | (cases h; done) | skip
    case Expr x1 pos =>
      have h : (noComp x1 && ckE c e x1) = true := h
      rw [Bool.and_eq_true] at h
      exact PS.imp (ps_expr (sE e c T p X x1 o h.2).1 (swaps_no h.1)) fun D σ H ⟨F, env, R, q⟩ => by
        simp only [evS] at q
        exact ⟨F, env, R, (GS.expr q).imp fun u H1 ⟨v, F1, e1, _, R1, E1, V1, h1⟩ => h1 σ H1 F1 R1 E1⟩
  | .app i e, c, T, p, X, x, o, h => by
    obtain ⟨n, p2, m, ap, y, q, pos, hx, hq⟩ := inv_app h
    clear h
    subst hx
    rw [Bool.and_eq_true, Bool.and_eq_true, Bool.and_eq_true, Bool.and_eq_true, Bool.and_eq_true, Bool.and_eq_true] at hq
    obtain ⟨⟨⟨⟨⟨⟨h1, h2⟩, h3⟩, h4⟩, h5⟩, h6⟩, h7⟩ := hq
    rw [beq_iff_eq] at h1 h4
    subst h4
    exact s_app o h1 h2 h3 h5 h6 (sE e c T p X y o h7).1
  | .ret e, c, T, p, X, x, o, h => by
    cases x <;> first | (cases h; done) | skip
    case Return v pos =>
      cases v with
      | none => cases h
      | some x1 =>
        exact PS.imp (ps_ret (sE e c T p X x1 o h).1) fun D σ H ⟨F, env, R, q⟩ => by
          simp only [evS] at q
          exact ⟨F, env, R, (GS.expr q).imp fun u H1 ⟨v, F1, e1, _, R1, E1, V1, h1⟩ => h1 σ H1 F1 u R1 E1 V1⟩
  | .retN, c, T, p, X, x, o, h => by
    cases x <;> first | (cases h; done) | skip
    case Return v pos =>
      cases v with
      | some _ => cases h
      | none => exact PS.imp ps_retN fun D σ H ⟨F, env, R, q⟩ => q σ H F .non R (Ext.refl _) (by show Rep p.K F _ _; simp only [Rep])
  | .ife e a b, c, T, p, X, x, o, h => by
    cases x <;> first | (cases h; done) | skip
    case If x1 q1 q2 pos =>
      have h : (ckE c e x1 && ckB c a q1 && ckB c b q2) = true := h
      simp only [Bool.and_eq_true] at h
      refine PS.imp (ps_if (sE e c T p X x1 o h.1.1).2.1 (sB a c T p X q1 o h.1.2) (sB b c T p X q2 o h.2)) fun D σ H ⟨F, env, R, q⟩ => ?_
      simp only [evS] at q
      refine ⟨F, env, R, (GS.expr q).imp fun t H1 ⟨t', F1, e1, _, R1, E1, ht, h1⟩ => ?_⟩
      have ht : t = t' := ht
      subst ht
      cases t with
      | true => rw [if_pos rfl]; exact ⟨F1, e1, R1, GS.step h1 E1⟩
      | false => rw [if_neg (by decide)]; exact ⟨F1, e1, R1, GS.step h1 E1⟩
  | .fr pt it body, c, T, p, X, x, o, h => by
    obtain ⟨tg, x1, bd, pos, hx, hq⟩ := inv_fr h
    clear h
    subst hx
    simp only [Bool.and_eq_true] at hq
    obtain ⟨⟨⟨⟨h1, h2⟩, h3⟩, h4⟩, h5⟩ := hq
    exact s_for o (sI it c T p X tg x1 o h1 h2) h3 h4 (sB body c T p X bd o h5)
  | .wh n e body, c, T, p, X, x, o, h => by
    obtain ⟨x1, bd, pos, hx, hq⟩ := inv_wh h
    clear h
    subst hx
    simp only [Bool.and_eq_true] at hq
    exact s_wh o (sE e c T p X x1 o hq.1).2.1 (sB body c T p X bd o hq.2)
  | .brk, c, T, p, X, x, o, h => by
    cases x <;> first | (cases h; done) | skip
    case Break pos => exact PS.imp ps_break fun D σ H ⟨F, env, R, q⟩ => q σ H F R (Ext.refl _)
  | .cnt, c, T, p, X, x, o, h => by
    cases x <;> first | (cases h; done) | skip
    case Continue pos => exact PS.imp ps_continue fun D σ H ⟨F, env, R, q⟩ => q σ H F R (Ext.refl _)
  | .pas, c, T, p, X, x, o, h => by
    cases x <;> first | (cases h; done) | skip
    case Pass pos => exact PS.imp ps_pass fun D σ H ⟨F, env, R, q⟩ => q σ H F R (Ext.refl _)
  | .die, c, T, p, X, x, o, h => PS.imp ps_never fun D σ H ⟨F, env, R, q⟩ => q.elim
  | .rs k e, c, T, p, X, x, o, h => by
    obtain ⟨n, p1, y, p2, pos, hx, hq⟩ := inv_rs h
    clear h
    subst hx
    rw [Bool.and_eq_true, Bool.and_eq_true, Bool.and_eq_true, Bool.and_eq_true, Bool.and_eq_true] at hq
    obtain ⟨⟨⟨⟨⟨h1, h2⟩, h3⟩, h4⟩, h5⟩, h6⟩ := hq
    rw [beq_iff_eq] at h1
    subst h1
    exact s_rs o h2 h3 h4 h5 (sE e c T p X y o h6).1
theorem sB : ∀ (ss : List Sx) (c : Cn) (T : String → Fn) (p : Pm) (X : Cx) (xs : List Stmt), XO c T p X → ckB c ss xs = true → PSs X xs (tSS p (evB T ss))
  | [], c, T, p, X, [], o, h => PSs.imp pss_nil fun D σ H ⟨F, env, R, q⟩ => q σ H F R (Ext.refl _)
  | [], c, T, p, X, _ :: _, o, h => by cases h
  | _ :: _, c, T, p, X, [], o, h => by cases h
  | s :: ss, c, T, p, X, x :: xs, o, h => by
    have h : (ckS c s x && ckB c ss xs) = true := h
    rw [Bool.and_eq_true] at h
    refine PSs.imp (pss_cons (sS s c T p X x o h.1) (sB ss c T p X xs o h.2)) fun D σ H ⟨F, env, R, q⟩ => ⟨F, env, R, ?_⟩
    simp only [evB] at q
    cases c1 : evS T s env with
    | stuck => rw [c1] at q; exact q.elim
    | ex cc dd ee => rw [c1] at q; exact q
    | rt v ee => rw [c1] at q; exact q
    | bk ee => rw [c1] at q; exact q
    | ct ee => rw [c1] at q; exact q
    | nx ee =>
      rw [c1] at q
      exact fun σ1 H1 F1 R1 E1 => ⟨F1, ee, R1, GS.step q E1⟩
end
end Pv

/-! PvF: a def by its short text. -/
namespace Pv
open PySem PySem.Spec PyProof.Rows L2
/-- the slots at a def's start -/
def envAt (io : Bool) (n : Nat) (ds : List D) : En := (match io, ds with
  | true, d :: r => .io d :: r.map .sh
  | _, ds => ds.map .sh) ++ List.replicate (n - ds.length) .no
/-- what the first argument has become -/
def ioOut (io : Bool) (e : En) : Option D := match io with
  | true => match e[(0 : Nat)]? with
    | some (.io d) => some d
    | _ => none
  | false => some .non
def outS (io : Bool) : Ss → FR
  | .nx e => match ioOut io e with
    | some d' => .sh .non d'
    | none => .stuck
  | .rt (.sh d) e => match ioOut io e with
    | some d' => .sh d d'
    | none => .stuck
  | .rt (.ow d) e => match ioOut io e with
    | some d' => .ow d d'
    | none => .stuck
  | .rt (.bo i) e => match ioOut io e, e[i]? with
    | some d', some (.sh d) => .sh d d'
    | some d', some (.ow d) => .ow d d'
    | _, _ => .stuck
  | .ex c d e => match ioOut io e with
    | some d' => .ex c d d'
    | none => .stuck
  | _ => .stuck
def mkFn (T : String → Fn) (io : Bool) (n : Nat) (body : List Sx) : Fn := ⟨io, fun ds => outS io (evB T body (envAt io n ds))⟩
variable [Tb]
section
variable {P : Program} {w : World} {K : PySem.W.Frag} {mg : Str → Option Value} {base : Heap} {T : String → Fn} {k : Nat} {cl : Cl}
theorem start_len {N : List Str} {vs : List V} (h : vs.length ≤ N.length) : (L2.start N vs).length = N.length := by
  unfold L2.start; rw [List.length_append, List.length_map, List.length_replicate]; omega
theorem envAt_len {io : Bool} {n : Nat} {ds : List D} (h : ds.length ≤ n) : (envAt io n ds).length = n := by
  unfold envAt
  rw [List.length_append, List.length_replicate]
  cases io <;> cases ds <;> simp at h ⊢ <;> omega
/-- at the start, no argument is changed -/
theorem er_start0 {F H : Hp} {N : List Str} {vs : List V} {ds : List D} (s : Same F H) (tb : TBok F H) (r : RepL K F vs ds) (hn : vs.length ≤ N.length) : ER K (fun _ => none) ⟨F, envAt false N.length ds, L2.start N vs, H⟩ := by
  have hl := r.length
  have noOw : ∀ (i : Nat) (d : D), (envAt false N.length ds)[i]? ≠ some (.ow d) ∧ (envAt false N.length ds)[i]? ≠ some (.io d) := fun i d => by
    show (ds.map Sl.sh ++ List.replicate (N.length - ds.length) Sl.no)[i]? ≠ _ ∧ (ds.map Sl.sh ++ List.replicate (N.length - ds.length) Sl.no)[i]? ≠ _
    constructor <;>
    · intro z
      have m := List.mem_of_getElem? z
      rw [List.mem_append] at m
      rcases m with m | m
      · obtain ⟨_, _, e⟩ := List.mem_map.mp m; cases e
      · cases List.eq_of_mem_replicate m
  refine ⟨s, ?_, fun i sl e => ?_, fun i j q ⟨⟨d, o⟩, _⟩ _ => ?_, tb⟩
  · show (envAt false N.length ds).length = _
    rw [envAt_len (by omega), start_len hn]
  · have e : (ds.map Sl.sh ++ List.replicate (N.length - ds.length) Sl.no)[i]? = some sl := e
    by_cases hi : i < ds.length
    · rw [List.getElem?_append_left (by simpa using hi), List.getElem?_map, Option.map_eq_some_iff] at e
      obtain ⟨d, e1, rfl⟩ := e
      obtain ⟨v, v1, v2⟩ := r.get e1
      refine ⟨v, ?_, v2⟩
      show (L2.start N vs)[i]? = _
      unfold L2.start
      rw [List.getElem?_append_left (by simp; omega), List.getElem?_map, v1]; rfl
    · rw [List.getElem?_append_right (by simp; omega)] at e
      have m := List.mem_of_getElem? e
      rw [List.eq_of_mem_replicate m]
      trivial
  · rcases o with o | o
    · exact absurd o (noOw i d).1
    · exact absurd o (noOw i d).2
theorem own_start0 {F H : Hp} {n : Nat} {σ : L2.St} {ds : List D} {q : Addr} : ¬ Own ⟨F, envAt false n ds, σ, H⟩ q := fun ⟨i, ⟨d, o⟩, _⟩ => by
  have key : ∀ s, (envAt false n ds)[i]? = some s → s = .no ∨ ∃ d, s = .sh d := fun s z => by
    have m := List.mem_of_getElem? (show (ds.map Sl.sh ++ List.replicate (n - ds.length) Sl.no)[i]? = some s from z)
    rw [List.mem_append] at m
    rcases m with m | m
    · obtain ⟨d, _, e⟩ := List.mem_map.mp m; exact .inr ⟨d, e.symm⟩
    · exact .inl (List.eq_of_mem_replicate m)
  rcases o with o | o
  · rcases key _ o with z | ⟨_, z⟩ <;> cases z
  · rcases key _ o with z | ⟨_, z⟩ <;> cases z
/-- at the start, the first argument's object is lent -/
theorem er_start1 {F H : Hp} {N : List Str} {ws : List V} {ds : List D} {a : Addr} {d0 : D} (s : Same F H) (tb : TBok F H) (io : IoAt K F H a d0) (r : RepL K F ws ds) (hn : ws.length + 1 ≤ N.length) : ER K (fun i => if i = 0 then some a else none) ⟨F, envAt true N.length (d0 :: ds), L2.start N (.ref a :: ws), H⟩ := by
  have hl := r.length
  have env0 : envAt true N.length (d0 :: ds) = .io d0 :: (ds.map Sl.sh ++ List.replicate (N.length - (ds.length + 1)) Sl.no) := rfl
  have st0 : L2.start N (.ref a :: ws) = some (.ref a) :: (ws.map some ++ List.replicate (N.length - (ws.length + 1)) none) := rfl
  have noOw : ∀ (i : Nat) (d : D), (ds.map Sl.sh ++ List.replicate (N.length - (ds.length + 1)) Sl.no)[i]? ≠ some (.ow d) ∧ (ds.map Sl.sh ++ List.replicate (N.length - (ds.length + 1)) Sl.no)[i]? ≠ some (.io d) := fun i d => by
    constructor <;>
    · intro z
      have m := List.mem_of_getElem? z
      rw [List.mem_append] at m
      rcases m with m | m
      · obtain ⟨_, _, e⟩ := List.mem_map.mp m; cases e
      · cases List.eq_of_mem_replicate m
  have at0 : ∀ i q, OwnAt ⟨F, envAt true N.length (d0 :: ds), L2.start N (.ref a :: ws), H⟩ i q → i = 0 := fun i q ⟨⟨d, o⟩, _⟩ => by
    cases i with
    | zero => rfl
    | succ i =>
      have o : (envAt true N.length (d0 :: ds))[i + 1]? = some (.ow d) ∨ (envAt true N.length (d0 :: ds))[i + 1]? = some (.io d) := o
      rw [env0, List.getElem?_cons_succ] at o
      rcases o with o | o
      · exact absurd o (noOw i d).1
      · exact absurd o (noOw i d).2
  refine ⟨s, ?_, fun i sl e => ?_, fun i j q o1 o2 => by rw [at0 i q o1, at0 j q o2], tb⟩
  · show (envAt true N.length (d0 :: ds)).length = _
    rw [envAt_len (by simp; omega), start_len (by simp; omega)]
  · have e : (envAt true N.length (d0 :: ds))[i]? = some sl := e
    show SlotR K _ F H i (L2.start N (.ref a :: ws))[i]? sl
    rw [env0] at e
    rw [st0]
    cases i with
    | zero =>
      rw [List.getElem?_cons_zero] at e ⊢
      cases e
      obtain ⟨ho, i1, i2, i3⟩ := io
      exact ⟨a, ho, rfl, if_pos rfl, i1, i2, i3⟩
    | succ i =>
      rw [List.getElem?_cons_succ] at e ⊢
      by_cases hi : i < ds.length
      · rw [List.getElem?_append_left (by simpa using hi), List.getElem?_map, Option.map_eq_some_iff] at e
        obtain ⟨d, e1, rfl⟩ := e
        obtain ⟨v, v1, v2⟩ := r.get e1
        refine ⟨v, ?_, v2⟩
        rw [List.getElem?_append_left (by simp; omega), List.getElem?_map, v1]; rfl
      · rw [List.getElem?_append_right (by simp; omega)] at e
        have m := List.mem_of_getElem? e
        rw [List.eq_of_mem_replicate m]
        trivial
/-- what a body leads to, by what the call wants -/
theorem out_ok {F H : Hp} {env : En} {σ : L2.St} {io : Bool} {oa : Option Addr} {ss : Ss} {Q : VK} {E : XK} {p : Pm} (hp : p = ⟨K, fun i => if i = 0 then oa else none, cl, fun cls dx _ H => E cls dx H⟩) (hio : io = oa.isSome) (R : ER K (fun i => if i = 0 then oa else none) ⟨F, env, σ, H⟩)
    (how : ∀ q, Own ⟨F, env, σ, H⟩ q → oa = some q) (h : FPost K cl F H oa (outS io ss) Q E) : GS p ⟨F, env, σ, H⟩ ss { nx := fun _ H' => Q .non H', rt := Q } := by
  subst hp
  -- the lent object at the end
  have fin : ∀ {e : En} {d' : D} {σ' : L2.St} {H' F' : Hp}, ioOut io e = some d' → ER K (fun i => if i = 0 then oa else none) ⟨F', e, σ', H'⟩ → Ext ⟨F, env, σ, H⟩ ⟨F', e, σ', H'⟩ →
      FExt F H (fun q => oa = some q) F' H' ∧ IoB K F' H' oa d' ∧ ∀ q, oa = some q → OwnAt ⟨F', e, σ', H'⟩ 0 q ∧ ∃ d, e[(0 : Nat)]? = some (.io d) := by
    intro e d' σ' H' F' ho R' E'
    cases oa with
    | none =>
      refine ⟨⟨E'.fsub, R'.sub, fun k n t => E'.keep k (fun z => (by cases how _ z)) t, fun q o k => ?_, fun _ => R'.tab⟩, trivial, fun q z => (by cases z)⟩
      rcases E'.fnew q o k with z | z | z
      · exact .inl z
      · cases how q z
      · exact .inr z
    | some a =>
      subst hio
      have ho : (match e[(0 : Nat)]? with
        | some (.io d) => some d
        | _ => none) = some d' := ho
      cases q0 : e[(0 : Nat)]? with
      | none => rw [q0] at ho; cases ho
      | some s =>
        rw [q0] at ho
        cases s <;> first | (cases ho; done) | skip
        case io d =>
          cases ho
          obtain ⟨b, u, e1, e0, e2, e3, e4⟩ := R'.sl 0 _ q0
          have e0 : some a = some b := e0
          cases e0
          refine ⟨⟨E'.fsub, R'.sub, fun k n t => E'.keep k (fun z => n (how _ z)) t, fun q o k => ?_, fun _ => R'.tab⟩, ⟨u, e2, e3, e4⟩, fun q z => ?_⟩
          · rcases E'.fnew q o k with z | z | z
            · exact .inl z
            · cases how q z
              have k : F' a = some o := k
              have e4 : F' a = none := e4
              rw [e4] at k; cases k
            · exact .inr z
          · cases z
            exact ⟨⟨⟨d', .inr q0⟩, e1⟩, d', rfl⟩
  have fresh : ∀ {e : En} {d' : D} {σ' : L2.St} {H' F' : Hp} {q : Addr}, ioOut io e = some d' → ER K (fun i => if i = 0 then oa else none) ⟨F', e, σ', H'⟩ → Ext ⟨F, env, σ, H⟩ ⟨F', e, σ', H'⟩ → ¬ Own ⟨F', e, σ', H'⟩ q → (Fr0 H q ∨ Own ⟨F, env, σ, H⟩ q) → Fr0 H q := by
    intro e d' σ' H' F' q ho R' E' no z
    rcases z with z | z
    · exact z
    · obtain ⟨_, _, f⟩ := fin ho R' E'
      exact absurd ⟨0, (f q (how q z)).1⟩ no
  cases ss with
  | nx e =>
    simp only [outS] at h
    cases ho : ioOut io e with
    | none => rw [ho] at h; exact h.elim
    | some d' =>
      rw [ho] at h
      intro σ' H' F' R' E'
      obtain ⟨f1, f2, _⟩ := fin ho R' E'
      exact h .non H' F' f1 f2 (by simp only [Rep])
  | rt v e =>
    cases v with
    | sh d =>
      simp only [outS] at h
      cases ho : ioOut io e with
      | none => rw [ho] at h; exact h.elim
      | some d' =>
        rw [ho] at h
        intro σ' H' F' x R' E' V'
        obtain ⟨f1, f2, _⟩ := fin ho R' E'
        exact h x H' F' f1 f2 V'
    | ow d =>
      simp only [outS] at h
      cases ho : ioOut io e with
      | none => rw [ho] at h; exact h.elim
      | some d' =>
        rw [ho] at h
        intro σ' H' F' x R' E' V'
        obtain ⟨f1, f2, _⟩ := fin ho R' E'
        obtain ⟨a, u, rfl, v2, v3, v4, v5, v6⟩ := V'
        exact h a H' F' f1 f2 ⟨u, v2, v3, v4⟩ (fresh ho R' E' v5 v6)
    | bo i =>
      simp only [outS] at h
      cases ho : ioOut io e with
      | none => rw [ho] at h; exact h.elim
      | some d' =>
        rw [ho] at h
        cases q : e[i]? with
        | none => rw [q] at h; exact h.elim
        | some s =>
          rw [q] at h
          cases s with
          | no => exact h.elim
          | io _ => exact h.elim
          | sh d =>
            intro σ' H' F' x R' E' V'
            obtain ⟨f1, f2, _⟩ := fin ho R' E'
            obtain ⟨y, y1, y2⟩ := R'.sl i _ q
            have V' : σ'[i]? = some (some x) := V'
            have y1 : σ'[i]? = some (some y) := y1
            rw [V'] at y1; cases y1
            exact h x H' F' f1 f2 y2
          | ow d =>
            intro σ' H' F' x R' E' V'
            obtain ⟨f1, f2, f3⟩ := fin ho R' E'
            obtain ⟨a, u, y1, y2, y3, y4⟩ := R'.sl i _ q
            have V' : σ'[i]? = some (some x) := V'
            have y1 : σ'[i]? = some (some (.ref a)) := y1
            rw [V'] at y1; cases y1
            have oi : OwnAt ⟨F', e, σ', H'⟩ i a := ⟨⟨d, .inl q⟩, V'⟩
            refine h a H' F' f1 f2 ⟨u, y2, y3, y4⟩ ?_
            rcases E'.onew a ⟨i, oi⟩ with z | z
            · obtain ⟨o0, dd, q0⟩ := f3 a (how a z)
              have := R'.sep 0 i a o0 oi
              subst this
              rw [q0] at q; cases q
            · exact z
  | bk e => exact h.elim
  | ct e => exact h.elim
  | ex cc d e =>
    simp only [outS] at h
    cases ho : ioOut io e with
    | none => rw [ho] at h; exact h.elim
    | some d' =>
      rw [ho] at h
      intro cls dx σ' H' F' R' E' X'
      obtain ⟨f1, f2, _⟩ := fin ho R' E'
      exact h cls dx H' F' f1 f2 X'
  | stuck => exact h.elim
theorem Gb.mono {c : Cn} {j : Nat} (g : Gb P w K mg base T j cl c) (h : j ≤ k) : Gb P w K mg base T k cl c where
  glo := g.glo
  fn := fun f hf => by
    obtain ⟨fa, fd, ps, h1, h2, h3, h4, h5, h6⟩ := g.fn f hf
    exact ⟨fa, fd, ps, h1, h2, h3, h4, h5.mono h, h6⟩
  bi := g.bi
  xc := fun x hx => by
    obtain ⟨C, f, h1, q⟩ := g.xc x hx
    obtain ⟨fI, fd, ps, i, h2, h3⟩ := q.ini
    exact ⟨C, f, h1, ⟨q.gC, q.oex, q.no, q.xf, q.te, fI, fd, ps, i, Nat.le_trans h2 h, h3⟩⟩
  he := g.he
theorem fn_in {qual : Str} {st : Stmt} {f : Addr} {cdv : Value} {ps : List Str} {c : Cn} {io : Bool} {body : List Sx} {A : Around} {outer : List Env} {s : Shared} {H : Hp} {vs : List V} {Q : VK} {E : XK} (S : FnScope c.N ps (defScope st)) (hsc : c.sc = defScope st) (hck : ckB c body (defBody st) = true)
    (hr : Room k (A.deeper (envOfC qual (defScope st) s.heap.objs.size f cdv))) (g : Gb P w K mg base T k cl c) (hlam : c.lam = true → LamAt base mg cdv (qual ++ ".<locals>.") ∧ ∃ k, Room (k + 2) (A.deeper (envOfC qual (defScope st) s.heap.objs.size f cdv)) ∧ Gb P w K mg base T k cl c)
    (h : spOf K cl ps.length (mkFn T io c.N.length body) vs H Q E) :
    ∃ t, PSs (cxOf (L2.CX P w) P w K mg base c.N qual (defScope st) f cdv A outer s H E) (defBody st) t ∧ t { nx := fun _ H' => Q .non H', rt := Q } (L2.start c.N vs) H := by
  have hpl : ps.length ≤ c.N.length := by have := congrArg List.length S.pre; rw [List.length_take] at this; omega
  obtain ⟨hl, F0, ⟨s0, tb0⟩, h⟩ := h
  have xo : ∀ ios, XO c T ⟨K, ios, cl, fun cls dx _ H => E cls dx H⟩ (cxOf (L2.CX P w) P w K mg base c.N qual (defScope st) f cdv A outer s H E) := fun ios =>
    { N := rfl, nd := S.nd, sc := hsc.symm, calm := rfl, g := ⟨k, hr, g⟩, pass := passes_of rfl, take := takes_of rfl rfl rfl rfl, K := rfl, fnl := fun _ _ => rfl, lam := hlam }
  cases io with
  | false =>
    obtain ⟨ds, r, h⟩ := h
    refine ⟨_, sB body c T ⟨K, fun _ => none, cl, fun cls dx _ H => E cls dx H⟩ _ _ (xo _) hck, F0, envAt false c.N.length ds, er_start0 s0 tb0 r (by omega), ?_⟩
    have e0 : (fun i => if i = 0 then (none : Option Addr) else none) = fun _ : Nat => (none : Option Addr) := by funext i; split <;> rfl
    exact out_ok (oa := none) (io := false) (by rw [e0]) rfl (by rw [e0]; exact er_start0 s0 tb0 r (by omega)) (fun q z => absurd z own_start0) h
  | true =>
    obtain ⟨a, d, ws, ds, rfl, iat, r, h⟩ := h
    have hl : ws.length + 1 = ps.length := hl
    have R1 := er_start1 (N := c.N) s0 tb0 iat r (by omega)
    refine ⟨_, sB body c T ⟨K, fun i => if i = 0 then some a else none, cl, fun cls dx _ H => E cls dx H⟩ _ _ (xo _) hck, F0, envAt true c.N.length (d :: ds), R1, ?_⟩
    refine out_ok (oa := some a) (io := true) rfl rfl R1 (fun q z => ?_) h
    obtain ⟨i, o⟩ := z
    have o0 : OwnAt ⟨F0, envAt true c.N.length (d :: ds), L2.start c.N (.ref a :: ws), H⟩ 0 a := ⟨⟨d, .inr rfl⟩, rfl⟩
    -- only the first slot owns
    obtain ⟨⟨dd, oo⟩, o2⟩ := o
    cases i with
    | zero =>
      have o2 : some (some (V.ref a)) = some (some (V.ref q)) := o2
      cases o2; rfl
    | succ i =>
      have oo : (ds.map Sl.sh ++ List.replicate (c.N.length - (ds.length + 1)) Sl.no)[i]? = some (.ow dd) ∨ (ds.map Sl.sh ++ List.replicate (c.N.length - (ds.length + 1)) Sl.no)[i]? = some (.io dd) := oo
      exfalso
      rcases oo with z | z <;>
      · have m := List.mem_of_getElem? z
        rw [List.mem_append] at m
        rcases m with m | m
        · obtain ⟨_, _, e⟩ := List.mem_map.mp m; cases e
        · cases List.eq_of_mem_replicate m
theorem fn_ok {x qual : Str} {st : Stmt} {f : Addr} {fd : FuncData} {ps : List Str} {c : Cn} {io : Bool} {body : List Sx} (F : Fun K x qual st f fd) (S : FnScope c.N ps (defScope st)) (hsc : c.sc = defScope st) (hck : ckB c body (defBody st) = true) (g : Gb P w K mg base T k cl c) (hlam : c.lam = false := by rfl) :
    FnOk P w K mg base (L2.CX P w) (k + 1) f fd ps (spOf K cl ps.length (mkFn T io c.N.length body)) :=
  F.okX S (fun vs H Q E h => h.1) fun cdv A outer s H vs Q E hr h => fn_in S hsc hck hr g (fun z => by rw [hlam] at z; cases z) h
/-- a def that hands lambdas to others -/
theorem fn_okL {x qual : Str} {st : Stmt} {f : Addr} {ps : List Str} {c : Cn} {io : Bool} {body : List Sx} {oc : Value} {od an : Option Addr} {osl : Array (Option Value)} {kV doc pm cdv ct : Value}
    (lk : K.lookup f = some ⟨oc, od, .func (PySem.W.fnOf x qual (defArgs st) (defBody st) (defScope st) .none kV doc pm an cdv ct), osl⟩) (hcd : PySem.W.codeIn K cdv qual = true)
    (S : FnScope c.N ps (defScope st)) (hsc : c.sc = defScope st) (hck : ckB c body (defBody st) = true) (hl : LamAt base mg cdv (qual ++ ".<locals>.")) (g : Gb P w K mg base T k cl c) :
    FnOk P w K mg base (L2.CX P w) (k + 3) f (PySem.W.fnOf x qual (defArgs st) (defBody st) (defScope st) .none kV doc pm an cdv ct) ps (spOf K cl ps.length (mkFn T io c.N.length body)) :=
  fn_of lk hcd S (fun vs H Q E h => h.1) fun A outer s H vs Q E hr h => fn_in S hsc hck hr (g.mono (Nat.le_add_right _ _)) (fun _ => ⟨hl, k, hr, g⟩) h
end
end Pv

/-! PvEnd: a law's facts put together. -/
namespace Pv
open PySem PySem.Spec PyProof.Rows L2
def tabF (l : List (String × Fn)) : String → Fn := fun s => (l.lookup s).getD ⟨false, fun _ => .stuck⟩
def cl0 : Cl := fun _ => none
theorem glo_nil {G : String → D → Prop} : ∀ x d, (x, d) ∈ ([] : List (String × D)) → G x d := fun _ _ h => nomatch h
theorem glo_cons {G : String → D → Prop} {y : String} {e : D} {l : List (String × D)} (h : G y e) (r : ∀ x d, (x, d) ∈ l → G x d) : ∀ x d, (x, d) ∈ (y, e) :: l → G x d := fun x d m => by
  rcases List.mem_cons.mp m with z | z
  · cases z; exact h
  · exact r x d z
theorem fs_nil {α : Type} {G : α → Prop} : ∀ x ∈ ([] : List α), G x := fun _ h => nomatch h
theorem fs_cons {α : Type} {G : α → Prop} {y : α} {l : List α} (h : G y) (r : ∀ x ∈ l, G x) : ∀ x ∈ y :: l, G x := List.forall_mem_cons.mpr ⟨h, r⟩
theorem kw_nil {G : List String → List Nat → Prop} {f : String} : ∀ ks ord, (f, ks, ord) ∈ ([] : List (String × List String × List Nat)) → G ks ord := fun _ _ h => nomatch h
theorem kw_hit {G : List String → List Nat → Prop} {f : String} {k : List String} {o : List Nat} {l : List (String × List String × List Nat)} (h : G k o) (r : ∀ ks ord, (f, ks, ord) ∈ l → G ks ord) : ∀ ks ord, (f, ks, ord) ∈ (f, k, o) :: l → G ks ord := fun ks ord m => by
  rcases List.mem_cons.mp m with z | z
  · cases z; exact h
  · exact r ks ord z
theorem kw_skip {G : List String → List Nat → Prop} {f g : String} {k : List String} {o : List Nat} {l : List (String × List String × List Nat)} (h : f ≠ g) (r : ∀ ks ord, (f, ks, ord) ∈ l → G ks ord) : ∀ ks ord, (f, ks, ord) ∈ (g, k, o) :: l → G ks ord := fun ks ord m => by
  rcases List.mem_cons.mp m with z | z
  · exact absurd (congrArg Prod.fst z) h
  · exact r ks ord z
theorem kbn_mk {K : PySem.W.Frag} {x qual : Str} {st : Stmt} {f : Addr} {fd : FuncData} {ps ks : List Str} {ord : List Nat} (F : Fun K x qual st f fd)
    (h : ∀ (kV doc pm : Value) (an : Option Addr) (cdv ct : Value) (ws : List Value), ws.length = ks.length → bindArgs (PySem.W.fnOf x qual (defArgs st) (defBody st) (defScope st) .none kV doc pm an cdv ct) ⟨[], ks.zip ws⟩ = pure (ps.zip (ord.map fun i => ws.getD i .none))) :
    KBn K fd ps 0 ks (fun _ ws => ord.map fun i => ws.getD i .none) (fun _ zs => ord.map fun i => zs.getD i .non) := by
  obtain ⟨oc, od, kV, doc, pm, an, cdv, ct, osl, rfl, lk, hcd⟩ := F.ex
  refine ⟨fun s us ws _ h1 h2 => ?_, fun {vs us zs ws} _ rz => ?_⟩
  · cases us with
    | cons _ _ => cases h1
    | nil => exact .of_eq (h kV doc pm an cdv ct ws h2)
  · have key : ∀ ord : List Nat, Vals (ord.map fun i => zs.getD i .non) (ord.map fun i => ws.getD i .none) := by
      intro ord
      induction ord with
      | nil => exact .nil
      | cons i ord ih =>
        refine .cons ?_ ih
        show RelV (zs.getD i .non) (ws.getD i .none)
        rw [List.getD_eq_getElem?_getD, List.getD_eq_getElem?_getD]
        cases q : zs[i]? with
        | some v =>
          obtain ⟨u, h1, h2⟩ := rz.get q
          rw [h1]; exact h2
        | none =>
          have : ws[i]? = none := by
            rw [List.getElem?_eq_none_iff] at q ⊢
            rw [← rz.length]; exact q
          rw [this]; rfl
    exact key ord
variable [Tb]
theorem fn_stuck {P : Program} {w : World} {K : PySem.W.Frag} {mg : Str → Option Value} {base : Heap} {cl : Cl} {k n : Nat} {a : Addr} {fd : FuncData} {ps : List Str} {io : Bool} (hn : ps.length = n) : FnOk P w K mg base (L2.CX P w) k a fd ps (spOf K cl n ⟨io, fun _ => .stuck⟩) := by
  have no : ∀ vs H Q E, ¬ spOf K cl n ⟨io, fun _ => .stuck⟩ vs H Q E := fun vs H Q E h => by
    obtain ⟨_, F, _, h⟩ := h
    cases io with
    | false => obtain ⟨ds, _, h⟩ := h; exact h
    | true => obtain ⟨a, d, ws, ds, _, _, _, h⟩ := h; exact h
  exact ⟨fun vs H Q E h => (no vs H Q E h).elim, fun A outer s H args us vs Q E _ _ _ _ h => (no vs H Q E h).elim⟩
theorem cx_none {P : Program} {w : World} {H : Hp} {s : Shared} {e : Value} {s' : Shared} (h : L2.CX P w [] H s (fun _ _ _ => False) e s') : False := by
  obtain ⟨_, _, _, _, _, _, _, _, _, _, _, _, z⟩ := h
  exact z.elim
/-- all but the tables -/
def noTab (H : Hp) : Hp := fun p => match H p with
  | some (.tbl _) => none
  | o => o
theorem noTab_ok {H : Hp} (t : LamX.Tabs Tb.T H) : TBok (noTab H) H := ⟨t, fun p o e ps z => by
  subst z
  unfold noTab at e
  split at e
  · cases e
  · rename_i h
    exact h ps e⟩
theorem noTab_sub {H : Hp} : Same (noTab H) H := fun p o e => by
  unfold noTab at e
  split at e
  · cases e
  · exact e
theorem noTab_at {H : Hp} {p : Addr} {o : HO} (e : H p = some o) (t : NT o) : noTab H p = some o := by
  unfold noTab
  rw [e]
  cases o <;> first | rfl | (exact absurd rfl (t _))
theorem noTab_sq {K : PySem.W.Frag} {H : Hp} {a : Addr} {xs : List V} (h : SqL K H a xs) : SqL K (noTab H) a xs := by
  rcases h with (h | ⟨o, h⟩) | h
  · exact .inl (.inl (noTab_at h fun _ z => by cases z))
  · exact .inl (.inr ⟨o, noTab_at h fun _ z => by cases z⟩)
  · exact .inr h
/-- the script, as data -/
theorem sp_script {K : PySem.W.Frag} {cl : Cl} {fn : Fn} {H : Hp} {a : Addr} {ns : List Int} (hio : fn.io = false) (tb : LamX.Tabs Tb.T H) (hS : SqL K H a (ns.map V.int)) (h : fn.run [.fl (ns.map .int)] = .sh (.bl true) .non) : spOf K cl 1 fn [.ref a] H (fun v _ => v = .bl true) fun _ _ _ => False := by
  obtain ⟨io, run⟩ := fn
  cases (show io = false from hio)
  have h : run [.fl (ns.map .int)] = .sh (.bl true) .non := h
  have rints : ∀ ns : List Int, RepL K (noTab H) (ns.map V.int) (ns.map D.int) := by
    intro ns
    induction ns with
    | nil => trivial
    | cons n ns ih => exact ⟨by simp only [Rep], ih⟩
  refine ⟨rfl, noTab H, ⟨noTab_sub, noTab_ok tb⟩, [.fl (ns.map .int)], ⟨?_, trivial⟩, ?_⟩
  · simp only [Rep]
    exact ⟨a, _, rfl, noTab_sq hS, rints ns⟩
  · show FPost K cl (noTab H) H none (run [.fl (ns.map .int)]) _ _
    rw [h]
    intro x H' F' _ _ r
    simpa only [Rep] using r
end Pv

/-! PvSim: the readings step by step, for simp. -/
namespace Pv
open PySem PySem.Spec PyProof.Rows L2
/-- an equation that simp is to use as a step -/
theorem nr {α : Type} {a b : α} (h : a = b) : a = b := h
section
variable {T : String → Fn} {env e : En} {i : Nat} {d d1 d2 : D} {a b c : Ex} {es : List Ex}
@[simp] theorem e_var : evE T (.var i) env = match env[i]? with
    | some (.sh d) => .ok (.sh d) env
    | some (.ow _) => .ok (.bo i) env
    | some (.io _) => .ok (.bo i) env
    | _ => .stuck := by simp only [evE] <;> rfl
@[simp] theorem e_con : evE T (.con d) env = .ok (.sh d) env := nr rfl
@[simp] theorem e_glo {x : String} : evE T (.glo x d) env = .ok (.sh d) env := nr rfl
@[simp] theorem c_sh : cont (.sh d) e = some d := nr rfl
@[simp] theorem c_ow : cont (.ow d) e = some d := nr rfl
@[simp] theorem c_bo : cont (.bo i) e = match e[i]? with
    | some (.sh d) => some d
    | some (.ow d) => some d
    | some (.io d) => some d
    | _ => none := nr rfl
@[simp] theorem l_some {v : Vl} : liftV (some v) e = .ok v e := nr rfl
@[simp] theorem f_sh : fz (.sh d) e = some (d, e) := nr rfl
@[simp] theorem f_ow : fz (.ow d) e = some (d, e) := nr rfl
@[simp] theorem f_bo : fz (.bo i) e = match e[i]? with
    | some (.sh d) => some (d, e)
    | some (.ow d) => some (d, e.set i (.sh d))
    | _ => none := nr rfl
@[simp] theorem fl_nil : fzL [] e = some ([], e) := nr rfl
@[simp] theorem fl_cons {v : Vl} {vs : List Vl} : fzL (v :: vs) e = match fz v e with
    | some (d, e1) => match fzL vs e1 with
      | some (ds, e2) => some (d :: ds, e2)
      | none => none
    | none => none := nr rfl
@[simp] theorem ct_nil : contL [] e = some [] := nr rfl
@[simp] theorem ct_cons {v : Vl} {vs : List Vl} : contL (v :: vs) e = match cont v e, contL vs e with
    | some d, some ds => some (d :: ds)
    | _, _ => none := nr rfl
@[simp] theorem e_bin {op : Operator} : evE T (.bin op a b) env = (evE T a env).bind fun x e1 => (evE T b e1).bind fun y e2 => match cont x e2, cont y e2 with
    | some dx, some dy => liftV (binD op dx dy) e2
    | _, _ => .stuck := nr rfl
@[simp] theorem e_neg : evE T (.neg a) env = (evE T a env).bind fun x e1 => match cont x e1 with
    | some dx => liftV (negD dx) e1
    | none => .stuck := nr rfl
@[simp] theorem e_cmp {op : CmpOp} : evE T (.cmp op a b) env = (evE T a env).bind fun x e1 => (evE T b e1).bind fun y e2 => match cont x e2, cont y e2 with
    | some dx, some dy => liftV ((cmpD op dx dy).map fun b => .sh (.bl b)) e2
    | _, _ => .stuck := nr rfl
@[simp] theorem e_chn {o1 o2 : CmpOp} : evE T (.chn o1 o2 a b c) env = (evE T a env).bind fun x e1 => (evE T b e1).bind fun y e2 => match cont x e2, cont y e2 with
    | some dx, some dy => match cmpD o1 dx dy with
      | some true => (evE T c e2).bind fun z e3 => match cont y e3, cont z e3 with
        | some dy, some dz => liftV ((cmpD o2 dy dz).map fun b => .sh (.bl b)) e3
        | _, _ => .stuck
      | some false => .ok (.sh (.bl false)) e2
      | none => .stuck
    | _, _ => .stuck := nr rfl
@[simp] theorem e_isn {n : Bool} : evE T (.isn a n) env = (evE T a env).bind fun x e1 => match cont x e1 with
    | some .non => .ok (.sh (.bl (!n))) e1
    | some _ => .ok (.sh (.bl n)) e1
    | none => .stuck := nr rfl
@[simp] theorem e_not : evE T (.not a) env = (evE T a env).bind fun x e1 => liftV ((truV x e1).map fun b => .sh (.bl (!b))) e1 := nr rfl
@[simp] theorem e_and : evE T (.and a b) env = (evE T a env).bind fun x e1 => match truV x e1 with
    | some true => evE T b e1
    | some false => .ok x e1
    | none => .stuck := nr rfl
@[simp] theorem e_or : evE T (.or a b) env = (evE T a env).bind fun x e1 => match truV x e1 with
    | some true => .ok x e1
    | some false => evE T b e1
    | none => .stuck := nr rfl
@[simp] theorem e_ife : evE T (.ife c a b) env = (evE T c env).bind fun x e1 => match truV x e1 with
    | some true => evE T a e1
    | some false => evE T b e1
    | none => .stuck := nr rfl
@[simp] theorem e_tup : evE T (.tup es) env = (evL T es env).bind fun vs e1 => match fzL vs e1 with
    | some (ds, e2) => if ds.length ≤ sizeLine then .ok (.sh (.tup ds)) e2 else .stuck
    | none => .stuck := nr rfl
@[simp] theorem e_lst : evE T (.lst es) env = (evL T es env).bind fun vs e1 => match fzL vs e1 with
    | some (ds, e2) => if ds.length ≤ sizeLine then .ok (.ow (.lst ds)) e2 else .stuck
    | none => .stuck := nr rfl
@[simp] theorem e_idx : evE T (.idx a b) env = (evE T a env).bind fun x e1 => (evE T b e1).bind fun y e2 => match cont x e2, cont y e2 with
    | some dx, some dy => liftV ((idxD dx dy).map .sh) e2
    | _, _ => .stuck := nr rfl
@[simp] theorem e_slc {lo hi : Option Ex} : evE T (.slc a lo hi) env = (evE T a env).bind fun x e1 => (evO T lo e1).bind fun l e2 => (evO T hi e2).bind fun h e3 => match cont x e3 with
    | some dx => liftV (slcD dx l h) e3
    | _ => .stuck := nr rfl
@[simp] theorem e_isi {t : String} : evE T (.isi a t) env = (evE T a env).bind fun x e1 => match cont x e1 with
    | some dx => liftV ((isiD dx t).map fun b => .sh (.bl b)) e1
    | none => .stuck := nr rfl
@[simp] theorem e_call {f : String} : evE T (.call f es) env = (evL T es env).bind fun vs e1 => callF (T f) vs e1 := nr rfl
@[simp] theorem e_callK {f : String} {ks : List (String × Ex)} {ord : List Nat} : evE T (.callK f ks ord) env = (evK T ks env).bind fun ws e1 => match fzL ws e1 with
    | some (ds, e2) => callF (T f) (ord.map fun i => .sh (ds.getD i .non)) e2
    | none => .stuck := nr rfl
@[simp] theorem e_bi {f : Bi} : evE T (.bi f es) env = (evL T es env).bind fun vs e1 => match contL vs e1 with
    | some ds => liftV (biD f ds) e1
    | none => .stuck := nr rfl
@[simp] theorem e_met {m : Mt} : evE T (.met m a es) env = (evE T a env).bind fun x e1 => match strV x e1 with
    | true => (evL T es e1).bind fun vs e2 => match cont x e2, contL vs e2 with
      | some d, some ds => liftV (metD m d ds) e2
      | _, _ => .stuck
    | false => .stuck := nr rfl
@[simp] theorem e_dnew {tk : Bool} : evE T (.dnew tk) env = .ok (.ow (.dic tk [])) env := nr rfl
@[simp] theorem e_lc {own : List Nat} {it : Ex} {pt : Pt} : evE T (.lc own a pt it es) env = (evI T it env).bind fun ds e1 =>
      match lcLoop own (evE T a) (evT T es) pt ds [] (wipeE e1 own) with
      | .ok r e2 => if r.length ≤ sizeLine then .ok (.ow (.lst r)) (backE e1 e2 own) else .stuck
      | _ => .stuck := nr rfl
theorem e_lc2 {own own1 : List Nat} {it it1 : Ex} {pt pt1 : Pt} {fs fs1 : List Ex} : evE T (.lc2 own own1 a pt it fs pt1 it1 fs1) env = (evI T it env).bind fun ds e1 =>
      match lcLoop2 own own1 (evE T a) (evT T fs) (evT T fs1) (evI T it1) pt pt1 ds [] (wipeE e1 own) with
      | .ok r e2 => if r.length ≤ sizeLine then .ok (.ow (.lst r)) (backE e1 e2 own) else .stuck
      | _ => .stuck := nr rfl
@[simp] theorem el_nil : evL T [] env = .ok [] env := nr rfl
@[simp] theorem el_cons : evL T (a :: es) env = (evE T a env).bind fun v e1 => (evL T es e1).bind fun vs e2 => .ok (v :: vs) e2 := nr rfl
@[simp] theorem ek_nil : evK T [] env = .ok [] env := nr rfl
@[simp] theorem ek_cons {s : String} {ks : List (String × Ex)} : evK T ((s, a) :: ks) env = (evE T a env).bind fun v e1 => (evK T ks e1).bind fun vs e2 => .ok (v :: vs) e2 := nr rfl
@[simp] theorem eo_none : evO T none env = .ok none env := nr rfl
@[simp] theorem eo_some : evO T (some a) env = (evE T a env).bind fun v e1 => match cont v e1 with
    | some (.int i) => .ok (some i) e1
    | _ => .stuck := nr rfl
@[simp] theorem et_nil : evT T [] env = .ok true env := nr rfl
@[simp] theorem et_cons : evT T (a :: es) env = (evE T a env).bind fun v e1 => match truV v e1 with
    | some true => evT T es e1
    | some false => .ok false e1
    | none => .stuck := nr rfl
theorem ei_rng : evI T (.rng es) env = (evL T es env).bind fun vs e1 => match contL vs e1 with
    | some ds => match rngD ds with
      | some r => .ok r e1
      | none => .stuck
    | none => .stuck := nr rfl
theorem ei_rng1 {x : D} {r : List D} {e1 : En} (h2 : evL T es env = .ok [.sh x] e1) (hr : rngD [x] = some r) : evI T (.rng es) env = .ok r e1 := by
  rw [ei_rng, h2, Rs.bind_ok]
  simp only [ct_cons, ct_nil, c_sh, hr]
theorem ei_rng2 {x y : D} {r : List D} {e1 : En} (h2 : evL T es env = .ok [.sh x, .sh y] e1) (hr : rngD [x, y] = some r) : evI T (.rng es) env = .ok r e1 := by
  rw [ei_rng, h2, Rs.bind_ok]
  simp only [ct_cons, ct_nil, c_sh, hr]
@[simp] theorem ei_sq : evI T (.sq a) env = (evE T a env).bind fun v e1 => match fz v e1 with
    | some (d, e2) => match itemsD d with
      | some r => .ok r e2
      | none => .stuck
    | none => .stuck := nr rfl
@[simp] theorem t_sh : truV (.sh d) e = truD d := nr rfl
@[simp] theorem t_ow : truV (.ow d) e = truD d := nr rfl
@[simp] theorem t_bo : truV (.bo i) e = (cont (.bo i) e).bind truD := nr rfl
@[simp] theorem tru1_def : tru1 T a env = (evE T a env).bind fun v e1 => match truV v e1 with
    | some b => .ok b e1
    | none => .stuck := nr rfl
/-! statements -/
variable {s : Sx} {ss : List Sx}
@[simp] theorem b_nil : evB T [] env = .nx env := nr rfl
@[simp] theorem b_cons : evB T (s :: ss) env = match evS T s env with
    | .nx e => evB T ss e
    | .rt v e => .rt v e
    | .bk e => .bk e
    | .ct e => .ct e
    | .ex c d e => .ex c d e
    | .stuck => .stuck := nr rfl
@[simp] theorem s_asg' {tg : Tg} : evS T (.asg tg a) env = (evE T a env).toS fun v e1 => (setT T tg v e1).toS fun _ e2 => .nx e2 := nr rfl
@[simp] theorem s_par' {is : List Nat} : evS T (.par is es) env = (evL T es env).toS fun vs e1 => match shB vs e1 with
    | some (ws, e2) => match parS is ws e2 with
      | some e3 => .nx e3
      | none => .stuck
    | none => .stuck := nr rfl
@[simp] theorem s_ex' : evS T (.ex a) env = (evE T a env).toS fun _ e1 => .nx e1 := nr rfl
@[simp] theorem s_app' : evS T (.app i a) env = match lstS env[i]? with
    | some _ => (evE T a env).toS fun v e1 => match fz v e1 with
      | some (d, e2) => match lstS e2[i]? with
        | some (l, io) => if l.length < sizeLine then .nx (e2.set i (if io then .io (.lst (l ++ [d])) else .ow (.lst (l ++ [d])))) else .stuck
        | none => .stuck
      | none => .stuck
    | none => .stuck := nr rfl
@[simp] theorem s_ret' : evS T (.ret a) env = (evE T a env).toS fun v e1 => .rt v e1 := nr rfl
@[simp] theorem s_ife' {p q : List Sx} : evS T (.ife a p q) env = (tru1 T a env).toS fun t e1 => match t with
    | true => evB T p e1
    | false => evB T q e1 := nr rfl
@[simp] theorem s_fr' {pt : Pt} : evS T (.fr pt a ss) env = (evI T a env).toS fun ds e1 => frLoop (evB T ss) pt ds e1 := nr rfl
@[simp] theorem s_wh' {n : Nat} : evS T (.wh n a ss) env = whLoop (tru1 T a) (evB T ss) n env := nr rfl
@[simp] theorem st_nm {v : Vl} : setT T (.nm i) v env = match stN i v env with
    | some e => .ok () e
    | none => .stuck := nr rfl
@[simp] theorem sn_sh : stN i (.sh d) env = match env[i]? with
    | some s => (stO s (.sh d)).map fun s' => env.set i s'
    | none => none := nr rfl
@[simp] theorem sn_ow : stN i (.ow d) env = match env[i]? with
    | some s => (stO s (.ow d)).map fun s' => env.set i s'
    | none => none := nr rfl
@[simp] theorem sn_bo {j : Nat} : stN i (.bo j) env = match fz (.bo j) env with
    | some (d, e1) => match e1[i]? with
      | some s => (stO s (.sh d)).map fun s' => e1.set i s'
      | none => none
    | none => none := nr rfl
@[simp] theorem so_no {v : D} : stO .no (.sh v) = some (.sh v) := nr rfl
@[simp] theorem so_sh {v w : D} : stO (.sh w) (.sh v) = some (.sh v) := nr rfl
@[simp] theorem so_ow {v w : D} : stO (.ow w) (.sh v) = some (.sh v) := nr rfl
@[simp] theorem so_no2 {v : D} : stO .no (.ow v) = some (.ow v) := nr rfl
@[simp] theorem so_sh2 {v w : D} : stO (.sh w) (.ow v) = some (.ow v) := nr rfl
@[simp] theorem so_ow2 {v w : D} : stO (.ow w) (.ow v) = some (.ow v) := nr rfl
@[simp] theorem sb_nil : shB [] env = some ([], env) := nr rfl
@[simp] theorem sb_bo {vs : List Vl} : shB (.bo i :: vs) env = match fz (.bo i) env with
    | some (d, e1) => (shB vs e1).map fun q => (.sh d :: q.1, q.2)
    | none => none := nr rfl
@[simp] theorem sb_sh {vs : List Vl} : shB (.sh d :: vs) env = (shB vs env).map fun q => (.sh d :: q.1, q.2) := nr rfl
@[simp] theorem sb_ow {vs : List Vl} : shB (.ow d :: vs) env = (shB vs env).map fun q => (.ow d :: q.1, q.2) := nr rfl
@[simp] theorem ps_nil : parS [] [] env = some env := nr rfl
@[simp] theorem ps_sh {is : List Nat} {vs : List Vl} : parS (i :: is) (.sh d :: vs) env = (stN i (.sh d) env).bind fun e1 => parS is vs e1 := nr rfl
@[simp] theorem ps_ow {is : List Nat} {vs : List Vl} : parS (i :: is) (.ow d :: vs) env = (stN i (.ow d) env).bind fun e1 => parS is vs e1 := nr rfl
@[simp] theorem bp_nm : bindPt (.nm i) d env = stN i (.sh d) env := nr rfl
@[simp] theorem bp_tup {ts : List Pt} {ds : List D} : bindPt (.tup ts) (.tup ds) env = bindPt.bindPts ts ds env := nr rfl
@[simp] theorem bp_nil : bindPt.bindPts [] [] env = some env := nr rfl
@[simp] theorem bp_cons {t : Pt} {ts : List Pt} {ds : List D} : bindPt.bindPts (t :: ts) (d :: ds) env = match bindPt t d env with
    | some e1 => bindPt.bindPts ts ds e1
    | none => none := nr rfl
@[simp] theorem tg_tup {ts : List Tg} {ds : List D} (h : ds.length = ts.length) : setT T (.tup ts) (.sh (.tup ds)) env = setTs T ts ds env := by
  simp only [setT, fz, if_pos h]
@[simp] theorem tg_sub {k : Ex} {v : Vl} : setT T (.sub i k) v env = match fz v env with
    | some (d, e1) => match ownS e1[i]? with
      | some _ => (evE T k e1).bind fun kv e2 => match ownS e2[i]?, cont kv e2 with
        | some (o, io), some dk => match setD o dk d with
          | some o' => .ok () (e2.set i (if io then .io o' else .ow o'))
          | none => .stuck
        | _, _ => .stuck
      | none => .stuck
    | none => .stuck := by simp only [setT] <;> rfl
@[simp] theorem os_ow : ownS (some (.ow d)) = some (d, false) := nr rfl
@[simp] theorem os_io : ownS (some (.io d)) = some (d, true) := nr rfl
@[simp] theorem ls_ow {l : List D} : lstS (some (.ow (.lst l))) = some (l, false) := nr rfl
@[simp] theorem ls_io {l : List D} : lstS (some (.io (.lst l))) = some (l, true) := nr rfl
@[simp] theorem tg_nil : setTs T [] [] env = .ok () env := nr rfl
@[simp] theorem tg_cons {t : Tg} {ts : List Tg} {ds : List D} : setTs T (t :: ts) (d :: ds) env = (setT T t (.sh d) env).bind fun _ e1 => setTs T ts ds e1 := nr rfl
end
/-! calls -/
theorem call_no {run : List D → FR} {vs : List Vl} {ds : List D} {env e1 : En} {d d' : D} (h : fzL vs env = some (ds, e1)) (hr : run ds = .sh d d') : callF ⟨false, run⟩ vs env = .ok (.sh d) e1 := by
  simp only [callF, h, hr]
theorem call_ow {run : List D → FR} {vs : List Vl} {ds : List D} {env e1 : En} {d d' : D} (h : fzL vs env = some (ds, e1)) (hr : run ds = .ow d d') : callF ⟨false, run⟩ vs env = .ok (.ow d) e1 := by
  simp only [callF, h, hr]
/-! data -/
@[simp] theorem ix_tup {l : List D} {i : Int} : idxD (.tup l) (.int i) = atI l i := nr rfl
@[simp] theorem ix_lst {l : List D} {i : Int} : idxD (.lst l) (.int i) = atI l i := nr rfl
@[simp] theorem ix_fl {l : List D} {i : Int} : idxD (.fl l) (.int i) = atI l i := nr rfl
@[simp] theorem ix_str {l : List Nat} {i : Int} : idxD (.str l) (.int i) = (atI l i).map fun c => .str [c] := nr rfl
@[simp] theorem tr_bl {b : Bool} : truD (.bl b) = some b := nr rfl
@[simp] theorem tr_non : truD .non = some false := nr rfl
@[simp] theorem cm_eqI {i j : Int} : cmpD .Eq (.int i) (.int j) = some (decide (i = j)) := nr rfl
@[simp] theorem cm_neI {i j : Int} : cmpD .NotEq (.int i) (.int j) = some (!decide (i = j)) := nr rfl
@[simp] theorem cm_ltI {i j : Int} : cmpD .Lt (.int i) (.int j) = some (decide (i < j)) := nr rfl
@[simp] theorem cm_leI {i j : Int} : cmpD .LtE (.int i) (.int j) = some (decide (i ≤ j)) := nr rfl
@[simp] theorem cm_gtI {i j : Int} : cmpD .Gt (.int i) (.int j) = some (decide (j < i)) := nr rfl
@[simp] theorem cm_geI {i j : Int} : cmpD .GtE (.int i) (.int j) = some (decide (j ≤ i)) := nr rfl
@[simp] theorem cm_eqB {i j : Bool} : cmpD .Eq (.bl i) (.bl j) = some (decide (i = j)) := nr rfl
@[simp] theorem cm_neB {i j : Bool} : cmpD .NotEq (.bl i) (.bl j) = some (!decide (i = j)) := nr rfl
@[simp] theorem bn_add {i j : Int} : binD .Add (.int i) (.int j) = some (.sh (.int (i + j))) := nr rfl
@[simp] theorem bn_sub {i j : Int} : binD .Sub (.int i) (.int j) = some (.sh (.int (i - j))) := nr rfl
theorem bn_mul {i j : Int} (h : mulOk i j = true) : binD .Mult (.int i) (.int j) = some (.sh (.int (i * j))) := by simp only [binD, if_pos h]
theorem bn_div {i j : Int} (h : divOk j = true) : binD .FloorDiv (.int i) (.int j) = some (.sh (.int (i / j))) := by simp only [binD, if_pos h]
theorem bn_mod {i j : Int} (h : 0 < j) : binD .Mod (.int i) (.int j) = some (.sh (.int (i % j))) := by simp only [binD, if_pos h]
@[simp] theorem bi_len_tup {l : List D} : biD .len [.tup l] = some (.sh (.int l.length)) := nr rfl
@[simp] theorem bi_len_lst {l : List D} : biD .len [.lst l] = some (.sh (.int l.length)) := nr rfl
@[simp] theorem bi_len_fl {l : List D} : biD .len [.fl l] = some (.sh (.int l.length)) := nr rfl
@[simp] theorem bi_len_str {l : List Nat} : biD .len [.str l] = some (.sh (.int l.length)) := nr rfl
@[simp] theorem bi_int_i {i : Int} : biD .int [.int i] = some (.sh (.int i)) := nr rfl
@[simp] theorem bi_tuple_l {l : List D} : biD .tuple [.lst l] = some (.sh (.tup l)) := nr rfl
@[simp] theorem bi_tuple_s {l : List Nat} : biD .tuple [.str l] = some (.sh (.tup (l.map fun c => .str [c]))) := nr rfl
@[simp] theorem bi_list_l {l : List D} : biD .list [.lst l] = some (.ow (.lst l)) := nr rfl
@[simp] theorem bi_list_t {l : List D} : biD .list [.tup l] = some (.ow (.lst l)) := nr rfl
@[simp] theorem it_lst {l : List D} : itemsD (.lst l) = some l := nr rfl
@[simp] theorem it_tup {l : List D} : itemsD (.tup l) = some l := nr rfl
@[simp] theorem it_fl {l : List D} : itemsD (.fl l) = some l := nr rfl
@[simp] theorem it_str {l : List Nat} : itemsD (.str l) = some (l.map fun c => .str [c]) := nr rfl
end Pv

/-! PvLoop: loops by what stays true. -/
namespace Pv
open PySem PySem.Spec PyProof.Rows L2
/-- a comprehension that changes nothing -/
theorem lc_pure {own : List Nat} {ev : En → Rs Vl} {ts : En → Rs Bool} {pt : Pt} {ew : En} (p : D → Bool) (g : D → D) (e' : D → En) : ∀ (ds acc : List D),
    (∀ d ∈ ds, bindPt pt d ew = some (e' d) ∧ ts (e' d) = .ok (p d) (e' d) ∧ (p d = true → ∃ v, ev (e' d) = .ok v (e' d) ∧ fz v (e' d) = some (g d, e' d)) ∧ wipeE (e' d) own = ew) →
    lcLoop own ev ts pt ds acc ew = .ok (acc ++ (ds.filter p).map g) ew
  | [], acc, _ => by simp [lcLoop]
  | d :: ds, acc, h => by
    obtain ⟨h1, h2, h3, h4⟩ := h d List.mem_cons_self
    have ih := fun acc => lc_pure p g e' ds acc fun x hx => h x (List.mem_cons_of_mem _ hx)
    unfold lcLoop
    rw [h1]
    simp only [h2]
    cases hp : p d with
    | true =>
      obtain ⟨v, h5, h6⟩ := h3 hp
      simp only [h5, h6, h4, ih]
      rw [List.filter_cons_of_pos hp, List.map_cons, List.append_assoc]; rfl
    | false =>
      simp only [h4, ih]
      rw [List.filter_cons_of_neg (by rw [hp]; decide)]
/-- .. with no test, over one name -/
theorem lc_map {own : List Nat} {ev : En → Rs Vl} {T : String → Fn} {pt : Pt} {ew : En} (g : D → D) (e' : D → En) (ds acc : List D)
    (h : ∀ d ∈ ds, bindPt pt d ew = some (e' d) ∧ (∃ v, ev (e' d) = .ok v (e' d) ∧ fz v (e' d) = some (g d, e' d)) ∧ wipeE (e' d) own = ew) :
    lcLoop own ev (evT T []) pt ds acc ew = .ok (acc ++ ds.map g) ew := by
  rw [lc_pure (ts := evT T []) (fun _ => true) g e' ds acc fun d hd => ⟨(h d hd).1, rfl, fun _ => (h d hd).2.1, (h d hd).2.2⟩, List.filter_eq_self.mpr fun _ _ => rfl]
/-- .. over a list that is made of others -/
theorem lc_pureM {α : Type} {own : List Nat} {ev : En → Rs Vl} {ts : En → Rs Bool} {pt : Pt} {ew : En} (f : α → D) (p : α → Bool) (g : α → D) (e' : α → En) : ∀ (l : List α) (acc : List D),
    (∀ a ∈ l, bindPt pt (f a) ew = some (e' a) ∧ ts (e' a) = .ok (p a) (e' a) ∧ (p a = true → ∃ v, ev (e' a) = .ok v (e' a) ∧ fz v (e' a) = some (g a, e' a)) ∧ wipeE (e' a) own = ew) →
    lcLoop own ev ts pt (l.map f) acc ew = .ok (acc ++ (l.filter p).map g) ew
  | [], acc, _ => by simp [lcLoop]
  | d :: ds, acc, h => by
    obtain ⟨h1, h2, h3, h4⟩ := h d List.mem_cons_self
    have ih := fun acc => lc_pureM f p g e' ds acc fun x hx => h x (List.mem_cons_of_mem _ hx)
    rw [List.map_cons]
    unfold lcLoop
    rw [h1]
    simp only [h2]
    cases hp : p d with
    | true =>
      obtain ⟨v, h5, h6⟩ := h3 hp
      simp only [h5, h6, h4, ih]
      rw [List.filter_cons_of_pos hp, List.map_cons, List.append_assoc]; rfl
    | false =>
      simp only [h4, ih]
      rw [List.filter_cons_of_neg (by rw [hp]; decide)]
theorem lc_mapM {α : Type} {own : List Nat} {ev : En → Rs Vl} {T : String → Fn} {pt : Pt} {ew : En} (f : α → D) (g : α → D) (e' : α → En) (l : List α) (acc : List D)
    (h : ∀ a ∈ l, bindPt pt (f a) ew = some (e' a) ∧ (∃ v, ev (e' a) = .ok v (e' a) ∧ fz v (e' a) = some (g a, e' a)) ∧ wipeE (e' a) own = ew) :
    lcLoop own ev (evT T []) pt (l.map f) acc ew = .ok (acc ++ l.map g) ew := by
  rw [lc_pureM (ts := evT T []) f (fun _ => true) g e' l acc fun a ha => ⟨(h a ha).1, rfl, fun _ => (h a ha).2.1, (h a ha).2.2⟩, List.filter_eq_self.mpr fun _ _ => rfl]
/-- two clauses that change nothing -/
theorem lc2_mapM {α β : Type} {own own1 : List Nat} {ev : En → Rs Vl} {T : String → Fn} {it1 : En → Rs (List D)} {pt pt1 : Pt} {ew : En} (f : α → D) (fb : α → List β) (fi : β → D) (g : α → β → D) (e1 ew1 : α → En) (e2 : α → β → En) : ∀ (l : List α) (acc : List D),
    (∀ a ∈ l, bindPt pt (f a) ew = some (e1 a) ∧ it1 (e1 a) = .ok ((fb a).map fi) (e1 a) ∧ wipeE (e1 a) own1 = ew1 a ∧ wipeE (ew1 a) own = ew ∧
      ∀ b ∈ fb a, bindPt pt1 (fi b) (ew1 a) = some (e2 a b) ∧ (∃ v, ev (e2 a b) = .ok v (e2 a b) ∧ fz v (e2 a b) = some (g a b, e2 a b)) ∧ wipeE (e2 a b) own1 = ew1 a) →
    lcLoop2 own own1 ev (evT T []) (evT T []) it1 pt pt1 (l.map f) acc ew = .ok (acc ++ l.flatMap fun a => (fb a).map (g a)) ew
  | [], acc, _ => by simp [lcLoop2]
  | a :: l, acc, h => by
    obtain ⟨h1, h2, h3, h4, h5⟩ := h a List.mem_cons_self
    have ih := fun acc => lc2_mapM (T := T) f fb fi g e1 ew1 e2 l acc fun x hx => h x (List.mem_cons_of_mem _ hx)
    have hin := lc_mapM (T := T) (own := own1) (ev := ev) (pt := pt1) (ew := ew1 a) fi (g a) (e2 a) (fb a) acc h5
    rw [List.map_cons]
    unfold lcLoop2
    rw [h1]
    simp only [et_nil, h2, h3, hin, h4, ih]
    rw [List.flatMap_cons, List.append_assoc]
/-- a for whose turns all come to their ends -/
theorem fr_inv {body : En → Ss} {pt : Pt} (I : Nat → En → Prop) : ∀ (ds : List D) (k : Nat) (env : En), I k env →
    (∀ i d e, ds[i]? = some d → I (k + i) e → ∃ e1 e2, bindPt pt d e = some e1 ∧ (body e1 = .nx e2 ∨ body e1 = .ct e2) ∧ I (k + i + 1) e2) →
    ∃ e2, frLoop body pt ds env = .nx e2 ∧ I (k + ds.length) e2
  | [], k, env, h0, _ => ⟨env, rfl, h0⟩
  | d :: ds, k, env, h0, hs => by
    obtain ⟨e1, e2, h1, h2, h3⟩ := hs 0 d env rfl h0
    obtain ⟨e3, h4, h5⟩ := fr_inv I ds (k + 1) e2 h3 fun i d e hi he => by
      have := hs (i + 1) d e (by simpa using hi) (by rw [show k + (i + 1) = k + 1 + i by omega]; exact he)
      rw [show k + (i + 1) + 1 = k + 1 + i + 1 by omega] at this
      exact this
    refine ⟨e3, ?_, by rw [List.length_cons, show k + (ds.length + 1) = k + 1 + ds.length by omega]; exact h5⟩
    unfold frLoop
    rw [h1]
    rcases h2 with h2 | h2 <;> simp only [h2, h4]
theorem fr_inv0 {body : En → Ss} {pt : Pt} (I : Nat → En → Prop) (ds : List D) (env : En) (h0 : I 0 env)
    (hs : ∀ i d e, ds[i]? = some d → I i e → ∃ e1 e2, bindPt pt d e = some e1 ∧ (body e1 = .nx e2 ∨ body e1 = .ct e2) ∧ I (i + 1) e2) : ∃ e2, frLoop body pt ds env = .nx e2 ∧ I ds.length e2 := by
  have := fr_inv (body := body) (pt := pt) I ds 0 env h0 fun i d e hi he => by
    rw [Nat.zero_add] at he ⊢
    exact hs i d e hi he
  rwa [Nat.zero_add] at this
/-! ### a told value is the due one -/
/-- data without foreign parts and dicts, m levels deep at most -/
def plainD : Nat → D → Bool
  | _, .non => true
  | _, .bl _ => true
  | _, .int _ => true
  | _, .str _ => true
  | 0, _ => false
  | m + 1, .tup ds => plainL m ds && decide (ds.length ≤ sizeLine)
  | m + 1, .lst ds => plainL m ds && decide (ds.length ≤ sizeLine)
  | _, _ => false
where plainL (m : Nat) : List D → Bool
  | [] => true
  | d :: ds => plainD m d && plainL m ds
end Pv

/-! PvLaw: what the laws share: a told value that is the due one, pots to draw from. -/
namespace PvL
open PySem PySem.Spec PyProof.Rows L2 Pv
def b_same : List Sx := [(.ife (.or (.and (.isi (.var 1) "tuple") (.isi (.var 0) "tuple")) (.and (.isi (.var 1) "list") (.isi (.var 0) "list"))) [(.ret (.and (.cmp .Eq (.bi .len [(.var 0)]) (.bi .len [(.var 1)])) (.bi .all [(.lc [2] (.call "_law_same" [(.idx (.var 0) (.var 2)), (.idx (.var 1) (.var 2))]) (.nm 2) (.rng [(.bi .len [(.var 1)])]) [])])))] []), (.ife (.or (.isi (.var 1) "tuple") (.or (.isi (.var 1) "list") (.cmp .NotEq (.isi (.var 1) "bool") (.isi (.var 0) "bool")))) [(.ret (.con (.bl false)))] []), (.ife (.or (.cmp .NotEq (.isi (.var 1) "int") (.isi (.var 0) "int")) (.cmp .NotEq (.isi (.var 1) "str") (.isi (.var 0) "str"))) [(.ret (.con (.bl false)))] []), (.ret (.ife (.isn (.var 1) false) (.isn (.var 0) false) (.cmp .Eq (.var 0) (.var 1))))]
def f_same : Nat → Fn
  | 0 => ⟨false, fun _ => .stuck⟩
  | m + 1 => mkFn (tabF [("_law_same", f_same m)]) false 3 b_same
theorem ix_nat {l : List D} {k : Nat} {d : D} (h : l[k]? = some d) : atI l (k : Int) = some d := by
  have hk : k < l.length := (List.getElem?_eq_some_iff.mp h).1
  unfold atI ixN
  rw [if_pos (by omega), if_pos (by omega)]
  exact h
theorem rng_n {n : Nat} (h : n < 2 ^ 62) : rngD [.int (n : Int)] = some ((List.range n).map fun (k : Nat) => .int (k : Int)) := by
  simp only [rngD]
  rw [if_pos (inB_iff.mpr ⟨by omega, by omega⟩), Int.toNat_natCast]
theorem bls_true : ∀ n : Nat, blsD (List.replicate n (D.bl true)) = some (List.replicate n true)
  | 0 => rfl
  | n + 1 => by
    rw [List.replicate_succ, List.replicate_succ]
    show (blsD (List.replicate n (D.bl true))).map (true :: ·) = _
    rw [bls_true n]; rfl
theorem all_true (n : Nat) : biD .all [.lst (List.replicate n (.bl true))] = some (.sh (.bl true)) := by
  show (blsD (List.replicate n (D.bl true))).map (fun bs => Vl.sh (.bl (bs.all id))) = _
  rw [bls_true]
  simp
theorem plainL_at {m : Nat} : ∀ {ds : List D} {k : Nat} {d : D}, plainD.plainL m ds = true → ds[k]? = some d → plainD m d = true
  | d :: ds, 0, x, h, e => by
    have h : (plainD m d && plainD.plainL m ds) = true := h
    rw [Bool.and_eq_true] at h
    cases e; exact h.1
  | d :: ds, k + 1, x, h, e => by
    have h : (plainD m d && plainD.plainL m ds) = true := h
    rw [Bool.and_eq_true] at h
    exact plainL_at h.2 (by simpa using e)
theorem same_flat {T : String → Fn} {d : D} (h : plainD 0 d = true) : outS false (evB T b_same [.sh d, .sh d, .no]) = .sh (.bl true) .non := by
  cases d <;> first | (cases h; done) | skip
  all_goals simp [b_same, outS, ioOut, isiD, cmpD, eqD]
theorem same_lc {T : String → Fn} {run : List D → FR} {d : D} {ds : List D} (hT : T "_law_same" = ⟨false, run⟩) (hd : ∀ k : Nat, k < ds.length → ∃ x, idxD d (.int (k : Int)) = some x ∧ run [x, x] = .sh (.bl true) .non) :
    lcLoop [2] (evE T (.call "_law_same" [(.idx (.var 0) (.var 2)), (.idx (.var 1) (.var 2))])) (evT T []) (.nm 2) ((List.range ds.length).map fun (k : Nat) => .int (k : Int)) [] [.sh d, .sh d, .no] = .ok (List.replicate ds.length (.bl true)) [.sh d, .sh d, .no] := by
  rw [lc_map (fun _ => .bl true) (fun x => [.sh d, .sh d, .sh x])]
  · rw [List.nil_append, List.map_map]
    congr 1
    rw [show ((fun _ => D.bl true) ∘ fun (k : Nat) => D.int (k : Int)) = fun _ => D.bl true from rfl, List.map_const', List.length_range]
  · intro x hx
    obtain ⟨k, hk, rfl⟩ := List.mem_map.mp hx
    rw [List.mem_range] at hk
    obtain ⟨y, h1, h2⟩ := hd k hk
    refine ⟨by simp, ⟨.sh (.bl true), ?_, rfl⟩, by simp [wipeE]⟩
    simp [h1, hT, callF, h2]
theorem same_c1 {T : String → Fn} {d : D} {ds : List D} (hd : d = .tup ds ∨ d = .lst ds) : tru1 T (.or (.and (.isi (.var 1) "tuple") (.isi (.var 0) "tuple")) (.and (.isi (.var 1) "list") (.isi (.var 0) "list"))) [.sh d, .sh d, .no] = .ok true [.sh d, .sh d, .no] := by
  rcases hd with rfl | rfl <;> simp [isiD]
theorem same_c3 {T : String → Fn} {d : D} {n : Nat} {ew : En} (hw : ew = [.sh d, .sh d, .no]) (h2 : biD .len [d] = some (.sh (.int n))) (hl : n < 2 ^ 62) (hz : n ≤ sizeLine)
    (hlc : lcLoop [2] (evE T (.call "_law_same" [(.idx (.var 0) (.var 2)), (.idx (.var 1) (.var 2))])) (evT T []) (.nm 2) ((List.range n).map fun (k : Nat) => .int (k : Int)) [] ew = .ok (List.replicate n (.bl true)) ew) :
    evE T (.lc [2] (.call "_law_same" [(.idx (.var 0) (.var 2)), (.idx (.var 1) (.var 2))]) (.nm 2) (.rng [(.bi .len [(.var 1)])]) []) [.sh d, .sh d, .no] = .ok (.ow (.lst (List.replicate n (.bl true)))) [.sh d, .sh d, .no] := by
  have hi : evI T (.rng [(.bi .len [(.var 1)])]) [.sh d, .sh d, .no] = .ok ((List.range n).map fun (k : Nat) => .int (k : Int)) [.sh d, .sh d, .no] := by
    exact ei_rng1 (x := .int n) (by simp [h2]) (rng_n hl)
  have hw2 : wipeE [.sh d, .sh d, .no] [2] = ew := by rw [hw]; rfl
  have hz2 : (List.replicate n (D.bl true)).length ≤ sizeLine := by rw [List.length_replicate]; exact hz
  have hbk : backE [.sh d, .sh d, .no] ew [2] = [.sh d, .sh d, .no] := by rw [hw]; rfl
  rw [e_lc, hi, Rs.bind_ok, hw2, hlc]
  show (if (List.replicate n (D.bl true)).length ≤ sizeLine then Rs.ok (Vl.ow (.lst (List.replicate n (.bl true)))) (backE [.sh d, .sh d, .no] ew [2]) else .stuck) = _
  rw [if_pos hz2, hbk]
theorem same_seq {T : String → Fn} {run : List D → FR} {d : D} {ds : List D} (hd : d = .tup ds ∨ d = .lst ds) (hT : T "_law_same" = ⟨false, run⟩) (hl : ds.length < 2 ^ 62) (hz : ds.length ≤ sizeLine) (hr : ∀ x ∈ ds, run [x, x] = .sh (.bl true) .non) :
    outS false (evB T b_same [.sh d, .sh d, .no]) = .sh (.bl true) .non := by
  have hlc := same_lc (d := d) (ds := ds) hT fun k hk => by
    have hget : ds[k]? = some ds[k] := List.getElem?_eq_getElem hk
    refine ⟨ds[k], ?_, hr _ (List.getElem_mem hk)⟩
    rcases hd with rfl | rfl
    · exact ix_nat hget
    · exact ix_nat hget
  have h2 : biD .len [d] = some (.sh (.int ds.length)) := by
    rcases hd with rfl | rfl <;> rfl
  have h3 := same_c3 rfl h2 hl hz hlc
  have h4 : evE T (.and (.cmp .Eq (.bi .len [(.var 0)]) (.bi .len [(.var 1)])) (.bi .all [(.lc [2] (.call "_law_same" [(.idx (.var 0) (.var 2)), (.idx (.var 1) (.var 2))]) (.nm 2) (.rng [(.bi .len [(.var 1)])]) [])])) [.sh d, .sh d, .no] = .ok (.sh (.bl true)) [.sh d, .sh d, .no] := by
    rw [e_and, e_cmp]
    simp only [el_cons, el_nil, e_bi, e_var, Rs.bind_ok, List.getElem?_cons_succ, List.getElem?_cons_zero, ct_cons, ct_nil, c_sh, c_ow, h2, h3, l_some, cm_eqI, Option.map_some, t_sh, tr_bl, decide_true, all_true]
  unfold b_same
  rw [b_cons, s_ife', same_c1 hd]
  simp only [Rs.toS_ok, b_cons, s_ret', h4]
  rfl
theorem same_self : ∀ (m : Nat) (d : D), plainD m d = true → (f_same (m + 1)).run [d, d] = .sh (.bl true) .non := by
  intro m
  induction m with
  | zero => exact fun d h => same_flat h
  | succ m ih =>
    intro d h
    have un : ∀ x : D, (f_same (m + 1 + 1)).run [x, x] = outS false (evB (tabF [("_law_same", f_same (m + 1))]) b_same [.sh x, .sh x, .no]) := fun _ => rfl
    rw [un]
    cases d <;> first | (exact same_flat (T := tabF [("_law_same", f_same (m + 1))]) (show plainD 0 _ = true from rfl)) | (cases h; done) | skip
    case tup ds =>
      have h : (plainD.plainL m ds && decide (ds.length ≤ sizeLine)) = true := h
      rw [Bool.and_eq_true, decide_eq_true_eq] at h
      exact same_seq (T := tabF [("_law_same", f_same (m + 1))]) (.inl rfl) rfl (by have := h.2; rw [sizeLine_eq] at this; omega) h.2 fun x hx => by
        obtain ⟨k, hk, rfl⟩ := List.getElem_of_mem hx
        exact ih _ (plainL_at h.1 (List.getElem?_eq_getElem hk))
    case lst ds =>
      have h : (plainD.plainL m ds && decide (ds.length ≤ sizeLine)) = true := h
      rw [Bool.and_eq_true, decide_eq_true_eq] at h
      exact same_seq (T := tabF [("_law_same", f_same (m + 1))]) (.inr rfl) rfl (by have := h.2; rw [sizeLine_eq] at this; omega) h.2 fun x hx => by
        obtain ⟨k, hk, rfl⟩ := List.getElem_of_mem hx
        exact ih _ (plainL_at h.1 (List.getElem?_eq_getElem hk))
end PvL

/-! PvDraw: pots to draw from: _law_draw, _law_pick, _law_pot. -/
namespace PvL
open PySem PySem.Spec PyProof.Rows L2 Pv
/-- a slot that may be stored into -/
def Fr (x : Sl) : Prop := ∀ v : D, stO x (.sh v) = some (.sh v) ∧ stO x (.ow v) = some (.ow v)
theorem fr_no : Fr .no := fun _ => ⟨rfl, rfl⟩
theorem fr_sh {d : D} : Fr (.sh d) := fun _ => ⟨rfl, rfl⟩
theorem fr_ow {d : D} : Fr (.ow d) := fun _ => ⟨rfl, rfl⟩
abbrev Pot : Type := Int × Int × Int
def potD (p : Pot) : D := .lst [.int p.1, .int p.2.1, .int p.2.2]
theorem pot0 {p : Pot} : idxD (potD p) (.int 0) = some (.int p.1) := rfl
theorem pot1 {p : Pot} : idxD (potD p) (.int 1) = some (.int p.2.1) := rfl
theorem pot2 {p : Pot} : idxD (potD p) (.int 2) = some (.int p.2.2) := rfl
theorem pots0 {p : Pot} {x : Int} : setD (potD p) (.int 0) (.int x) = some (potD (x, p.2)) := rfl
theorem pots1 {p : Pot} {x : Int} : setD (potD p) (.int 1) (.int x) = some (potD (p.1, x, p.2.2)) := rfl
theorem pots2 {p : Pot} {x : Int} : setD (potD p) (.int 2) (.int x) = some (potD (p.1, p.2.1, x)) := rfl
theorem divOk_of {j : Int} (h0 : 0 < j) (h1 : j ≤ 2 ^ 64) : divOk j = true := by
  have h2 : ((2 ^ 64 : Nat) : Int) < ((2 ^ 8000 : Nat) : Int) := Int.ofNat_lt.mpr (Nat.pow_lt_pow_right (by decide) (by decide))
  exact divOk_iff.mpr ⟨h0, Int.lt_of_le_of_lt (by omega) h2⟩
theorem bn_divmod {i j : Int} (h : divOk j = true) : biD .divmod [.int i, .int j] = some (.sh (.tup [.int (i / j), .int (i % j)])) := by
  simp only [biD, if_pos h]
theorem mulOk_r {i j : Int} (h0 : -(2 ^ 64) < j) (h1 : j < 2 ^ 64) : mulOk i j = true := by
  unfold mulOk
  rw [Bool.or_eq_true]
  exact .inr (inB_iff.mpr ⟨by omega, by omega⟩)
theorem mulOk_l {i j : Int} (h0 : -(2 ^ 64) < i) (h1 : i < 2 ^ 64) : mulOk i j = true := by
  unfold mulOk
  rw [Bool.or_eq_true]
  exact .inl (inB_iff.mpr ⟨by omega, by omega⟩)
def b_draw : List Sx := [(.ife (.cmp .Gt (.idx (.var 0) (.con (.int 0))) (.con (.int 0))) [(.asg (.tup [(.sub 0 (.con (.int 0))), (.nm 2)]) (.bi .divmod [(.idx (.var 0) (.con (.int 0))), (.var 1)])), (.ret (.var 2))] []), (.asg (.sub 0 (.con (.int 2))) (.bin .Add (.idx (.var 0) (.con (.int 2))) (.con (.int 1)))), (.asg (.sub 0 (.con (.int 1))) (.bin .Mod (.bi .int [(.bin .Add (.bin .Add (.bin .Mult (.idx (.var 0) (.con (.int 1))) (.bin .Add (.bin .Mod (.bi .int [(.idx (.var 0) (.con (.int 1)))]) (.con (.int 10007))) (.con (.int 20011)))) (.bin .Mult (.con (.int 60013)) (.idx (.var 0) (.con (.int 2))))) (.con (.int 61)))]) (.con (.int 2147483563)))), (.ret (.bin .Mod (.bi .int [(.bin .FloorDiv (.idx (.var 0) (.con (.int 1))) (.con (.int 97)))]) (.var 1)))]
def f_draw : Fn := mkFn (tabF []) true 3 b_draw
theorem run_draw (p : Pot) {m : Int} (h0 : 0 < m) (h1 : m ≤ 2 ^ 64) : ∃ d p', f_draw.run [potD p, .int m] = .sh (.int d) (potD p') ∧ 0 ≤ d ∧ d < m := by
  have hm := divOk_of h0 h1
  have h97 : divOk 97 = true := divOk_of (by omega) (by omega)
  have key : ∀ T : String → Fn, ∃ d p', outS true (evB T b_draw [.io (potD p), .sh (.int m), .no]) = .sh (.int d) (potD p') ∧ 0 ≤ d ∧ d < m := by
    intro T
    by_cases hp : 0 < p.1
    · refine ⟨p.1 % m, (p.1 / m, p.2), ?_, Int.emod_nonneg _ (by omega), Int.emod_lt_of_pos _ h0⟩
      unfold b_draw
      simp [pot0, hp, bn_divmod hm, tg_tup, pots0, outS, ioOut]
    · have e2 := fun i => bn_mod (i := i) (j := 2147483563) (by omega)
      have e3 := fun i => bn_mod (i := i) (j := 10007) (by omega)
      have e4 := bn_mul (i := p.2.1) (j := p.2.1 % 10007 + 20011) (mulOk_r (by omega) (by omega))
      have e5 := bn_mul (i := 60013) (j := p.2.2 + 1) (mulOk_l (by omega) (by omega))
      have e6 := fun i => bn_div (i := i) (j := 97) h97
      have e7 := fun i => bn_mod (i := i) (j := m) h0
      refine ⟨((p.2.1 * (p.2.1 % 10007 + 20011) + 60013 * (p.2.2 + 1) + 61) % 2147483563) / 97 % m, (p.1, (p.2.1 * (p.2.1 % 10007 + 20011) + 60013 * (p.2.2 + 1) + 61) % 2147483563, p.2.2 + 1), ?_, Int.emod_nonneg _ (by omega), Int.emod_lt_of_pos _ h0⟩
      unfold b_draw
      simp [pot0, pot1, pot2, hp, e2, e3, e4, e5, e6, e7, pots1, pots2, outS, ioOut]
  exact key (tabF [])
theorem same_draw {c : Fn} (h : c = mkFn (tabF []) true 3 b_draw) : c = f_draw := h
/-! what an expression draws -/
def Dr (T : String → Fn) (e : Ex) (r : En) (P : Int → Prop) : Prop := ∀ p, ∃ d p', evE T e (.io (potD p) :: r) = .ok (.sh (.int d)) (.io (potD p') :: r) ∧ P d
theorem dr_con {T : String → Fn} {m : Int} {r : En} : Dr T (.con (.int m)) r (· = m) := fun p => ⟨m, p, by simp, rfl⟩
theorem dr_var {T : String → Fn} {i : Nat} {m : Int} {r : En} (h : r[i]? = some (.sh (.int m))) : Dr T (.var (i + 1)) r (· = m) := fun p => ⟨m, p, by simp [h], rfl⟩
theorem Dr.mono {T : String → Fn} {e : Ex} {r : En} {P Q : Int → Prop} (h : Dr T e r P) (hq : ∀ d, P d → Q d) : Dr T e r Q := fun p => by
  obtain ⟨d, p', h1, h2⟩ := h p
  exact ⟨d, p', h1, hq d h2⟩
theorem dr_draw {T : String → Fn} {e : Ex} {r : En} {B : Int} (hT : T "_law_draw" = ⟨true, f_draw.run⟩) (h : Dr T e r (fun m => 0 < m ∧ m ≤ B)) (hB : B ≤ 2 ^ 64) : Dr T (.call "_law_draw" [(.var 0), e]) r (fun d => 0 ≤ d ∧ d < B) := fun p => by
  obtain ⟨m, p1, h1, h2, h3⟩ := h p
  obtain ⟨d, p2, h4, h5, h6⟩ := run_draw p1 h2 (by omega)
  refine ⟨d, p2, ?_, h5, by omega⟩
  simp [h1, hT, callF, ioC, bkV, h4]
theorem dr_add {T : String → Fn} {e : Ex} {r : En} {k : Int} {P : Int → Prop} (h : Dr T e r P) : Dr T (.bin .Add (.con (.int k)) e) r (fun d => P (d - k)) := fun p => by
  obtain ⟨m, p1, h1, h2⟩ := h p
  refine ⟨k + m, p1, by simp [h1], ?_⟩
  show P (k + m - k)
  rw [show k + m - k = m by omega]; exact h2
def b_pick : List Sx := [(.ret (.idx (.var 1) (.call "_law_draw" [(.var 0), (.bi .len [(.var 1)])])))]
def f_pick : Fn := mkFn (tabF [("_law_draw", f_draw)]) true 2 b_pick
theorem run_pick (p : Pot) {l : List D} (h0 : l ≠ []) (h1 : l.length ≤ 2 ^ 63) : ∃ d p', f_pick.run [potD p, .tup l] = .sh d (potD p') ∧ d ∈ l := by
  have key : ∀ T : String → Fn, T "_law_draw" = ⟨true, f_draw.run⟩ → ∃ d p', outS true (evB T b_pick [.io (potD p), .sh (.tup l)]) = .sh d (potD p') ∧ d ∈ l := by
    intro T hT
    have hl : 0 < l.length := List.length_pos_iff.mpr h0
    obtain ⟨d, p', h2, h3, h4⟩ := run_draw p (m := l.length) (by omega) (by omega)
    have hk : d.toNat < l.length := by omega
    refine ⟨l[d.toNat], p', ?_, List.getElem_mem hk⟩
    have ha : atI l d = some (l[d.toNat]) := by
      unfold atI ixN
      rw [if_pos h3, if_pos h4]
      exact List.getElem?_eq_getElem hk
    unfold b_pick
    simp [hT, callF, ioC, bkV, h2, ha, outS, ioOut]
  exact key (tabF [("_law_draw", f_draw)]) rfl
theorem dr_pick {T : String → Fn} {e : Ex} {r : En} {is : List Int} (hT : T "_law_pick" = ⟨true, f_pick.run⟩) (he : ∀ env, evE T e env = .ok (.sh (.tup (is.map .int))) env) (h0 : is ≠ []) (h1 : is.length ≤ 2 ^ 63) : Dr T (.call "_law_pick" [(.var 0), e]) r (fun d => d ∈ is) := fun p => by
  obtain ⟨d, p', h2, h3⟩ := run_pick p (l := is.map .int) (by simpa using h0) (by simpa using h1)
  obtain ⟨i, hi, rfl⟩ := List.mem_map.mp h3
  refine ⟨i, p', ?_, hi⟩
  simp [he, hT, callF, ioC, bkV, h2]
/-! a fresh pot -/
theorem cut_map {α β : Type} (f : α → β) (l : List α) (lo hi : Option Int) : cutL (l.map f) lo hi = (cutL l lo hi).map f := by
  unfold cutL
  rw [List.length_map, List.map_take, List.map_drop]
theorem ints_map : ∀ l : List Int, intsD (l.map .int) = some l
  | [] => rfl
  | i :: l => by
    show (intsD (l.map .int)).map (i :: ·) = _
    rw [ints_map l]; rfl
theorem cut_len {α : Type} (l : List α) (lo hi : Option Int) : (cutL l lo hi).length ≤ l.length := by
  unfold cutL
  rw [List.length_take, List.length_drop]
  omega
def b_pot : List Sx := [(.asg (.nm 2) (.ife (.cmp .Lt (.var 1) (.bi .len [(.var 0)])) (.bi .int [(.idx (.var 0) (.var 1))]) (.bin .Add (.bin .Add (.bin .Mult (.con (.int 7907)) (.var 1)) (.con (.int 37))) (.bin .Mod (.bi .int [(.bi .sum [(.slc (.var 0) none (some (.con (.int 3))))])]) (.con (.int 1000033)))))), (.asg (.nm 3) (.bin .Add (.con (.int 1001923)) (.bin .Mult (.con (.int 9403)) (.var 1)))), (.fr (.nm 4) (.sq (.bin .Add (.slc (.var 0) none (some (.con (.int 7)))) (.lst [(.var 2)]))) [(.asg (.nm 3) (.bin .Mod (.bi .int [(.bin .Add (.bin .Add (.bin .Mult (.var 3) (.con (.int 69621))) (.bin .Mod (.bi .int [(.var 4)]) (.con (.int 2147483563)))) (.con (.int 23)))]) (.con (.int 2147483563))))]), (.ret (.lst [(.ife (.or (.cmp .Lt (.var 2) (.con (.int 0))) (.cmp .GtE (.var 2) (.bin .Pow (.con (.int 10)) (.con (.int 18))))) (.bin .Mod (.bi .int [(.bi .abs [(.var 2)])]) (.bin .Pow (.con (.int 10)) (.con (.int 64)))) (.con (.int 0))), (.var 3), (.con (.int 0))]))]
def f_pot : Fn := mkFn (tabF []) false 5 b_pot
theorem pot_loop {T : String → Fn} {x0 x1 x2 : Sl} : ∀ (l : List Int) (s : Int) (x4 : Sl), Fr x4 →
    ∃ s' y, frLoop (evB T [(.asg (.nm 3) (.bin .Mod (.bi .int [(.bin .Add (.bin .Add (.bin .Mult (.var 3) (.con (.int 69621))) (.bin .Mod (.bi .int [(.var 4)]) (.con (.int 2147483563)))) (.con (.int 23)))]) (.con (.int 2147483563))))]) (.nm 4) (l.map .int) [x0, x1, x2, .sh (.int s), x4] = .nx [x0, x1, x2, .sh (.int s'), y]
  | [], s, x4, _ => ⟨s, x4, rfl⟩
  | b :: l, s, x4, f4 => by
    have e2 := fun i => bn_mod (i := i) (j := 2147483563) (by omega)
    have e5 := bn_mul (i := s) (j := 69621) (mulOk_r (by omega) (by omega))
    obtain ⟨s', y, h⟩ := pot_loop (T := T) (x0 := x0) (x1 := x1) (x2 := x2) l ((s * 69621 + b % 2147483563 + 23) % 2147483563) (.sh (.int b)) fr_sh
    refine ⟨s', y, ?_⟩
    rw [List.map_cons, ← h]
    have h1 : bindPt (.nm 4) (.int b) [x0, x1, x2, .sh (.int s), x4] = some [x0, x1, x2, .sh (.int s), .sh (.int b)] := by
      simp [(f4 (.int b)).1]
    have h2 : evB T [(.asg (.nm 3) (.bin .Mod (.bi .int [(.bin .Add (.bin .Add (.bin .Mult (.var 3) (.con (.int 69621))) (.bin .Mod (.bi .int [(.var 4)]) (.con (.int 2147483563)))) (.con (.int 23)))]) (.con (.int 2147483563))))] [x0, x1, x2, .sh (.int s), .sh (.int b)] =
        .nx [x0, x1, x2, .sh (.int ((s * 69621 + b % 2147483563 + 23) % 2147483563)), .sh (.int b)] := by
      simp [e2, e5]
    conv => lhs; unfold frLoop
    rw [h1]
    simp only [h2]
theorem pw10_18 : binD .Pow (.int 10) (.int 18) = some (.sh (.int 1000000000000000000)) := by kernel_rfl
theorem pw10_64 : binD .Pow (.int 10) (.int 64) = some (.sh (.int 10000000000000000000000000000000000000000000000000000000000000000)) := by kernel_rfl
theorem run_pot {ns : List Int} (hn : ns.length ≤ 63) {t : Nat} (ht : t ≤ 63) : ∃ p, f_pot.run [.fl (ns.map .int), .int (t : Int)] = .ow (potD p) .non := by
  have key : ∀ T : String → Fn, ∃ p, outS false (evB T b_pot [.sh (.fl (ns.map .int)), .sh (.int (t : Int)), .no, .no, .no]) = .ow (potD p) .non := by
    intro T
    have h1 : ∃ c : Int, evS T (.asg (.nm 2) (.ife (.cmp .Lt (.var 1) (.bi .len [(.var 0)])) (.bi .int [(.idx (.var 0) (.var 1))]) (.bin .Add (.bin .Add (.bin .Mult (.con (.int 7907)) (.var 1)) (.con (.int 37))) (.bin .Mod (.bi .int [(.bi .sum [(.slc (.var 0) none (some (.con (.int 3))))])]) (.con (.int 1000033)))))) [.sh (.fl (ns.map .int)), .sh (.int (t : Int)), .no, .no, .no] = .nx [.sh (.fl (ns.map .int)), .sh (.int (t : Int)), .sh (.int c), .no, .no] := by
      by_cases hc : (t : Int) < ns.length
      · have hk : t < ns.length := by omega
        refine ⟨ns[t], ?_⟩
        have ha : atI (ns.map D.int) (t : Int) = some (.int ns[t]) := ix_nat (by rw [List.getElem?_map, List.getElem?_eq_getElem hk]; rfl)
        have hk2 : t < ns.length := hk
        simp [hk2, ha]
      · have hk2 : ¬ t < ns.length := by omega
        have e1 := bn_mul (i := 7907) (j := (t : Int)) (mulOk_l (by omega) (by omega))
        have e2 := fun i => bn_mod (i := i) (j := 1000033) (by omega)
        have e3 : slcD (.fl (ns.map .int)) none (some 3) = some (.ow (.lst ((cutL ns none (some 3)).map .int))) := by
          show some (Vl.ow (.lst (cutL (ns.map .int) none (some 3)))) = _
          rw [cut_map]
        have e4 : biD .sum [.lst ((cutL ns none (some 3)).map .int)] = some (.sh (.int (cutL ns none (some 3)).sum)) := by
          show (intsD ((cutL ns none (some 3)).map .int)).map (fun ns => Vl.sh (.int ns.sum)) = _
          rw [ints_map]; rfl
        refine ⟨7907 * (t : Int) + 37 + (cutL ns none (some 3)).sum % 1000033, ?_⟩
        simp [hk2, e1, e2, e3, e4]
    obtain ⟨c, h1⟩ := h1
    have e1 := bn_mul (i := 9403) (j := (t : Int)) (mulOk_l (by omega) (by omega))
    have h2 : evS T (.asg (.nm 3) (.bin .Add (.con (.int 1001923)) (.bin .Mult (.con (.int 9403)) (.var 1)))) [.sh (.fl (ns.map .int)), .sh (.int (t : Int)), .sh (.int c), .no, .no] = .nx [.sh (.fl (ns.map .int)), .sh (.int (t : Int)), .sh (.int c), .sh (.int (1001923 + 9403 * (t : Int))), .no] := by
      simp [e1]
    obtain ⟨s', y, hl⟩ := pot_loop (T := T) (x0 := .sh (.fl (ns.map .int))) (x1 := .sh (.int (t : Int))) (x2 := .sh (.int c)) (cutL ns none (some 7) ++ [c]) (1001923 + 9403 * (t : Int)) .no fr_no
    have hi : evI T (.sq (.bin .Add (.slc (.var 0) none (some (.con (.int 7)))) (.lst [(.var 2)]))) [.sh (.fl (ns.map .int)), .sh (.int (t : Int)), .sh (.int c), .sh (.int (1001923 + 9403 * (t : Int))), .no] = .ok ((cutL ns none (some 7) ++ [c]).map .int) [.sh (.fl (ns.map .int)), .sh (.int (t : Int)), .sh (.int c), .sh (.int (1001923 + 9403 * (t : Int))), .no] := by
      have e3 : slcD (.fl (ns.map .int)) none (some 7) = some (.ow (.lst ((cutL ns none (some 7)).map .int))) := by
        show some (Vl.ow (.lst (cutL (ns.map .int) none (some 7)))) = _
        rw [cut_map]
      have e4 : binD .Add (.lst ((cutL ns none (some 7)).map .int)) (.lst [.int c]) = some (.ow (.lst ((cutL ns none (some 7) ++ [c]).map .int))) := by
        simp only [binD]
        have := cut_len ns none (some 7)
        rw [if_pos (by rw [List.length_map, sizeLine_eq, List.length_singleton]; omega), List.map_append]; rfl
      simp [e3, e4, sizeLine_eq, -List.map_append]
    have h3 : evE T (.ife (.or (.cmp .Lt (.var 2) (.con (.int 0))) (.cmp .GtE (.var 2) (.bin .Pow (.con (.int 10)) (.con (.int 18))))) (.bin .Mod (.bi .int [(.bi .abs [(.var 2)])]) (.bin .Pow (.con (.int 10)) (.con (.int 64)))) (.con (.int 0))) [.sh (.fl (ns.map .int)), .sh (.int (t : Int)), .sh (.int c), .sh (.int s'), y] =
        .ok (.sh (.int (if c < 0 ∨ 1000000000000000000 ≤ c then (if c < 0 then -c else c) % 10000000000000000000000000000000000000000000000000000000000000000 else 0))) [.sh (.fl (ns.map .int)), .sh (.int (t : Int)), .sh (.int c), .sh (.int s'), y] := by
      have ea : biD .abs [.int c] = some (.sh (.int (if c < 0 then -c else c))) := rfl
      have em := fun i => bn_mod (i := i) (j := 10000000000000000000000000000000000000000000000000000000000000000) (by decide)
      by_cases c1 : c < 0
      · simp [c1, pw10_64, ea, em]
      · by_cases c2 : 1000000000000000000 ≤ c
        · simp [c1, c2, pw10_18, pw10_64, ea, em]
        · simp [c1, c2, pw10_18]
    refine ⟨((if c < 0 ∨ 1000000000000000000 ≤ c then (if c < 0 then -c else c) % 10000000000000000000000000000000000000000000000000000000000000000 else 0), s', 0), ?_⟩
    unfold b_pot
    simp only [b_cons, b_nil, h1, h2, s_fr', hi, Rs.toS_ok, hl, s_ret', e_lst, el_cons, h3, Rs.bind_ok]
    simp [sizeLine_eq, outS, ioOut, potD]
  exact key (tabF [])
end PvL

/-! PvTry: several clauses 'except C as e' in one try; defs that hear. -/
namespace Pv
open PySem PySem.Spec PyProof.Rows L2
/-- what clauses with one name (slot i) wish of an exception of the body -/
def wAss (K : PySem.W.Frag) (i : Nat) (D : Ends) : List (Value × (Addr → Value → Option Addr → TS)) → WX
  | [] => fun _ _ _ _ => False
  | (kl, tz) :: rest => fun cls dd σ H => ∃ y, PySem.W.exmOne K cls kl = some y ∧
      (y = true → ∀ ad, H ad = none → tz ad cls dd { nx := fun σ' H' => D.nx (σ'.set i none) H', rt := D.rt, bk := fun σ' H' => D.bk (σ'.set i none) H', ct := fun σ' H' => D.ct (σ'.set i none) H' } (σ.set i (some (.ref ad))) H) ∧
      (y = false → wAss K i D rest cls dd σ H)
inductive HdsAs (X : Cx) (nm : Str) : List ExceptHandler → List (Value × (Addr → Value → Option Addr → TS)) → Prop
  | nil : HdsAs X nm [] []
  | cons {cx : Str} {kl : Value} {tz : Addr → Value → Option Addr → TS} {st0 : Stmt} {sts : List Stmt} {q1 q2 : Pos} {hds : List ExceptHandler} {l : List (Value × (Addr → Value → Option Addr → TS))} (hk : Names X cx kl)
      (hz : ∀ (ad : Addr) (ob : Obj) (cls : Value) (dd : Option Addr) (pn : List (Addr × Obj)), Zc cls dd ob → (∃ vs, ob.data = .fields vs) → PSs (X.suite ad ((ad, ob) :: pn)) (st0 :: sts) (tz ad cls dd)) (r : HdsAs X nm hds l) :
      HdsAs X nm (.ExceptHandler (some (.Name cx q1)) (some nm) (st0 :: sts) q2 :: hds) ((kl, tz) :: l)
section
variable {X : Cx} {nm : Str} {i : Nat} {body : List Stmt} {h₀ : ExceptHandler} {hds : List ExceptHandler} {l : List (Value × (Addr → Value → Option Addr → TS))} {pos : Pos} {tb : WX → TS}
theorem ps_try_ass (hst : X.stack = X.env :: X.outer) (hfr : X.env.frame = some X.env.locals) (hnd : X.N.Nodup) (hix : X.N[i]? = some nm) (hloc : X.env.kindOf nm = some .local)
    (hbody : ∀ (W : WX) (pn : List (Addr × Obj)) (xe : Value → Shared → Prop), Takes (X.tr pn xe) W → PassesOwn (model X.prog X.w) X.A X.env xe → PSs (X.tr pn xe) body (tb W))
    (hh : HdsAs X nm (h₀ :: hds) l) : PS X (.Try body (h₀ :: hds) [] [] pos) (fun D σ H => tb (wAss X.K i D l) D σ H) := by
  constructor
  intro pins s σ H D J0 ask
  have okX := J0.ok
  have fram : X.A.frames = some (X.env :: X.outer) := okX.frames.trans (by rw [hst])
  apply wpAny_Try_except
  have run0 := (hbody (wAss X.K i D l) (X.pn ++ pins) (fun er z1 => wpAny (model X.prog X.w) X.A (noteFrame er X.env) (fun _ z2 => wpAny (model X.prog X.w) X.A (setFlight er none)
    (fun _ z3 => wpAny (model X.prog X.w) X.A (handleBy er X.env (h₀ :: hds)) (SP X pins D) X.xe z3) X.xe z2) X.xe z1) (fun u t xx => by
      obtain ⟨ad, bs, t0, pins2, σ2, H2, cls, dd, rfl, J1, nb, up, sky, na, os, ag, wish⟩ := xx
      have J2 : Inv X pins σ2 H2 t0 := J1.ofTry okX
      have sky2 : Sky bs (X.env :: X.outer) ad (Zc cls dd) X.env.locals t.heap := hst ▸ sky
      show wpAny (model X.prog X.w) X.A (noteFrame (.ref ad) X.env) _ _ _
      refine Sky.land Zc.steady fram hfr sky2 fun hp3 fly3 up3 => ?_
      have J3 : Inv X pins σ2 H2 { t with heap := hp3 } := J2.landed nb fly3.1 (up.trans up3) os ag
      obtain ⟨ob3, vs3, at3, zc3, dat3⟩ := fly3.there
      have nfs : ad ∉ frs (X.env :: X.outer) := fun hm => by
        obtain ⟨_, o2, e2, nof⟩ := fly3.2.2.1.mem hm
        have e3 : ob3 = o2 := Option.some.inj (at3.symm.trans e2)
        subst e3
        exact nof _ dat3
      have nLoc : ad ≠ X.env.locals := fun z => nfs (List.mem_filterMap.mpr ⟨X.env, List.mem_cons_self, by rw [hfr, z]⟩)
      have nFs : ad ∉ X.fs := fun hm => by
        obtain ⟨en, he, q⟩ := List.mem_filterMap.mp hm
        exact nfs (List.mem_filterMap.mpr ⟨en, List.mem_cons_of_mem _ he, q⟩)
      have S3 := J3.suite at3 dat3 na nLoc nFs
      have go : ∀ {hs : List ExceptHandler} {ls : List (Value × (Addr → Value → Option Addr → TS))}, HdsAs X nm hs ls → wAss X.K i D ls cls dd σ2 H2 →
          wpAny (model X.prog X.w) X.A (handleBy (.ref ad) X.env hs) (SP X pins D) X.xe { t with heap := hp3 } := by
        intro hs ls good
        induction good with
        | nil => exact fun w => w.elim
        | @cons cx kl tz st0 sts q1 q2 hds2 l2 hk hz r ih =>
          rintro ⟨y, isIt, yes, no⟩
          refine wpAny_handleBy_cons (codeAny_handlers_test ?_) (by intro q; cases q)
          have lk : PySem.W.Looks (model X.prog X.w) hp3 (typeOf (.ref ad)) cls := fun _ _ _ _ kp q => wpAny_typeOf_ref (kp _ _ at3) (by rw [zc3.1]; exact q)
          have mt := PySem.W.exm_one (M := model X.prog X.w) J3.kIn lk isIt
          have reads : ∀ {Q' E' : Value → Shared → Prop}, Q' kl { t with heap := hp3 } → wpAny (model X.prog X.w) (X.A.mark (some (.ref ad))) (eval (.Name cx q1) X.env) Q' E' { t with heap := hp3 } := fun {_ _} q => by
            obtain ⟨g1, g2, g3 | ⟨g3, g4, g5⟩⟩ := hk
            · exact ld_glob (X := X.suite ad ((ad, ob3) :: (X.pn ++ pins))) S3 g1 g3 q g2
            · exact ld_blt (X := X.suite ad ((ad, ob3) :: (X.pn ++ pins))) S3 g1 g3 g4 q g5 g2
          refine reads (mt.here ?_)
          cases y with
          | false =>
            show wpAny _ X.A (handleBy (.ref ad) X.env hds2) _ _ _
            exact ih (no rfl)
          | true =>
            refine codeAny_handlers_suite_as (HandSPX.lands_againZ fly3 fun hp4 fly4 up4 => ?_)
            have J4 : Inv X pins σ2 H2 { t with heap := hp4 } := J2.landed nb fly4.1 ((up.trans up3).trans up4) os ag
            obtain ⟨ob4, vs4, at4, zc4, dat4⟩ := fly4.there
            have S4 := J4.suite at4 dat4 na nLoc nFs
            refine store_ok (X := X.suite ad ((ad, ob4) :: (X.pn ++ pins))) (v := .ref ad) S4 hnd hix (.inl hloc) rfl (fun t5 S5 => ?_) (.inr hloc)
            have last : ∀ {σ6 : L2.St} {H6 : Hp} {t6 : Shared} {Q' : Shared → Prop}, Inv (X.suite ad ((ad, ob4) :: (X.pn ++ pins))) [] σ6 H6 t6 → (∀ t7, Inv X pins (σ6.set i none) H6 t7 → Q' t7) →
                wpAny (model X.prog X.w) X.A (do bindName X.env nm .none; unbindBehindTheSuite X.env nm q2) (fun _ t7 => Q' t7) X.xe t6 := fun {_ _ _ _} S6 hq => gone_ok (S6.unsuite okX) hnd hix hloc hq
            refine wpAny_mono ((hz ad ob4 cls dd (X.pn ++ pins) zc4 ⟨_, dat4⟩).run [] t5 _ H2 _ S5 (yes rfl ad na)) (fun fl t6 hsp => ?_) (fun _ _ z => z.elim)
            cases fl with
            | ret u =>
              obtain ⟨v6, σ6, H6, S6, r6, q6⟩ := hsp
              exact last S6 fun t7 J7 => ⟨_, _, _, J7, r6, q6⟩
            | next =>
              obtain ⟨σ6, H6, S6, q6⟩ := hsp
              exact last S6 fun t7 J7 => ⟨_, _, J7, q6⟩
            | brk =>
              obtain ⟨σ6, H6, S6, q6⟩ := hsp
              exact last S6 fun t7 J7 => ⟨_, _, J7, q6⟩
            | cont =>
              obtain ⟨σ6, H6, S6, q6⟩ := hsp
              exact last S6 fun t7 J7 => ⟨_, _, J7, q6⟩
      exact go hh wish) PassesOwn.looking).run [] s σ H D (J0.toTry _) ask
  refine wpAny_mono run0 (fun fl t1 hsp => ?_) (fun _ _ he => he)
  cases fl with
  | ret u =>
    obtain ⟨v, σ1, H1, J1, r, q⟩ := hsp
    exact ⟨v, σ1, H1, J1.ofTry okX, r, q⟩
  | next =>
    obtain ⟨σ1, H1, J1, q⟩ := hsp
    exact wpAny_execs_nil ⟨σ1, H1, J1.ofTry okX, q⟩
  | brk =>
    obtain ⟨σ1, H1, J1, q⟩ := hsp
    exact ⟨σ1, H1, J1.ofTry okX, q⟩
  | cont =>
    obtain ⟨σ1, H1, J1, q⟩ := hsp
    exact ⟨σ1, H1, J1.ofTry okX, q⟩
end
end Pv

/-! PvHear: errors' __init__; defs that hear. -/
namespace Pv
open PySem PySem.Spec PyProof.Rows L2
/-- one clause of a def that hears -/
structure Hd where
  c : String
  w : List Nat
  C : Addr
  f : Str
inductive HdL (K : PySem.W.Frag) (mg : Str → Option Value) (sg : Scope) (nm : Str) : List ExceptHandler → List Hd → Prop
  | nil : HdL K mg sg nm [] []
  | cons {e : Hd} {hds : List ExceptHandler} {es : List Hd} {j : Nat} {q1 q2 q3 q4 q5 q6 q7 : Pos} (g : sg.names.lookup (so e.c) = some .globalImplicit) (db : (so e.c == ("__debug__" : Str)) = false) (m : mg (so e.c) = some (.ref e.C))
      (xf : XfC K e.C) (no : PySem.W.findIn K (.ref e.C) e.f = some none) (te : PySem.W.exmOne K (.ref e.C) (.ref e.C) = some true) (ne : ∀ d ∈ es, PySem.W.exmOne K (.ref d.C) (.ref e.C) = some false) (r : HdL K mg sg nm hds es) :
      HdL K mg sg nm (.ExceptHandler (some (.Name (so e.c) q1)) (some nm) [.Return (some (.List [.Constant (.str (mkS e.w)) j q2, .Attribute (.Name nm q3) e.f q4] q5)) q6] q7 :: hds) (e :: es)
def tHd (e : Hd) : Addr → Value → Option Addr → TS := fun ad cls dd => tRet (tLst (tCons (tC (.str (mkS e.w))) (tCons (tXf ad cls dd e.C e.f (tVar 1)) tNil)))
abbrev hdL (es : List Hd) : List (Value × (Addr → Value → Option Addr → TS)) := es.map fun e => (.ref e.C, tHd e)
section
variable {X : Cx} {nm : Str}
theorem hd_as {hds : List ExceptHandler} {es : List Hd} (h1 : X.N[1]? = some nm) (hv : Vis X.env.scope nm) (hd : (nm == ("__debug__" : Str)) = false) (hcd : (nm == ("__classdict__" : Str)) = false) (h : HdL X.K X.mg X.env.scope nm hds es) : HdsAs X nm hds (hdL es) := by
  generalize hK : X.K = K at h
  generalize hm : X.mg = mg at h
  generalize hs : X.env.scope = sg at h
  induction h with
  | nil => exact .nil
  | @cons e hds es j q1 q2 q3 q4 q5 q6 q7 g db m xf no te ne r ih =>
    subst hK hm hs
    refine .cons ⟨g, db, .inl m⟩ (fun ad ob cls dd pn zc fs => ?_) ih
    exact pss_one (ps_ret (pe_lst (pa_cons pe_str (pa_cons (pe_xf xf no zc fs (pe_var (X := X.suite ad ((ad, ob) :: pn)) (i := 1) h1 hv hd hcd)) pa_nil))))
theorem hd_wish {K : PySem.W.Frag} {D : Ends} {σ : L2.St} {H : Hp} {dd : Addr} {v : V} {mg : Str → Option Value} {sg : Scope} (hσ : 1 < σ.length) : ∀ {hds : List ExceptHandler} {es : List Hd}, HdL K mg sg nm hds es → ∀ e ∈ es, H dd = some (.xd [(e.f, v)]) → (∀ p, H p = none → D.rt (.ref p) (upd H p (.lst [.str (mkS e.w), v]))) →
    wAss K 1 D (hdL es) (.ref e.C) (some dd) σ H := by
  intro hds es h
  induction h with
  | nil => exact fun e he => nomatch he
  | @cons e0 hds es j q1 q2 q3 q4 q5 q6 q7 g db m xf no te ne r ih =>
    intro e he hx hq
    rcases List.mem_cons.mp he with rfl | he
    · refine ⟨true, te, fun _ ad na => ?_, fun z => Bool.noConfusion z⟩
      refine ⟨.ref ad, List.getElem?_set_self hσ, rfl, rfl, dd, _, v, rfl, hx, by simp [List.lookup], by rw [sizeLine_eq]; show 2 ≤ _; omega, hq⟩
    · exact ⟨false, ne e he, fun z => Bool.noConfusion z, fun _ => ih e he hx hq⟩
theorem takes_len {X : Cx} {W : WX} (tk : Takes X W) : Takes X (fun cls d σ H => σ.length = X.N.length → W cls d σ H) := fun u s' ⟨a, B, sI, pins, σ, H, cls, d, e, I, nb, up, sky, na, os, ag, w⟩ =>
  tk u s' ⟨a, B, sI, pins, σ, H, cls, d, e, I, nb, up, sky, na, os, ag, w I.len⟩
theorem hear_gives {K : PySem.W.Frag} {cl : Cl} {x a : Str} {sg : Scope} {g : Addr} {cdv : Value} {ok : List Nat} {j : Nat} {hds : List ExceptHandler} {h0 : ExceptHandler} {es : List Hd} {p1 p2 p3 p4 p5 p6 : Pos} {q : Str} (hK : X.K = K)
    (hnd : [a, nm].Nodup) (hl : sg.names.lookup nm = some .local) (hd : (nm == ("__debug__" : Str)) = false) (hcd : (nm == ("__classdict__" : Str)) = false) (hh : HdL X.K X.mg sg nm (h0 :: hds) es) (hc : ∀ e ∈ es, cl e.c = some (e.C, e.f)) :
    LamX.GivesTo X [a, nm] x sg g cdv [.Try [.Return (some (.List [.Constant (.str (mkS ok)) j p1, .Call (.Name a p2) [] [] p3] p4)) p5] (h0 :: hds) [] [] p6] a q (TTh K cl ok (es.map fun e => (e.c, e.w))) := by
  subst hK
  intro f c' s H Q tl act hco h
  refine ⟨_, pss_one (ps_try_ass (X := (cxOf C8.CX0 X.prog X.w X.K X.mg X.base [a, nm] x sg g cdv X.A X.stack s H C8.E0).nox) (nm := nm) (i := 1)
      (tb := fun W D σ H => ∃ Ech : XK, (∀ cls d σ' H', Ech cls d H' → σ'.length = 2 → W cls d σ' H') ∧ σ[0]? = some (some (.ref f)) ∧ H c' = some (LamX.CodeO c' q) ∧ tl Ech H fun v H1 => [V.str (mkS ok), v].length ≤ sizeLine ∧ ∀ p, H1 p = none → D.rt (.ref p) (upd H1 p (.lst [.str (mkS ok), v])))
      rfl rfl hnd rfl hl (fun W pn xe tk _ => ?_) (hd_as (X := (cxOf C8.CX0 X.prog X.w X.K X.mg X.base [a, nm] x sg g cdv X.A X.stack s H C8.E0).nox) rfl (.inl hl) hd hcd hh)), ?_⟩
  · refine ⟨fun pins t σ H' D I h' => ?_⟩
    obtain ⟨Ech, hW, h1, h2, h3⟩ := h'
    have hp := act (fun cls d σ H => σ.length = 2 → W cls d σ H) pn xe Ech p2 p3 (takes_len tk) fun cls d σ' H' z => hW cls d σ' H' z
    have hr := pss_one (ps_ret (pos := p5) (pe_lst (pos := p4) (pa_cons (pe_str (x := mkS ok) (j := j) (pos := p1)) (pa_cons hp pa_nil))))
    exact hr.run pins t σ H' D I ⟨h1, h2, h3⟩
  · exact ⟨_, fun cls d σ' H' ⟨c, w, C, f', dd, v, z1, z2, z3, z4, z5, z6⟩ hσ => by
      have hm := lookup_mem z1
      obtain ⟨e, he, ee⟩ := List.mem_map.mp hm
      cases ee
      have hce := hc e he
      rw [z2] at hce
      cases hce
      subst z3 z4
      exact hd_wish (by omega) hh e he z5 z6, rfl, hco, h⟩
/-! ### __init__ -/
variable {P : Program} {w : World} {K : PySem.W.Frag} {mg : Str → Option Value} {base : Heap}
theorem init_ok {x qual : Str} {st : Stmt} {fI : Addr} {fd : FuncData} {a b f : Str} {q1 q2 q3 q4 : Pos} (F : Fun K x qual st fI fd) (S : FnScope [a, b] [a, b] (defScope st)) (hb : defBody st = [.Assign [.Attribute (.Name a q1) f q2] (.Name b q3) q4])
    (la : (defScope st).names.lookup a = some .local) (lb : (defScope st).names.lookup b = some .local) (ha : nameOk a = true) (hb2 : nameOk b = true) : FnOk P w K mg base (L2.CX P w) 1 fI fd [a, b] (spInit K f) := by
  obtain ⟨a1, a2, _⟩ := @name_ok ⟨[]⟩ _ ha
  obtain ⟨b1, b2, _⟩ := @name_ok ⟨[]⟩ _ hb2
  refine F.okX S (fun vs H Q E h => ?_) fun cdv A outer s H vs Q E hr h => ?_
  · obtain ⟨_, _, _, rfl, _⟩ := h; rfl
  · rw [hb]
    refine ⟨_, pss_one (ps_ost (pe_var (i := 0) rfl (.inl la) a1 a2) (pe_var (i := 1) rfl (.inl lb) b1 b2) rfl), ?_⟩
    obtain ⟨ad, C, v, rfl, hx, hno, hH, hq⟩ := h
    exact ⟨v, rfl, .ref ad, rfl, ad, C, rfl, hx, hno, .inl ⟨hH, fun dx nd ne => hq dx nd ne⟩⟩
end
end Pv

/-! PvHear2: defs that hear, by their texts; the end with tables. -/
namespace Pv
open PySem PySem.Spec PyProof.Rows L2
def retL : Stmt → Option (List Expr)
  | .Return (some (.List es _)) _ => some es
  | _ => none
def conS : Expr → Option Str
  | .Constant (.str s) _ _ => some s
  | _ => none
def cal0 : Expr → Option Str
  | .Call (.Name a _) [] [] _ => some a
  | _ => none
def attO : Expr → Option (Str × Str)
  | .Attribute (.Name n _) f _ => some (n, f)
  | _ => none
def hdO : ExceptHandler → Option (Str × Str × List Stmt)
  | .ExceptHandler (some (.Name x _)) (some n) b _ => some (x, n, b)
  | _ => none
def tryO : Stmt → Option (List Stmt × List ExceptHandler)
  | .Try b hs [] [] _ => some (b, hs)
  | _ => none
theorem retL_inv {s : Stmt} {es : List Expr} (h : retL s = some es) : ∃ p q, s = .Return (some (.List es p)) q := by
  cases s <;> first | (cases h; done) | skip
  case Return v q =>
    cases v with
    | none => cases h
    | some v =>
      cases v <;> first | (cases h; done) | skip
      case List es' p => cases h; exact ⟨p, q, rfl⟩
theorem conS_inv {e : Expr} {s : Str} (h : conS e = some s) : ∃ j p, e = .Constant (.str s) j p := by
  cases e <;> first | (cases h; done) | skip
  case Constant k j p =>
    cases k <;> first | (cases h; done) | skip
    case str t => cases h; exact ⟨j, p, rfl⟩
theorem cal0_inv {e : Expr} {s : Str} (h : cal0 e = some s) : ∃ p q, e = .Call (.Name s p) [] [] q := by
  cases e <;> first | (cases h; done) | skip
  case Call f xs kws q =>
    cases f <;> first | (cases h; done) | skip
    case Name n p =>
      cases xs with
      | cons _ _ => cases h
      | nil => cases kws with
        | cons _ _ => cases h
        | nil => cases h; exact ⟨p, q, rfl⟩
theorem attO_inv {e : Expr} {n f : Str} (h : attO e = some (n, f)) : ∃ p q, e = .Attribute (.Name n p) f q := by
  cases e <;> first | (cases h; done) | skip
  case Attribute o g q =>
    cases o <;> first | (cases h; done) | skip
    case Name m p => cases h; exact ⟨p, q, rfl⟩
theorem hdO_inv {e : ExceptHandler} {x n : Str} {b : List Stmt} (h : hdO e = some (x, n, b)) : ∃ p q, e = .ExceptHandler (some (.Name x p)) (some n) b q := by
  cases e with
  | ExceptHandler t m b' q =>
    cases t with
    | none => cases h
    | some t =>
      cases t <;> first | (cases h; done) | skip
      case Name y p =>
        cases m with
        | none => cases h
        | some m => cases h; exact ⟨p, q, rfl⟩
theorem tryO_inv {e : Stmt} {b : List Stmt} {hs : List ExceptHandler} (h : tryO e = some (b, hs)) : ∃ p, e = .Try b hs [] [] p := by
  cases e <;> first | (cases h; done) | skip
  case Try b' hs' o f p =>
    cases o with
    | cons _ _ => cases h
    | nil => cases f with
      | cons _ _ => cases h
      | nil => cases h; exact ⟨p, rfl⟩
/-- one clause by its text -/
def ckHd (nm : Str) (h : ExceptHandler) (c : String) (w : List Nat) (f : Str) : Bool := match hdO h with
  | some (x, n, [r]) => x == so c && n == nm && (match retL r with
    | some [k, a] => conS k == some (mkS w) && attO a == some (nm, f)
    | _ => false)
  | _ => false
theorem ckHd_inv {nm : Str} {h : ExceptHandler} {c : String} {w : List Nat} {f : Str} (hh : ckHd nm h c w f = true) : ∃ j q1 q2 q3 q4 q5 q6 q7, h = .ExceptHandler (some (.Name (so c) q1)) (some nm) [.Return (some (.List [.Constant (.str (mkS w)) j q2, .Attribute (.Name nm q3) f q4] q5)) q6] q7 := by
  unfold ckHd at hh
  split at hh
  · rename_i x n r e1
    rw [Bool.and_eq_true, Bool.and_eq_true, beq_iff_eq, beq_iff_eq] at hh
    obtain ⟨⟨rfl, rfl⟩, hh⟩ := hh
    split at hh
    · rename_i k a e2
      rw [Bool.and_eq_true, beq_iff_eq, beq_iff_eq] at hh
      obtain ⟨p, q, rfl⟩ := hdO_inv e1
      obtain ⟨p2, q2, rfl⟩ := retL_inv e2
      obtain ⟨j, p3, rfl⟩ := conS_inv hh.1
      obtain ⟨p4, q4, rfl⟩ := attO_inv hh.2
      exact ⟨_, _, _, _, _, _, _, _, rfl⟩
    · cases hh
  · cases hh
def ckHds (nm : Str) : List ExceptHandler → List (String × List Nat × Str) → Bool
  | [], [] => true
  | h :: hs, (c, w, f) :: es => ckHd nm h c w f && ckHds nm hs es
  | _, _ => false
def ckHear (a nm : Str) (ok : List Nat) (es : List (String × List Nat × Str)) (b : List Stmt) : Bool := match b with
  | [s] => (match tryO s with
    | some ([r], hs) => !hs.isEmpty && ckHds nm hs es && (match retL r with
      | some [k, x] => conS k == some (mkS ok) && cal0 x == some a
      | _ => false)
    | _ => false)
  | _ => false
theorem ckHear_inv {a nm : Str} {ok : List Nat} {es : List (String × List Nat × Str)} {b : List Stmt} (h : ckHear a nm ok es b = true) :
    ∃ j p1 p2 p3 p4 p5 p6 h0 hds, ckHds nm (h0 :: hds) es = true ∧ b = [.Try [.Return (some (.List [.Constant (.str (mkS ok)) j p1, .Call (.Name a p2) [] [] p3] p4)) p5] (h0 :: hds) [] [] p6] := by
  unfold ckHear at h
  split at h
  · rename_i s
    split at h
    · rename_i r hs e1
      rw [Bool.and_eq_true, Bool.and_eq_true] at h
      obtain ⟨⟨h1, h2⟩, h3⟩ := h
      split at h3
      · rename_i k x e2
        rw [Bool.and_eq_true, beq_iff_eq, beq_iff_eq] at h3
        obtain ⟨p, rfl⟩ := tryO_inv e1
        obtain ⟨p2, q2, rfl⟩ := retL_inv e2
        obtain ⟨j, p3, rfl⟩ := conS_inv h3.1
        obtain ⟨p4, q4, rfl⟩ := cal0_inv h3.2
        cases hs with
        | nil => cases h1
        | cons h0 hds => exact ⟨_, _, _, _, _, _, _, h0, hds, h2, rfl⟩
      · cases h3
    · cases h
  · cases h
/-- the clauses' classes -/
structure HdC (K : PySem.W.Frag) (mg : Str → Option Value) (sg : Scope) (c : String) (f : Str) (C : Addr) : Prop where
  g : sg.names.lookup (so c) = some .globalImplicit
  db : (so c == ("__debug__" : Str)) = false
  m : mg (so c) = some (.ref C)
  xf : XfC K C
  no : PySem.W.findIn K (.ref C) f = some none
  te : PySem.W.exmOne K (.ref C) (.ref C) = some true
def HdsC (K : PySem.W.Frag) (mg : Str → Option Value) (sg : Scope) : List Hd → Prop
  | [] => True
  | e :: es => HdC K mg sg e.c e.f e.C ∧ (∀ d ∈ es, PySem.W.exmOne K (.ref d.C) (.ref e.C) = some false) ∧ HdsC K mg sg es
theorem hdl_of {K : PySem.W.Frag} {mg : Str → Option Value} {sg : Scope} {nm : Str} : ∀ {hds : List ExceptHandler} {es : List Hd}, ckHds nm hds (es.map fun e => (e.c, e.w, e.f)) = true → HdsC K mg sg es → HdL K mg sg nm hds es
  | [], [], _, _ => .nil
  | [], _ :: _, h, _ => by cases h
  | _ :: _, [], h, _ => by cases h
  | h :: hds, e :: es, hh, hc => by
    have hh : (ckHd nm h e.c e.w e.f && ckHds nm hds (es.map fun e => (e.c, e.w, e.f))) = true := hh
    rw [Bool.and_eq_true] at hh
    obtain ⟨j, q1, q2, q3, q4, q5, q6, q7, rfl⟩ := ckHd_inv hh.1
    exact .cons hc.1.g hc.1.db hc.1.m hc.1.xf hc.1.no hc.1.te hc.2.1 (hdl_of hh.2 hc.2.2)
section
variable {P : Program} {w : World} {K : PySem.W.Frag} {mg : Str → Option Value} {base : Heap} {cl : Cl}
theorem he_ok {x a nm : Str} {st : Stmt} {g : Addr} {fd : FuncData} {ok : List Nat} {es : List Hd} (F : Fun K x x st g fd) (m : mg x = some (.ref g)) (hb : L2.Binds K fd [a] []) (S : FnScope [a, nm] [a] (defScope st)) (la : (defScope st).names.lookup a = some .local) (ln : (defScope st).names.lookup nm = some .local)
    (na : nameOk a = true) (nn : nameOk nm = true) (hck : ckHear a nm ok (es.map fun e => (e.c, e.w, e.f)) (defBody st) = true) (hc : HdsC K mg (defScope st) es) (hcl : ∀ e ∈ es, cl e.c = some (e.C, e.f)) (hok : ok.length ≤ sizeLine) (hw : ∀ e ∈ es, e.w.length ≤ sizeLine) :
    HeOk P w K mg base cl x ok (es.map fun e => (e.c, e.w)) := by
  obtain ⟨oc, od, kV, doc, pm, an, cdv, ct, osl, rfl, lk, hcd⟩ := F.ex
  obtain ⟨a1, a2, _⟩ := @name_ok ⟨[]⟩ _ na
  obtain ⟨n1, n2, _⟩ := @name_ok ⟨[]⟩ _ nn
  refine ⟨hok, fun q hq => ?_, g, _, _, _, _, kV, doc, pm, cdv, ct, oc, an, od, osl, [a, nm], a, m, F.kp, lk, hcd, hb, S, rfl, .inl la, a1, a2, fun X q e1 e2 e3 e4 e5 => ?_⟩
  · obtain ⟨e, he, rfl⟩ := List.mem_map.mp hq
    exact hw e he
  · obtain ⟨j, p1, p2, p3, p4, p5, p6, h0, hds, hh, eb⟩ := ckHear_inv hck
    rw [eb]
    exact hear_gives e3 S.nd ln n1 n2 (by rw [e3, e4]; exact hdl_of hh hc) hcl
end
/-- the end of a law with lambdas: the tables of the defs that the top has made -/
theorem walk_tabs {l : PySem.W.OpenLaw} {n k : Nat} {q : Program} {loose : List Str} {XP : (Str → Option Value) → Heap → Prop} {YP : World → Heap → Prop} {d : DefRec} {K : Params → PySem.W.Frag} {CX : World → CXT} {x : Str}
    (hn : l.most = some n) (hn2 : n ≤ sizeLine) (hdf : d.params.defaults = []) (hr : Room k callerA) (hY : ∀ (w : World) (h : Heap), YP w h → (K w.params).In h)
    (F : ∀ (w : World) (mg : Str → Option Value) (fa : Addr) (h : Heap), YP w h → (K w.params).In h → h.Ns mainGlobals mg → mg d.name = some (.ref fa) →
      (∀ (y : Str) (c P : Addr), ((recsOf q).any fun e => e.name == y) = true → PySem.W.tabIn (K w.params) y = some (c, P) → PySem.W.CodeHd h c P ∧ h.get? P = some (PySem.W.tabObj #[])) → LamX.LawAtS l w (K w.params) (CX w) k n x mg fa h)
    (hCX : ∀ (w : World) (H : Hp) (s : Shared) (e : Value) (s' : Shared), CX w [] H s (fun _ _ _ => False) e s' → False) :
    PySem.W.WalkO q loose XP YP l.row.toRowW d [] (fun f vs => PySem.call f vs) := by
  refine Att.attach_callB hn hdf fun w s₀ s₁ mg mb fa o pm cd doc a vs ns G Y ho hd hcd hmg hobj hints hlen hbits hg => ?_
  have KX := hY w _ Y
  obtain ⟨fd, cs, sp, hT, nT, C, hb, hsp, hF⟩ := F w mg fa _ Y KX G.T.g hmg fun y c P hr ht => by
    cases hf : (recsOf q).find? (fun e => e.name == y) with
    | none =>
      obtain ⟨e, he, hq⟩ := List.any_eq_true.mp hr
      have := List.find?_eq_none.mp hf e he
      exact absurd hq this
    | some d' => exact PySem.W.tab_of G.T KX hf ht
  exact LamX.law_callTs KX G.T.g G.T.b G.T.builtins G.T.nolimit hg hT nT C G.T.bmain hobj hints (Nat.le_trans hlen hn2) hr hF hb (fun H hH hS => hsp H a ns hlen hbits hH hS) fun H e s' => hCX w H s₁ e s'
end Pv

/-! PvHear3: __init__ by its text; tuples of the module. -/
namespace Pv
open PySem PySem.Spec PyProof.Rows L2
def clsB : Stmt → List Stmt
  | .ClassDef (body := b) .. => b
  | _ => []
def nmO : Expr → Option Str
  | .Name n _ => some n
  | _ => none
theorem nmO_inv {e : Expr} {n : Str} (h : nmO e = some n) : ∃ p, e = .Name n p := by
  cases e <;> first | (cases h; done) | skip
  case Name m p => cases h; exact ⟨p, rfl⟩
def ckInit (a f b : Str) (bd : List Stmt) : Bool := match bd with
  | [.Assign [t] v _] => attO t == some (a, f) && nmO v == some b
  | _ => false
section
variable {P : Program} {w : World} {K : PySem.W.Frag} {mg : Str → Option Value} {base : Heap}
theorem init_ok2 {x qual : Str} {st : Stmt} {fI : Addr} {fd : FuncData} {a b f : Str} (F : Fun K x qual st fI fd) (S : FnScope [a, b] [a, b] (defScope st)) (hb : ckInit a f b (defBody st) = true)
    (la : (defScope st).names.lookup a = some .local) (lb : (defScope st).names.lookup b = some .local) (ha : nameOk a = true) (hb2 : nameOk b = true) : FnOk P w K mg base (L2.CX P w) 1 fI fd [a, b] (spInit K f) := by
  unfold ckInit at hb
  split at hb
  · rename_i t v p e
    rw [Bool.and_eq_true, beq_iff_eq, beq_iff_eq] at hb
    obtain ⟨p1, q1, rfl⟩ := attO_inv hb.1
    obtain ⟨p2, rfl⟩ := nmO_inv hb.2
    exact init_ok F S e la lb ha hb2
  · cases hb
end
theorem ft_of {K : PySem.W.Frag} {a : Addr} {its : Array Value} {n : Nat} {sl : Array (Option Value)} {xs : List V} {ds : List D} (h : K.lookup a = some ⟨.type "tuple", none, .seq its n, sl⟩) (hz : its.size ≤ sizeLine) (hv : Vals xs its.toList) (hr : RepL K (fun _ => none) xs ds) :
    ∃ u v, some (Value.ref a) = some u ∧ RelV v u ∧ Rep K (fun _ => none) v (.ft ds) :=
  ⟨.ref a, .ref a, rfl, rfl, by simp only [Rep]; exact ⟨a, xs, rfl, .inr ⟨_, its, n, h, rfl, rfl, hz, hv⟩, hr⟩⟩
/-- a class of errors over ValueError -/
theorem exm_self2 {K : PySem.W.Frag} {S : Addr} (h1 : PySem.W.subIn K (.ref S) (.type "BaseException") = some true) (h2 : PySem.W.isClsIn K S = true) (h3 : PySem.W.typeIn K (.ref S) = some (.type "type")) {R : Addr} {b : Bool} (h4 : PySem.W.subIn K (.ref R) (.ref S) = some b) :
    PySem.W.exmOne K (.ref R) (.ref S) = some b := by
  have e1 : (PySem.W.subIn K (.ref S) (.type "BaseException") == some true) = true := by rw [h1]; rfl
  have h2' : (PySem.W.clsIn K S).isSome = true := h2
  have e2 : ((PySem.W.clsIn K S).isSome && PySem.W.typeIn K (.ref S) == some (.type "type")) = true := by rw [h2', h3]; rfl
  show (if _ = true then (if _ = true then PySem.W.subIn K (.ref R) (.ref S) else none) else none) = some b
  rw [if_pos e1, if_pos e2]
  exact h4
end Pv

/-! printed by gen.py: the defs of a law in short -/
namespace G77
open PySem PySem.Spec PyProof.Rows L2 Pv
def topS (i : Nat) : Stmt := PySem.Challenge.pw_brookranks_k77_whole_texts_of_deeds.main.body.getD i (.Pass ⟨0, 0, 0, 0⟩)
/-! is_tuple_of(value, many): 0 value, 1 many -/
abbrev s_is_tuple_of : Stmt := topS 2
def c_is_tuple_of : Cn := { N := [so "value", so "many"], sc := defScope s_is_tuple_of, cs := [], fs := [], bs := ["isinstance", "len", "tuple"], kw := [], st := [], xs := [], he := [], lam := false }
def b_is_tuple_of : List Sx := [(.ret (.and (.isi (.var 0) "tuple") (.cmp .Eq (.bi .len [(.var 0)]) (.var 1))))]
def f_is_tuple_of : Fn := mkFn (tabF []) false 2 b_is_tuple_of
theorem k_is_tuple_of : ckB c_is_tuple_of b_is_tuple_of (defBody s_is_tuple_of) = true := by decide +kernel
theorem n_is_tuple_of : FnScope c_is_tuple_of.N [so "value", so "many"] (defScope s_is_tuple_of) := ⟨rfl, rfl, rfl, by decide +kernel, rfl, by decide +kernel, by decide +kernel⟩
/-! is_whole(value): 0 value -/
abbrev s_is_whole : Stmt := topS 1
def c_is_whole : Cn := { N := [so "value"], sc := defScope s_is_whole, cs := [], fs := [], bs := ["bool", "int", "isinstance"], kw := [], st := [], xs := [], he := [], lam := false }
def b_is_whole : List Sx := [(.ret (.and (.isi (.var 0) "int") (.not (.isi (.var 0) "bool"))))]
def f_is_whole : Fn := mkFn (tabF []) false 1 b_is_whole
theorem k_is_whole : ckB c_is_whole b_is_whole (defBody s_is_whole) = true := by decide +kernel
theorem n_is_whole : FnScope c_is_whole.N [so "value"] (defScope s_is_whole) := ⟨rfl, rfl, rfl, by decide +kernel, rfl, by decide +kernel, by decide +kernel⟩
/-! is_side(value): 0 value -/
abbrev s_is_side : Stmt := topS 7
def c_is_side : Cn := { N := [so "value"], sc := defScope s_is_side, cs := [("SIDES", (.ft [(.str [108, 101, 102, 116]), (.str [114, 105, 103, 104, 116])]))], fs := [], bs := ["isinstance", "str"], kw := [], st := [], xs := [], he := [], lam := false }
def b_is_side : List Sx := [(.ret (.and (.isi (.var 0) "str") (.cmp .In (.var 0) (.glo "SIDES" (.ft [(.str [108, 101, 102, 116]), (.str [114, 105, 103, 104, 116])])))))]
def f_is_side : Fn := mkFn (tabF []) false 1 b_is_side
theorem k_is_side : ckB c_is_side b_is_side (defBody s_is_side) = true := by decide +kernel
theorem n_is_side : FnScope c_is_side.N [so "value"] (defScope s_is_side) := ⟨rfl, rfl, rfl, by decide +kernel, rfl, by decide +kernel, by decide +kernel⟩
/-! is_deed(value): 0 value -/
abbrev s_is_deed : Stmt := topS 16
def c_is_deed : Cn := { N := [so "value"], sc := defScope s_is_deed, cs := [("PRUNE", (.str [112, 114, 117, 110, 101])), ("WITH_SIDE", (.ft [(.str [103, 114, 111, 119]), (.str [116, 117, 114, 110])])), ("WITH_WATER", (.ft [(.str [115, 104, 114, 105, 110, 107]), (.str [115, 119, 97, 112])]))], fs := [("is_tuple_of", 2), ("is_whole", 1), ("is_side", 1)], bs := ["isinstance", "len", "str", "tuple"], kw := [], st := [], xs := [], he := [], lam := false }
def b_is_deed : List Sx := [(.ife (.or (.not (.isi (.var 0) "tuple")) (.or (.cmp .Eq (.var 0) (.tup [])) (.not (.isi (.idx (.var 0) (.con (.int 0))) "str")))) [(.ret (.con (.bl false)))] []), (.ife (.cmp .Eq (.idx (.var 0) (.con (.int 0))) (.glo "PRUNE" (.str [112, 114, 117, 110, 101]))) [(.ret (.cmp .Eq (.bi .len [(.var 0)]) (.con (.int 1))))] []), (.ife (.cmp .In (.idx (.var 0) (.con (.int 0))) (.glo "WITH_SIDE" (.ft [(.str [103, 114, 111, 119]), (.str [116, 117, 114, 110])]))) [(.ret (.and (.call "is_tuple_of" [(.var 0), (.con (.int 3))]) (.and (.call "is_whole" [(.idx (.var 0) (.con (.int 1)))]) (.call "is_side" [(.idx (.var 0) (.con (.int 2)))]))))] []), (.ret (.and (.cmp .In (.idx (.var 0) (.con (.int 0))) (.glo "WITH_WATER" (.ft [(.str [115, 104, 114, 105, 110, 107]), (.str [115, 119, 97, 112])]))) (.and (.call "is_tuple_of" [(.var 0), (.con (.int 2))]) (.call "is_whole" [(.idx (.var 0) (.con (.int 1)))]))))]
def f_is_deed : Fn := mkFn (tabF [("is_tuple_of", f_is_tuple_of), ("is_whole", f_is_whole), ("is_side", f_is_side)]) false 1 b_is_deed
theorem k_is_deed : ckB c_is_deed b_is_deed (defBody s_is_deed) = true := by decide +kernel
theorem n_is_deed : FnScope c_is_deed.N [so "value"] (defScope s_is_deed) := ⟨rfl, rfl, rfl, by decide +kernel, rfl, by decide +kernel, by decide +kernel⟩
/-! text_of_deed(deed): 0 deed, 1 part -/
abbrev s_text_of_deed : Stmt := topS 28
def c_text_of_deed : Cn := { N := [so "deed", so "part"], sc := defScope s_text_of_deed, cs := [("BLANK", (.str [32]))], fs := [], bs := [], kw := [], st := [], xs := [], he := [], lam := false }
def b_text_of_deed : List Sx := [(.ret (.met .join (.glo "BLANK" (.str [32])) [(.lc [1] (.fmt (.var 1)) (.nm 1) (.sq (.var 0)) [])]))]
def f_text_of_deed : Fn := mkFn (tabF []) false 2 b_text_of_deed
theorem k_text_of_deed : ckB c_text_of_deed b_text_of_deed (defBody s_text_of_deed) = true := by decide +kernel
theorem n_text_of_deed : FnScope c_text_of_deed.N [so "deed"] (defScope s_text_of_deed) := ⟨rfl, rfl, rfl, by decide +kernel, rfl, by decide +kernel, by decide +kernel⟩
/-! deed_text(deed): 0 deed -/
abbrev s_deed_text : Stmt := topS 32
def c_deed_text : Cn := { N := [so "deed"], sc := defScope s_deed_text, cs := [], fs := [("is_deed", 1), ("text_of_deed", 1)], bs := [], kw := [], st := [], xs := ["InvalidDeed"], he := [], lam := false }
def b_deed_text : List Sx := [(.ife (.not (.call "is_deed" [(.var 0)])) [(.rs "InvalidDeed" (.var 0))] []), (.ret (.call "text_of_deed" [(.var 0)]))]
def f_deed_text : Fn := mkFn (tabF [("is_deed", f_is_deed), ("text_of_deed", f_text_of_deed)]) false 1 b_deed_text
theorem k_deed_text : ckB c_deed_text b_deed_text (defBody s_deed_text) = true := by decide +kernel
theorem n_deed_text : FnScope c_deed_text.N [so "deed"] (defScope s_deed_text) := ⟨rfl, rfl, rfl, by decide +kernel, rfl, by decide +kernel, by decide +kernel⟩
/-! count_told(word): 0 word, 1 sign -/
abbrev s_count_told : Stmt := topS 26
def c_count_told : Cn := { N := [so "word", so "sign"], sc := defScope s_count_told, cs := [("DIGITS", (.str [48, 49, 50, 51, 52, 53, 54, 55, 56, 57]))], fs := [], bs := ["all", "int", "len"], kw := [], st := [], xs := [], he := [], lam := false }
def b_count_told : List Sx := [(.ife (.or (.cmp .Eq (.var 0) (.con (.str []))) (.not (.bi .all [(.lc [1] (.cmp .In (.var 1) (.glo "DIGITS" (.str [48, 49, 50, 51, 52, 53, 54, 55, 56, 57]))) (.nm 1) (.sq (.var 0)) [])]))) [(.ret (.con .non))] []), (.ret (.ife (.and (.cmp .Eq (.idx (.var 0) (.con (.int 0))) (.con (.str [48]))) (.cmp .Gt (.bi .len [(.var 0)]) (.con (.int 1)))) (.con .non) (.bi .int [(.var 0)])))]
def f_count_told : Fn := mkFn (tabF []) false 2 b_count_told
theorem k_count_told : ckB c_count_told b_count_told (defBody s_count_told) = true := by decide +kernel
theorem n_count_told : FnScope c_count_told.N [so "word"] (defScope s_count_told) := ⟨rfl, rfl, rfl, by decide +kernel, rfl, by decide +kernel, by decide +kernel⟩
/-! whole_told(word): 0 word, 1 found -/
abbrev s_whole_told : Stmt := topS 27
def c_whole_told : Cn := { N := [so "word", so "found"], sc := defScope s_whole_told, cs := [("MINUS", (.str [45]))], fs := [("count_told", 1)], bs := [], kw := [], st := [], xs := [], he := [], lam := false }
def b_whole_told : List Sx := [(.ife (.cmp .NotEq (.slc (.var 0) none (some (.con (.int 1)))) (.glo "MINUS" (.str [45]))) [(.ret (.call "count_told" [(.var 0)]))] []), (.asg (.nm 1) (.call "count_told" [(.slc (.var 0) (some (.con (.int 1))) none)])), (.ret (.ife (.or (.isn (.var 1) false) (.cmp .Eq (.var 1) (.con (.int 0)))) (.con .non) (.bin .Sub (.con (.int 0)) (.var 1))))]
def f_whole_told : Fn := mkFn (tabF [("count_told", f_count_told)]) false 2 b_whole_told
theorem k_whole_told : ckB c_whole_told b_whole_told (defBody s_whole_told) = true := by decide +kernel
theorem n_whole_told : FnScope c_whole_told.N [so "word"] (defScope s_whole_told) := ⟨rfl, rfl, rfl, by decide +kernel, rfl, by decide +kernel, by decide +kernel⟩
/-! deed_of_text(text): 0 text, 1 words, 2 found, 3 at, 4 word -/
abbrev s_deed_of_text : Stmt := topS 29
def c_deed_of_text : Cn := { N := [so "text", so "words", so "found", so "at", so "word"], sc := defScope s_deed_of_text, cs := [("BLANK", (.str [32])), ("PLACE_OF_NUMBER", (.int 1))], fs := [("whole_told", 1), ("is_deed", 1)], bs := ["enumerate", "isinstance", "str", "tuple"], kw := [], st := [], xs := [], he := [], lam := false }
def b_deed_of_text : List Sx := [(.ife (.not (.isi (.var 0) "str")) [(.ret (.con .non))] []), (.asg (.nm 1) (.met .split (.var 0) [(.glo "BLANK" (.str [32]))])), (.asg (.nm 2) (.bi .tuple [(.lc [3, 4] (.ife (.cmp .Eq (.var 3) (.glo "PLACE_OF_NUMBER" (.int 1))) (.call "whole_told" [(.var 4)]) (.var 4)) (.tup [(.nm 3), (.nm 4)]) (.enm (.var 1)) [])])), (.ret (.ife (.call "is_deed" [(.var 2)]) (.var 2) (.con .non)))]
def f_deed_of_text : Fn := mkFn (tabF [("whole_told", f_whole_told), ("is_deed", f_is_deed)]) false 5 b_deed_of_text
theorem k_deed_of_text : ckB c_deed_of_text b_deed_of_text (defBody s_deed_of_text) = true := by decide +kernel
theorem n_deed_of_text : FnScope c_deed_of_text.N [so "text"] (defScope s_deed_of_text) := ⟨rfl, rfl, rfl, by decide +kernel, rfl, by decide +kernel, by decide +kernel⟩
/-! check_told(found, text): 0 found, 1 text -/
abbrev s_check_told : Stmt := topS 31
def c_check_told : Cn := { N := [so "found", so "text"], sc := defScope s_check_told, cs := [], fs := [], bs := [], kw := [], st := [], xs := ["InvalidText"], he := [], lam := false }
def b_check_told : List Sx := [(.ife (.isn (.var 0) false) [(.rs "InvalidText" (.var 1))] [])]
def f_check_told : Fn := mkFn (tabF []) false 2 b_check_told
theorem k_check_told : ckB c_check_told b_check_told (defBody s_check_told) = true := by decide +kernel
theorem n_check_told : FnScope c_check_told.N [so "found", so "text"] (defScope s_check_told) := ⟨rfl, rfl, rfl, by decide +kernel, rfl, by decide +kernel, by decide +kernel⟩
/-! read_deed(text): 0 text, 1 found -/
abbrev s_read_deed : Stmt := topS 33
def c_read_deed : Cn := { N := [so "text", so "found"], sc := defScope s_read_deed, cs := [], fs := [("deed_of_text", 1), ("check_told", 2)], bs := [], kw := [], st := [], xs := [], he := [], lam := false }
def b_read_deed : List Sx := [(.asg (.nm 1) (.call "deed_of_text" [(.var 0)])), (.ex (.call "check_told" [(.var 1), (.var 0)])), (.ret (.var 1))]
def f_read_deed : Fn := mkFn (tabF [("deed_of_text", f_deed_of_text), ("check_told", f_check_told)]) false 2 b_read_deed
theorem k_read_deed : ckB c_read_deed b_read_deed (defBody s_read_deed) = true := by decide +kernel
theorem n_read_deed : FnScope c_read_deed.N [so "text"] (defScope s_read_deed) := ⟨rfl, rfl, rfl, by decide +kernel, rfl, by decide +kernel, by decide +kernel⟩
/-! _law_same(told, due): 0 told, 1 due, 2 at -/
abbrev s_L_same : Stmt := topS 38
def c_L_same : Cn := { N := [so "told", so "due", so "at"], sc := defScope s_L_same, cs := [], fs := [("_law_same", 2)], bs := ["all", "bool", "int", "isinstance", "len", "list", "range", "str", "tuple"], kw := [], st := [so "told", so "due"], xs := [], he := [], lam := false }
def b_L_same : List Sx := [(.ife (.or (.and (.isi (.var 1) "tuple") (.isi (.var 0) "tuple")) (.and (.isi (.var 1) "list") (.isi (.var 0) "list"))) [(.ret (.and (.cmp .Eq (.bi .len [(.var 0)]) (.bi .len [(.var 1)])) (.bi .all [(.lc [2] (.call "_law_same" [(.idx (.var 0) (.var 2)), (.idx (.var 1) (.var 2))]) (.nm 2) (.rng [(.bi .len [(.var 1)])]) [])])))] []), (.ife (.or (.isi (.var 1) "tuple") (.or (.isi (.var 1) "list") (.cmp .NotEq (.isi (.var 1) "bool") (.isi (.var 0) "bool")))) [(.ret (.con (.bl false)))] []), (.ife (.or (.cmp .NotEq (.isi (.var 1) "int") (.isi (.var 0) "int")) (.cmp .NotEq (.isi (.var 1) "str") (.isi (.var 0) "str"))) [(.ret (.con (.bl false)))] []), (.ret (.ife (.isn (.var 1) false) (.isn (.var 0) false) (.cmp .Eq (.var 0) (.var 1))))]
def f_L_same : Nat → Fn
  | 0 => ⟨false, fun _ => .stuck⟩
  | m + 1 => mkFn (tabF [("_law_same", f_L_same m)]) false 3 b_L_same
theorem k_L_same : ckB c_L_same b_L_same (defBody s_L_same) = true := by decide +kernel
theorem n_L_same : FnScope c_L_same.N [so "told", so "due"] (defScope s_L_same) := ⟨rfl, rfl, rfl, by decide +kernel, rfl, by decide +kernel, by decide +kernel⟩
/-! _law_draw(pot, many): 0 pot, 1 many, 2 digit -/
abbrev s_L_draw : Stmt := topS 36
def c_L_draw : Cn := { N := [so "pot", so "many", so "digit"], sc := defScope s_L_draw, cs := [], fs := [], bs := ["divmod", "int"], kw := [], st := [], xs := [], he := [], lam := false }
def b_L_draw : List Sx := [(.ife (.cmp .Gt (.idx (.var 0) (.con (.int 0))) (.con (.int 0))) [(.asg (.tup [(.sub 0 (.con (.int 0))), (.nm 2)]) (.bi .divmod [(.idx (.var 0) (.con (.int 0))), (.var 1)])), (.ret (.var 2))] []), (.asg (.sub 0 (.con (.int 2))) (.bin .Add (.idx (.var 0) (.con (.int 2))) (.con (.int 1)))), (.asg (.sub 0 (.con (.int 1))) (.bin .Mod (.bi .int [(.bin .Add (.bin .Add (.bin .Mult (.idx (.var 0) (.con (.int 1))) (.bin .Add (.bin .Mod (.bi .int [(.idx (.var 0) (.con (.int 1)))]) (.con (.int 10007))) (.con (.int 20011)))) (.bin .Mult (.con (.int 60013)) (.idx (.var 0) (.con (.int 2))))) (.con (.int 61)))]) (.con (.int 2147483563)))), (.ret (.bin .Mod (.bi .int [(.bin .FloorDiv (.idx (.var 0) (.con (.int 1))) (.con (.int 97)))]) (.var 1)))]
def f_L_draw : Fn := mkFn (tabF []) true 3 b_L_draw
theorem k_L_draw : ckB c_L_draw b_L_draw (defBody s_L_draw) = true := by decide +kernel
theorem n_L_draw : FnScope c_L_draw.N [so "pot", so "many"] (defScope s_L_draw) := ⟨rfl, rfl, rfl, by decide +kernel, rfl, by decide +kernel, by decide +kernel⟩
/-! _law_pick(pot, some): 0 pot, 1 some -/
abbrev s_L_pick : Stmt := topS 37
def c_L_pick : Cn := { N := [so "pot", so "some"], sc := defScope s_L_pick, cs := [], fs := [("_law_draw", 2)], bs := ["len"], kw := [], st := [], xs := [], he := [], lam := false }
def b_L_pick : List Sx := [(.ret (.idx (.var 1) (.call "_law_draw" [(.var 0), (.bi .len [(.var 1)])])))]
def f_L_pick : Fn := mkFn (tabF [("_law_draw", f_L_draw)]) true 2 b_L_pick
theorem k_L_pick : ckB c_L_pick b_L_pick (defBody s_L_pick) = true := by decide +kernel
theorem n_L_pick : FnScope c_L_pick.N [so "pot", so "some"] (defScope s_L_pick) := ⟨rfl, rfl, rfl, by decide +kernel, rfl, by decide +kernel, by decide +kernel⟩
/-! _law_bent(pot, text): 0 pot, 1 text, 2 way, 3 at, 4 sign, 5 words, 6 k, 7 j -/
abbrev s_L_bent : Stmt := topS 43
def c_L_bent : Cn := { N := [so "pot", so "text", so "way", so "at", so "sign", so "words", so "k", so "j"], sc := defScope s_L_bent, cs := [], fs := [("_law_draw", 2), ("_law_pick", 2)], bs := ["len"], kw := [], st := [], xs := [], he := [], lam := false }
def b_L_bent : List Sx := [(.par [2, 3] [(.call "_law_draw" [(.var 0), (.con (.int 8))]), (.call "_law_draw" [(.var 0), (.bin .Add (.bi .len [(.var 1)]) (.con (.int 1)))])]), (.asg (.nm 4) (.call "_law_pick" [(.var 0), (.con (.str [48, 49, 53, 57, 45, 32, 10, 97, 108, 43]))])), (.ife (.cmp .Lt (.var 2) (.con (.int 3))) [(.ret (.ife (.cmp .Eq (.var 2) (.con (.int 0))) (.bin .Add (.slc (.var 1) none (some (.var 3))) (.slc (.var 1) (some (.bin .Add (.var 3) (.con (.int 1)))) none)) (.bin .Add (.bin .Add (.slc (.var 1) none (some (.var 3))) (.var 4)) (.slc (.var 1) (some (.bin .Sub (.bin .Add (.var 3) (.var 2)) (.con (.int 1)))) none))))] []), (.asg (.nm 5) (.met .split (.var 1) [(.con (.str [32]))])), (.par [6, 7] [(.call "_law_draw" [(.var 0), (.bi .len [(.var 5)])]), (.call "_law_draw" [(.var 0), (.bi .len [(.var 5)])])]), (.ife (.cmp .Eq (.var 2) (.con (.int 3))) [(.asg (.tup [(.sub 5 (.var 6)), (.sub 5 (.var 7))]) (.tup [(.idx (.var 5) (.var 7)), (.idx (.var 5) (.var 6))]))] [(.ife (.cmp .Eq (.var 2) (.con (.int 4))) [(.asg (.nm 5) (.bin .Add (.slc (.var 5) none (some (.bin .Add (.var 6) (.con (.int 1))))) (.slc (.var 5) (some (.var 6)) none)))] [(.ife (.cmp .Eq (.var 2) (.con (.int 5))) [(.asg (.sub 5 (.var 6)) (.call "_law_pick" [(.var 0), (.tup [(.con (.str [45, 48])), (.con (.str [48, 48])), (.con (.str [48, 49])), (.con (.str [45, 49])), (.con (.str [108, 101, 102, 116])), (.con (.str [114, 105, 103, 104, 116])), (.con (.str [117, 112])), (.con (.str [112, 114, 117, 110, 101])), (.con (.str [115, 119, 97, 112])), (.con (.str [48])), (.con (.str []))])]))] [(.ife (.cmp .Eq (.var 2) (.con (.int 6))) [(.asg (.nm 5) (.bin .Add (.slc (.var 5) none (some (.var 6))) (.slc (.var 5) (some (.bin .Add (.var 6) (.con (.int 1)))) none)))] [])])])]), (.ret (.ife (.cmp .Lt (.var 2) (.con (.int 7))) (.met .join (.con (.str [32])) [(.var 5)]) (.call "_law_pick" [(.var 0), (.tup [(.con (.str [])), (.con (.str [32])), (.con .non), (.con (.int 5)), (.tup [(.var 1)]), (.bin .Add (.var 1) (.con (.str [32]))), (.met .upper (.var 1) []), (.con (.str [112, 114, 117, 110, 101, 32, 48])), (.con (.str [103, 114, 111, 119, 32, 48])), (.bin .Add (.var 1) (.con (.str [10])))])])))]
def f_L_bent : Fn := mkFn (tabF [("_law_draw", f_L_draw), ("_law_pick", f_L_pick)]) true 8 b_L_bent
theorem k_L_bent : ckB c_L_bent b_L_bent (defBody s_L_bent) = true := by decide +kernel
theorem n_L_bent : FnScope c_L_bent.N [so "pot", so "text"] (defScope s_L_bent) := ⟨rfl, rfl, rfl, by decide +kernel, rfl, by decide +kernel, by decide +kernel⟩
/-! _law_whole(word): 0 word, 1 figures, 2 sign -/
abbrev s_L_whole : Stmt := topS 40
def c_L_whole : Cn := { N := [so "word", so "figures", so "sign"], sc := defScope s_L_whole, cs := [], fs := [], bs := ["all", "int"], kw := [], st := [], xs := [], he := [], lam := false }
def b_L_whole : List Sx := [(.asg (.nm 1) (.ife (.cmp .Eq (.slc (.var 0) none (some (.con (.int 1)))) (.con (.str [45]))) (.slc (.var 0) (some (.con (.int 1))) none) (.var 0))), (.ife (.or (.cmp .Eq (.var 1) (.con (.str []))) (.or (.not (.bi .all [(.lc [2] (.cmp .In (.var 2) (.con (.str [48, 49, 50, 51, 52, 53, 54, 55, 56, 57]))) (.nm 2) (.sq (.var 1)) [])])) (.and (.cmp .Eq (.idx (.var 1) (.con (.int 0))) (.con (.str [48]))) (.cmp .NotEq (.var 0) (.con (.str [48])))))) [(.ret (.lst []))] []), (.ret (.lst [(.bi .int [(.var 0)])]))]
def f_L_whole : Fn := mkFn (tabF []) false 3 b_L_whole
theorem k_L_whole : ckB c_L_whole b_L_whole (defBody s_L_whole) = true := by decide +kernel
theorem n_L_whole : FnScope c_L_whole.N [so "word"] (defScope s_L_whole) := ⟨rfl, rfl, rfl, by decide +kernel, rfl, by decide +kernel, by decide +kernel⟩
/-! _law_read(text): 0 text, 1 words, 2 number -/
abbrev s_L_read : Stmt := topS 41
def c_L_read : Cn := { N := [so "text", so "words", so "number"], sc := defScope s_L_read, cs := [], fs := [("_law_whole", 1)], bs := ["len"], kw := [], st := [], xs := [], he := [], lam := false }
def b_L_read : List Sx := [(.asg (.nm 1) (.met .split (.var 0) [(.con (.str [32]))])), (.ife (.cmp .Eq (.var 1) (.lst [(.con (.str [112, 114, 117, 110, 101]))])) [(.ret (.tup [(.con (.str [112, 114, 117, 110, 101]))]))] []), (.asg (.nm 2) (.ife (.cmp .Gt (.bi .len [(.var 1)]) (.con (.int 1))) (.call "_law_whole" [(.idx (.var 1) (.con (.int 1)))]) (.lst []))), (.ife (.cmp .Eq (.var 2) (.lst [])) [(.ret (.tup []))] []), (.ife (.and (.cmp .In (.idx (.var 1) (.con (.int 0))) (.tup [(.con (.str [103, 114, 111, 119])), (.con (.str [116, 117, 114, 110]))])) (.and (.cmp .Eq (.bi .len [(.var 1)]) (.con (.int 3))) (.cmp .In (.idx (.var 1) (.con (.int 2))) (.tup [(.con (.str [108, 101, 102, 116])), (.con (.str [114, 105, 103, 104, 116]))])))) [(.ret (.tup [(.idx (.var 1) (.con (.int 0))), (.idx (.var 2) (.con (.int 0))), (.idx (.var 1) (.con (.int 2)))]))] []), (.ret (.ife (.and (.cmp .In (.idx (.var 1) (.con (.int 0))) (.tup [(.con (.str [115, 104, 114, 105, 110, 107])), (.con (.str [115, 119, 97, 112]))])) (.cmp .Eq (.bi .len [(.var 1)]) (.con (.int 2)))) (.tup [(.idx (.var 1) (.con (.int 0))), (.idx (.var 2) (.con (.int 0)))]) (.tup [])))]
def f_L_read : Fn := mkFn (tabF [("_law_whole", f_L_whole)]) false 3 b_L_read
theorem k_L_read : ckB c_L_read b_L_read (defBody s_L_read) = true := by decide +kernel
theorem n_L_read : FnScope c_L_read.N [so "text"] (defScope s_L_read) := ⟨rfl, rfl, rfl, by decide +kernel, rfl, by decide +kernel, by decide +kernel⟩
/-! _law_is_right(pot, deed): 0 pot, 1 deed, 2 text, 3 told, 4 turn, 5 bent, 6 due, 7 odds, 8 odd, 9 part -/
abbrev s_L_is_right : Stmt := topS 44
def c_L_is_right : Cn := { N := [so "pot", so "deed", so "text", so "told", so "turn", so "bent", so "due", so "odds", so "odd", so "part"], sc := defScope s_L_is_right, cs := [], fs := [("deed_text", 1), ("read_deed", 1), ("_law_same", 2), ("_law_bent", 2), ("_law_read", 1), ("_law_pick", 2)], bs := ["isinstance", "list", "range", "str"], kw := [("deed_text", ["deed"], [0]), ("read_deed", ["text"], [0])], st := [so "bent", so "odd"], xs := [], he := [("_law_heard", [116, 111, 108, 100], [("InvalidText", [116, 101, 120, 116]), ("InvalidDeed", [100, 101, 101, 100])])], lam := true }
def b_L_is_right : List Sx := [(.asg (.nm 2) (.met .join (.con (.str [32])) [(.lc [9] (.bi .str [(.var 9)]) (.nm 9) (.sq (.var 1)) [])])), (.asg (.nm 3) (.lst [(.call "deed_text" [(.var 1)]), (.callK "deed_text" [("deed", (.var 1))] [0]), (.call "read_deed" [(.var 2)]), (.callK "read_deed" [("text", (.var 2))] [0])])), (.ife (.not (.call "_law_same" [(.var 3), (.lst [(.var 2), (.var 2), (.var 1), (.var 1)])])) [(.ret (.con (.bl false)))] []), (.fr (.nm 4) (.rng [(.con (.int 8))]) [(.asg (.nm 5) (.call "_law_bent" [(.var 0), (.var 2)])), (.asg (.nm 6) (.ife (.isi (.var 5) "str") (.call "_law_read" [(.var 5)]) (.tup []))), (.ife (.not (.call "_law_same" [(.hear "_law_heard" [116, 111, 108, 100] [("InvalidText", [116, 101, 120, 116]), ("InvalidDeed", [100, 101, 101, 100])] (.call "read_deed" [(.var 5)])), (.ife (.cmp .NotEq (.var 6) (.tup [])) (.lst [(.con (.str [116, 111, 108, 100])), (.var 6)]) (.lst [(.con (.str [116, 101, 120, 116])), (.var 5)]))])) [(.ret (.con (.bl false)))] [])]), (.asg (.nm 7) (.lst [(.con .non), (.tup []), (.bin .Add (.var 1) (.tup [(.con (.int 1))])), (.bi .list [(.var 1)]), (.var 2), (.con (.int 5)), (.tup [(.con (.str [103, 114, 111, 119])), (.con (.int 0))]), (.tup [(.con (.str [103, 114, 111, 119])), (.con (.int 0)), (.con (.str [117, 112]))]), (.tup [(.con (.str [103, 114, 111, 119])), (.con .non), (.con (.str [108, 101, 102, 116]))]), (.tup [(.con (.str [103, 114, 111, 119])), (.con (.bl true)), (.con (.str [108, 101, 102, 116]))]), (.tup [(.con (.str [112, 114, 117, 110, 101])), (.con (.int 0))])])), (.asg (.nm 7) (.bin .Add (.var 7) (.lst [(.tup [(.con (.str [115, 119, 97, 112])), (.con (.str [48]))]), (.tup [(.con (.str [115, 119, 97, 112]))]), (.tup [(.con (.str [115, 104, 114, 105, 110, 107])), (.con (.int 1)), (.con (.str [108, 101, 102, 116]))]), (.tup [(.con (.str [116, 117, 114, 110])), (.con (.int 1))]), (.tup [(.con (.str [116, 117, 114, 110])), (.con (.str [49])), (.con (.str [108, 101, 102, 116]))]), (.tup [(.con (.str [116, 117, 114, 110])), (.con (.int 1)), (.con (.int 2))]), (.tup [(.con (.int 5)), (.con (.int 1))]), (.tup [(.con (.str [83, 119, 97, 112])), (.con (.int 1))]), (.tup [(.con (.str [115, 119, 97, 112])), (.tup [(.con (.int 1))])])]))), (.asg (.nm 8) (.call "_law_pick" [(.var 0), (.var 7)])), (.ret (.call "_law_same" [(.hear "_law_heard" [116, 111, 108, 100] [("InvalidText", [116, 101, 120, 116]), ("InvalidDeed", [100, 101, 101, 100])] (.call "deed_text" [(.var 8)])), (.lst [(.con (.str [100, 101, 101, 100])), (.var 8)])]))]
def f_L_is_right : Fn := mkFn (tabF [("deed_text", f_deed_text), ("read_deed", f_read_deed), ("_law_same", f_L_same 8), ("_law_bent", f_L_bent), ("_law_read", f_L_read), ("_law_pick", f_L_pick)]) true 10 b_L_is_right
theorem k_L_is_right : ckB c_L_is_right b_L_is_right (defBody s_L_is_right) = true := by decide +kernel
theorem n_L_is_right : FnScope c_L_is_right.N [so "pot", so "deed"] (defScope s_L_is_right) := ⟨rfl, rfl, rfl, by decide +kernel, rfl, by decide +kernel, by decide +kernel⟩
/-! _law_deed(pot): 0 pot, 1 number, 2 word, 3 side -/
abbrev s_L_deed : Stmt := topS 42
def c_L_deed : Cn := { N := [so "pot", so "number", so "word", so "side"], sc := defScope s_L_deed, cs := [], fs := [("_law_draw", 2), ("_law_pick", 2)], bs := [], kw := [], st := [], xs := [], he := [], lam := false }
def b_L_deed : List Sx := [(.asg (.nm 1) (.bin .Mult (.call "_law_draw" [(.var 0), (.call "_law_pick" [(.var 0), (.tup [(.con (.int 3)), (.con (.int 50)), (.bin .Pow (.con (.int 10)) (.con (.int 30)))])])]) (.call "_law_pick" [(.var 0), (.tup [(.con (.int 1)), (.con (.int 1)), (.neg (.con (.int 1)))])]))), (.par [2, 3] [(.call "_law_pick" [(.var 0), (.tup [(.con (.str [103, 114, 111, 119])), (.con (.str [116, 117, 114, 110])), (.con (.str [115, 104, 114, 105, 110, 107])), (.con (.str [115, 119, 97, 112])), (.con (.str [112, 114, 117, 110, 101]))])]), (.call "_law_pick" [(.var 0), (.tup [(.con (.str [108, 101, 102, 116])), (.con (.str [114, 105, 103, 104, 116]))])])]), (.ret (.ife (.cmp .Eq (.var 2) (.con (.str [112, 114, 117, 110, 101]))) (.tup [(.con (.str [112, 114, 117, 110, 101]))]) (.ife (.cmp .In (.var 2) (.tup [(.con (.str [115, 104, 114, 105, 110, 107])), (.con (.str [115, 119, 97, 112]))])) (.tup [(.var 2), (.var 1)]) (.tup [(.var 2), (.var 1), (.var 3)]))))]
def f_L_deed : Fn := mkFn (tabF [("_law_draw", f_L_draw), ("_law_pick", f_L_pick)]) true 4 b_L_deed
theorem k_L_deed : ckB c_L_deed b_L_deed (defBody s_L_deed) = true := by decide +kernel
theorem n_L_deed : FnScope c_L_deed.N [so "pot"] (defScope s_L_deed) := ⟨rfl, rfl, rfl, by decide +kernel, rfl, by decide +kernel, by decide +kernel⟩
/-! _law_right(pot): 0 pot, 1 lap -/
abbrev s_L_right : Stmt := topS 45
def c_L_right : Cn := { N := [so "pot", so "lap"], sc := defScope s_L_right, cs := [], fs := [("_law_is_right", 2), ("_law_deed", 1)], bs := ["range"], kw := [], st := [], xs := [], he := [], lam := false }
def b_L_right : List Sx := [(.fr (.nm 1) (.rng [(.con (.int 30))]) [(.ife (.not (.call "_law_is_right" [(.var 0), (.call "_law_deed" [(.var 0)])])) [(.ret (.con (.bl false)))] [])]), (.ret (.con (.bl true)))]
def f_L_right : Fn := mkFn (tabF [("_law_is_right", f_L_is_right), ("_law_deed", f_L_deed)]) true 2 b_L_right
theorem k_L_right : ckB c_L_right b_L_right (defBody s_L_right) = true := by decide +kernel
theorem n_L_right : FnScope c_L_right.N [so "pot"] (defScope s_L_right) := ⟨rfl, rfl, rfl, by decide +kernel, rfl, by decide +kernel, by decide +kernel⟩
/-! _law_pot(script, turn): 0 script, 1 turn, 2 cell, 3 stirred, 4 each -/
abbrev s_L_pot : Stmt := topS 35
def c_L_pot : Cn := { N := [so "script", so "turn", so "cell", so "stirred", so "each"], sc := defScope s_L_pot, cs := [], fs := [], bs := ["abs", "int", "len", "sum"], kw := [], st := [], xs := [], he := [], lam := false }
def b_L_pot : List Sx := [(.asg (.nm 2) (.ife (.cmp .Lt (.var 1) (.bi .len [(.var 0)])) (.bi .int [(.idx (.var 0) (.var 1))]) (.bin .Add (.bin .Add (.bin .Mult (.con (.int 7907)) (.var 1)) (.con (.int 37))) (.bin .Mod (.bi .int [(.bi .sum [(.slc (.var 0) none (some (.con (.int 3))))])]) (.con (.int 1000033)))))), (.asg (.nm 3) (.bin .Add (.con (.int 1001909)) (.bin .Mult (.con (.int 9391)) (.var 1)))), (.fr (.nm 4) (.sq (.bin .Add (.slc (.var 0) none (some (.con (.int 7)))) (.lst [(.var 2)]))) [(.asg (.nm 3) (.bin .Mod (.bi .int [(.bin .Add (.bin .Add (.bin .Mult (.var 3) (.con (.int 69621))) (.bin .Mod (.bi .int [(.var 4)]) (.con (.int 2147483563)))) (.con (.int 23)))]) (.con (.int 2147483563))))]), (.ret (.lst [(.ife (.or (.cmp .Lt (.var 2) (.con (.int 0))) (.cmp .GtE (.var 2) (.bin .Pow (.con (.int 10)) (.con (.int 18))))) (.bin .Mod (.bi .int [(.bi .abs [(.var 2)])]) (.bin .Pow (.con (.int 10)) (.con (.int 64)))) (.con (.int 0))), (.var 3), (.con (.int 0))]))]
def f_L_pot : Fn := mkFn (tabF []) false 5 b_L_pot
theorem k_L_pot : ckB c_L_pot b_L_pot (defBody s_L_pot) = true := by decide +kernel
theorem n_L_pot : FnScope c_L_pot.N [so "script", so "turn"] (defScope s_L_pot) := ⟨rfl, rfl, rfl, by decide +kernel, rfl, by decide +kernel, by decide +kernel⟩
/-! law(script): 0 script, 1 turn -/
abbrev s_law : Stmt := topS 46
def c_law : Cn := { N := [so "script", so "turn"], sc := defScope s_law, cs := [], fs := [("_law_right", 1), ("_law_pot", 2)], bs := ["all", "len", "max", "min", "range"], kw := [], st := [so "script"], xs := [], he := [], lam := false }
def b_law : List Sx := [(.ret (.bi .all [(.lc [1] (.call "_law_right" [(.call "_law_pot" [(.var 0), (.var 1)])]) (.nm 1) (.rng [(.bi .max [(.con (.int 2)), (.bi .min [(.bi .len [(.var 0)]), (.con (.int 4))])])]) [])]))]
def f_law : Fn := mkFn (tabF [("_law_right", f_L_right), ("_law_pot", f_L_pot)]) false 2 b_law
theorem k_law : ckB c_law b_law (defBody s_law) = true := by decide +kernel
theorem n_law : FnScope c_law.N [so "script"] (defScope s_law) := ⟨rfl, rfl, rfl, by decide +kernel, rfl, by decide +kernel, by decide +kernel⟩
abbrev s_init_InvalidDeed : Stmt := (clsB (topS 20)).getD 0 (.Pass ⟨0, 0, 0, 0⟩)
theorem n_init_InvalidDeed : FnScope [so "self", so "given"] [so "self", so "given"] (defScope s_init_InvalidDeed) := ⟨rfl, rfl, rfl, by decide +kernel, rfl, by decide +kernel, by decide +kernel⟩
theorem h_init_InvalidDeed : ckInit (so "self") (so "given") (so "given") (defBody s_init_InvalidDeed) = true := by decide +kernel
abbrev s_init_InvalidText : Stmt := (clsB (topS 19)).getD 0 (.Pass ⟨0, 0, 0, 0⟩)
theorem n_init_InvalidText : FnScope [so "self", so "given"] [so "self", so "given"] (defScope s_init_InvalidText) := ⟨rfl, rfl, rfl, by decide +kernel, rfl, by decide +kernel, by decide +kernel⟩
theorem h_init_InvalidText : ckInit (so "self") (so "given") (so "given") (defBody s_init_InvalidText) = true := by decide +kernel
abbrev s_L_heard : Stmt := topS 39
theorem n_L_heard : FnScope [so "act", so "e"] [so "act"] (defScope s_L_heard) := ⟨rfl, rfl, rfl, by decide +kernel, rfl, by decide +kernel, by decide +kernel⟩
theorem h_L_heard : ckHear (so "act") (so "e") [116, 111, 108, 100] [("InvalidText", [116, 101, 120, 116], so "given"), ("InvalidDeed", [100, 101, 101, 100], so "given")] (defBody s_L_heard) = true := by decide +kernel
/-! ### facts -/
structure Facts (K : PySem.W.Frag) (mg : Str → Option Value) where
  a_is_tuple_of : Addr
  d_is_tuple_of : FuncData
  F_is_tuple_of : Fun K (so "is_tuple_of") (so "is_tuple_of") s_is_tuple_of a_is_tuple_of d_is_tuple_of
  m_is_tuple_of : mg (so "is_tuple_of") = some (.ref a_is_tuple_of)
  a_is_whole : Addr
  d_is_whole : FuncData
  F_is_whole : Fun K (so "is_whole") (so "is_whole") s_is_whole a_is_whole d_is_whole
  m_is_whole : mg (so "is_whole") = some (.ref a_is_whole)
  a_is_side : Addr
  d_is_side : FuncData
  F_is_side : Fun K (so "is_side") (so "is_side") s_is_side a_is_side d_is_side
  m_is_side : mg (so "is_side") = some (.ref a_is_side)
  a_is_deed : Addr
  d_is_deed : FuncData
  F_is_deed : Fun K (so "is_deed") (so "is_deed") s_is_deed a_is_deed d_is_deed
  m_is_deed : mg (so "is_deed") = some (.ref a_is_deed)
  a_text_of_deed : Addr
  d_text_of_deed : FuncData
  F_text_of_deed : Fun K (so "text_of_deed") (so "text_of_deed") s_text_of_deed a_text_of_deed d_text_of_deed
  m_text_of_deed : mg (so "text_of_deed") = some (.ref a_text_of_deed)
  a_deed_text : Addr
  d_deed_text : FuncData
  F_deed_text : Fun K (so "deed_text") (so "deed_text") s_deed_text a_deed_text d_deed_text
  m_deed_text : mg (so "deed_text") = some (.ref a_deed_text)
  a_count_told : Addr
  d_count_told : FuncData
  F_count_told : Fun K (so "count_told") (so "count_told") s_count_told a_count_told d_count_told
  m_count_told : mg (so "count_told") = some (.ref a_count_told)
  a_whole_told : Addr
  d_whole_told : FuncData
  F_whole_told : Fun K (so "whole_told") (so "whole_told") s_whole_told a_whole_told d_whole_told
  m_whole_told : mg (so "whole_told") = some (.ref a_whole_told)
  a_deed_of_text : Addr
  d_deed_of_text : FuncData
  F_deed_of_text : Fun K (so "deed_of_text") (so "deed_of_text") s_deed_of_text a_deed_of_text d_deed_of_text
  m_deed_of_text : mg (so "deed_of_text") = some (.ref a_deed_of_text)
  a_check_told : Addr
  d_check_told : FuncData
  F_check_told : Fun K (so "check_told") (so "check_told") s_check_told a_check_told d_check_told
  m_check_told : mg (so "check_told") = some (.ref a_check_told)
  a_read_deed : Addr
  d_read_deed : FuncData
  F_read_deed : Fun K (so "read_deed") (so "read_deed") s_read_deed a_read_deed d_read_deed
  m_read_deed : mg (so "read_deed") = some (.ref a_read_deed)
  a_L_same : Addr
  d_L_same : FuncData
  F_L_same : Fun K (so "_law_same") (so "_law_same") s_L_same a_L_same d_L_same
  m_L_same : mg (so "_law_same") = some (.ref a_L_same)
  a_L_draw : Addr
  d_L_draw : FuncData
  F_L_draw : Fun K (so "_law_draw") (so "_law_draw") s_L_draw a_L_draw d_L_draw
  m_L_draw : mg (so "_law_draw") = some (.ref a_L_draw)
  a_L_pick : Addr
  d_L_pick : FuncData
  F_L_pick : Fun K (so "_law_pick") (so "_law_pick") s_L_pick a_L_pick d_L_pick
  m_L_pick : mg (so "_law_pick") = some (.ref a_L_pick)
  a_L_bent : Addr
  d_L_bent : FuncData
  F_L_bent : Fun K (so "_law_bent") (so "_law_bent") s_L_bent a_L_bent d_L_bent
  m_L_bent : mg (so "_law_bent") = some (.ref a_L_bent)
  a_L_whole : Addr
  d_L_whole : FuncData
  F_L_whole : Fun K (so "_law_whole") (so "_law_whole") s_L_whole a_L_whole d_L_whole
  m_L_whole : mg (so "_law_whole") = some (.ref a_L_whole)
  a_L_read : Addr
  d_L_read : FuncData
  F_L_read : Fun K (so "_law_read") (so "_law_read") s_L_read a_L_read d_L_read
  m_L_read : mg (so "_law_read") = some (.ref a_L_read)
  a_L_is_right : Addr
  d_L_is_right : FuncData
  F_L_is_right : Fun K (so "_law_is_right") (so "_law_is_right") s_L_is_right a_L_is_right d_L_is_right
  m_L_is_right : mg (so "_law_is_right") = some (.ref a_L_is_right)
  a_L_deed : Addr
  d_L_deed : FuncData
  F_L_deed : Fun K (so "_law_deed") (so "_law_deed") s_L_deed a_L_deed d_L_deed
  m_L_deed : mg (so "_law_deed") = some (.ref a_L_deed)
  a_L_right : Addr
  d_L_right : FuncData
  F_L_right : Fun K (so "_law_right") (so "_law_right") s_L_right a_L_right d_L_right
  m_L_right : mg (so "_law_right") = some (.ref a_L_right)
  a_L_pot : Addr
  d_L_pot : FuncData
  F_L_pot : Fun K (so "_law_pot") (so "_law_pot") s_L_pot a_L_pot d_L_pot
  m_L_pot : mg (so "_law_pot") = some (.ref a_L_pot)
  a_law : Addr
  d_law : FuncData
  F_law : Fun K (so "law") (so "law") s_law a_law d_law
  m_law : mg (so "law") = some (.ref a_law)
  g_SIDES : ∃ u v, mg (so "SIDES") = some u ∧ RelV v u ∧ Rep K (fun _ => none) v ((.ft [(.str [108, 101, 102, 116]), (.str [114, 105, 103, 104, 116])]))
  g_PRUNE : ∃ u v, mg (so "PRUNE") = some u ∧ RelV v u ∧ Rep K (fun _ => none) v ((.str [112, 114, 117, 110, 101]))
  g_WITH_SIDE : ∃ u v, mg (so "WITH_SIDE") = some u ∧ RelV v u ∧ Rep K (fun _ => none) v ((.ft [(.str [103, 114, 111, 119]), (.str [116, 117, 114, 110])]))
  g_WITH_WATER : ∃ u v, mg (so "WITH_WATER") = some u ∧ RelV v u ∧ Rep K (fun _ => none) v ((.ft [(.str [115, 104, 114, 105, 110, 107]), (.str [115, 119, 97, 112])]))
  g_BLANK : ∃ u v, mg (so "BLANK") = some u ∧ RelV v u ∧ Rep K (fun _ => none) v ((.str [32]))
  g_DIGITS : ∃ u v, mg (so "DIGITS") = some u ∧ RelV v u ∧ Rep K (fun _ => none) v ((.str [48, 49, 50, 51, 52, 53, 54, 55, 56, 57]))
  g_MINUS : ∃ u v, mg (so "MINUS") = some u ∧ RelV v u ∧ Rep K (fun _ => none) v ((.str [45]))
  g_PLACE_OF_NUMBER : ∃ u v, mg (so "PLACE_OF_NUMBER") = some u ∧ RelV v u ∧ Rep K (fun _ => none) v ((.int 1))
  n_isinstance : mg (so "isinstance") = none
  n_len : mg (so "len") = none
  n_tuple : mg (so "tuple") = none
  n_bool : mg (so "bool") = none
  n_int : mg (so "int") = none
  n_str : mg (so "str") = none
  n_all : mg (so "all") = none
  n_enumerate : mg (so "enumerate") = none
  n_list : mg (so "list") = none
  n_range : mg (so "range") = none
  n_divmod : mg (so "divmod") = none
  n_abs : mg (so "abs") = none
  n_sum : mg (so "sum") = none
  n_max : mg (so "max") = none
  n_min : mg (so "min") = none
  C_InvalidDeed : Addr
  gC_InvalidDeed : mg (so "InvalidDeed") = some (.ref C_InvalidDeed)
  ox_InvalidDeed : OexC K C_InvalidDeed
  xn_InvalidDeed : PySem.W.findIn K (.ref C_InvalidDeed) (so "given") = some none
  xf_InvalidDeed : XfC K C_InvalidDeed
  xt_InvalidDeed : PySem.W.exmOne K (.ref C_InvalidDeed) (.ref C_InvalidDeed) = some true
  i_InvalidDeed : Addr
  j_InvalidDeed : FuncData
  I_InvalidDeed : Fun K (so "__init__") (so "InvalidDeed.__init__") s_init_InvalidDeed i_InvalidDeed j_InvalidDeed
  iC_InvalidDeed : PySem.W.findIn K (.ref C_InvalidDeed) "__init__" = some (some (.ref i_InvalidDeed))
  iT_InvalidDeed : PySem.W.typeIn K (.ref i_InvalidDeed) = some (.type "function")
  C_InvalidText : Addr
  gC_InvalidText : mg (so "InvalidText") = some (.ref C_InvalidText)
  ox_InvalidText : OexC K C_InvalidText
  xn_InvalidText : PySem.W.findIn K (.ref C_InvalidText) (so "given") = some none
  xf_InvalidText : XfC K C_InvalidText
  xt_InvalidText : PySem.W.exmOne K (.ref C_InvalidText) (.ref C_InvalidText) = some true
  i_InvalidText : Addr
  j_InvalidText : FuncData
  I_InvalidText : Fun K (so "__init__") (so "InvalidText.__init__") s_init_InvalidText i_InvalidText j_InvalidText
  iC_InvalidText : PySem.W.findIn K (.ref C_InvalidText) "__init__" = some (some (.ref i_InvalidText))
  iT_InvalidText : PySem.W.typeIn K (.ref i_InvalidText) = some (.type "function")
  a_L_heard : Addr
  d_L_heard : FuncData
  F_L_heard : Fun K (so "_law_heard") (so "_law_heard") s_L_heard a_L_heard d_L_heard
  m_L_heard : mg (so "_law_heard") = some (.ref a_L_heard)
  xd_InvalidDeed_InvalidText : PySem.W.exmOne K (.ref C_InvalidDeed) (.ref C_InvalidText) = some false
  v_L_is_right : Value
  e_L_is_right : ∃ (oc : Value) (od an : Option Addr) (osl : Array (Option Value)) (kV doc pm ct : Value), d_L_is_right = PySem.W.fnOf (so "_law_is_right") (so "_law_is_right") (defArgs s_L_is_right) (defBody s_L_is_right) (defScope s_L_is_right) .none kV doc pm an v_L_is_right ct ∧ K.lookup a_L_is_right = some ⟨oc, od, .func d_L_is_right, osl⟩ ∧ PySem.W.codeIn K v_L_is_right (so "_law_is_right") = true
def clX {K : PySem.W.Frag} {mg : Str → Option Value} (Y : Facts K mg) : Cl := fun s => [("InvalidDeed", (Y.C_InvalidDeed, so "given")), ("InvalidText", (Y.C_InvalidText, so "given"))].lookup s
def LA [Tb] {K : PySem.W.Frag} {mg : Str → Option Value} (base : Heap) (Y : Facts K mg) : Prop := LamAt base mg Y.v_L_is_right (so "_law_is_right" ++ ".<locals>.")
section
variable [Tb]
variable {P : Program} {w : World} {K : PySem.W.Frag} {mg : Str → Option Value} {base : Heap}
theorem xc_InvalidDeed (Y : Facts K mg) {k : Nat} (hk : 2 ≤ k) : XcOk P w K mg base k Y.C_InvalidDeed (so "given") (so "InvalidDeed") :=
  ⟨Y.gC_InvalidDeed, Y.ox_InvalidDeed, Y.xn_InvalidDeed, Y.xf_InvalidDeed, Y.xt_InvalidDeed, Y.i_InvalidDeed, Y.j_InvalidDeed, [so "self", so "given"], 1, hk, Y.iC_InvalidDeed, Y.iT_InvalidDeed, Y.I_InvalidDeed.binds fun _ _ _ _ _ _ us hl => match us, hl with | [_, _], _ => rfl, init_ok2 Y.I_InvalidDeed n_init_InvalidDeed h_init_InvalidDeed (by decide +kernel) (by decide +kernel) (by decide +kernel) (by decide +kernel)⟩
theorem xc_InvalidText (Y : Facts K mg) {k : Nat} (hk : 2 ≤ k) : XcOk P w K mg base k Y.C_InvalidText (so "given") (so "InvalidText") :=
  ⟨Y.gC_InvalidText, Y.ox_InvalidText, Y.xn_InvalidText, Y.xf_InvalidText, Y.xt_InvalidText, Y.i_InvalidText, Y.j_InvalidText, [so "self", so "given"], 1, hk, Y.iC_InvalidText, Y.iT_InvalidText, Y.I_InvalidText.binds fun _ _ _ _ _ _ us hl => match us, hl with | [_, _], _ => rfl, init_ok2 Y.I_InvalidText n_init_InvalidText h_init_InvalidText (by decide +kernel) (by decide +kernel) (by decide +kernel) (by decide +kernel)⟩
theorem he_L_heard (Y : Facts K mg) : HeOk P w K mg base (clX Y) (so "_law_heard") [116, 111, 108, 100] [("InvalidText", [116, 101, 120, 116]), ("InvalidDeed", [100, 101, 101, 100])] :=
  he_ok (a := so "act") (nm := so "e") (es := [⟨"InvalidText", [116, 101, 120, 116], Y.C_InvalidText, so "given"⟩, ⟨"InvalidDeed", [100, 101, 101, 100], Y.C_InvalidDeed, so "given"⟩]) Y.F_L_heard Y.m_L_heard (Y.F_L_heard.binds fun _ _ _ _ _ _ us hl => match us, hl with | [_], _ => rfl) n_L_heard (by decide +kernel) (by decide +kernel) (by decide +kernel) (by decide +kernel) h_L_heard ⟨⟨(show (defScope s_L_heard).names.lookup (so "InvalidText") = some .globalImplicit by decide +kernel), (show (so "InvalidText" == ("__debug__" : Str)) = false by decide +kernel), Y.gC_InvalidText, Y.xf_InvalidText, Y.xn_InvalidText, Y.xt_InvalidText⟩, (fs_cons Y.xd_InvalidDeed_InvalidText fs_nil), ⟨⟨(show (defScope s_L_heard).names.lookup (so "InvalidDeed") = some .globalImplicit by decide +kernel), (show (so "InvalidDeed" == ("__debug__" : Str)) = false by decide +kernel), Y.gC_InvalidDeed, Y.xf_InvalidDeed, Y.xn_InvalidDeed, Y.xt_InvalidDeed⟩, fs_nil, trivial⟩⟩ (fs_cons rfl (fs_cons rfl fs_nil)) (by rw [sizeLine_eq]; decide) (fs_cons (show ([116, 101, 120, 116] : List Nat).length ≤ sizeLine by rw [sizeLine_eq]; decide) (fs_cons (show ([100, 101, 101, 100] : List Nat).length ≤ sizeLine by rw [sizeLine_eq]; decide) fs_nil))
theorem ok_is_tuple_of (Y : Facts K mg) (Z : LA base Y) : FnOk P w K mg base (L2.CX P w) 1 Y.a_is_tuple_of Y.d_is_tuple_of [so "value", so "many"] (spOf K (clX Y) 2 f_is_tuple_of) :=
  fn_ok (c := c_is_tuple_of) (cl := clX Y) (T := tabF []) (k := 0) (io := false) Y.F_is_tuple_of n_is_tuple_of rfl k_is_tuple_of ⟨glo_nil, fs_nil, (fs_cons Y.n_isinstance (fs_cons Y.n_len (fs_cons Y.n_tuple fs_nil))), fs_nil, fs_nil⟩
theorem ok_is_whole (Y : Facts K mg) (Z : LA base Y) : FnOk P w K mg base (L2.CX P w) 1 Y.a_is_whole Y.d_is_whole [so "value"] (spOf K (clX Y) 1 f_is_whole) :=
  fn_ok (c := c_is_whole) (cl := clX Y) (T := tabF []) (k := 0) (io := false) Y.F_is_whole n_is_whole rfl k_is_whole ⟨glo_nil, fs_nil, (fs_cons Y.n_bool (fs_cons Y.n_int (fs_cons Y.n_isinstance fs_nil))), fs_nil, fs_nil⟩
theorem ok_is_side (Y : Facts K mg) (Z : LA base Y) : FnOk P w K mg base (L2.CX P w) 1 Y.a_is_side Y.d_is_side [so "value"] (spOf K (clX Y) 1 f_is_side) :=
  fn_ok (c := c_is_side) (cl := clX Y) (T := tabF []) (k := 0) (io := false) Y.F_is_side n_is_side rfl k_is_side ⟨(glo_cons Y.g_SIDES glo_nil), fs_nil, (fs_cons Y.n_isinstance (fs_cons Y.n_str fs_nil)), fs_nil, fs_nil⟩
theorem ok_is_deed (Y : Facts K mg) (Z : LA base Y) : FnOk P w K mg base (L2.CX P w) 2 Y.a_is_deed Y.d_is_deed [so "value"] (spOf K (clX Y) 1 f_is_deed) :=
  fn_ok (c := c_is_deed) (cl := clX Y) (T := tabF [("is_tuple_of", f_is_tuple_of), ("is_whole", f_is_whole), ("is_side", f_is_side)]) (k := 1) (io := false) Y.F_is_deed n_is_deed rfl k_is_deed ⟨(glo_cons Y.g_PRUNE (glo_cons Y.g_WITH_SIDE (glo_cons Y.g_WITH_WATER glo_nil))), (fs_cons ⟨Y.a_is_tuple_of, Y.d_is_tuple_of, [so "value", so "many"], rfl, Y.m_is_tuple_of, Y.F_is_tuple_of.kp, Y.F_is_tuple_of.binds fun _ _ _ _ _ _ us hl => match us, hl with | [_, _], _ => rfl, (ok_is_tuple_of Y Z).mono (by decide), kw_nil⟩ (fs_cons ⟨Y.a_is_whole, Y.d_is_whole, [so "value"], rfl, Y.m_is_whole, Y.F_is_whole.kp, Y.F_is_whole.binds fun _ _ _ _ _ _ us hl => match us, hl with | [_], _ => rfl, (ok_is_whole Y Z).mono (by decide), kw_nil⟩ (fs_cons ⟨Y.a_is_side, Y.d_is_side, [so "value"], rfl, Y.m_is_side, Y.F_is_side.kp, Y.F_is_side.binds fun _ _ _ _ _ _ us hl => match us, hl with | [_], _ => rfl, (ok_is_side Y Z).mono (by decide), kw_nil⟩ fs_nil))), (fs_cons Y.n_isinstance (fs_cons Y.n_len (fs_cons Y.n_str (fs_cons Y.n_tuple fs_nil)))), fs_nil, fs_nil⟩
theorem ok_text_of_deed (Y : Facts K mg) (Z : LA base Y) : FnOk P w K mg base (L2.CX P w) 1 Y.a_text_of_deed Y.d_text_of_deed [so "deed"] (spOf K (clX Y) 1 f_text_of_deed) :=
  fn_ok (c := c_text_of_deed) (cl := clX Y) (T := tabF []) (k := 0) (io := false) Y.F_text_of_deed n_text_of_deed rfl k_text_of_deed ⟨(glo_cons Y.g_BLANK glo_nil), fs_nil, fs_nil, fs_nil, fs_nil⟩
theorem ok_deed_text (Y : Facts K mg) (Z : LA base Y) : FnOk P w K mg base (L2.CX P w) 3 Y.a_deed_text Y.d_deed_text [so "deed"] (spOf K (clX Y) 1 f_deed_text) :=
  fn_ok (c := c_deed_text) (cl := clX Y) (T := tabF [("is_deed", f_is_deed), ("text_of_deed", f_text_of_deed)]) (k := 2) (io := false) Y.F_deed_text n_deed_text rfl k_deed_text ⟨glo_nil, (fs_cons ⟨Y.a_is_deed, Y.d_is_deed, [so "value"], rfl, Y.m_is_deed, Y.F_is_deed.kp, Y.F_is_deed.binds fun _ _ _ _ _ _ us hl => match us, hl with | [_], _ => rfl, (ok_is_deed Y Z).mono (by decide), kw_nil⟩ (fs_cons ⟨Y.a_text_of_deed, Y.d_text_of_deed, [so "deed"], rfl, Y.m_text_of_deed, Y.F_text_of_deed.kp, Y.F_text_of_deed.binds fun _ _ _ _ _ _ us hl => match us, hl with | [_], _ => rfl, (ok_text_of_deed Y Z).mono (by decide), kw_nil⟩ fs_nil)), fs_nil, (fs_cons ⟨Y.C_InvalidDeed, so "given", rfl, xc_InvalidDeed Y (by omega)⟩ fs_nil), fs_nil⟩
theorem ok_count_told (Y : Facts K mg) (Z : LA base Y) : FnOk P w K mg base (L2.CX P w) 1 Y.a_count_told Y.d_count_told [so "word"] (spOf K (clX Y) 1 f_count_told) :=
  fn_ok (c := c_count_told) (cl := clX Y) (T := tabF []) (k := 0) (io := false) Y.F_count_told n_count_told rfl k_count_told ⟨(glo_cons Y.g_DIGITS glo_nil), fs_nil, (fs_cons Y.n_all (fs_cons Y.n_int (fs_cons Y.n_len fs_nil))), fs_nil, fs_nil⟩
theorem ok_whole_told (Y : Facts K mg) (Z : LA base Y) : FnOk P w K mg base (L2.CX P w) 2 Y.a_whole_told Y.d_whole_told [so "word"] (spOf K (clX Y) 1 f_whole_told) :=
  fn_ok (c := c_whole_told) (cl := clX Y) (T := tabF [("count_told", f_count_told)]) (k := 1) (io := false) Y.F_whole_told n_whole_told rfl k_whole_told ⟨(glo_cons Y.g_MINUS glo_nil), (fs_cons ⟨Y.a_count_told, Y.d_count_told, [so "word"], rfl, Y.m_count_told, Y.F_count_told.kp, Y.F_count_told.binds fun _ _ _ _ _ _ us hl => match us, hl with | [_], _ => rfl, (ok_count_told Y Z).mono (by decide), kw_nil⟩ fs_nil), fs_nil, fs_nil, fs_nil⟩
theorem ok_deed_of_text (Y : Facts K mg) (Z : LA base Y) : FnOk P w K mg base (L2.CX P w) 3 Y.a_deed_of_text Y.d_deed_of_text [so "text"] (spOf K (clX Y) 1 f_deed_of_text) :=
  fn_ok (c := c_deed_of_text) (cl := clX Y) (T := tabF [("whole_told", f_whole_told), ("is_deed", f_is_deed)]) (k := 2) (io := false) Y.F_deed_of_text n_deed_of_text rfl k_deed_of_text ⟨(glo_cons Y.g_BLANK (glo_cons Y.g_PLACE_OF_NUMBER glo_nil)), (fs_cons ⟨Y.a_whole_told, Y.d_whole_told, [so "word"], rfl, Y.m_whole_told, Y.F_whole_told.kp, Y.F_whole_told.binds fun _ _ _ _ _ _ us hl => match us, hl with | [_], _ => rfl, (ok_whole_told Y Z).mono (by decide), kw_nil⟩ (fs_cons ⟨Y.a_is_deed, Y.d_is_deed, [so "value"], rfl, Y.m_is_deed, Y.F_is_deed.kp, Y.F_is_deed.binds fun _ _ _ _ _ _ us hl => match us, hl with | [_], _ => rfl, (ok_is_deed Y Z).mono (by decide), kw_nil⟩ fs_nil)), (fs_cons Y.n_enumerate (fs_cons Y.n_isinstance (fs_cons Y.n_str (fs_cons Y.n_tuple fs_nil)))), fs_nil, fs_nil⟩
theorem ok_check_told (Y : Facts K mg) (Z : LA base Y) : FnOk P w K mg base (L2.CX P w) 3 Y.a_check_told Y.d_check_told [so "found", so "text"] (spOf K (clX Y) 2 f_check_told) :=
  fn_ok (c := c_check_told) (cl := clX Y) (T := tabF []) (k := 2) (io := false) Y.F_check_told n_check_told rfl k_check_told ⟨glo_nil, fs_nil, fs_nil, (fs_cons ⟨Y.C_InvalidText, so "given", rfl, xc_InvalidText Y (by omega)⟩ fs_nil), fs_nil⟩
theorem ok_read_deed (Y : Facts K mg) (Z : LA base Y) : FnOk P w K mg base (L2.CX P w) 4 Y.a_read_deed Y.d_read_deed [so "text"] (spOf K (clX Y) 1 f_read_deed) :=
  fn_ok (c := c_read_deed) (cl := clX Y) (T := tabF [("deed_of_text", f_deed_of_text), ("check_told", f_check_told)]) (k := 3) (io := false) Y.F_read_deed n_read_deed rfl k_read_deed ⟨glo_nil, (fs_cons ⟨Y.a_deed_of_text, Y.d_deed_of_text, [so "text"], rfl, Y.m_deed_of_text, Y.F_deed_of_text.kp, Y.F_deed_of_text.binds fun _ _ _ _ _ _ us hl => match us, hl with | [_], _ => rfl, (ok_deed_of_text Y Z).mono (by decide), kw_nil⟩ (fs_cons ⟨Y.a_check_told, Y.d_check_told, [so "found", so "text"], rfl, Y.m_check_told, Y.F_check_told.kp, Y.F_check_told.binds fun _ _ _ _ _ _ us hl => match us, hl with | [_, _], _ => rfl, (ok_check_told Y Z).mono (by decide), kw_nil⟩ fs_nil)), fs_nil, fs_nil, fs_nil⟩
theorem ok_L_same (Y : Facts K mg) (Z : LA base Y) : ∀ m : Nat, FnOk P w K mg base (L2.CX P w) (m + 1) Y.a_L_same Y.d_L_same [so "told", so "due"] (spOf K (clX Y) 2 (f_L_same m))
  | 0 => fn_stuck rfl
  | m + 1 => by
    have ih := ok_L_same Y Z m
    exact fn_ok (c := c_L_same) (cl := clX Y) (T := tabF [("_law_same", f_L_same m)]) (k := m + 1) (io := false) Y.F_L_same n_L_same rfl k_L_same ⟨glo_nil, (fs_cons ⟨Y.a_L_same, Y.d_L_same, [so "told", so "due"], rfl, Y.m_L_same, Y.F_L_same.kp, Y.F_L_same.binds fun _ _ _ _ _ _ us hl => match us, hl with | [_, _], _ => rfl, ih, kw_nil⟩ fs_nil), (fs_cons Y.n_all (fs_cons Y.n_bool (fs_cons Y.n_int (fs_cons Y.n_isinstance (fs_cons Y.n_len (fs_cons Y.n_list (fs_cons Y.n_range (fs_cons Y.n_str (fs_cons Y.n_tuple fs_nil))))))))), fs_nil, fs_nil⟩
theorem ok_L_draw (Y : Facts K mg) (Z : LA base Y) : FnOk P w K mg base (L2.CX P w) 1 Y.a_L_draw Y.d_L_draw [so "pot", so "many"] (spOf K (clX Y) 2 f_L_draw) :=
  fn_ok (c := c_L_draw) (cl := clX Y) (T := tabF []) (k := 0) (io := true) Y.F_L_draw n_L_draw rfl k_L_draw ⟨glo_nil, fs_nil, (fs_cons Y.n_divmod (fs_cons Y.n_int fs_nil)), fs_nil, fs_nil⟩
theorem ok_L_pick (Y : Facts K mg) (Z : LA base Y) : FnOk P w K mg base (L2.CX P w) 2 Y.a_L_pick Y.d_L_pick [so "pot", so "some"] (spOf K (clX Y) 2 f_L_pick) :=
  fn_ok (c := c_L_pick) (cl := clX Y) (T := tabF [("_law_draw", f_L_draw)]) (k := 1) (io := true) Y.F_L_pick n_L_pick rfl k_L_pick ⟨glo_nil, (fs_cons ⟨Y.a_L_draw, Y.d_L_draw, [so "pot", so "many"], rfl, Y.m_L_draw, Y.F_L_draw.kp, Y.F_L_draw.binds fun _ _ _ _ _ _ us hl => match us, hl with | [_, _], _ => rfl, (ok_L_draw Y Z).mono (by decide), kw_nil⟩ fs_nil), (fs_cons Y.n_len fs_nil), fs_nil, fs_nil⟩
theorem ok_L_bent (Y : Facts K mg) (Z : LA base Y) : FnOk P w K mg base (L2.CX P w) 3 Y.a_L_bent Y.d_L_bent [so "pot", so "text"] (spOf K (clX Y) 2 f_L_bent) :=
  fn_ok (c := c_L_bent) (cl := clX Y) (T := tabF [("_law_draw", f_L_draw), ("_law_pick", f_L_pick)]) (k := 2) (io := true) Y.F_L_bent n_L_bent rfl k_L_bent ⟨glo_nil, (fs_cons ⟨Y.a_L_draw, Y.d_L_draw, [so "pot", so "many"], rfl, Y.m_L_draw, Y.F_L_draw.kp, Y.F_L_draw.binds fun _ _ _ _ _ _ us hl => match us, hl with | [_, _], _ => rfl, (ok_L_draw Y Z).mono (by decide), kw_nil⟩ (fs_cons ⟨Y.a_L_pick, Y.d_L_pick, [so "pot", so "some"], rfl, Y.m_L_pick, Y.F_L_pick.kp, Y.F_L_pick.binds fun _ _ _ _ _ _ us hl => match us, hl with | [_, _], _ => rfl, (ok_L_pick Y Z).mono (by decide), kw_nil⟩ fs_nil)), (fs_cons Y.n_len fs_nil), fs_nil, fs_nil⟩
theorem ok_L_whole (Y : Facts K mg) (Z : LA base Y) : FnOk P w K mg base (L2.CX P w) 1 Y.a_L_whole Y.d_L_whole [so "word"] (spOf K (clX Y) 1 f_L_whole) :=
  fn_ok (c := c_L_whole) (cl := clX Y) (T := tabF []) (k := 0) (io := false) Y.F_L_whole n_L_whole rfl k_L_whole ⟨glo_nil, fs_nil, (fs_cons Y.n_all (fs_cons Y.n_int fs_nil)), fs_nil, fs_nil⟩
theorem ok_L_read (Y : Facts K mg) (Z : LA base Y) : FnOk P w K mg base (L2.CX P w) 2 Y.a_L_read Y.d_L_read [so "text"] (spOf K (clX Y) 1 f_L_read) :=
  fn_ok (c := c_L_read) (cl := clX Y) (T := tabF [("_law_whole", f_L_whole)]) (k := 1) (io := false) Y.F_L_read n_L_read rfl k_L_read ⟨glo_nil, (fs_cons ⟨Y.a_L_whole, Y.d_L_whole, [so "word"], rfl, Y.m_L_whole, Y.F_L_whole.kp, Y.F_L_whole.binds fun _ _ _ _ _ _ us hl => match us, hl with | [_], _ => rfl, (ok_L_whole Y Z).mono (by decide), kw_nil⟩ fs_nil), (fs_cons Y.n_len fs_nil), fs_nil, fs_nil⟩
theorem ok_L_is_right (Y : Facts K mg) (Z : LA base Y) : FnOk P w K mg base (L2.CX P w) 12 Y.a_L_is_right Y.d_L_is_right [so "pot", so "deed"] (spOf K (clX Y) 2 f_L_is_right) := by
  obtain ⟨oc, od, an, osl, kV, doc, pm, ct, hd, lk, hcd⟩ := Y.e_L_is_right
  rw [hd]; rw [hd] at lk
  exact fn_okL (c := c_L_is_right) (cl := clX Y) (T := tabF [("deed_text", f_deed_text), ("read_deed", f_read_deed), ("_law_same", f_L_same 8), ("_law_bent", f_L_bent), ("_law_read", f_L_read), ("_law_pick", f_L_pick)]) (k := 9) (io := true) lk hcd n_L_is_right rfl k_L_is_right Z ⟨glo_nil, (fs_cons ⟨Y.a_deed_text, Y.d_deed_text, [so "deed"], rfl, Y.m_deed_text, Y.F_deed_text.kp, Y.F_deed_text.binds fun _ _ _ _ _ _ us hl => match us, hl with | [_], _ => rfl, (ok_deed_text Y Z).mono (by decide), (kw_hit (kbn_mk Y.F_deed_text fun _ _ _ _ _ _ ws hl => match ws, hl with | [_], _ => rfl) (kw_skip (by decide) kw_nil))⟩ (fs_cons ⟨Y.a_read_deed, Y.d_read_deed, [so "text"], rfl, Y.m_read_deed, Y.F_read_deed.kp, Y.F_read_deed.binds fun _ _ _ _ _ _ us hl => match us, hl with | [_], _ => rfl, (ok_read_deed Y Z).mono (by decide), (kw_skip (by decide) (kw_hit (kbn_mk Y.F_read_deed fun _ _ _ _ _ _ ws hl => match ws, hl with | [_], _ => rfl) kw_nil))⟩ (fs_cons ⟨Y.a_L_same, Y.d_L_same, [so "told", so "due"], rfl, Y.m_L_same, Y.F_L_same.kp, Y.F_L_same.binds fun _ _ _ _ _ _ us hl => match us, hl with | [_, _], _ => rfl, (ok_L_same Y Z 8).mono (by decide), (kw_skip (by decide) (kw_skip (by decide) kw_nil))⟩ (fs_cons ⟨Y.a_L_bent, Y.d_L_bent, [so "pot", so "text"], rfl, Y.m_L_bent, Y.F_L_bent.kp, Y.F_L_bent.binds fun _ _ _ _ _ _ us hl => match us, hl with | [_, _], _ => rfl, (ok_L_bent Y Z).mono (by decide), (kw_skip (by decide) (kw_skip (by decide) kw_nil))⟩ (fs_cons ⟨Y.a_L_read, Y.d_L_read, [so "text"], rfl, Y.m_L_read, Y.F_L_read.kp, Y.F_L_read.binds fun _ _ _ _ _ _ us hl => match us, hl with | [_], _ => rfl, (ok_L_read Y Z).mono (by decide), (kw_skip (by decide) (kw_skip (by decide) kw_nil))⟩ (fs_cons ⟨Y.a_L_pick, Y.d_L_pick, [so "pot", so "some"], rfl, Y.m_L_pick, Y.F_L_pick.kp, Y.F_L_pick.binds fun _ _ _ _ _ _ us hl => match us, hl with | [_, _], _ => rfl, (ok_L_pick Y Z).mono (by decide), (kw_skip (by decide) (kw_skip (by decide) kw_nil))⟩ fs_nil)))))), (fs_cons Y.n_isinstance (fs_cons Y.n_list (fs_cons Y.n_range (fs_cons Y.n_str fs_nil)))), fs_nil, (fs_cons (he_L_heard Y) fs_nil)⟩
theorem ok_L_deed (Y : Facts K mg) (Z : LA base Y) : FnOk P w K mg base (L2.CX P w) 3 Y.a_L_deed Y.d_L_deed [so "pot"] (spOf K (clX Y) 1 f_L_deed) :=
  fn_ok (c := c_L_deed) (cl := clX Y) (T := tabF [("_law_draw", f_L_draw), ("_law_pick", f_L_pick)]) (k := 2) (io := true) Y.F_L_deed n_L_deed rfl k_L_deed ⟨glo_nil, (fs_cons ⟨Y.a_L_draw, Y.d_L_draw, [so "pot", so "many"], rfl, Y.m_L_draw, Y.F_L_draw.kp, Y.F_L_draw.binds fun _ _ _ _ _ _ us hl => match us, hl with | [_, _], _ => rfl, (ok_L_draw Y Z).mono (by decide), kw_nil⟩ (fs_cons ⟨Y.a_L_pick, Y.d_L_pick, [so "pot", so "some"], rfl, Y.m_L_pick, Y.F_L_pick.kp, Y.F_L_pick.binds fun _ _ _ _ _ _ us hl => match us, hl with | [_, _], _ => rfl, (ok_L_pick Y Z).mono (by decide), kw_nil⟩ fs_nil)), fs_nil, fs_nil, fs_nil⟩
theorem ok_L_right (Y : Facts K mg) (Z : LA base Y) : FnOk P w K mg base (L2.CX P w) 13 Y.a_L_right Y.d_L_right [so "pot"] (spOf K (clX Y) 1 f_L_right) :=
  fn_ok (c := c_L_right) (cl := clX Y) (T := tabF [("_law_is_right", f_L_is_right), ("_law_deed", f_L_deed)]) (k := 12) (io := true) Y.F_L_right n_L_right rfl k_L_right ⟨glo_nil, (fs_cons ⟨Y.a_L_is_right, Y.d_L_is_right, [so "pot", so "deed"], rfl, Y.m_L_is_right, Y.F_L_is_right.kp, Y.F_L_is_right.binds fun _ _ _ _ _ _ us hl => match us, hl with | [_, _], _ => rfl, (ok_L_is_right Y Z).mono (by decide), kw_nil⟩ (fs_cons ⟨Y.a_L_deed, Y.d_L_deed, [so "pot"], rfl, Y.m_L_deed, Y.F_L_deed.kp, Y.F_L_deed.binds fun _ _ _ _ _ _ us hl => match us, hl with | [_], _ => rfl, (ok_L_deed Y Z).mono (by decide), kw_nil⟩ fs_nil)), (fs_cons Y.n_range fs_nil), fs_nil, fs_nil⟩
theorem ok_L_pot (Y : Facts K mg) (Z : LA base Y) : FnOk P w K mg base (L2.CX P w) 1 Y.a_L_pot Y.d_L_pot [so "script", so "turn"] (spOf K (clX Y) 2 f_L_pot) :=
  fn_ok (c := c_L_pot) (cl := clX Y) (T := tabF []) (k := 0) (io := false) Y.F_L_pot n_L_pot rfl k_L_pot ⟨glo_nil, fs_nil, (fs_cons Y.n_abs (fs_cons Y.n_int (fs_cons Y.n_len (fs_cons Y.n_sum fs_nil)))), fs_nil, fs_nil⟩
theorem ok_law (Y : Facts K mg) (Z : LA base Y) : FnOk P w K mg base (L2.CX P w) 14 Y.a_law Y.d_law [so "script"] (spOf K (clX Y) 1 f_law) :=
  fn_ok (c := c_law) (cl := clX Y) (T := tabF [("_law_right", f_L_right), ("_law_pot", f_L_pot)]) (k := 13) (io := false) Y.F_law n_law rfl k_law ⟨glo_nil, (fs_cons ⟨Y.a_L_right, Y.d_L_right, [so "pot"], rfl, Y.m_L_right, Y.F_L_right.kp, Y.F_L_right.binds fun _ _ _ _ _ _ us hl => match us, hl with | [_], _ => rfl, (ok_L_right Y Z).mono (by decide), kw_nil⟩ (fs_cons ⟨Y.a_L_pot, Y.d_L_pot, [so "script", so "turn"], rfl, Y.m_L_pot, Y.F_L_pot.kp, Y.F_L_pot.binds fun _ _ _ _ _ _ us hl => match us, hl with | [_, _], _ => rfl, (ok_L_pot Y Z).mono (by decide), kw_nil⟩ fs_nil)), (fs_cons Y.n_all (fs_cons Y.n_len (fs_cons Y.n_max (fs_cons Y.n_min (fs_cons Y.n_range fs_nil))))), fs_nil, fs_nil⟩
end
theorem all_mk {l : PySem.W.OpenLaw} {w : World} {K : PySem.W.Frag} {h : Heap} {mg : Str → Option Value} {fa : Addr} {rec : Str → Prop} (X : K.In h) (G : h.Ns mainGlobals mg) (hfa : mg "law" = some (.ref fa)) (hlaw : ∀ ns : List Int, ns.length ≤ 63 → f_law.run [.fl (ns.map .int)] = .sh (.bl true) .non)
    (tabs : ∀ (y : Str) (c P : Addr), rec y → PySem.W.tabIn K y = some (c, P) → PySem.W.CodeHd h c P ∧ h.get? P = some (PySem.W.tabObj #[])) (hr17 : rec (so "_law_is_right"))
    {f0 : Addr} {od0 an0 : Option Addr} {sl0 : Array (Option Value)} {oc0 kV0 dc0 pm0 cd0 ct0 : Value}
    {f1 : Addr} {od1 an1 : Option Addr} {sl1 : Array (Option Value)} {oc1 kV1 dc1 pm1 cd1 ct1 : Value}
    {f2 : Addr} {od2 an2 : Option Addr} {sl2 : Array (Option Value)} {oc2 kV2 dc2 pm2 cd2 ct2 : Value}
    {f3 : Addr} {od3 an3 : Option Addr} {sl3 : Array (Option Value)} {oc3 kV3 dc3 pm3 cd3 ct3 : Value}
    {f4 : Addr} {od4 an4 : Option Addr} {sl4 : Array (Option Value)} {oc4 kV4 dc4 pm4 cd4 ct4 : Value}
    {f5 : Addr} {od5 an5 : Option Addr} {sl5 : Array (Option Value)} {oc5 kV5 dc5 pm5 cd5 ct5 : Value}
    {f6 : Addr} {od6 an6 : Option Addr} {sl6 : Array (Option Value)} {oc6 kV6 dc6 pm6 cd6 ct6 : Value}
    {f7 : Addr} {od7 an7 : Option Addr} {sl7 : Array (Option Value)} {oc7 kV7 dc7 pm7 cd7 ct7 : Value}
    {f8 : Addr} {od8 an8 : Option Addr} {sl8 : Array (Option Value)} {oc8 kV8 dc8 pm8 cd8 ct8 : Value}
    {f9 : Addr} {od9 an9 : Option Addr} {sl9 : Array (Option Value)} {oc9 kV9 dc9 pm9 cd9 ct9 : Value}
    {f10 : Addr} {od10 an10 : Option Addr} {sl10 : Array (Option Value)} {oc10 kV10 dc10 pm10 cd10 ct10 : Value}
    {f11 : Addr} {od11 an11 : Option Addr} {sl11 : Array (Option Value)} {oc11 kV11 dc11 pm11 cd11 ct11 : Value}
    {f12 : Addr} {od12 an12 : Option Addr} {sl12 : Array (Option Value)} {oc12 kV12 dc12 pm12 cd12 ct12 : Value}
    {f13 : Addr} {od13 an13 : Option Addr} {sl13 : Array (Option Value)} {oc13 kV13 dc13 pm13 cd13 ct13 : Value}
    {f14 : Addr} {od14 an14 : Option Addr} {sl14 : Array (Option Value)} {oc14 kV14 dc14 pm14 cd14 ct14 : Value}
    {f15 : Addr} {od15 an15 : Option Addr} {sl15 : Array (Option Value)} {oc15 kV15 dc15 pm15 cd15 ct15 : Value}
    {f16 : Addr} {od16 an16 : Option Addr} {sl16 : Array (Option Value)} {oc16 kV16 dc16 pm16 cd16 ct16 : Value}
    {f17 : Addr} {od17 an17 : Option Addr} {sl17 : Array (Option Value)} {oc17 kV17 dc17 pm17 ct17 : Value}
    {cc17 P17 : Addr}
    {f18 : Addr} {od18 an18 : Option Addr} {sl18 : Array (Option Value)} {oc18 kV18 dc18 pm18 cd18 ct18 : Value}
    {f19 : Addr} {od19 an19 : Option Addr} {sl19 : Array (Option Value)} {oc19 kV19 dc19 pm19 cd19 ct19 : Value}
    {f20 : Addr} {od20 an20 : Option Addr} {sl20 : Array (Option Value)} {oc20 kV20 dc20 pm20 cd20 ct20 : Value}
    {f21 : Addr} {od21 an21 : Option Addr} {sl21 : Array (Option Value)} {oc21 kV21 dc21 pm21 cd21 ct21 : Value}
    {fh0 : Addr} {odh0 anh0 : Option Addr} {slh0 : Array (Option Value)} {och0 kVh0 dch0 pmh0 cdh0 cth0 : Value}
    {B0 : Addr}
    {C0 : Addr} {nm0 qn0 : Str} {N0 : Addr} {bs0 : List Value} {sn0 : List Str} {sub0 : List Value} {ab0 : Bool} {col0 : Option Bool} {dd0 : Option Addr} {m00 m10 m20 m30 m50 : Option Value}
    {fi0 : Addr} {odi0 ani0 : Option Addr} {sli0 : Array (Option Value)} {oci0 kVi0 dci0 pmi0 cdi0 cti0 : Value}
    {C1 : Addr} {nm1 qn1 : Str} {N1 : Addr} {bs1 : List Value} {sn1 : List Str} {sub1 : List Value} {ab1 : Bool} {col1 : Option Bool} {dd1 : Option Addr} {m01 m11 m21 m31 m51 : Option Value}
    {fi1 : Addr} {odi1 ani1 : Option Addr} {sli1 : Array (Option Value)} {oci1 kVi1 dci1 pmi1 cdi1 cti1 : Value}
    {ta0 : Addr} {tn0 : Nat} {tl0 : Array (Option Value)} {tt0_0 tt0_1 : Tok}
    {t1 : Tok}
    {ta2 : Addr} {tn2 : Nat} {tl2 : Array (Option Value)} {tt2_0 tt2_1 : Tok}
    {ta3 : Addr} {tn3 : Nat} {tl3 : Array (Option Value)} {tt3_0 tt3_1 : Tok}
    {t4 : Tok}
    {t5 : Tok}
    {t6 : Tok}
    {t7 : Tok}
    (a0 : PySem.W.nsIn K mainGlobals "is_tuple_of" = some (some (.ref f0)))
    (l0 : K.lookup f0 = some ⟨oc0, od0, .func (PySem.W.fnOf "is_tuple_of" "is_tuple_of" (defArgs s_is_tuple_of) (defBody s_is_tuple_of) (defScope s_is_tuple_of) .none kV0 dc0 pm0 an0 cd0 ct0), sl0⟩) (c0 : PySem.W.codeIn K cd0 "is_tuple_of" = true) (k0 : PySem.W.keepIn K (.ref f0) = true)
    (a1 : PySem.W.nsIn K mainGlobals "is_whole" = some (some (.ref f1)))
    (l1 : K.lookup f1 = some ⟨oc1, od1, .func (PySem.W.fnOf "is_whole" "is_whole" (defArgs s_is_whole) (defBody s_is_whole) (defScope s_is_whole) .none kV1 dc1 pm1 an1 cd1 ct1), sl1⟩) (c1 : PySem.W.codeIn K cd1 "is_whole" = true) (k1 : PySem.W.keepIn K (.ref f1) = true)
    (a2 : PySem.W.nsIn K mainGlobals "is_side" = some (some (.ref f2)))
    (l2 : K.lookup f2 = some ⟨oc2, od2, .func (PySem.W.fnOf "is_side" "is_side" (defArgs s_is_side) (defBody s_is_side) (defScope s_is_side) .none kV2 dc2 pm2 an2 cd2 ct2), sl2⟩) (c2 : PySem.W.codeIn K cd2 "is_side" = true) (k2 : PySem.W.keepIn K (.ref f2) = true)
    (a3 : PySem.W.nsIn K mainGlobals "is_deed" = some (some (.ref f3)))
    (l3 : K.lookup f3 = some ⟨oc3, od3, .func (PySem.W.fnOf "is_deed" "is_deed" (defArgs s_is_deed) (defBody s_is_deed) (defScope s_is_deed) .none kV3 dc3 pm3 an3 cd3 ct3), sl3⟩) (c3 : PySem.W.codeIn K cd3 "is_deed" = true) (k3 : PySem.W.keepIn K (.ref f3) = true)
    (a4 : PySem.W.nsIn K mainGlobals "text_of_deed" = some (some (.ref f4)))
    (l4 : K.lookup f4 = some ⟨oc4, od4, .func (PySem.W.fnOf "text_of_deed" "text_of_deed" (defArgs s_text_of_deed) (defBody s_text_of_deed) (defScope s_text_of_deed) .none kV4 dc4 pm4 an4 cd4 ct4), sl4⟩) (c4 : PySem.W.codeIn K cd4 "text_of_deed" = true) (k4 : PySem.W.keepIn K (.ref f4) = true)
    (a5 : PySem.W.nsIn K mainGlobals "deed_text" = some (some (.ref f5)))
    (l5 : K.lookup f5 = some ⟨oc5, od5, .func (PySem.W.fnOf "deed_text" "deed_text" (defArgs s_deed_text) (defBody s_deed_text) (defScope s_deed_text) .none kV5 dc5 pm5 an5 cd5 ct5), sl5⟩) (c5 : PySem.W.codeIn K cd5 "deed_text" = true) (k5 : PySem.W.keepIn K (.ref f5) = true)
    (a6 : PySem.W.nsIn K mainGlobals "count_told" = some (some (.ref f6)))
    (l6 : K.lookup f6 = some ⟨oc6, od6, .func (PySem.W.fnOf "count_told" "count_told" (defArgs s_count_told) (defBody s_count_told) (defScope s_count_told) .none kV6 dc6 pm6 an6 cd6 ct6), sl6⟩) (c6 : PySem.W.codeIn K cd6 "count_told" = true) (k6 : PySem.W.keepIn K (.ref f6) = true)
    (a7 : PySem.W.nsIn K mainGlobals "whole_told" = some (some (.ref f7)))
    (l7 : K.lookup f7 = some ⟨oc7, od7, .func (PySem.W.fnOf "whole_told" "whole_told" (defArgs s_whole_told) (defBody s_whole_told) (defScope s_whole_told) .none kV7 dc7 pm7 an7 cd7 ct7), sl7⟩) (c7 : PySem.W.codeIn K cd7 "whole_told" = true) (k7 : PySem.W.keepIn K (.ref f7) = true)
    (a8 : PySem.W.nsIn K mainGlobals "deed_of_text" = some (some (.ref f8)))
    (l8 : K.lookup f8 = some ⟨oc8, od8, .func (PySem.W.fnOf "deed_of_text" "deed_of_text" (defArgs s_deed_of_text) (defBody s_deed_of_text) (defScope s_deed_of_text) .none kV8 dc8 pm8 an8 cd8 ct8), sl8⟩) (c8 : PySem.W.codeIn K cd8 "deed_of_text" = true) (k8 : PySem.W.keepIn K (.ref f8) = true)
    (a9 : PySem.W.nsIn K mainGlobals "check_told" = some (some (.ref f9)))
    (l9 : K.lookup f9 = some ⟨oc9, od9, .func (PySem.W.fnOf "check_told" "check_told" (defArgs s_check_told) (defBody s_check_told) (defScope s_check_told) .none kV9 dc9 pm9 an9 cd9 ct9), sl9⟩) (c9 : PySem.W.codeIn K cd9 "check_told" = true) (k9 : PySem.W.keepIn K (.ref f9) = true)
    (a10 : PySem.W.nsIn K mainGlobals "read_deed" = some (some (.ref f10)))
    (l10 : K.lookup f10 = some ⟨oc10, od10, .func (PySem.W.fnOf "read_deed" "read_deed" (defArgs s_read_deed) (defBody s_read_deed) (defScope s_read_deed) .none kV10 dc10 pm10 an10 cd10 ct10), sl10⟩) (c10 : PySem.W.codeIn K cd10 "read_deed" = true) (k10 : PySem.W.keepIn K (.ref f10) = true)
    (a11 : PySem.W.nsIn K mainGlobals "_law_same" = some (some (.ref f11)))
    (l11 : K.lookup f11 = some ⟨oc11, od11, .func (PySem.W.fnOf "_law_same" "_law_same" (defArgs s_L_same) (defBody s_L_same) (defScope s_L_same) .none kV11 dc11 pm11 an11 cd11 ct11), sl11⟩) (c11 : PySem.W.codeIn K cd11 "_law_same" = true) (k11 : PySem.W.keepIn K (.ref f11) = true)
    (a12 : PySem.W.nsIn K mainGlobals "_law_draw" = some (some (.ref f12)))
    (l12 : K.lookup f12 = some ⟨oc12, od12, .func (PySem.W.fnOf "_law_draw" "_law_draw" (defArgs s_L_draw) (defBody s_L_draw) (defScope s_L_draw) .none kV12 dc12 pm12 an12 cd12 ct12), sl12⟩) (c12 : PySem.W.codeIn K cd12 "_law_draw" = true) (k12 : PySem.W.keepIn K (.ref f12) = true)
    (a13 : PySem.W.nsIn K mainGlobals "_law_pick" = some (some (.ref f13)))
    (l13 : K.lookup f13 = some ⟨oc13, od13, .func (PySem.W.fnOf "_law_pick" "_law_pick" (defArgs s_L_pick) (defBody s_L_pick) (defScope s_L_pick) .none kV13 dc13 pm13 an13 cd13 ct13), sl13⟩) (c13 : PySem.W.codeIn K cd13 "_law_pick" = true) (k13 : PySem.W.keepIn K (.ref f13) = true)
    (a14 : PySem.W.nsIn K mainGlobals "_law_bent" = some (some (.ref f14)))
    (l14 : K.lookup f14 = some ⟨oc14, od14, .func (PySem.W.fnOf "_law_bent" "_law_bent" (defArgs s_L_bent) (defBody s_L_bent) (defScope s_L_bent) .none kV14 dc14 pm14 an14 cd14 ct14), sl14⟩) (c14 : PySem.W.codeIn K cd14 "_law_bent" = true) (k14 : PySem.W.keepIn K (.ref f14) = true)
    (a15 : PySem.W.nsIn K mainGlobals "_law_whole" = some (some (.ref f15)))
    (l15 : K.lookup f15 = some ⟨oc15, od15, .func (PySem.W.fnOf "_law_whole" "_law_whole" (defArgs s_L_whole) (defBody s_L_whole) (defScope s_L_whole) .none kV15 dc15 pm15 an15 cd15 ct15), sl15⟩) (c15 : PySem.W.codeIn K cd15 "_law_whole" = true) (k15 : PySem.W.keepIn K (.ref f15) = true)
    (a16 : PySem.W.nsIn K mainGlobals "_law_read" = some (some (.ref f16)))
    (l16 : K.lookup f16 = some ⟨oc16, od16, .func (PySem.W.fnOf "_law_read" "_law_read" (defArgs s_L_read) (defBody s_L_read) (defScope s_L_read) .none kV16 dc16 pm16 an16 cd16 ct16), sl16⟩) (c16 : PySem.W.codeIn K cd16 "_law_read" = true) (k16 : PySem.W.keepIn K (.ref f16) = true)
    (a17 : PySem.W.nsIn K mainGlobals "_law_is_right" = some (some (.ref f17)))
    (l17 : K.lookup f17 = some ⟨oc17, od17, .func (PySem.W.fnOf "_law_is_right" "_law_is_right" (defArgs s_L_is_right) (defBody s_L_is_right) (defScope s_L_is_right) .none kV17 dc17 pm17 an17 (.ref cc17) ct17), sl17⟩) (c17 : PySem.W.codeIn K (.ref cc17) "_law_is_right" = true) (k17 : PySem.W.keepIn K (.ref f17) = true)
    (t17 : PySem.W.tabIn K (so "_law_is_right") = some (cc17, P17)) (np17 : K.lookup P17 = none)
    (a18 : PySem.W.nsIn K mainGlobals "_law_deed" = some (some (.ref f18)))
    (l18 : K.lookup f18 = some ⟨oc18, od18, .func (PySem.W.fnOf "_law_deed" "_law_deed" (defArgs s_L_deed) (defBody s_L_deed) (defScope s_L_deed) .none kV18 dc18 pm18 an18 cd18 ct18), sl18⟩) (c18 : PySem.W.codeIn K cd18 "_law_deed" = true) (k18 : PySem.W.keepIn K (.ref f18) = true)
    (a19 : PySem.W.nsIn K mainGlobals "_law_right" = some (some (.ref f19)))
    (l19 : K.lookup f19 = some ⟨oc19, od19, .func (PySem.W.fnOf "_law_right" "_law_right" (defArgs s_L_right) (defBody s_L_right) (defScope s_L_right) .none kV19 dc19 pm19 an19 cd19 ct19), sl19⟩) (c19 : PySem.W.codeIn K cd19 "_law_right" = true) (k19 : PySem.W.keepIn K (.ref f19) = true)
    (a20 : PySem.W.nsIn K mainGlobals "_law_pot" = some (some (.ref f20)))
    (l20 : K.lookup f20 = some ⟨oc20, od20, .func (PySem.W.fnOf "_law_pot" "_law_pot" (defArgs s_L_pot) (defBody s_L_pot) (defScope s_L_pot) .none kV20 dc20 pm20 an20 cd20 ct20), sl20⟩) (c20 : PySem.W.codeIn K cd20 "_law_pot" = true) (k20 : PySem.W.keepIn K (.ref f20) = true)
    (a21 : PySem.W.nsIn K mainGlobals "law" = some (some (.ref f21)))
    (l21 : K.lookup f21 = some ⟨oc21, od21, .func (PySem.W.fnOf "law" "law" (defArgs s_law) (defBody s_law) (defScope s_law) .none kV21 dc21 pm21 an21 cd21 ct21), sl21⟩) (c21 : PySem.W.codeIn K cd21 "law" = true) (k21 : PySem.W.keepIn K (.ref f21) = true)
    (ah0 : PySem.W.nsIn K mainGlobals "_law_heard" = some (some (.ref fh0)))
    (lh0 : K.lookup fh0 = some ⟨och0, odh0, .func (PySem.W.fnOf "_law_heard" "_law_heard" (defArgs s_L_heard) (defBody s_L_heard) (defScope s_L_heard) .none kVh0 dch0 pmh0 anh0 cdh0 cth0), slh0⟩) (ch0 : PySem.W.codeIn K cdh0 "_law_heard" = true) (kh0 : PySem.W.keepIn K (.ref fh0) = true)
    (xa0 : PySem.W.nsIn K mainGlobals "InvalidDeed" = some (some (.ref C0))) (xl0 : K.lookup C0 = some (excClassObj nm0 qn0 C0 N0 bs0 [.ref B0, .type "ValueError", .type "Exception", .type "BaseException", .type "object"] true sn0 sub0 ab0 col0 dd0 m00 m10 m20 m30 m50 "ValueError.__new__"))
    (xs0 : PySem.W.findIn K (.ref C0) "__setattr__" = some (some (.builtin "object.__setattr__")))
    (xg0 : PySem.W.findIn K (.ref C0) "__getattribute__" = some (some (.builtin "BaseException.__getattribute__")))
    (xh0 : PySem.W.findIn K (.ref C0) "__getattr__" = some none)
    (xn0 : PySem.W.findIn K (.ref C0) (so "given") = some none)
    (xk0 : PySem.W.keepIn K (.ref C0) = true)
    (xe0 : PySem.W.subIn K (.ref C0) (.type "BaseException") = some true)
    (xt0 : PySem.W.typeIn K (.ref C0) = some (.type "type"))
    (xd0 : PySem.W.hasDictIn K C0 = true)
    (xi0 : PySem.W.isClsIn K C0 = true)
    (xc0 : PySem.W.subIn K (.ref C0) (.ref C0) = some true)
    (ai0 : PySem.W.findIn K (.ref C0) "__init__" = some (some (.ref fi0)))
    (li0 : K.lookup fi0 = some ⟨oci0, odi0, .func (PySem.W.fnOf "__init__" "InvalidDeed.__init__" (defArgs s_init_InvalidDeed) (defBody s_init_InvalidDeed) (defScope s_init_InvalidDeed) .none kVi0 dci0 pmi0 ani0 cdi0 cti0), sli0⟩) (ci0 : PySem.W.codeIn K cdi0 "InvalidDeed.__init__" = true) (ki0 : PySem.W.keepIn K (.ref fi0) = true)
    (xT0 : PySem.W.typeIn K (.ref fi0) = some (.type "function"))
    (xa1 : PySem.W.nsIn K mainGlobals "InvalidText" = some (some (.ref C1))) (xl1 : K.lookup C1 = some (excClassObj nm1 qn1 C1 N1 bs1 [.ref B0, .type "ValueError", .type "Exception", .type "BaseException", .type "object"] true sn1 sub1 ab1 col1 dd1 m01 m11 m21 m31 m51 "ValueError.__new__"))
    (xs1 : PySem.W.findIn K (.ref C1) "__setattr__" = some (some (.builtin "object.__setattr__")))
    (xg1 : PySem.W.findIn K (.ref C1) "__getattribute__" = some (some (.builtin "BaseException.__getattribute__")))
    (xh1 : PySem.W.findIn K (.ref C1) "__getattr__" = some none)
    (xn1 : PySem.W.findIn K (.ref C1) (so "given") = some none)
    (xk1 : PySem.W.keepIn K (.ref C1) = true)
    (xe1 : PySem.W.subIn K (.ref C1) (.type "BaseException") = some true)
    (xt1 : PySem.W.typeIn K (.ref C1) = some (.type "type"))
    (xd1 : PySem.W.hasDictIn K C1 = true)
    (xi1 : PySem.W.isClsIn K C1 = true)
    (xc1 : PySem.W.subIn K (.ref C1) (.ref C1) = some true)
    (ai1 : PySem.W.findIn K (.ref C1) "__init__" = some (some (.ref fi1)))
    (li1 : K.lookup fi1 = some ⟨oci1, odi1, .func (PySem.W.fnOf "__init__" "InvalidText.__init__" (defArgs s_init_InvalidText) (defBody s_init_InvalidText) (defScope s_init_InvalidText) .none kVi1 dci1 pmi1 ani1 cdi1 cti1), sli1⟩) (ci1 : PySem.W.codeIn K cdi1 "InvalidText.__init__" = true) (ki1 : PySem.W.keepIn K (.ref fi1) = true)
    (xT1 : PySem.W.typeIn K (.ref fi1) = some (.type "function"))
    (xz0_1 : PySem.W.subIn K (.ref C0) (.ref C1) = some false)
    (g0 : PySem.W.nsIn K mainGlobals "SIDES" = some (some (.ref ta0))) (gl0 : K.lookup ta0 = some ⟨.type "tuple", none, .seq #[.str "left" tt0_0, .str "right" tt0_1] tn0, tl0⟩)
    (g1 : PySem.W.nsIn K mainGlobals "PRUNE" = some (some (.str "prune" t1)))
    (g2 : PySem.W.nsIn K mainGlobals "WITH_SIDE" = some (some (.ref ta2))) (gl2 : K.lookup ta2 = some ⟨.type "tuple", none, .seq #[.str "grow" tt2_0, .str "turn" tt2_1] tn2, tl2⟩)
    (g3 : PySem.W.nsIn K mainGlobals "WITH_WATER" = some (some (.ref ta3))) (gl3 : K.lookup ta3 = some ⟨.type "tuple", none, .seq #[.str "shrink" tt3_0, .str "swap" tt3_1] tn3, tl3⟩)
    (g4 : PySem.W.nsIn K mainGlobals "BLANK" = some (some (.str " " t4)))
    (g5 : PySem.W.nsIn K mainGlobals "DIGITS" = some (some (.str "0123456789" t5)))
    (g6 : PySem.W.nsIn K mainGlobals "MINUS" = some (some (.str "-" t6)))
    (g7 : PySem.W.nsIn K mainGlobals "PLACE_OF_NUMBER" = some (some (.int 1 t7)))
    (z0 : PySem.W.nsIn K mainGlobals "isinstance" = some none)
    (z1 : PySem.W.nsIn K mainGlobals "len" = some none)
    (z2 : PySem.W.nsIn K mainGlobals "tuple" = some none)
    (z3 : PySem.W.nsIn K mainGlobals "bool" = some none)
    (z4 : PySem.W.nsIn K mainGlobals "int" = some none)
    (z5 : PySem.W.nsIn K mainGlobals "str" = some none)
    (z6 : PySem.W.nsIn K mainGlobals "all" = some none)
    (z7 : PySem.W.nsIn K mainGlobals "enumerate" = some none)
    (z8 : PySem.W.nsIn K mainGlobals "list" = some none)
    (z9 : PySem.W.nsIn K mainGlobals "range" = some none)
    (z10 : PySem.W.nsIn K mainGlobals "divmod" = some none)
    (z11 : PySem.W.nsIn K mainGlobals "abs" = some none)
    (z12 : PySem.W.nsIn K mainGlobals "sum" = some none)
    (z13 : PySem.W.nsIn K mainGlobals "max" = some none)
    (z14 : PySem.W.nsIn K mainGlobals "min" = some none)
    : LamX.LawAtS l w K (L2.CX l.prog w) 14 63 "script" mg fa h := by
  have e := hfa.symm.trans (PySem.W.mg_of X G a21)
  cases e
  letI : Tb := ⟨[(P17, (so "_law_is_right" ++ ".<locals>.") ++ "<lambda>")]⟩
  have ht17 := tabs _ _ _ hr17 t17
  refine ⟨PySem.W.fnOf "law" "law" (defArgs s_law) (defBody s_law) (defScope s_law) .none kV21 dc21 pm21 an21 cd21 ct21, [(cc17, P17)], fun vs H Q E => spOf K (clX (K := K) (mg := mg) { a_is_tuple_of := f0, d_is_tuple_of := _, F_is_tuple_of := fun_mk (st := s_is_tuple_of) l0 c0 k0, m_is_tuple_of := PySem.W.mg_of X G a0, a_is_whole := f1, d_is_whole := _, F_is_whole := fun_mk (st := s_is_whole) l1 c1 k1, m_is_whole := PySem.W.mg_of X G a1, a_is_side := f2, d_is_side := _, F_is_side := fun_mk (st := s_is_side) l2 c2 k2, m_is_side := PySem.W.mg_of X G a2, a_is_deed := f3, d_is_deed := _, F_is_deed := fun_mk (st := s_is_deed) l3 c3 k3, m_is_deed := PySem.W.mg_of X G a3, a_text_of_deed := f4, d_text_of_deed := _, F_text_of_deed := fun_mk (st := s_text_of_deed) l4 c4 k4, m_text_of_deed := PySem.W.mg_of X G a4, a_deed_text := f5, d_deed_text := _, F_deed_text := fun_mk (st := s_deed_text) l5 c5 k5, m_deed_text := PySem.W.mg_of X G a5, a_count_told := f6, d_count_told := _, F_count_told := fun_mk (st := s_count_told) l6 c6 k6, m_count_told := PySem.W.mg_of X G a6, a_whole_told := f7, d_whole_told := _, F_whole_told := fun_mk (st := s_whole_told) l7 c7 k7, m_whole_told := PySem.W.mg_of X G a7, a_deed_of_text := f8, d_deed_of_text := _, F_deed_of_text := fun_mk (st := s_deed_of_text) l8 c8 k8, m_deed_of_text := PySem.W.mg_of X G a8, a_check_told := f9, d_check_told := _, F_check_told := fun_mk (st := s_check_told) l9 c9 k9, m_check_told := PySem.W.mg_of X G a9, a_read_deed := f10, d_read_deed := _, F_read_deed := fun_mk (st := s_read_deed) l10 c10 k10, m_read_deed := PySem.W.mg_of X G a10, a_L_same := f11, d_L_same := _, F_L_same := fun_mk (st := s_L_same) l11 c11 k11, m_L_same := PySem.W.mg_of X G a11, a_L_draw := f12, d_L_draw := _, F_L_draw := fun_mk (st := s_L_draw) l12 c12 k12, m_L_draw := PySem.W.mg_of X G a12, a_L_pick := f13, d_L_pick := _, F_L_pick := fun_mk (st := s_L_pick) l13 c13 k13, m_L_pick := PySem.W.mg_of X G a13, a_L_bent := f14, d_L_bent := _, F_L_bent := fun_mk (st := s_L_bent) l14 c14 k14, m_L_bent := PySem.W.mg_of X G a14, a_L_whole := f15, d_L_whole := _, F_L_whole := fun_mk (st := s_L_whole) l15 c15 k15, m_L_whole := PySem.W.mg_of X G a15, a_L_read := f16, d_L_read := _, F_L_read := fun_mk (st := s_L_read) l16 c16 k16, m_L_read := PySem.W.mg_of X G a16, a_L_is_right := f17, d_L_is_right := _, F_L_is_right := fun_mk (st := s_L_is_right) l17 c17 k17, m_L_is_right := PySem.W.mg_of X G a17, v_L_is_right := .ref cc17, e_L_is_right := ⟨_, _, _, _, _, _, _, _, rfl, l17, c17⟩, a_L_deed := f18, d_L_deed := _, F_L_deed := fun_mk (st := s_L_deed) l18 c18 k18, m_L_deed := PySem.W.mg_of X G a18, a_L_right := f19, d_L_right := _, F_L_right := fun_mk (st := s_L_right) l19 c19 k19, m_L_right := PySem.W.mg_of X G a19, a_L_pot := f20, d_L_pot := _, F_L_pot := fun_mk (st := s_L_pot) l20 c20 k20, m_L_pot := PySem.W.mg_of X G a20, a_law := fa, d_law := _, F_law := fun_mk (st := s_law) l21 c21 k21, m_law := PySem.W.mg_of X G a21, a_L_heard := fh0, d_L_heard := _, F_L_heard := fun_mk (st := s_L_heard) lh0 ch0 kh0, m_L_heard := PySem.W.mg_of X G ah0, C_InvalidDeed := C0, gC_InvalidDeed := PySem.W.mg_of X G xa0, ox_InvalidDeed := ⟨⟨_, _, _, _, _, _, _, _, _, _, _, _, _, _, _, xl0, rfl⟩, xs0, xe0, xt0, xk0⟩, xn_InvalidDeed := xn0, xf_InvalidDeed := ⟨xg0, xh0, xe0, xd0⟩, xt_InvalidDeed := exm_self2 xe0 xi0 xt0 xc0, i_InvalidDeed := fi0, j_InvalidDeed := _, I_InvalidDeed := fun_mk (st := s_init_InvalidDeed) li0 ci0 ki0, iC_InvalidDeed := ai0, iT_InvalidDeed := xT0, C_InvalidText := C1, gC_InvalidText := PySem.W.mg_of X G xa1, ox_InvalidText := ⟨⟨_, _, _, _, _, _, _, _, _, _, _, _, _, _, _, xl1, rfl⟩, xs1, xe1, xt1, xk1⟩, xn_InvalidText := xn1, xf_InvalidText := ⟨xg1, xh1, xe1, xd1⟩, xt_InvalidText := exm_self2 xe1 xi1 xt1 xc1, i_InvalidText := fi1, j_InvalidText := _, I_InvalidText := fun_mk (st := s_init_InvalidText) li1 ci1 ki1, iC_InvalidText := ai1, iT_InvalidText := xT1, xd_InvalidDeed_InvalidText := exm_self2 xe1 xi1 xt1 xz0_1, g_SIDES := by rw [PySem.W.mg_of X G g0]; exact ft_of (xs := [.str "left", .str "right"]) gl0 (by rw [sizeLine_eq]; show 2 ≤ _; decide) (.cons ⟨_, rfl⟩ (.cons ⟨_, rfl⟩ .nil)) ⟨by simp only [Rep]; exact ⟨by decide +kernel, by decide +kernel⟩, ⟨by simp only [Rep]; exact ⟨by decide +kernel, by decide +kernel⟩, trivial⟩⟩, g_PRUNE := ⟨_, .str "prune", PySem.W.mg_of X G g1, ⟨_, rfl⟩, by simp only [Rep]; exact ⟨by decide +kernel, by decide +kernel⟩⟩, g_WITH_SIDE := by rw [PySem.W.mg_of X G g2]; exact ft_of (xs := [.str "grow", .str "turn"]) gl2 (by rw [sizeLine_eq]; show 2 ≤ _; decide) (.cons ⟨_, rfl⟩ (.cons ⟨_, rfl⟩ .nil)) ⟨by simp only [Rep]; exact ⟨by decide +kernel, by decide +kernel⟩, ⟨by simp only [Rep]; exact ⟨by decide +kernel, by decide +kernel⟩, trivial⟩⟩, g_WITH_WATER := by rw [PySem.W.mg_of X G g3]; exact ft_of (xs := [.str "shrink", .str "swap"]) gl3 (by rw [sizeLine_eq]; show 2 ≤ _; decide) (.cons ⟨_, rfl⟩ (.cons ⟨_, rfl⟩ .nil)) ⟨by simp only [Rep]; exact ⟨by decide +kernel, by decide +kernel⟩, ⟨by simp only [Rep]; exact ⟨by decide +kernel, by decide +kernel⟩, trivial⟩⟩, g_BLANK := ⟨_, .str " ", PySem.W.mg_of X G g4, ⟨_, rfl⟩, by simp only [Rep]; exact ⟨by decide +kernel, by decide +kernel⟩⟩, g_DIGITS := ⟨_, .str "0123456789", PySem.W.mg_of X G g5, ⟨_, rfl⟩, by simp only [Rep]; exact ⟨by decide +kernel, by decide +kernel⟩⟩, g_MINUS := ⟨_, .str "-", PySem.W.mg_of X G g6, ⟨_, rfl⟩, by simp only [Rep]; exact ⟨by decide +kernel, by decide +kernel⟩⟩, g_PLACE_OF_NUMBER := ⟨_, .int 1, PySem.W.mg_of X G g7, ⟨_, rfl⟩, by simp only [Rep]⟩, n_isinstance := PySem.W.mg_none_of X G z0, n_len := PySem.W.mg_none_of X G z1, n_tuple := PySem.W.mg_none_of X G z2, n_bool := PySem.W.mg_none_of X G z3, n_int := PySem.W.mg_none_of X G z4, n_str := PySem.W.mg_none_of X G z5, n_all := PySem.W.mg_none_of X G z6, n_enumerate := PySem.W.mg_none_of X G z7, n_list := PySem.W.mg_none_of X G z8, n_range := PySem.W.mg_none_of X G z9, n_divmod := PySem.W.mg_none_of X G z10, n_abs := PySem.W.mg_none_of X G z11, n_sum := PySem.W.mg_none_of X G z12, n_max := PySem.W.mg_none_of X G z13, n_min := PySem.W.mg_none_of X G z14 }) 1 f_law vs H Q E, (fs_cons (ht17.2) (fun _ h => nomatch h)), (fs_cons (np17) (fun _ h => nomatch h)), (fs_cons (ht17.1) (fun _ h => nomatch h)), fun s v => .of_eq rfl, fun H a ns hl _ hH hS => ?_, fun base KB GB hT => ?_⟩
  · exact sp_script (fn := f_law) rfl (fs_cons (LamX.TabS.nil (hH _ (List.mem_cons_self))) (fs_nil)) hS (hlaw ns hl)
  · exact ok_law { a_is_tuple_of := f0, d_is_tuple_of := _, F_is_tuple_of := fun_mk (st := s_is_tuple_of) l0 c0 k0, m_is_tuple_of := PySem.W.mg_of X G a0, a_is_whole := f1, d_is_whole := _, F_is_whole := fun_mk (st := s_is_whole) l1 c1 k1, m_is_whole := PySem.W.mg_of X G a1, a_is_side := f2, d_is_side := _, F_is_side := fun_mk (st := s_is_side) l2 c2 k2, m_is_side := PySem.W.mg_of X G a2, a_is_deed := f3, d_is_deed := _, F_is_deed := fun_mk (st := s_is_deed) l3 c3 k3, m_is_deed := PySem.W.mg_of X G a3, a_text_of_deed := f4, d_text_of_deed := _, F_text_of_deed := fun_mk (st := s_text_of_deed) l4 c4 k4, m_text_of_deed := PySem.W.mg_of X G a4, a_deed_text := f5, d_deed_text := _, F_deed_text := fun_mk (st := s_deed_text) l5 c5 k5, m_deed_text := PySem.W.mg_of X G a5, a_count_told := f6, d_count_told := _, F_count_told := fun_mk (st := s_count_told) l6 c6 k6, m_count_told := PySem.W.mg_of X G a6, a_whole_told := f7, d_whole_told := _, F_whole_told := fun_mk (st := s_whole_told) l7 c7 k7, m_whole_told := PySem.W.mg_of X G a7, a_deed_of_text := f8, d_deed_of_text := _, F_deed_of_text := fun_mk (st := s_deed_of_text) l8 c8 k8, m_deed_of_text := PySem.W.mg_of X G a8, a_check_told := f9, d_check_told := _, F_check_told := fun_mk (st := s_check_told) l9 c9 k9, m_check_told := PySem.W.mg_of X G a9, a_read_deed := f10, d_read_deed := _, F_read_deed := fun_mk (st := s_read_deed) l10 c10 k10, m_read_deed := PySem.W.mg_of X G a10, a_L_same := f11, d_L_same := _, F_L_same := fun_mk (st := s_L_same) l11 c11 k11, m_L_same := PySem.W.mg_of X G a11, a_L_draw := f12, d_L_draw := _, F_L_draw := fun_mk (st := s_L_draw) l12 c12 k12, m_L_draw := PySem.W.mg_of X G a12, a_L_pick := f13, d_L_pick := _, F_L_pick := fun_mk (st := s_L_pick) l13 c13 k13, m_L_pick := PySem.W.mg_of X G a13, a_L_bent := f14, d_L_bent := _, F_L_bent := fun_mk (st := s_L_bent) l14 c14 k14, m_L_bent := PySem.W.mg_of X G a14, a_L_whole := f15, d_L_whole := _, F_L_whole := fun_mk (st := s_L_whole) l15 c15 k15, m_L_whole := PySem.W.mg_of X G a15, a_L_read := f16, d_L_read := _, F_L_read := fun_mk (st := s_L_read) l16 c16 k16, m_L_read := PySem.W.mg_of X G a16, a_L_is_right := f17, d_L_is_right := _, F_L_is_right := fun_mk (st := s_L_is_right) l17 c17 k17, m_L_is_right := PySem.W.mg_of X G a17, v_L_is_right := .ref cc17, e_L_is_right := ⟨_, _, _, _, _, _, _, _, rfl, l17, c17⟩, a_L_deed := f18, d_L_deed := _, F_L_deed := fun_mk (st := s_L_deed) l18 c18 k18, m_L_deed := PySem.W.mg_of X G a18, a_L_right := f19, d_L_right := _, F_L_right := fun_mk (st := s_L_right) l19 c19 k19, m_L_right := PySem.W.mg_of X G a19, a_L_pot := f20, d_L_pot := _, F_L_pot := fun_mk (st := s_L_pot) l20 c20 k20, m_L_pot := PySem.W.mg_of X G a20, a_law := fa, d_law := _, F_law := fun_mk (st := s_law) l21 c21 k21, m_law := PySem.W.mg_of X G a21, a_L_heard := fh0, d_L_heard := _, F_L_heard := fun_mk (st := s_L_heard) lh0 ch0 kh0, m_L_heard := PySem.W.mg_of X G ah0, C_InvalidDeed := C0, gC_InvalidDeed := PySem.W.mg_of X G xa0, ox_InvalidDeed := ⟨⟨_, _, _, _, _, _, _, _, _, _, _, _, _, _, _, xl0, rfl⟩, xs0, xe0, xt0, xk0⟩, xn_InvalidDeed := xn0, xf_InvalidDeed := ⟨xg0, xh0, xe0, xd0⟩, xt_InvalidDeed := exm_self2 xe0 xi0 xt0 xc0, i_InvalidDeed := fi0, j_InvalidDeed := _, I_InvalidDeed := fun_mk (st := s_init_InvalidDeed) li0 ci0 ki0, iC_InvalidDeed := ai0, iT_InvalidDeed := xT0, C_InvalidText := C1, gC_InvalidText := PySem.W.mg_of X G xa1, ox_InvalidText := ⟨⟨_, _, _, _, _, _, _, _, _, _, _, _, _, _, _, xl1, rfl⟩, xs1, xe1, xt1, xk1⟩, xn_InvalidText := xn1, xf_InvalidText := ⟨xg1, xh1, xe1, xd1⟩, xt_InvalidText := exm_self2 xe1 xi1 xt1 xc1, i_InvalidText := fi1, j_InvalidText := _, I_InvalidText := fun_mk (st := s_init_InvalidText) li1 ci1 ki1, iC_InvalidText := ai1, iT_InvalidText := xT1, xd_InvalidDeed_InvalidText := exm_self2 xe1 xi1 xt1 xz0_1, g_SIDES := by rw [PySem.W.mg_of X G g0]; exact ft_of (xs := [.str "left", .str "right"]) gl0 (by rw [sizeLine_eq]; show 2 ≤ _; decide) (.cons ⟨_, rfl⟩ (.cons ⟨_, rfl⟩ .nil)) ⟨by simp only [Rep]; exact ⟨by decide +kernel, by decide +kernel⟩, ⟨by simp only [Rep]; exact ⟨by decide +kernel, by decide +kernel⟩, trivial⟩⟩, g_PRUNE := ⟨_, .str "prune", PySem.W.mg_of X G g1, ⟨_, rfl⟩, by simp only [Rep]; exact ⟨by decide +kernel, by decide +kernel⟩⟩, g_WITH_SIDE := by rw [PySem.W.mg_of X G g2]; exact ft_of (xs := [.str "grow", .str "turn"]) gl2 (by rw [sizeLine_eq]; show 2 ≤ _; decide) (.cons ⟨_, rfl⟩ (.cons ⟨_, rfl⟩ .nil)) ⟨by simp only [Rep]; exact ⟨by decide +kernel, by decide +kernel⟩, ⟨by simp only [Rep]; exact ⟨by decide +kernel, by decide +kernel⟩, trivial⟩⟩, g_WITH_WATER := by rw [PySem.W.mg_of X G g3]; exact ft_of (xs := [.str "shrink", .str "swap"]) gl3 (by rw [sizeLine_eq]; show 2 ≤ _; decide) (.cons ⟨_, rfl⟩ (.cons ⟨_, rfl⟩ .nil)) ⟨by simp only [Rep]; exact ⟨by decide +kernel, by decide +kernel⟩, ⟨by simp only [Rep]; exact ⟨by decide +kernel, by decide +kernel⟩, trivial⟩⟩, g_BLANK := ⟨_, .str " ", PySem.W.mg_of X G g4, ⟨_, rfl⟩, by simp only [Rep]; exact ⟨by decide +kernel, by decide +kernel⟩⟩, g_DIGITS := ⟨_, .str "0123456789", PySem.W.mg_of X G g5, ⟨_, rfl⟩, by simp only [Rep]; exact ⟨by decide +kernel, by decide +kernel⟩⟩, g_MINUS := ⟨_, .str "-", PySem.W.mg_of X G g6, ⟨_, rfl⟩, by simp only [Rep]; exact ⟨by decide +kernel, by decide +kernel⟩⟩, g_PLACE_OF_NUMBER := ⟨_, .int 1, PySem.W.mg_of X G g7, ⟨_, rfl⟩, by simp only [Rep]⟩, n_isinstance := PySem.W.mg_none_of X G z0, n_len := PySem.W.mg_none_of X G z1, n_tuple := PySem.W.mg_none_of X G z2, n_bool := PySem.W.mg_none_of X G z3, n_int := PySem.W.mg_none_of X G z4, n_str := PySem.W.mg_none_of X G z5, n_all := PySem.W.mg_none_of X G z6, n_enumerate := PySem.W.mg_none_of X G z7, n_list := PySem.W.mg_none_of X G z8, n_range := PySem.W.mg_none_of X G z9, n_divmod := PySem.W.mg_none_of X G z10, n_abs := PySem.W.mg_none_of X G z11, n_sum := PySem.W.mg_none_of X G z12, n_max := PySem.W.mg_none_of X G z13, n_min := PySem.W.mg_none_of X G z14 } ⟨_, _, rfl, hT _ (List.mem_cons_self), List.mem_cons_self, fun q hq _ => by have e := List.mem_singleton.mp hq; rw [e]⟩
end G77

/-! K77a: words and the whole numbers that they tell. -/
namespace G77
open PySem PySem.Spec PyProof.Rows L2 Pv PvL
theorem len_S (l : List Nat) : (mkS l).length = l.length := by show l.toArray.size = l.length; simp
abbrev digs : List Nat := [48, 49, 50, 51, 52, 53, 54, 55, 56, 57]
theorem mem_digs {c : Nat} : c ∈ digs ↔ 48 ≤ c ∧ c ≤ 57 := by
  simp only [List.mem_cons, List.not_mem_nil, or_false]
  omega
def alld (w : List Nat) : Bool := w.all fun c => decide (c ∈ digs)
theorem alld_iff {w : List Nat} : alld w = true ↔ NumText.AllDigits w := by
  unfold alld NumText.AllDigits
  rw [List.all_eq_true]
  exact ⟨fun h c hc => mem_digs.mp (of_decide_eq_true (h c hc)), fun h c hc => decide_eq_true (mem_digs.mpr (h c hc))⟩
def cnt (w : List Nat) : Option Int := if w = [] ∨ alld w = false then none else if w.head? = some 48 ∧ 1 < w.length then none else some (NumText.digitsVal w : Nat)
def whl (w : List Nat) : Option Int := if w.take 1 ≠ [45] then cnt w else match cnt (w.drop 1) with
  | none => none
  | some k => if k = 0 then none else some (0 - k)
def oD : Option Int → D
  | none => .non
  | some n => .int n
theorem in_chr {c : Nat} {m : List Nat} : cmpD .In (.str [c]) (.str m) = some (decide (c ∈ m)) := rfl
theorem lc_digs {T : String → Fn} {own : List Nat} {ew : En} {pt : Pt} {v : Nat} {e : Ex} (w : List Nat) (e' : Nat → En)
    (he : ∀ env, evE T e env = .ok (.sh (.str digs)) env) (h : ∀ c : Nat, bindPt pt (.str [c]) ew = some (e' c) ∧ (e' c)[v]? = some (.sh (.str [c])) ∧ wipeE (e' c) own = ew) :
    lcLoop own (evE T (.cmp .In (.var v) e)) (evT T []) pt (w.map fun c => .str [c]) [] ew = .ok (w.map fun c => .bl (decide (c ∈ digs))) ew := by
  rw [lc_mapM (fun c => .str [c]) (fun c => .bl (decide (c ∈ digs))) e', List.nil_append]
  intro c _
  refine ⟨(h c).1, ⟨.sh (.bl (decide (c ∈ digs))), ?_, rfl⟩, (h c).2.2⟩
  simp [he, (h c).2.1, in_chr]
theorem bls_map : ∀ (f : Nat → Bool) (w : List Nat), blsD (w.map fun c => D.bl (f c)) = some (w.map f)
  | _, [] => rfl
  | f, c :: w => by
    show (blsD (w.map fun c => D.bl (f c))).map (f c :: ·) = _
    rw [bls_map f w]; rfl
theorem all_digs (w : List Nat) : biD .all [.lst (w.map fun c => .bl (decide (c ∈ digs)))] = some (.sh (.bl (alld w))) := by
  show (blsD (w.map fun c => D.bl (decide (c ∈ digs)))).map (fun bs => Vl.sh (.bl (bs.all id))) = _
  rw [bls_map]
  show some (Vl.sh (.bl ((w.map fun c => decide (c ∈ digs)).all id))) = _
  rw [List.all_map]; rfl
theorem int_digs {w : List Nat} (h0 : w ≠ []) (h1 : alld w = true) (hl : w.length ≤ 640) : biD .int [.str w] = some (.sh (.int (NumText.digitsVal w : Nat))) := by
  have e : intText? (mkS w) = some ((NumText.digitsVal w : Nat) : Int) := by
    exact intText_digits (x := mkS w) (alld_iff.mp h1) h0 (by rw [len_S]; omega)
  simp only [biD]
  rw [if_pos hl, e]; rfl
theorem int_neg {w : List Nat} (h0 : w ≠ []) (h1 : alld w = true) (hl : w.length < 640) : biD .int [.str (45 :: w)] = some (.sh (.int (0 - (NumText.digitsVal w : Nat)))) := by
  have e : intText? (mkS (45 :: w)) = some (-((NumText.digitsVal w : Nat) : Int)) := by
    exact intText_neg (x := mkS (45 :: w)) rfl (alld_iff.mp h1) h0 (by rw [len_S, List.length_cons]; omega)
  simp only [biD]
  rw [if_pos (by rw [List.length_cons]; omega), e, Int.zero_sub]; rfl
theorem at0 {α : Type} {c : α} {r : List α} : atI (c :: r) 0 = some c := by
  unfold atI ixN
  simp
theorem eq_strs {a b : List Nat} : cmpD .Eq (.str a) (.str b) = some (decide (a = b)) := rfl
theorem ne_strs {a b : List Nat} : cmpD .NotEq (.str a) (.str b) = some (!decide (a = b)) := rfl
theorem run_count {w : List Nat} (hl : w.length ≤ 640) : f_count_told.run [.str w] = .sh (oD (cnt w)) .non := by
  have key : ∀ T : String → Fn, outS false (evB T b_count_told [.sh (.str w), .no]) = .sh (oD (cnt w)) .non := by
    intro T
    have hz : w.length ≤ sizeLine := by rw [sizeLine_eq]; omega
    have hlc := lc_digs (T := T) (own := [1]) (ew := [.sh (.str w), .no]) (pt := .nm 1) (v := 1) (e := .glo "DIGITS" (.str digs)) w (fun c => [.sh (.str w), .sh (.str [c])])
      (fun _ => by simp) (fun c => ⟨by simp, rfl, by simp [wipeE]⟩)
    have hlc2 : evE T (.bi .all [(.lc [1] (.cmp .In (.var 1) (.glo "DIGITS" (.str digs))) (.nm 1) (.sq (.var 0)) [])]) [.sh (.str w), .no] = .ok (.sh (.bl (alld w))) [.sh (.str w), .no] := by
      rw [e_bi, el_cons, e_lc, ei_sq]
      simp only [e_var, List.getElem?_cons_zero, Rs.bind_ok, f_sh, it_str]
      rw [show wipeE [.sh (.str w), .no] [1] = [.sh (.str w), .no] from rfl, hlc]
      simp only [List.length_map, if_pos hz, Rs.bind_ok, el_nil, ct_cons, ct_nil, c_ow, all_digs, l_some]
      rfl
    have hlc3 : evE T (.bi .all [(.lc [1] (.cmp .In (.var 1) (.glo "DIGITS" (.str [48, 49, 50, 51, 52, 53, 54, 55, 56, 57]))) (.nm 1) (.sq (.var 0)) [])]) [.sh (.str w), .no] = .ok (.sh (.bl (alld w))) [.sh (.str w), .no] := hlc2
    unfold cnt
    unfold b_count_told
    revert hlc3
    generalize (Ex.bi .all [(.lc [1] (.cmp .In (.var 1) (.glo "DIGITS" (.str [48, 49, 50, 51, 52, 53, 54, 55, 56, 57]))) (.nm 1) (.sq (.var 0)) [])]) = E
    intro hlc3
    by_cases h0 : w = []
    · subst h0
      simp [eq_strs, outS, ioOut, oD]
    · cases h1 : alld w with
      | false =>
        simp [eq_strs, h0, hlc3, h1, outS, ioOut, oD]
      | true =>
        have hi := int_digs h0 h1 hl
        obtain ⟨c, r, rfl⟩ : ∃ c r, w = c :: r := by cases w with | nil => exact absurd rfl h0 | cons c r => exact ⟨c, r, rfl⟩
        have ha : atI (c :: r) 0 = some c := at0
        by_cases hc : c = 48
        · by_cases hr : r = []
          · subst hc; subst hr; simp [hlc3, h1, eq_strs, ha, hi, outS, ioOut, oD]
          · have hr2 : 0 < r.length := List.length_pos_iff.mpr hr
            subst hc
            have hr3 : (1 : Int) < (r.length : Int) + 1 := by omega
            simp [hlc3, h1, eq_strs, ha, hi, outS, ioOut, oD, hr2, hr3]
        · simp [hlc3, h1, eq_strs, ha, hi, outS, ioOut, oD, hc]
  exact key (tabF [])
theorem cut1 {w : List Nat} : cutL w none (some 1) = w.take 1 := by
  cases w with
  | nil => rfl
  | cons c r =>
    have : cutL (c :: r) none (some 1) = [c] := by
      unfold cutL
      have h1 : HT.sIx (c :: r).length 0 none = 0 := rfl
      have h2 : HT.sIx (c :: r).length (c :: r).length (some 1) = 1 := by
        simp [HT.sIx]
      rw [h1, h2]; rfl
    rw [this]; rfl
theorem cut2 {w : List Nat} : cutL w (some 1) none = w.drop 1 := by
  cases w with
  | nil => rfl
  | cons c r =>
    unfold cutL
    have h1 : HT.sIx (c :: r).length 0 (some 1) = 1 := by
      simp [HT.sIx]
    have h2 : HT.sIx (c :: r).length (c :: r).length none = (c :: r).length := rfl
    rw [h1, h2, List.take_of_length_le (by simp)]
end G77

/-! K77b: whole_told, _law_whole; what the texts of numbers tell. -/
namespace G77
open PySem PySem.Spec PyProof.Rows L2 Pv PvL
theorem sl1 {w : List Nat} : slcD (.str w) none (some 1) = some (.sh (.str (w.take 1))) := by
  show some (Vl.sh (.str (cutL w none (some 1)))) = _
  rw [cut1]
theorem sl2 {w : List Nat} : slcD (.str w) (some 1) none = some (.sh (.str (w.drop 1))) := by
  show some (Vl.sh (.str (cutL w (some 1) none))) = _
  rw [cut2]
theorem run_whole {w : List Nat} (hl : w.length ≤ 640) : f_whole_told.run [.str w] = .sh (oD (whl w)) .non := by
  have key : ∀ T : String → Fn, T "count_told" = ⟨false, f_count_told.run⟩ → outS false (evB T b_whole_told [.sh (.str w), .no]) = .sh (oD (whl w)) .non := by
    intro T hT
    have h1 := run_count hl
    have h2 := run_count (w := w.drop 1) (by rw [List.length_drop]; omega)
    have e2 : List.drop 1 w = w.tail := List.drop_one
    unfold whl b_whole_told
    by_cases c : w.take 1 = [45]
    · cases hc : cnt (w.drop 1) with
      | none =>
        rw [hc, e2] at h2
        simp [sl1, sl2, ne_strs, c, hT, callF, h2, oD, outS, ioOut]
      | some k =>
        rw [hc, e2] at h2
        by_cases hk : k = 0
        · subst hk
          simp [sl1, sl2, ne_strs, c, hT, callF, h2, oD, outS, ioOut]
        · simp [sl1, sl2, ne_strs, c, hT, callF, h2, oD, outS, ioOut, hk]
    · simp [sl1, ne_strs, c, hT, callF, h1, outS, ioOut]
  exact key (tabF [("count_told", f_count_told)]) rfl
theorem val_pos : ∀ {l : List Nat} {a : Nat}, 1 ≤ a → 1 ≤ l.foldl (fun acc c => acc * 10 + (c - 48)) a
  | [], a, h => h
  | c :: r, a, h => val_pos (l := r) (a := a * 10 + (c - 48)) (by omega)
theorem cnt_pos {c : Nat} {r : List Nat} (h : 49 ≤ c) : 1 ≤ NumText.digitsVal (c :: r) := by
  show 1 ≤ r.foldl (fun acc c => acc * 10 + (c - 48)) (0 * 10 + (c - 48))
  exact val_pos (by omega)
def wl (w : List Nat) : List D := match whl w with
  | none => []
  | some n => [.int n]
theorem run_Lwhole {w : List Nat} (hl : w.length ≤ 640) : f_L_whole.run [.str w] = .ow (.lst (wl w)) .non := by
  have key : ∀ T : String → Fn, outS false (evB T b_L_whole [.sh (.str w), .no, .no]) = .ow (.lst (wl w)) .non := by
    intro T
    obtain ⟨b, hb⟩ : ∃ b, b = (if w.take 1 = [45] then w.drop 1 else w) := ⟨_, rfl⟩
    have hbl : b.length ≤ 640 := by
      rw [hb]
      split
      · rw [List.length_drop]; omega
      · exact hl
    have h1 : evS T (.asg (.nm 1) (.ife (.cmp .Eq (.slc (.var 0) none (some (.con (.int 1)))) (.con (.str [45]))) (.slc (.var 0) (some (.con (.int 1))) none) (.var 0))) [.sh (.str w), .no, .no] = .nx [.sh (.str w), .sh (.str b), .no] := by
      by_cases c : w.take 1 = [45]
      · rw [if_pos c] at hb
        simp [sl1, sl2, eq_strs, c, hb]
      · rw [if_neg c] at hb
        simp [sl1, sl2, eq_strs, c, hb]
    have hz : b.length ≤ sizeLine := by rw [sizeLine_eq]; omega
    have hlc := lc_digs (T := T) (own := [2]) (ew := [.sh (.str w), .sh (.str b), .no]) (pt := .nm 2) (v := 2) (e := .con (.str digs)) b (fun c => [.sh (.str w), .sh (.str b), .sh (.str [c])])
      (fun _ => by simp) (fun c => ⟨by simp, rfl, by simp [wipeE]⟩)
    have hlc2 : evE T (.bi .all [(.lc [2] (.cmp .In (.var 2) (.con (.str digs))) (.nm 2) (.sq (.var 1)) [])]) [.sh (.str w), .sh (.str b), .no] = .ok (.sh (.bl (alld b))) [.sh (.str w), .sh (.str b), .no] := by
      rw [e_bi, el_cons, e_lc, ei_sq]
      simp only [e_var, List.getElem?_cons_zero, List.getElem?_cons_succ, Rs.bind_ok, f_sh, it_str]
      rw [show wipeE [.sh (.str w), .sh (.str b), .no] [2] = [.sh (.str w), .sh (.str b), .no] from rfl, hlc]
      simp only [List.length_map, if_pos hz, Rs.bind_ok, el_nil, ct_cons, ct_nil, c_ow, all_digs, l_some]
      rfl
    have hlc3 : evE T (.bi .all [(.lc [2] (.cmp .In (.var 2) (.con (.str [48, 49, 50, 51, 52, 53, 54, 55, 56, 57]))) (.nm 2) (.sq (.var 1)) [])]) [.sh (.str w), .sh (.str b), .no] = .ok (.sh (.bl (alld b))) [.sh (.str w), .sh (.str b), .no] := hlc2
    unfold b_L_whole
    rw [b_cons, h1]
    revert hlc3
    generalize (Ex.bi .all [(.lc [2] (.cmp .In (.var 2) (.con (.str [48, 49, 50, 51, 52, 53, 54, 55, 56, 57]))) (.nm 2) (.sq (.var 1)) [])]) = E
    intro hlc3
    unfold wl whl cnt
    by_cases c : w.take 1 = [45]
    · rw [if_pos c] at hb
      obtain ⟨r, rfl⟩ : ∃ r, w = 45 :: r := by
        cases w with
        | nil => cases c
        | cons x r => cases c; exact ⟨r, rfl⟩
      have hb : b = r := hb
      subst hb
      by_cases h0 : b = []
      · subst h0
        simp [eq_strs, outS, ioOut]
      · cases h1 : alld b with
        | false => simp [eq_strs, h0, hlc3, h1, outS, ioOut]
        | true =>
          have hi := int_neg h0 h1 (by rw [List.length_cons] at hl; omega)
          obtain ⟨x, r, rfl⟩ : ∃ x r, b = x :: r := by cases b with | nil => exact absurd rfl h0 | cons x r => exact ⟨x, r, rfl⟩
          have ha : atI (x :: r) 0 = some x := at0
          have hx := (alld_iff.mp h1) x List.mem_cons_self
          by_cases hc : x = 48
          · by_cases hr : r = []
            · subst hc; subst hr; simp [hlc3, h1, eq_strs, ne_strs, ha, hi, outS, ioOut, NumText.digitsVal]
            · have hr2 : 0 < r.length := List.length_pos_iff.mpr hr
              subst hc
              simp [hlc3, h1, eq_strs, ne_strs, ha, hi, outS, ioOut, hr2]
          · have hp := cnt_pos (r := r) (show 49 ≤ x by omega)
            have hp2 : NumText.digitsVal (x :: r) ≠ 0 := by omega
            simp [hlc3, h1, eq_strs, ne_strs, ha, hi, outS, ioOut, hc, hp2, sizeLine_eq]
    · rw [if_neg c] at hb
      subst hb
      by_cases h0 : b = []
      · subst h0
        simp [eq_strs, outS, ioOut]
      · cases h1 : alld b with
        | false => simp [eq_strs, h0, hlc3, h1, outS, ioOut, c]
        | true =>
          have hi := int_digs h0 h1 hl
          obtain ⟨x, r, rfl⟩ : ∃ x r, b = x :: r := by cases b with | nil => exact absurd rfl h0 | cons x r => exact ⟨x, r, rfl⟩
          have ha : atI (x :: r) 0 = some x := at0
          by_cases hc : x = 48
          · by_cases hr : r = []
            · subst hc; subst hr; simp [hlc3, h1, eq_strs, ne_strs, ha, hi, outS, ioOut, sizeLine_eq]
            · have hr2 : 0 < r.length := List.length_pos_iff.mpr hr
              subst hc
              simp [hlc3, h1, eq_strs, ne_strs, ha, hi, outS, ioOut, hr, hr2]
          · have c' : ¬ x = 45 := by
              have hx := (alld_iff.mp h1) x List.mem_cons_self
              omega
            simp [hlc3, h1, eq_strs, ne_strs, ha, hi, outS, ioOut, hc, c', sizeLine_eq]
  exact key (tabF [])
/-! the texts of numbers -/
def itxt (n : Int) : List Nat := (Str.ofString (toString n)).cps.toList
theorem itxt_pos (n : Nat) : itxt (n : Int) = TL.numL n := TL.tl_num n
theorem itxt_neg (n : Nat) : itxt (Int.negSucc n) = 45 :: TL.numL (n + 1) := by
  unfold itxt
  rw [PySem.Str.ofString_eq_toList, ← TL.tl_num]
  unfold TL.tl
  rw [PySem.Str.ofString_eq_toList]
  show List.map Char.toNat (toString (Int.negSucc n)).toList = 45 :: List.map Char.toNat (toString ((n + 1 : Nat) : Int)).toList
  have e : toString (Int.negSucc n) = "-" ++ toString (n + 1) := rfl
  rw [e, String.toList_append, List.map_append]
  first | done | rfl
theorem numL_head : ∀ (n : Nat), 1 ≤ n → ∃ c r, TL.numL n = c :: r ∧ 49 ≤ c := by
  intro n
  induction n using Nat.strongRecOn with
  | _ n ih =>
    intro h
    by_cases c : n < 10
    · exact ⟨48 + n, [], TL.numL_lt c, by omega⟩
    · obtain ⟨x, r, e, hx⟩ := ih (n / 10) (by omega) (by omega)
      exact ⟨x, r ++ [48 + n % 10], by rw [TL.numL_step (by omega), e]; rfl, hx⟩
theorem cnt_num (n : Nat) : cnt (TL.numL n) = some (n : Int) := by
  unfold cnt
  have h0 := TL.numL_ne n
  have h1 : alld (TL.numL n) = true := alld_iff.mpr (TL.numL_digits n)
  rw [if_neg (by rw [h1]; simp [h0]), if_neg, TL.numL_val]
  rintro ⟨e1, e2⟩
  by_cases c : n < 10
  · rw [TL.numL_lt c] at e2
    simp at e2
  · obtain ⟨x, r, e, hx⟩ := numL_head n (by omega)
    rw [e] at e1
    have : x = 48 := by simpa using e1
    omega
theorem whl_num (n : Int) : whl (itxt n) = some n := by
  cases n with
  | ofNat n =>
    show whl (itxt (n : Int)) = some (n : Int)
    unfold whl
    rw [itxt_pos, cnt_num, if_pos]
    intro e
    have h := TL.numL_digits n
    cases hn : TL.numL n with
    | nil => rw [hn] at e; cases e
    | cons c r =>
      rw [hn] at e h
      have := h c List.mem_cons_self
      have : c = 45 := by simpa using e
      omega
  | negSucc n =>
    unfold whl
    rw [itxt_neg, if_neg (by simp)]
    show (match cnt (TL.numL (n + 1)) with | none => none | some k => if k = 0 then none else some (0 - k)) = _
    rw [cnt_num]
    show (if ((n + 1 : Nat) : Int) = 0 then none else some (0 - ((n + 1 : Nat) : Int))) = _
    rw [if_neg (by omega)]
    congr 1
theorem itxt_free (n : Int) : 32 ∉ itxt n := by
  cases n with
  | ofNat n =>
    show 32 ∉ itxt (n : Int)
    rw [itxt_pos]
    exact TL.numL_free (by omega)
  | negSucc n =>
    rw [itxt_neg]
    intro h
    rcases List.mem_cons.mp h with h | h
    · omega
    · exact TL.numL_free (by omega) h
theorem itxt_len {n : Int} (h : n.natAbs < 10 ^ 30) : (itxt n).length ≤ 31 := by
  cases n with
  | ofNat n =>
    show (itxt (n : Int)).length ≤ 31
    rw [itxt_pos]
    have := TL.numL_len (n := n) (k := 30) (by omega) h
    omega
  | negSucc n =>
    rw [itxt_neg, List.length_cons]
    have := TL.numL_len (n := n + 1) (k := 30) (by omega) h
    omega
theorem log_ok {n : Int} (h : n.natAbs < 10 ^ 30) : n.natAbs.log2 < 1920 := by
  by_cases c : n.natAbs = 0
  · rw [c]; decide
  · rw [Nat.log2_lt c]
    exact Nat.lt_of_lt_of_le h (by decide +kernel)
theorem fmt_int {n : Int} (h : n.natAbs < 10 ^ 30) : fmtD (.int n) = some (.sh (.str (itxt n))) := by
  simp only [fmtD]
  rw [if_pos (log_ok h)]; rfl
theorem str_int {n : Int} (h : n.natAbs < 10 ^ 30) : biD .str [.int n] = some (.sh (.str (itxt n))) := by
  simp only [biD]
  rw [if_pos (log_ok h)]; rfl
end G77

/-! K77c: flat parts, is_deed. -/
namespace G77
open PySem PySem.Spec PyProof.Rows L2 Pv PvL
/-- a text of plain signs -/
def okT (l : List Nat) : Prop := ∀ c ∈ l, c < 128
/-- a part of a deed's tuple -/
def okP : D → Prop
  | .non => True
  | .int _ => True
  | .str l => okT l
  | _ => False
theorem strOk_of {l : List Nat} (h : okT l) : PyData.strOk (mkS l) = true := by
  unfold PyData.strOk
  rw [← Array.all_toList, List.all_eq_true]
  intro c hc
  have := h c (by simpa using hc)
  exact decide_eq_true (by omega)
theorem py_flat : ∀ ds : List D, (∀ d ∈ ds, okP d) → ∃ ps, D.py.pyL ds = some ps ∧ PyData.canLayAll0 ps = true ∧ PyData.depthAll ps = 0 ∧ (ps = [] ↔ ds = [])
  | [], _ => ⟨[], rfl, rfl, rfl, by simp⟩
  | d :: ds, h => by
    obtain ⟨ps, h1, h2, h3, h4⟩ := py_flat ds fun x hx => h x (List.mem_cons_of_mem _ hx)
    have hd := h d List.mem_cons_self
    obtain ⟨p, hp, hc, hz⟩ : ∃ p, d.py = some p ∧ PyData.canLay0 p = true ∧ PyData.depth p = 0 := by
      cases d with
      | non => exact ⟨.none, rfl, rfl, rfl⟩
      | int i => exact ⟨.int i, rfl, rfl, rfl⟩
      | str l => exact ⟨.str (mkS l), rfl, strOk_of hd, rfl⟩
      | _ => exact hd.elim
    refine ⟨p :: ps, ?_, ?_, ?_, by simp⟩
    · show (d.py).bind (fun p => (D.py.pyL ds).map (p :: ·)) = _
      rw [hp, h1]; rfl
    · show (PyData.canLay0 p && PyData.canLayAll0 ps) = true
      rw [hc, h2]; rfl
    · show max (PyData.depth p) (PyData.depthAll ps) = 0
      rw [hz, h3]; rfl
theorem shp_tup {ps : List PyData} (h1 : PyData.canLayAll0 ps = true) (h2 : PyData.depthAll ps = 0) : SeqAt.shaped (.tuple ps) = true := by
  show (PyData.canLayAll0 ps && decide (PyData.depthAll ps + 1 ≤ 64)) = true
  rw [h1, h2]; rfl
theorem shp_lst {ps : List PyData} (h1 : PyData.canLayAll0 ps = true) (h2 : PyData.depthAll ps = 0) : SeqAt.shaped (.list ps) = true := by
  show (PyData.canLayAll0 ps && decide (PyData.depthAll ps + 1 ≤ 64)) = true
  rw [h1, h2]; rfl
theorem eqt_cons {d : D} {ds : List D} (h : ∀ x ∈ d :: ds, okP x) : eqD (.tup (d :: ds)) (.tup []) = some false := by
  obtain ⟨ps, h1, h2, h3, h4⟩ := py_flat _ h
  have e1 : D.py (.tup (d :: ds)) = some (.tuple ps) := by
    show (D.py.pyL (d :: ds)).map PyData.tuple = _
    rw [h1]; rfl
  have e2 : D.py (.tup []) = some (.tuple []) := rfl
  obtain ⟨p, qs, rfl⟩ : ∃ p qs, ps = p :: qs := by
    cases ps with
    | nil => exact absurd (h4.mp rfl) (by simp)
    | cons p qs => exact ⟨p, qs, rfl⟩
  have e3 : SeqAt.shaped (.tuple []) = true := rfl
  have e4 : PyData.eqv (.tuple (p :: qs)) (.tuple []) = false := rfl
  simp only [eqD, e1, e2, shp_tup h2 h3, e3, e4]
  rfl
theorem eqt_nil : eqD (.tup []) (.tup []) = some true := by rfl
theorem eql_cons {d : D} {ds : List D} (h : ∀ x ∈ d :: ds, okP x) : eqD (.lst (d :: ds)) (.lst []) = some false := by
  obtain ⟨ps, h1, h2, h3, h4⟩ := py_flat _ h
  have e1 : D.py (.lst (d :: ds)) = some (.list ps) := by
    show (D.py.pyL (d :: ds)).map PyData.list = _
    rw [h1]; rfl
  have e2 : D.py (.lst []) = some (.list []) := rfl
  obtain ⟨p, qs, rfl⟩ : ∃ p qs, ps = p :: qs := by
    cases ps with
    | nil => exact absurd (h4.mp rfl) (by simp)
    | cons p qs => exact ⟨p, qs, rfl⟩
  have e3 : SeqAt.shaped (.list []) = true := rfl
  have e4 : PyData.eqv (.list (p :: qs)) (.list []) = false := rfl
  simp only [eqD, e1, e2, shp_lst h2 h3, e3, e4]
  rfl
theorem eql_nil : eqD (.lst []) (.lst []) = some true := by rfl
theorem mkS_beq' {a b : List Nat} : (mkS a == mkS b) = decide (a = b) := by
  rw [Bool.beq_eq_decide_eq]
  by_cases c : a = b
  · rw [decide_eq_true (by rw [c]), decide_eq_true c]
  · rw [decide_eq_false, decide_eq_false c]
    intro e
    have := congrArg (fun s : Str => s.cps.toList) e
    exact c (by simpa using this)
theorem eql_one {ws : List (List Nat)} {p : List Nat} (h : ∀ w ∈ ws, okT w) (hp : okT p) : eqD (.lst (ws.map .str)) (.lst [.str p]) = some (decide (ws = [p])) := by
  have hf : ∀ d ∈ ws.map D.str, okP d := by
    intro d hd
    obtain ⟨w, hw, rfl⟩ := List.mem_map.mp hd
    exact h w hw
  obtain ⟨ps, h1, h2, h3, h4⟩ := py_flat _ hf
  have e1 : D.py (.lst (ws.map .str)) = some (.list ps) := by
    show (D.py.pyL (ws.map .str)).map PyData.list = _
    rw [h1]; rfl
  have e2 : D.py (.lst [.str p]) = some (.list [.str (mkS p)]) := rfl
  have e3 : SeqAt.shaped (.list [.str (mkS p)]) = true := shp_lst (by show (PyData.strOk (mkS p) && true) = true; rw [strOk_of hp]; rfl) rfl
  have e4 : PyData.eqv (.list ps) (.list [.str (mkS p)]) = decide (ws = [p]) := by
    show PyData.eqvAll ps [.str (mkS p)] = _
    cases ws with
    | nil =>
      have e : ps = [] := h4.mpr rfl
      rw [e]; rfl
    | cons w ws =>
      cases ws with
      | nil =>
        have e : some [PyData.str (mkS w)] = some ps := h1
        cases e
        show (mkS w == mkS p && true) = _
        rw [mkS_beq', Bool.and_true]
        simp
      | cons x xs =>
        cases hx : D.py.pyL (xs.map .str) with
        | none =>
          have e : (none : Option (List PyData)) = some ps := by
            rw [← h1]
            show _ = (some (PyData.str (mkS w))).bind fun q => (((some (PyData.str (mkS x))).bind fun q => (D.py.pyL (xs.map .str)).map (q :: ·))).map (q :: ·)
            rw [hx]; rfl
          cases e
        | some qs =>
          have e : some (PyData.str (mkS w) :: PyData.str (mkS x) :: qs) = some ps := by
            rw [← h1]
            show _ = (some (PyData.str (mkS w))).bind fun q => (((some (PyData.str (mkS x))).bind fun q => (D.py.pyL (xs.map .str)).map (q :: ·))).map (q :: ·)
            rw [hx]; rfl
          cases e
          show (mkS w == mkS p && false) = _
          rw [Bool.and_false]
          simp
  have e5 : eqD (.lst (ws.map .str)) (.lst [.str p]) = match D.py (.lst (ws.map .str)), D.py (.lst [.str p]) with
    | some p, some q => if SeqAt.shaped p && SeqAt.shaped q then some (PyData.eqv p q) else none
    | _, _ => none := rfl
  rw [e5, e1, e2]
  show (if (SeqAt.shaped (.list ps) && SeqAt.shaped (.list [.str (mkS p)])) = true then some (PyData.eqv (.list ps) (.list [.str (mkS p)])) else none) = _
  rw [shp_lst h2 h3, e3, e4]
  rfl
/-! is_deed -/
def isW : D → Bool
  | .int _ => true
  | _ => false
abbrev sLeft : List Nat := [108, 101, 102, 116]
abbrev sRight : List Nat := [114, 105, 103, 104, 116]
abbrev sPrune : List Nat := [112, 114, 117, 110, 101]
abbrev sGrow : List Nat := [103, 114, 111, 119]
abbrev sTurn : List Nat := [116, 117, 114, 110]
abbrev sShrink : List Nat := [115, 104, 114, 105, 110, 107]
abbrev sSwap : List Nat := [115, 119, 97, 112]
def isSd : D → Bool
  | .str s => decide (s = sLeft) || decide (s = sRight)
  | _ => false
theorem run_isW (d : D) : f_is_whole.run [d] = .sh (.bl (isW d)) .non := by
  have key : ∀ T : String → Fn, outS false (evB T b_is_whole [.sh d]) = .sh (.bl (isW d)) .non := by
    intro T
    cases d <;> simp [b_is_whole, isiD, outS, ioOut, isW]
  exact key (tabF [])
theorem in_ft2 {s a b : List Nat} : cmpD .In (.str s) (.ft [.str a, .str b]) = some (decide (s = a) || decide (s = b)) := by
  show some ([D.str a, D.str b].any fun y => eqF y (.str s)) = _
  show some ((a == s) || ((b == s) || false)) = _
  rw [Bool.or_false, Bool.beq_eq_decide_eq, Bool.beq_eq_decide_eq, decide_eq_decide.mpr (eq_comm (a := a)), decide_eq_decide.mpr (eq_comm (a := b))]
theorem in_tup2 {s a b : List Nat} : cmpD .In (.str s) (.tup [.str a, .str b]) = some (decide (s = a) || decide (s = b)) := by
  show some ([D.str a, D.str b].any fun y => eqF y (.str s)) = _
  show some ((a == s) || ((b == s) || false)) = _
  rw [Bool.or_false, Bool.beq_eq_decide_eq, Bool.beq_eq_decide_eq, decide_eq_decide.mpr (eq_comm (a := a)), decide_eq_decide.mpr (eq_comm (a := b))]
theorem run_isSd (d : D) : f_is_side.run [d] = .sh (.bl (isSd d)) .non := by
  have key : ∀ T : String → Fn, outS false (evB T b_is_side [.sh d]) = .sh (.bl (isSd d)) .non := by
    intro T
    cases d <;> simp [b_is_side, isiD, outS, ioOut, isSd, in_ft2]
  exact key (tabF [])
theorem run_tupOf (l : List D) (n : Int) : f_is_tuple_of.run [.tup l, .int n] = .sh (.bl (decide ((l.length : Int) = n))) .non := by
  have key : ∀ T : String → Fn, outS false (evB T b_is_tuple_of [.sh (.tup l), .sh (.int n)]) = .sh (.bl (decide ((l.length : Int) = n))) .non := by
    intro T
    simp [b_is_tuple_of, isiD, outS, ioOut]
  exact key (tabF [])
def deed3 : List D → Bool
  | [a, b] => isW a && isSd b
  | _ => false
def deed2 : List D → Bool
  | [a] => isW a
  | _ => false
def deedB (w : List Nat) (ds : List D) : Bool :=
  if w = sPrune then decide (ds.length = 0)
  else if w = sGrow ∨ w = sTurn then deed3 ds
  else if w = sShrink ∨ w = sSwap then deed2 ds
  else false
theorem at1 {α : Type} {c d : α} {r : List α} : atI (c :: d :: r) 1 = some d := by
  unfold atI ixN
  simp
  first | rfl | (rw [if_pos (by omega)]; rfl)
theorem at2 {α : Type} {c d e : α} {r : List α} : atI (c :: d :: e :: r) 2 = some e := by
  unfold atI ixN
  simp
  first | rfl | (rw [if_pos (by omega)]; rfl)
theorem run_deed {w : List Nat} {ds : List D} (hq : eqD (.tup (.str w :: ds)) (.tup []) = some false) : f_is_deed.run [.tup (.str w :: ds)] = .sh (.bl (deedB w ds)) .non := by
  have key : ∀ T : String → Fn, T "is_tuple_of" = ⟨false, f_is_tuple_of.run⟩ → T "is_whole" = ⟨false, f_is_whole.run⟩ → T "is_side" = ⟨false, f_is_side.run⟩ →
      outS false (evB T b_is_deed [.sh (.tup (.str w :: ds))]) = .sh (.bl (deedB w ds)) .non := by
    intro T hT1 hT2 hT3
    have ha : atI (D.str w :: ds) 0 = some (.str w) := at0
    have hq2 : cmpD .Eq (.tup (.str w :: ds)) (.tup []) = some false := hq
    have ht := run_tupOf (.str w :: ds)
    unfold b_is_deed deedB
    by_cases c1 : w = sPrune
    · have : decide ((ds.length : Int) + 1 = 1) = decide (ds = []) := by
        cases ds <;> simp; omega
      subst c1
      simp [isiD, hq2, ha, eq_strs, outS, ioOut, this]
    · by_cases c2 : w = sGrow ∨ w = sTurn
      · have i2 : cmpD .In (.str w) (.ft [.str sGrow, .str sTurn]) = some true := by
          rw [in_ft2]
          rcases c2 with rfl | rfl <;> rfl
        rw [if_neg c1, if_pos c2]
        by_cases c3 : ∃ a b, ds = [a, b]
        · obtain ⟨a, b, rfl⟩ := c3
          have h1 : atI (D.str w :: [a, b]) 1 = some a := at1
          have h2 : atI (D.str w :: [a, b]) 2 = some b := at2
          have ha : atI (D.str w :: [a, b]) 0 = some (.str w) := at0
          cases hw : isW a <;> simp [isiD, hq2, ha, h1, h2, eq_strs, c1, i2, hT1, hT2, hT3, callF, ht, run_isW, run_isSd, hw, outS, ioOut, deed3]
        · have h3 : decide ((((D.str w :: ds).length : Nat) : Int) = 3) = false := by
            refine decide_eq_false fun e => c3 ?_
            match ds with
            | [] => simp at e
            | [_] => simp at e
            | [a, b] => exact ⟨a, b, rfl⟩
            | _ :: _ :: _ :: _ => simp at e; omega
          have hv : deed3 ds = false := by
            match ds with
            | [] => rfl
            | [_] => rfl
            | [a, b] => exact absurd ⟨a, b, rfl⟩ c3
            | _ :: _ :: _ :: _ => rfl
          have ht3 : f_is_tuple_of.run [.tup (.str w :: ds), .int 3] = .sh (.bl false) .non := by rw [ht, h3]
          rw [hv]
          simp [isiD, hq2, ha, eq_strs, c1, i2, hT1, callF, ht3, outS, ioOut]
      · have i2 : cmpD .In (.str w) (.ft [.str sGrow, .str sTurn]) = some false := by
          rw [in_ft2]
          rw [not_or] at c2
          rw [decide_eq_false c2.1, decide_eq_false c2.2]; rfl
        rw [if_neg c1, if_neg c2]
        by_cases c4 : w = sShrink ∨ w = sSwap
        · have i4 : cmpD .In (.str w) (.ft [.str sShrink, .str sSwap]) = some true := by
            rw [in_ft2]
            rcases c4 with rfl | rfl <;> rfl
          rw [if_pos c4]
          by_cases c3 : ∃ a, ds = [a]
          · obtain ⟨a, rfl⟩ := c3
            have h1 : atI (D.str w :: [a]) 1 = some a := at1
            have ha : atI (D.str w :: [a]) 0 = some (.str w) := at0
            simp [isiD, hq2, ha, h1, eq_strs, c1, i2, i4, hT1, hT2, callF, ht, run_isW, outS, ioOut, deed2]
          · have h3 : decide ((((D.str w :: ds).length : Nat) : Int) = 2) = false := by
              refine decide_eq_false fun e => c3 ?_
              match ds with
              | [] => simp at e
              | [a] => exact ⟨a, rfl⟩
              | _ :: _ :: _ => simp at e; omega
            have hv : deed2 ds = false := by
              match ds with
              | [] => rfl
              | [a] => exact absurd ⟨a, rfl⟩ c3
              | _ :: _ :: _ => rfl
            have ht3 : f_is_tuple_of.run [.tup (.str w :: ds), .int 2] = .sh (.bl false) .non := by rw [ht, h3]
            rw [hv]
            simp [isiD, hq2, ha, eq_strs, c1, i2, i4, hT1, callF, ht3, outS, ioOut]
        · have i4 : cmpD .In (.str w) (.ft [.str sShrink, .str sSwap]) = some false := by
            rw [in_ft2]
            rw [not_or] at c4
            rw [decide_eq_false c4.1, decide_eq_false c4.2]; rfl
          rw [if_neg c4]
          simp [isiD, hq2, ha, eq_strs, c1, i2, i4, outS, ioOut]
  exact key (tabF [("is_tuple_of", f_is_tuple_of), ("is_whole", f_is_whole), ("is_side", f_is_side)]) rfl rfl rfl
end G77

/-! K77d: texts that are read. -/
namespace G77
open PySem PySem.Spec PyProof.Rows L2 Pv PvL
theorem pre32 {c : Nat} {r : List Nat} : TL.pre [32] (c :: r) = decide (c = 32) := by
  show (([c] : List Nat) == [32]) = _
  rw [Bool.beq_eq_decide_eq]
  simp
theorem spl_all : ∀ (l acc : List Nat), (∀ w ∈ TL.spl [32] 0 acc l, ∀ c ∈ w, c ∈ acc ∨ c ∈ l) ∧ ((TL.spl [32] 0 acc l).map List.length).sum + (TL.spl [32] 0 acc l).length = acc.length + l.length + 1 ∧ TL.spl [32] 0 acc l ≠ []
  | [], acc => by
    rw [TL.spl_nil]
    refine ⟨fun w hw c hc => ?_, by simp, by simp⟩
    rw [List.mem_singleton] at hw
    subst hw
    exact .inl hc
  | c :: r, acc => by
    by_cases h : c = 32
    · have hp : TL.pre [32] (c :: r) = true := by rw [pre32]; exact decide_eq_true h
      obtain ⟨i1, i2, i3⟩ := spl_all r []
      have e : TL.spl [32] ([32].length - 1) [] r = TL.spl [32] 0 [] r := rfl
      rw [TL.spl_hit hp, e]
      refine ⟨fun w hw x hx => ?_, ?_, by simp⟩
      · rcases List.mem_cons.mp hw with rfl | hw
        · exact .inl hx
        · rcases i1 w hw x hx with h | h
          · cases h
          · exact .inr (List.mem_cons_of_mem _ h)
      · simp only [List.map_cons, List.sum_cons, List.length_cons]
        simp only [List.length_nil] at i2
        omega
    · have hp : TL.pre [32] (c :: r) = false := by rw [pre32]; exact decide_eq_false h
      obtain ⟨i1, i2, i3⟩ := spl_all r (acc ++ [c])
      rw [TL.spl_miss hp]
      refine ⟨fun w hw x hx => ?_, ?_, i3⟩
      · rcases i1 w hw x hx with h | h
        · rcases List.mem_append.mp h with h | h
          · exact .inl h
          · rw [List.mem_singleton] at h
            rw [h]
            exact .inr List.mem_cons_self
        · exact .inr (List.mem_cons_of_mem _ h)
      · rw [i2, List.length_append, List.length_singleton, List.length_cons]
        omega
def wds (t : List Nat) : List (List Nat) := TL.spl [32] 0 [] t
theorem len_sum {w : List Nat} : ∀ {ws : List (List Nat)}, w ∈ ws → w.length ≤ (ws.map List.length).sum
  | x :: ws, h => by
    rw [List.map_cons, List.sum_cons]
    rcases List.mem_cons.mp h with rfl | h
    · omega
    · have := len_sum h
      omega
theorem wds_ok {t : List Nat} (h : okT t) : ∀ w ∈ wds t, okT w ∧ w.length ≤ t.length := by
  obtain ⟨i1, i2, i3⟩ := spl_all t []
  intro w hw
  refine ⟨fun c hc => ?_, ?_⟩
  · rcases i1 w hw c hc with h' | h'
    · cases h'
    · exact h c h'
  · have h1 := len_sum hw
    have h2 : 1 ≤ (wds t).length := List.length_pos_iff.mpr i3
    have i2 : ((wds t).map List.length).sum + (wds t).length = 0 + t.length + 1 := i2
    omega
theorem wds_len (t : List Nat) : ((wds t).map List.length).sum + (wds t).length = t.length + 1 := by
  have i2 : ((wds t).map List.length).sum + (wds t).length = 0 + t.length + 1 := (spl_all t []).2.1
  omega
theorem met_split {t : List Nat} (hl : t.length ≤ 640) : metD .split (.str t) [.str [32]] = some (.ow (.lst ((wds t).map .str))) := by
  simp only [metD]
  rw [if_pos ⟨by decide, by rw [sizeLine_eq]; omega⟩]; rfl
/-! numbered words -/
def num : Nat → List (List Nat) → List (Nat × List Nat)
  | _, [] => []
  | n, w :: ws => (n, w) :: num (n + 1) ws
theorem numD_num : ∀ (n : Nat) (ws : List (List Nat)), numD n (ws.map .str) = (num n ws).map fun q => .tup [.int q.1, .str q.2]
  | _, [] => rfl
  | n, w :: ws => by
    show D.tup [.int n, .str w] :: numD (n + 1) (ws.map .str) = _
    rw [numD_num]; rfl
def tellP (q : Nat × List Nat) : D := if q.1 = 1 then oD (whl q.2) else .str q.2
theorem num_tail : ∀ (n : Nat) (ws : List (List Nat)), 2 ≤ n → (num n ws).map tellP = ws.map .str
  | _, [], _ => rfl
  | n, w :: ws, h => by
    show tellP (n, w) :: (num (n + 1) ws).map tellP = _
    rw [num_tail (n + 1) ws (by omega)]
    unfold tellP
    rw [if_neg (by show ¬ n = 1; omega)]; rfl
def tl1 : List (List Nat) → List D
  | [] => []
  | w :: r => oD (whl w) :: r.map .str
theorem num_told (w : List Nat) (r : List (List Nat)) : (num 0 (w :: r)).map tellP = .str w :: tl1 r := by
  cases r with
  | nil => rfl
  | cons x r =>
    show tellP (0, w) :: tellP (1, x) :: (num 2 r).map tellP = _
    rw [num_tail 2 r (by omega)]; rfl
theorem num_mem : ∀ {n : Nat} {ws : List (List Nat)} {q : Nat × List Nat}, q ∈ num n ws → q.2 ∈ ws
  | n, w :: ws, q, h => by
    rcases List.mem_cons.mp h with rfl | h
    · exact List.mem_cons_self
    · exact List.mem_cons_of_mem _ (num_mem h)
theorem num_len : ∀ (n : Nat) (ws : List (List Nat)), (num n ws).length = ws.length
  | _, [] => rfl
  | n, w :: ws => by
    show (num (n + 1) ws).length + 1 = _
    rw [num_len]; rfl
theorem okP_o {o : Option Int} : okP (oD o) := by cases o <;> trivial
theorem okP_tl {w : List Nat} {r : List (List Nat)} (h : ∀ x ∈ w :: r, okT x) : ∀ d ∈ D.str w :: tl1 r, okP d := by
  intro d hd
  rcases List.mem_cons.mp hd with rfl | hd
  · exact h w List.mem_cons_self
  · cases r with
    | nil => cases hd
    | cons x r =>
      rcases List.mem_cons.mp hd with rfl | hd
      · exact okP_o
      · obtain ⟨y, hy, rfl⟩ := List.mem_map.mp hd
        exact h y (List.mem_cons_of_mem _ (List.mem_cons_of_mem _ hy))
def rd : List (List Nat) → Option (List D)
  | [] => none
  | w :: r => if deedB w (tl1 r) = true then some (.str w :: tl1 r) else none
def oT : Option (List D) → D
  | none => .non
  | some l => .tup l
theorem run_dot {t : List Nat} (h : okT t) (hl : t.length ≤ 640) : f_deed_of_text.run [.str t] = .sh (oT (rd (wds t))) .non := by
  have key : ∀ T : String → Fn, T "whole_told" = ⟨false, f_whole_told.run⟩ → T "is_deed" = ⟨false, f_is_deed.run⟩ →
      outS false (evB T b_deed_of_text [.sh (.str t), .no, .no, .no, .no]) = .sh (oT (rd (wds t))) .non := by
    intro T hT1 hT2
    have hws := wds_ok h
    have hne : wds t ≠ [] := (spl_all t []).2.2
    have hlen := wds_len t
    obtain ⟨ws, hw⟩ : ∃ ws, ws = wds t := ⟨_, rfl⟩
    have hs := met_split hl
    rw [← hw] at hws hne hlen hs ⊢
    have hz : ws.length ≤ sizeLine := by rw [sizeLine_eq]; omega
    have hlc : evE T (.lc [3, 4] (.ife (.cmp .Eq (.var 3) (.glo "PLACE_OF_NUMBER" (.int 1))) (.call "whole_told" [(.var 4)]) (.var 4)) (.tup [(.nm 3), (.nm 4)]) (.enm (.var 1)) []) [.sh (.str t), .ow (.lst (ws.map .str)), .no, .no, .no] =
        .ok (.ow (.lst ((num 0 ws).map tellP))) [.sh (.str t), .sh (.lst (ws.map .str)), .no, .no, .no] := by
      have hi : evI T (.enm (.var 1)) [.sh (.str t), .ow (.lst (ws.map .str)), .no, .no, .no] = .ok ((num 0 ws).map fun q => .tup [.int q.1, .str q.2]) [.sh (.str t), .sh (.lst (ws.map .str)), .no, .no, .no] := by
        rw [← numD_num]; rfl
      rw [e_lc, hi, Rs.bind_ok]
      rw [show wipeE [.sh (.str t), .sh (.lst (ws.map .str)), .no, .no, .no] [3, 4] = [.sh (.str t), .sh (.lst (ws.map .str)), .no, .no, .no] from rfl]
      rw [lc_mapM (ew := [.sh (.str t), .sh (.lst (ws.map .str)), .no, .no, .no]) (fun q : Nat × List Nat => .tup [.int q.1, .str q.2]) tellP (fun q => [.sh (.str t), .sh (.lst (ws.map .str)), .no, .sh (.int q.1), .sh (.str q.2)])]
      · have hz2 : ([] ++ (num 0 ws).map tellP).length ≤ sizeLine := by rw [List.nil_append, List.length_map, num_len]; exact hz
        simp only [if_pos hz2]
        rfl
      · intro q hq
        refine ⟨by simp, ⟨.sh (tellP q), ?_, rfl⟩, by simp [wipeE]⟩
        have hr := run_whole (w := q.2) (by have := (hws _ (num_mem hq)).2; omega)
        unfold tellP
        by_cases c : q.1 = 1
        · have c' : ((q.1 : Nat) : Int) = 1 := by omega
          rw [if_pos c]
          simp [c', hT1, callF, hr]
        · have c' : ¬ ((q.1 : Nat) : Int) = 1 := by omega
          rw [if_neg c]
          simp [c']
    obtain ⟨w, r, rfl⟩ : ∃ w r, ws = w :: r := by cases ws with | nil => exact absurd rfl hne | cons w r => exact ⟨w, r, rfl⟩
    rw [num_told] at hlc
    have hd := run_deed (eqt_cons (okP_tl fun x hx => (hws x hx).1))
    unfold b_deed_of_text
    revert hlc
    generalize (Ex.lc [3, 4] (.ife (.cmp .Eq (.var 3) (.glo "PLACE_OF_NUMBER" (.int 1))) (.call "whole_told" [(.var 4)]) (.var 4)) (.tup [(.nm 3), (.nm 4)]) (.enm (.var 1)) []) = E
    intro hlc
    generalize (w :: r).map D.str = L at hs hlc
    unfold rd
    have hsv : ∀ e : En, strV (.sh (.str t)) e = true := fun _ => rfl
    cases hb : deedB w (tl1 r) with
    | true =>
      rw [hb] at hd
      simp [isiD, hs, hsv, hlc, hT2, callF, hd, outS, ioOut, oT, hb]
    | false =>
      rw [hb] at hd
      simp [isiD, hs, hsv, hlc, hT2, callF, hd, outS, ioOut, oT, hb]
  exact key (tabF [("whole_told", f_whole_told), ("is_deed", f_is_deed)]) rfl rfl
theorem run_dot_no {d : D} (h : ∀ l, d ≠ .str l) : f_deed_of_text.run [d] = .sh .non .non := by
  have key : ∀ T : String → Fn, outS false (evB T b_deed_of_text [.sh d, .no, .no, .no, .no]) = .sh .non .non := by
    intro T
    cases d <;> first | (exact absurd rfl (h _)) | simp [b_deed_of_text, isiD, outS, ioOut]
  exact key (tabF [("whole_told", f_whole_told), ("is_deed", f_is_deed)])
theorem s_rs {T : String → Fn} {k : String} {e : Ex} {env : En} : evS T (.rs k e) env = (evE T e env).toS fun v e1 => match fz v e1 with
    | some (d, e2) => .ex k d e2
    | none => .stuck := nr rfl
theorem run_check {d x : D} : f_check_told.run [d, x] = match d with
    | .non => .ex "InvalidText" x .non
    | _ => .sh .non .non := by
  have key : ∀ T : String → Fn, outS false (evB T b_check_told [.sh d, .sh x]) = match d with
    | .non => .ex "InvalidText" x .non
    | _ => .sh .non .non := by
    intro T
    cases d <;> simp [b_check_told, s_rs, outS, ioOut]
  exact key (tabF [])
def rdF (x : D) : Option (List D) → FR
  | none => .ex "InvalidText" x .non
  | some l => .sh (.tup l) .non
theorem run_read_of {d : D} {o : Option (List D)} (h : f_deed_of_text.run [d] = .sh (oT o) .non) : f_read_deed.run [d] = rdF d o := by
  have key : ∀ T : String → Fn, T "deed_of_text" = ⟨false, f_deed_of_text.run⟩ → T "check_told" = ⟨false, f_check_told.run⟩ →
      outS false (evB T b_read_deed [.sh d, .no]) = rdF d o := by
    intro T hT1 hT2
    cases o with
    | none => simp [b_read_deed, hT1, hT2, callF, h, run_check, outS, ioOut, oT, rdF]
    | some l => simp [b_read_deed, hT1, hT2, callF, h, run_check, outS, ioOut, oT, rdF]
  exact key (tabF [("deed_of_text", f_deed_of_text), ("check_told", f_check_told)]) rfl rfl
theorem run_read {t : List Nat} (h : okT t) (hl : t.length ≤ 640) : f_read_deed.run [.str t] = rdF (.str t) (rd (wds t)) := run_read_of (run_dot h hl)
theorem run_read_no {d : D} (h : ∀ l, d ≠ .str l) : f_read_deed.run [d] = .ex "InvalidText" d .non := run_read_of (o := none) (run_dot_no h)
end G77

/-! K77e: _law_read; deeds and their texts. -/
namespace G77
open PySem PySem.Spec PyProof.Rows L2 Pv PvL
def rdL (o : Option (List D)) : List D := match o with
  | none => []
  | some l => l
theorem cmp_lst {a b : List D} {o : Option Bool} (h : eqD (.lst a) (.lst b) = o) : cmpD .Eq (.lst a) (.lst b) = o := h
theorem wl_none {w : List Nat} (h : whl w = none) : wl w = [] := by unfold wl; rw [h]
theorem wl_some {w : List Nat} {n : Int} (h : whl w = some n) : wl w = [.int n] := by unfold wl; rw [h]
theorem in_w {w a b : List Nat} {x : Bool} (h : x = (decide (w = a) || decide (w = b))) : cmpD .In (.str w) (.tup [.str a, .str b]) = some x := by rw [h]; exact in_tup2
theorem run_Lread {t : List Nat} (h : okT t) (hl : t.length ≤ 640) : f_L_read.run [.str t] = .sh (.tup (rdL (rd (wds t)))) .non := by
  have key : ∀ T : String → Fn, T "_law_whole" = ⟨false, f_L_whole.run⟩ → outS false (evB T b_L_read [.sh (.str t), .no, .no]) = .sh (.tup (rdL (rd (wds t)))) .non := by
    intro T hT
    have hws := wds_ok h
    have hne : wds t ≠ [] := (spl_all t []).2.2
    have hlen := wds_len t
    have hs := met_split hl
    have hq := eql_one (ws := wds t) (p := sPrune) (fun w hw => (hws w hw).1) (by show ∀ c ∈ sPrune, c < 128; decide)
    generalize wds t = ws at hws hne hlen hs hq ⊢
    have hsv : ∀ e : En, strV (.sh (.str t)) e = true := fun _ => rfl
    have hq := cmp_lst hq
    have hn := cmp_lst eql_nil
    have h1 : evS T (.asg (.nm 1) (.met .split (.var 0) [(.con (.str [32]))])) [.sh (.str t), .no, .no] = .nx [.sh (.str t), .ow (.lst (ws.map .str)), .no] := by
      simp [hs, hsv]
    unfold b_L_read
    rw [b_cons, h1]
    match ws, hws, hne, hlen, hs, hq with
    | [w], hws, _, _, _, hq =>
      have hq : cmpD .Eq (.lst [.str w]) (.lst [.str sPrune]) = some (decide (w = sPrune)) := by rw [show [D.str w] = [w].map D.str from rfl, hq]; simp
      have e : rd [w] = if w = sPrune then some [.str w] else none := by
        have e0 : rd [w] = if deedB w [] = true then some [.str w] else none := rfl
        rw [e0]
        have e3 : deed3 [] = false := rfl
        have e2 : deed2 [] = false := rfl
        unfold deedB
        rw [e3, e2]
        by_cases c : w = sPrune
        · simp [c]
        · simp [c]
      rw [e]
      by_cases c : w = sPrune
      · subst c
        simp [hq, sizeLine_eq, outS, ioOut, rdL]
      · simp [hq, c, hn, sizeLine_eq, outS, ioOut, rdL]
    | w :: x :: r, hws, _, hlen, _, hq =>
      have hq : cmpD .Eq (.lst (.str w :: .str x :: r.map .str)) (.lst [.str sPrune]) = some false := by
        rw [show (D.str w :: D.str x :: r.map .str) = (w :: x :: r).map D.str from rfl, hq]; simp
      have hr := run_Lwhole (w := x) (by have := (hws x (by simp)).2; omega)
      have a0 : atI (D.str w :: D.str x :: r.map .str) 0 = some (.str w) := at0
      have a1 : atI (D.str w :: D.str x :: r.map .str) 1 = some (.str x) := at1
      have hgt : (1 : Int) < ((r.length : Int) + 1 + 1) := by omega
      have e : rd (w :: x :: r) = if deedB w (oD (whl x) :: r.map .str) = true then some (.str w :: oD (whl x) :: r.map .str) else none := rfl
      rw [e]
      cases hx : whl x with
      | none =>
        rw [wl_none hx] at hr
        have e1 : deedB w (oD none :: r.map .str) = false := by
          unfold deedB
          split
          · rfl
          · split
            · cases r with
              | nil => rfl
              | cons y r => cases r <;> rfl
            · split
              · cases r <;> rfl
              · rfl
        rw [e1]
        simp [hq, a1, hT, callF, hr, hn, hgt, sizeLine_eq, outS, ioOut, rdL]
      | some n =>
        rw [wl_some hx] at hr
        have hc := cmp_lst (eql_cons (d := .int n) (ds := []) (by intro y hy; rw [List.mem_singleton] at hy; subst hy; trivial))
        have b0 : atI [D.int n] 0 = some (.int n) := at0
        unfold deedB
        by_cases c1 : w = sPrune
        · subst c1
          simp [hq, a0, a1, b0, hT, callF, hr, hc, hgt, in_tup2, sizeLine_eq, outS, ioOut, rdL]
        · by_cases c2 : w = sGrow ∨ w = sTurn
          · have c4 : ¬ (w = sShrink ∨ w = sSwap) := by
              rcases c2 with rfl | rfl <;> decide
            have i2 := in_w (w := w) (a := sGrow) (b := sTurn) (x := true) (by rcases c2 with rfl | rfl <;> rfl)
            have i4 := in_w (w := w) (a := sShrink) (b := sSwap) (x := false) (by rcases c2 with rfl | rfl <;> rfl)
            rw [if_neg c1, if_pos c2]
            match r, hgt, hws, hlen, hq, a0, a1 with
            | [], hgt, hws, hlen, hq, a0, a1 =>
              have a0 : atI [D.str w, .str x] 0 = some (.str w) := at0
              have a1 : atI [D.str w, .str x] 1 = some (.str x) := at1
              have hq : cmpD .Eq (.lst [.str w, .str x]) (.lst [.str sPrune]) = some false := hq
              simp [hq, a0, a1, b0, hT, callF, hr, hc, hgt, i2, i4, sizeLine_eq, outS, ioOut, rdL, deed3]
            | [y], hgt, hws, hlen, hq, a0, a1 =>
              have a2 : atI [D.str w, .str x, .str y] 2 = some (.str y) := at2
              have hq : cmpD .Eq (.lst [.str w, .str x, .str y]) (.lst [.str sPrune]) = some false := hq
              have a0 : atI [D.str w, .str x, .str y] 0 = some (.str w) := at0
              have a1 : atI [D.str w, .str x, .str y] 1 = some (.str x) := at1
              by_cases c5 : y = sLeft
              · subst c5
                simp [hq, a0, a1, a2, b0, hT, callF, hr, hc, i2, i4, in_tup2, sizeLine_eq, outS, ioOut, rdL, deed3, isW, isSd, oD]
              · by_cases c6 : y = sRight
                · subst c6
                  simp [hq, a0, a1, a2, b0, hT, callF, hr, hc, i2, i4, in_tup2, sizeLine_eq, outS, ioOut, rdL, deed3, isW, isSd, oD]
                · simp [hq, a0, a1, a2, b0, hT, callF, hr, hc, i2, i4, in_tup2, sizeLine_eq, outS, ioOut, rdL, deed3, isW, isSd, oD, c5, c6]
            | y :: z :: r, hgt, hws, hlen, hq, a0, a1 =>
              have h3 : ¬ ((r.length : Int) + 1 + 1 + 1 + 1 = 3) := by omega
              have h4 : ¬ ((r.length : Int) + 1 + 1 + 1 + 1 = 2) := by omega
              have hgt : (1 : Int) < ((r.length : Int) + 1 + 1 + 1 + 1) := by omega
              have a0 : atI (D.str w :: .str x :: .str y :: .str z :: r.map .str) 0 = some (.str w) := at0
              have a1 : atI (D.str w :: .str x :: .str y :: .str z :: r.map .str) 1 = some (.str x) := at1
              have hq : cmpD .Eq (.lst (.str w :: .str x :: .str y :: .str z :: r.map .str)) (.lst [.str sPrune]) = some false := hq
              simp [hq, a0, a1, b0, hT, callF, hr, hc, hgt, h3, h4, i2, i4, sizeLine_eq, outS, ioOut, rdL, deed3]
          · rw [if_neg c1, if_neg c2]
            have i2 := in_w (w := w) (a := sGrow) (b := sTurn) (x := false) (by rw [not_or] at c2; rw [decide_eq_false c2.1, decide_eq_false c2.2]; rfl)
            by_cases c4 : w = sShrink ∨ w = sSwap
            · have i4 := in_w (w := w) (a := sShrink) (b := sSwap) (x := true) (by rcases c4 with rfl | rfl <;> rfl)
              rw [if_pos c4]
              match r, hgt, hq, a0, a1 with
              | [], hgt, hq, a0, a1 =>
                have hq : cmpD .Eq (.lst [.str w, .str x]) (.lst [.str sPrune]) = some false := hq
                have a0 : atI [D.str w, .str x] 0 = some (.str w) := at0
                have a1 : atI [D.str w, .str x] 1 = some (.str x) := at1
                simp [hq, a0, a1, b0, hT, callF, hr, hc, i2, i4, sizeLine_eq, outS, ioOut, rdL, deed2, isW, oD]
              | y :: r, hgt, hq, a0, a1 =>
                have h4 : ¬ ((r.length : Int) + 1 + 1 + 1 = 2) := by omega
                have hgt : (1 : Int) < ((r.length : Int) + 1 + 1 + 1) := by omega
                have a0 : atI (D.str w :: .str x :: .str y :: r.map .str) 0 = some (.str w) := at0
                have a1 : atI (D.str w :: .str x :: .str y :: r.map .str) 1 = some (.str x) := at1
                have hq : cmpD .Eq (.lst (.str w :: .str x :: .str y :: r.map .str)) (.lst [.str sPrune]) = some false := hq
                simp [hq, a0, a1, b0, hT, callF, hr, hc, hgt, h4, i2, i4, sizeLine_eq, outS, ioOut, rdL, deed2]
            · have i4 := in_w (w := w) (a := sShrink) (b := sSwap) (x := false) (by rw [not_or] at c4; rw [decide_eq_false c4.1, decide_eq_false c4.2]; rfl)
              rw [if_neg c4]
              simp [hq, a0, a1, b0, hT, callF, hr, hc, hgt, i2, i4, sizeLine_eq, outS, ioOut, rdL]
  exact key (tabF [("_law_whole", f_L_whole)]) rfl
end G77

/-! K77f: deeds and their texts; what is no deed. -/
namespace G77
open PySem PySem.Spec PyProof.Rows L2 Pv PvL
def IsDeed (ds : List D) : Prop := ds = [.str sPrune] ∨ (∃ (k : List Nat) (n : Int), (k = sShrink ∨ k = sSwap) ∧ n.natAbs < 10 ^ 30 ∧ ds = [.str k, .int n]) ∨
  (∃ (k : List Nat) (n : Int) (s : List Nat), (k = sGrow ∨ k = sTurn) ∧ (s = sLeft ∨ s = sRight) ∧ n.natAbs < 10 ^ 30 ∧ ds = [.str k, .int n, .str s])
def partT : D → List Nat
  | .str s => s
  | .int n => itxt n
  | _ => []
/-- a part that is written -/
def okW : D → Prop
  | .str s => 32 ∉ s ∧ okT s ∧ s.length ≤ 6
  | .int n => n.natAbs < 10 ^ 30
  | _ => False
theorem okW_k {k : List Nat} (h : k = sPrune ∨ k = sShrink ∨ k = sSwap ∨ k = sGrow ∨ k = sTurn ∨ k = sLeft ∨ k = sRight) : okW (.str k) := by
  show 32 ∉ k ∧ (∀ c ∈ k, c < 128) ∧ k.length ≤ 6
  rcases h with rfl | rfl | rfl | rfl | rfl | rfl | rfl <;> decide
theorem deed_parts {ds : List D} (h : IsDeed ds) : ds ≠ [] ∧ ds.length ≤ 3 ∧ ∀ d ∈ ds, okW d := by
  rcases h with rfl | ⟨k, n, hk, hn, rfl⟩ | ⟨k, n, s, hk, hs, hn, rfl⟩
  · refine ⟨by simp, by simp, fun d hd => ?_⟩
    rw [List.mem_singleton] at hd
    rw [hd]
    exact okW_k (.inl rfl)
  · refine ⟨by simp, by simp, fun d hd => ?_⟩
    rcases List.mem_cons.mp hd with rfl | hd
    · exact okW_k (by rcases hk with rfl | rfl <;> simp)
    · rw [List.mem_singleton] at hd
      rw [hd]
      exact hn
  · refine ⟨by simp, by simp, fun d hd => ?_⟩
    rcases List.mem_cons.mp hd with rfl | hd
    · exact okW_k (by rcases hk with rfl | rfl <;> simp)
    · rcases List.mem_cons.mp hd with rfl | hd
      · exact hn
      · rw [List.mem_singleton] at hd
        rw [hd]
        exact okW_k (by rcases hs with rfl | rfl <;> simp)
theorem itxt_ok (n : Int) : okT (itxt n) := by
  cases n with
  | ofNat n =>
    show okT (itxt (n : Int))
    rw [itxt_pos]
    intro c hc
    have := TL.numL_digits n c hc
    omega
  | negSucc n =>
    rw [itxt_neg]
    intro c hc
    rcases List.mem_cons.mp hc with rfl | hc
    · decide
    · have := TL.numL_digits (n + 1) c hc
      omega
theorem part_ok {d : D} (h : okW d) : 32 ∉ partT d ∧ okT (partT d) ∧ (partT d).length ≤ 31 := by
  cases d with
  | str s => exact ⟨h.1, h.2.1, Nat.le_trans h.2.2 (by decide)⟩
  | int n => exact ⟨itxt_free n, itxt_ok n, itxt_len h⟩
  | _ => exact h.elim
def wsOf (ds : List D) : List (List Nat) := ds.map partT
def txtOf (ds : List D) : List Nat := TL.joinL [32] (wsOf ds)
theorem ws_part {ds : List D} (h : ∀ d ∈ ds, okW d) : ∀ w ∈ wsOf ds, 32 ∉ w ∧ okT w ∧ w.length ≤ 31 := by
  intro w hw
  obtain ⟨d, hd, rfl⟩ := List.mem_map.mp hw
  exact part_ok (h d hd)
theorem wds_txt {ds : List D} (h0 : ds ≠ []) (h : ∀ d ∈ ds, okW d) : wds (txtOf ds) = wsOf ds :=
  TL.spl_join (by unfold wsOf; simpa using h0) fun w hw => (ws_part h w hw).1
theorem join_ok : ∀ {ws : List (List Nat)}, (∀ w ∈ ws, okT w) → okT (TL.joinL [32] ws)
  | [], _ => fun c hc => by cases hc
  | [w], h => h w List.mem_cons_self
  | w :: x :: r, h => by
    intro c hc
    have hc : c ∈ w ++ ([32] ++ TL.joinL [32] (x :: r)) := hc
    rcases List.mem_append.mp hc with hc | hc
    · exact h w List.mem_cons_self c hc
    · rcases List.mem_append.mp hc with hc | hc
      · rw [List.mem_singleton] at hc
        omega
      · exact join_ok (fun y hy => h y (List.mem_cons_of_mem _ hy)) c hc
theorem join_len : ∀ (ws : List (List Nat)), (TL.joinL [32] ws).length ≤ (ws.map List.length).sum + ws.length
  | [] => by decide
  | [w] => by
    show w.length ≤ _
    simp
  | w :: x :: r => by
    show (w ++ ([32] ++ TL.joinL [32] (x :: r))).length ≤ _
    have := join_len (x :: r)
    rw [List.length_append, List.length_append, List.length_singleton, List.map_cons, List.sum_cons, List.length_cons]
    omega
theorem sum_le {k : Nat} : ∀ {ws : List (List Nat)}, (∀ w ∈ ws, w.length ≤ k) → (ws.map List.length).sum ≤ ws.length * k
  | [], _ => by simp
  | w :: ws, h => by
    have h1 := sum_le fun x hx => h x (List.mem_cons_of_mem _ hx)
    have h2 := h w List.mem_cons_self
    rw [List.map_cons, List.sum_cons, List.length_cons, Nat.succ_mul]
    omega
theorem strs_map : ∀ ws : List (List Nat), strsD (ws.map .str) = some ws
  | [] => rfl
  | w :: ws => by
    show (strsD (ws.map .str)).map (w :: ·) = _
    rw [strs_map ws]; rfl
theorem met_join {ws : List (List Nat)} {k : Nat} (h : ∀ w ∈ ws, w.length ≤ k) (hk : ws.length * k + ws.length ≤ 16777216) : metD .join (.str [32]) [.lst (ws.map .str)] = some (.sh (.str (TL.joinL [32] ws))) := by
  have := sum_le h
  simp only [metD, strs_map, Option.bind_some]
  rw [if_pos (by rw [List.length_singleton]; omega)]
theorem e_fmt {T : String → Fn} {a : Ex} {env : En} : evE T (.fmt a) env = (evE T a env).bind fun x e1 => match cont x e1 with
    | some dx => liftV (fmtD dx) e1
    | none => .stuck := nr rfl
theorem fmt_ok {d : D} (h : okW d) : fmtD d = some (.sh (.str (partT d))) := by
  cases d with
  | str s => rfl
  | int n => exact fmt_int h
  | _ => exact h.elim
theorem str_ok {d : D} (h : okW d) : biD .str [d] = some (.sh (.str (partT d))) := by
  cases d with
  | str s => rfl
  | int n => exact str_int h
  | _ => exact h.elim
theorem met_ws {ds : List D} (hl : ds.length ≤ 3) (h : ∀ d ∈ ds, okW d) : metD .join (.str [32]) [.lst (ds.map fun d => .str (partT d))] = some (.sh (.str (txtOf ds))) := by
  have e : (ds.map fun d => D.str (partT d)) = (wsOf ds).map .str := by
    unfold wsOf; rw [List.map_map]; rfl
  have hw : (wsOf ds).length = ds.length := List.length_map ..
  rw [e]
  exact met_join (k := 31) (fun w hw => (ws_part h w hw).2.2) (by rw [hw]; omega)
theorem run_textof {ds : List D} (hl : ds.length ≤ 3) (h : ∀ d ∈ ds, okW d) : f_text_of_deed.run [.tup ds] = .sh (.str (txtOf ds)) .non := by
  have key : ∀ T : String → Fn, outS false (evB T b_text_of_deed [.sh (.tup ds), .no]) = .sh (.str (txtOf ds)) .non := by
    intro T
    have hz : (ds.map fun d => D.str (partT d)).length ≤ sizeLine := by rw [List.length_map, sizeLine_eq]; omega
    have hlc : evE T (.lc [1] (.fmt (.var 1)) (.nm 1) (.sq (.var 0)) []) [.sh (.tup ds), .no] = .ok (.ow (.lst (ds.map fun d => .str (partT d)))) [.sh (.tup ds), .no] := by
      rw [e_lc, ei_sq]
      simp only [e_var, List.getElem?_cons_zero, Rs.bind_ok, f_sh, it_tup]
      rw [show wipeE [.sh (.tup ds), .no] [1] = [.sh (.tup ds), .no] from rfl]
      rw [lc_map (ew := [.sh (.tup ds), .no]) (fun d => .str (partT d)) (fun d => [.sh (.tup ds), .sh d])]
      · rw [List.nil_append]
        simp only [if_pos hz]
        rfl
      · intro d hd
        refine ⟨by simp, ⟨.sh (.str (partT d)), ?_, rfl⟩, by simp [wipeE]⟩
        simp [e_fmt, fmt_ok (h d hd)]
    have hsv : ∀ e : En, strV (.sh (.str [32])) e = true := fun _ => rfl
    unfold b_text_of_deed
    generalize (Ex.lc [1] (.fmt (.var 1)) (.nm 1) (.sq (.var 0)) []) = E at hlc
    simp [hsv, hlc, met_ws hl h, outS, ioOut]
  exact key (tabF [])
theorem run_dt_ok {ds : List D} {t : List Nat} (h1 : f_is_deed.run [.tup ds] = .sh (.bl true) .non) (h2 : f_text_of_deed.run [.tup ds] = .sh (.str t) .non) : f_deed_text.run [.tup ds] = .sh (.str t) .non := by
  have key : ∀ T : String → Fn, T "is_deed" = ⟨false, f_is_deed.run⟩ → T "text_of_deed" = ⟨false, f_text_of_deed.run⟩ → outS false (evB T b_deed_text [.sh (.tup ds)]) = .sh (.str t) .non := by
    intro T hT1 hT2
    simp [b_deed_text, hT1, hT2, callF, h1, h2, outS, ioOut]
  exact key (tabF [("is_deed", f_is_deed), ("text_of_deed", f_text_of_deed)]) rfl rfl
theorem run_dt_no {d : D} (h1 : f_is_deed.run [d] = .sh (.bl false) .non) : f_deed_text.run [d] = .ex "InvalidDeed" d .non := by
  have key : ∀ T : String → Fn, T "is_deed" = ⟨false, f_is_deed.run⟩ → outS false (evB T b_deed_text [.sh d]) = .ex "InvalidDeed" d .non := by
    intro T hT1
    simp [b_deed_text, s_rs, hT1, callF, h1, outS, ioOut]
  exact key (tabF [("is_deed", f_is_deed), ("text_of_deed", f_text_of_deed)]) rfl
theorem okP_W {d : D} (h : okW d) : okP d := by
  cases d with
  | str s => exact h.2.1
  | int n => trivial
  | _ => exact h.elim
theorem deed_is {ds : List D} (h : IsDeed ds) : f_is_deed.run [.tup ds] = .sh (.bl true) .non := by
  have hp := (deed_parts h).2.2
  rcases h with rfl | ⟨k, n, hk, hn, rfl⟩ | ⟨k, n, s, hk, hs, hn, rfl⟩
  · rw [run_deed (eqt_cons fun x hx => okP_W (hp x hx))]
    rfl
  · rw [run_deed (eqt_cons fun x hx => okP_W (hp x hx))]
    rcases hk with rfl | rfl <;> rfl
  · rw [run_deed (eqt_cons fun x hx => okP_W (hp x hx))]
    rcases hk with rfl | rfl <;> rcases hs with rfl | rfl <;> rfl
theorem deed_rd {ds : List D} (h : IsDeed ds) : rd (wsOf ds) = some ds := by
  rcases h with rfl | ⟨k, n, hk, hn, rfl⟩ | ⟨k, n, s, hk, hs, hn, rfl⟩
  · rfl
  · show (if deedB k (oD (whl (itxt n)) :: []) = true then some (D.str k :: oD (whl (itxt n)) :: []) else none) = _
    rw [whl_num]
    rcases hk with rfl | rfl <;> rfl
  · show (if deedB k (oD (whl (itxt n)) :: [.str s]) = true then some (D.str k :: oD (whl (itxt n)) :: [.str s]) else none) = _
    rw [whl_num]
    rcases hk with rfl | rfl <;> rcases hs with rfl | rfl <;> rfl
theorem txt_ok {ds : List D} (h : IsDeed ds) : okT (txtOf ds) ∧ (txtOf ds).length ≤ 96 := by
  obtain ⟨h0, h1, h2⟩ := deed_parts h
  refine ⟨join_ok fun w hw => (ws_part h2 w hw).2.1, ?_⟩
  have e1 := join_len (wsOf ds)
  have e2 := sum_le (ws := wsOf ds) (k := 31) fun w hw => (ws_part h2 w hw).2.2
  have e3 : (wsOf ds).length = ds.length := List.length_map ..
  rw [e3] at e1 e2
  show (TL.joinL [32] (wsOf ds)).length ≤ 96
  omega
theorem deed_text_is {ds : List D} (h : IsDeed ds) : f_deed_text.run [.tup ds] = .sh (.str (txtOf ds)) .non := run_dt_ok (deed_is h) (run_textof (deed_parts h).2.1 (deed_parts h).2.2)
theorem read_text_is {ds : List D} (h : IsDeed ds) : f_read_deed.run [.str (txtOf ds)] = .sh (.tup ds) .non := by
  have e := txt_ok h
  rw [run_read e.1 (by omega), wds_txt (deed_parts h).1 (deed_parts h).2.2, deed_rd h]; rfl
/-! what is no deed -/
theorem no_tup {d : D} (h : isiD d "tuple" = some false) : f_is_deed.run [d] = .sh (.bl false) .non := by
  have key : ∀ T : String → Fn, outS false (evB T b_is_deed [.sh d]) = .sh (.bl false) .non := by
    intro T
    simp [b_is_deed, h, outS, ioOut]
  exact key (tabF [("is_tuple_of", f_is_tuple_of), ("is_whole", f_is_whole), ("is_side", f_is_side)])
def odds (ds : List D) (t : List Nat) : List D := [.non, .tup [], .tup (ds ++ [.int 1]), .lst ds, .str t, .int 5, .tup [.str sGrow, .int 0], .tup [.str sGrow, .int 0, .str [117, 112]], .tup [.str sGrow, .non, .str sLeft], .tup [.str sGrow, .bl true, .str sLeft], .tup [.str sPrune, .int 0],
  .tup [.str sSwap, .str [48]], .tup [.str sSwap], .tup [.str sShrink, .int 1, .str sLeft], .tup [.str sTurn, .int 1], .tup [.str sTurn, .str [49], .str sLeft], .tup [.str sTurn, .int 1, .int 2], .tup [.int 5, .int 1], .tup [.str [83, 119, 97, 112], .int 1], .tup [.str sSwap, .tup [.int 1]]]
theorem odd_more {ds : List D} (h : IsDeed ds) : f_is_deed.run [.tup (ds ++ [.int 1])] = .sh (.bl false) .non := by
  have hp := (deed_parts h).2.2
  have hp2 : ∀ d ∈ ds ++ [.int 1], okP d := by
    intro d hd
    rcases List.mem_append.mp hd with hd | hd
    · exact okP_W (hp d hd)
    · rw [List.mem_singleton] at hd
      rw [hd]; trivial
  rcases h with rfl | ⟨k, n, hk, hn, rfl⟩ | ⟨k, n, s, hk, hs, hn, rfl⟩
  · have hp3 : ∀ d ∈ ((.str sPrune :: [.int 1]) : List D), okP d := hp2
    show f_is_deed.run [.tup (.str sPrune :: [.int 1])] = _
    rw [run_deed (eqt_cons hp3)]
    rfl
  · have hp3 : ∀ d ∈ ((.str k :: [.int n, .int 1]) : List D), okP d := hp2
    show f_is_deed.run [.tup (.str k :: [.int n, .int 1])] = _
    rw [run_deed (eqt_cons hp3)]
    rcases hk with rfl | rfl <;> rfl
  · have hp3 : ∀ d ∈ ((.str k :: [.int n, .str s, .int 1]) : List D), okP d := hp2
    show f_is_deed.run [.tup (.str k :: [.int n, .str s, .int 1])] = _
    rw [run_deed (eqt_cons hp3)]
    rcases hk with rfl | rfl <;> rcases hs with rfl | rfl <;> rfl
theorem odd_no {ds : List D} (h : IsDeed ds) {t : List Nat} : ∀ d ∈ odds ds t, f_is_deed.run [d] = .sh (.bl false) .non := by
  intro d hd
  simp only [odds, List.mem_cons, List.not_mem_nil, or_false] at hd
  rcases hd with rfl | rfl | rfl | rfl | rfl | rfl | rfl | rfl | rfl | rfl | rfl | rfl | rfl | rfl | rfl | rfl | rfl | rfl | rfl | rfl
  · exact no_tup rfl
  · kernel_rfl
  · exact odd_more h
  · exact no_tup rfl
  · exact no_tup rfl
  · exact no_tup rfl
  all_goals kernel_rfl
end G77

/-! K77g: pots, draws, deeds that are drawn. -/
namespace G77
open PySem PySem.Spec PyProof.Rows L2 Pv PvL
theorem run_drawB (p : Pot) {m : Int} (hm : divOk m = true) : ∃ (d : Int) (p' : Pot), f_L_draw.run [potD p, .int m] = .sh (.int d) (potD p') ∧ 0 ≤ d ∧ d < m := by
  have h0 := (divOk_iff.mp hm).1
  have h97 : divOk 97 = true := divOk_of (by omega) (by omega)
  have key : ∀ T : String → Fn, ∃ (d : Int) (p' : Pot), outS true (evB T b_L_draw [.io (potD p), .sh (.int m), .no]) = .sh (.int d) (potD p') ∧ 0 ≤ d ∧ d < m := by
    intro T
    by_cases hp : 0 < p.1
    · refine ⟨p.1 % m, (p.1 / m, p.2), ?_, Int.emod_nonneg _ (by omega), Int.emod_lt_of_pos _ h0⟩
      unfold b_L_draw
      simp [pot0, hp, bn_divmod hm, tg_tup, pots0, outS, ioOut]
    · have e2 := fun i => bn_mod (i := i) (j := 2147483563) (by omega)
      have e3 := fun i => bn_mod (i := i) (j := 10007) (by omega)
      have e4 := bn_mul (i := p.2.1) (j := p.2.1 % 10007 + 20011) (mulOk_r (by omega) (by omega))
      have e5 := bn_mul (i := 60013) (j := p.2.2 + 1) (mulOk_l (by omega) (by omega))
      have e6 := fun i => bn_div (i := i) (j := 97) h97
      have e7 := fun i => bn_mod (i := i) (j := m) h0
      refine ⟨((p.2.1 * (p.2.1 % 10007 + 20011) + 60013 * (p.2.2 + 1) + 61) % 2147483563) / 97 % m, (p.1, (p.2.1 * (p.2.1 % 10007 + 20011) + 60013 * (p.2.2 + 1) + 61) % 2147483563, p.2.2 + 1), ?_, Int.emod_nonneg _ (by omega), Int.emod_lt_of_pos _ h0⟩
      unfold b_L_draw
      simp [pot0, pot1, pot2, hp, e2, e3, e4, e5, e6, e7, pots1, pots2, outS, ioOut]
  exact key (tabF [])
theorem run_drawN (p : Pot) {m : Int} (h0 : 0 < m) (h1 : m ≤ 2 ^ 64) : ∃ (d : Int) (p' : Pot), f_L_draw.run [potD p, .int m] = .sh (.int d) (potD p') ∧ 0 ≤ d ∧ d < m := run_drawB p (divOk_of h0 h1)
theorem run_pickT (p : Pot) {l : List D} (h0 : l ≠ []) (h1 : l.length ≤ 2 ^ 63) : ∃ (d : D) (p' : Pot), f_L_pick.run [potD p, .tup l] = .sh d (potD p') ∧ d ∈ l := by
  have key : ∀ T : String → Fn, T "_law_draw" = ⟨true, f_L_draw.run⟩ → ∃ (d : D) (p' : Pot), outS true (evB T b_L_pick [.io (potD p), .sh (.tup l)]) = .sh d (potD p') ∧ d ∈ l := by
    intro T hT
    have hl : 0 < l.length := List.length_pos_iff.mpr h0
    obtain ⟨d, p', h2, h3, h4⟩ := run_drawN p (m := l.length) (by omega) (by omega)
    have hk : d.toNat < l.length := by omega
    refine ⟨l[d.toNat], p', ?_, List.getElem_mem hk⟩
    have ha : atI l d = some (l[d.toNat]) := by
      unfold atI ixN
      rw [if_pos h3, if_pos h4]
      exact List.getElem?_eq_getElem hk
    unfold b_L_pick
    simp [hT, callF, ioC, bkV, h2, ha, outS, ioOut]
  exact key (tabF [("_law_draw", f_L_draw)]) rfl
theorem run_pickL (p : Pot) {l : List D} (h0 : l ≠ []) (h1 : l.length ≤ 2 ^ 63) : ∃ (d : D) (p' : Pot), f_L_pick.run [potD p, .lst l] = .sh d (potD p') ∧ d ∈ l := by
  have key : ∀ T : String → Fn, T "_law_draw" = ⟨true, f_L_draw.run⟩ → ∃ (d : D) (p' : Pot), outS true (evB T b_L_pick [.io (potD p), .sh (.lst l)]) = .sh d (potD p') ∧ d ∈ l := by
    intro T hT
    have hl : 0 < l.length := List.length_pos_iff.mpr h0
    obtain ⟨d, p', h2, h3, h4⟩ := run_drawN p (m := l.length) (by omega) (by omega)
    have hk : d.toNat < l.length := by omega
    refine ⟨l[d.toNat], p', ?_, List.getElem_mem hk⟩
    have ha : atI l d = some (l[d.toNat]) := by
      unfold atI ixN
      rw [if_pos h3, if_pos h4]
      exact List.getElem?_eq_getElem hk
    unfold b_L_pick
    simp [hT, callF, ioC, bkV, h2, ha, outS, ioOut]
  exact key (tabF [("_law_draw", f_L_draw)]) rfl
theorem run_pickS (p : Pot) {l : List Nat} (h0 : l ≠ []) (h1 : l.length ≤ 2 ^ 63) : ∃ (c : Nat) (p' : Pot), f_L_pick.run [potD p, .str l] = .sh (.str [c]) (potD p') ∧ c ∈ l := by
  have key : ∀ T : String → Fn, T "_law_draw" = ⟨true, f_L_draw.run⟩ → ∃ (c : Nat) (p' : Pot), outS true (evB T b_L_pick [.io (potD p), .sh (.str l)]) = .sh (.str [c]) (potD p') ∧ c ∈ l := by
    intro T hT
    have hl : 0 < l.length := List.length_pos_iff.mpr h0
    obtain ⟨d, p', h2, h3, h4⟩ := run_drawN p (m := l.length) (by omega) (by omega)
    have hk : d.toNat < l.length := by omega
    refine ⟨l[d.toNat], p', ?_, List.getElem_mem hk⟩
    have ha : atI l d = some (l[d.toNat]) := by
      unfold atI ixN
      rw [if_pos h3, if_pos h4]
      exact List.getElem?_eq_getElem hk
    unfold b_L_pick
    simp [hT, callF, ioC, bkV, h2, ha, outS, ioOut]
  exact key (tabF [("_law_draw", f_L_draw)]) rfl
theorem pw10_30 : binD .Pow (.int 10) (.int 30) = some (.sh (.int 1000000000000000000000000000000)) := by kernel_rfl
theorem run_deedD (p : Pot) : ∃ (ds : List D) (p' : Pot), f_L_deed.run [potD p] = .sh (.tup ds) (potD p') ∧ IsDeed ds := by
  have key : ∀ T : String → Fn, T "_law_draw" = ⟨true, f_L_draw.run⟩ → T "_law_pick" = ⟨true, f_L_pick.run⟩ → ∃ (ds : List D) (p' : Pot), outS true (evB T b_L_deed [.io (potD p), .no, .no, .no]) = .sh (.tup ds) (potD p') ∧ IsDeed ds := by
    intro T hT1 hT2
    obtain ⟨d1, p1, h1, m1⟩ := run_pickT p (l := [.int 3, .int 50, .int 1000000000000000000000000000000]) (by simp) (by decide)
    obtain ⟨b, hb, hb1, hb2⟩ : ∃ b : Int, d1 = .int b ∧ divOk b = true ∧ b ≤ 1000000000000000000000000000000 := by
      simp only [List.mem_cons, List.not_mem_nil, or_false] at m1
      rcases m1 with rfl | rfl | rfl
      · exact ⟨_, rfl, by decide +kernel, by decide⟩
      · exact ⟨_, rfl, by decide +kernel, by decide⟩
      · exact ⟨_, rfl, by decide +kernel, by decide⟩
    subst hb
    obtain ⟨i, p2, h2, i0, i1⟩ := run_drawB p1 hb1
    obtain ⟨d3, p3, h3, m3⟩ := run_pickT p2 (l := [.int 1, .int 1, .int (-1)]) (by simp) (by decide)
    obtain ⟨s, hs, hs1⟩ : ∃ s : Int, d3 = .int s ∧ (s = 1 ∨ s = -1) := by
      simp only [List.mem_cons, List.not_mem_nil, or_false] at m3
      rcases m3 with rfl | rfl | rfl
      · exact ⟨_, rfl, .inl rfl⟩
      · exact ⟨_, rfl, .inl rfl⟩
      · exact ⟨_, rfl, .inr rfl⟩
    subst hs
    have hmul := bn_mul (i := i) (j := s) (mulOk_r (by omega) (by omega))
    have hn : (i * s).natAbs < 10 ^ 30 := by
      have e : (i * s).natAbs = i.natAbs := by
        rcases hs1 with rfl | rfl
        · rw [Int.mul_one]
        · rw [Int.mul_neg_one, Int.natAbs_neg]
      rw [e]
      omega
    obtain ⟨d4, p4, h4, m4⟩ := run_pickT p3 (l := [.str sGrow, .str sTurn, .str sShrink, .str sSwap, .str sPrune]) (by simp) (by decide)
    obtain ⟨d5, p5, h5, m5⟩ := run_pickT p4 (l := [.str sLeft, .str sRight]) (by simp) (by decide)
    obtain ⟨sd, hsd, hsd1⟩ : ∃ s : List Nat, d5 = .str s ∧ (s = sLeft ∨ s = sRight) := by
      simp only [List.mem_cons, List.not_mem_nil, or_false] at m5
      rcases m5 with rfl | rfl
      · exact ⟨_, rfl, .inl rfl⟩
      · exact ⟨_, rfl, .inr rfl⟩
    subst hsd
    have hneg : negD (.int 1) = some (.sh (.int (-1))) := rfl
    simp only [List.mem_cons, List.not_mem_nil, or_false] at m4
    have g1 : evS T (.asg (.nm 1) (.bin .Mult (.call "_law_draw" [(.var 0), (.call "_law_pick" [(.var 0), (.tup [(.con (.int 3)), (.con (.int 50)), (.bin .Pow (.con (.int 10)) (.con (.int 30)))])])]) (.call "_law_pick" [(.var 0), (.tup [(.con (.int 1)), (.con (.int 1)), (.neg (.con (.int 1)))])]))) [.io (potD p), .no, .no, .no] = .nx [.io (potD p3), .sh (.int (i * s)), .no, .no] := by
      simp [pw10_30, hneg, sizeLine_eq, hT1, hT2, callF, ioC, bkV, h1, h2, h3, hmul]
    have g2 : evS T (.par [2, 3] [(.call "_law_pick" [(.var 0), (.tup [(.con (.str [103, 114, 111, 119])), (.con (.str [116, 117, 114, 110])), (.con (.str [115, 104, 114, 105, 110, 107])), (.con (.str [115, 119, 97, 112])), (.con (.str [112, 114, 117, 110, 101]))])]), (.call "_law_pick" [(.var 0), (.tup [(.con (.str [108, 101, 102, 116])), (.con (.str [114, 105, 103, 104, 116]))])])]) [.io (potD p3), .sh (.int (i * s)), .no, .no] = .nx [.io (potD p5), .sh (.int (i * s)), .sh d4, .sh (.str sd)] := by
      simp [sizeLine_eq, hT2, callF, ioC, bkV, h4, h5]
    unfold b_L_deed
    rw [b_cons, g1]
    show ∃ (ds : List D) (p' : Pot), outS true (evB T (_ :: _) _) = .sh (.tup ds) (potD p') ∧ IsDeed ds
    rw [b_cons, g2]
    rcases m4 with rfl | rfl | rfl | rfl | rfl
    · exact ⟨[.str sGrow, .int (i * s), .str sd], p5, by simp [eq_strs, in_tup2, sizeLine_eq, outS, ioOut], .inr (.inr ⟨_, _, _, .inl rfl, hsd1, hn, rfl⟩)⟩
    · exact ⟨[.str sTurn, .int (i * s), .str sd], p5, by simp [eq_strs, in_tup2, sizeLine_eq, outS, ioOut], .inr (.inr ⟨_, _, _, .inr rfl, hsd1, hn, rfl⟩)⟩
    · exact ⟨[.str sShrink, .int (i * s)], p5, by simp [eq_strs, in_tup2, sizeLine_eq, outS, ioOut], .inr (.inl ⟨_, _, .inl rfl, hn, rfl⟩)⟩
    · exact ⟨[.str sSwap, .int (i * s)], p5, by simp [eq_strs, in_tup2, sizeLine_eq, outS, ioOut], .inr (.inl ⟨_, _, .inr rfl, hn, rfl⟩)⟩
    · exact ⟨[.str sPrune], p5, by simp [eq_strs, in_tup2, sizeLine_eq, outS, ioOut], .inl rfl⟩
  exact key (tabF [("_law_draw", f_L_draw), ("_law_pick", f_L_pick)]) rfl rfl
theorem run_pot {ns : List Int} (hn : ns.length ≤ 63) {t : Nat} (ht : t ≤ 63) : ∃ p, f_L_pot.run [.fl (ns.map .int), .int (t : Int)] = .ow (potD p) .non := by
  have key : ∀ T : String → Fn, ∃ p, outS false (evB T b_L_pot [.sh (.fl (ns.map .int)), .sh (.int (t : Int)), .no, .no, .no]) = .ow (potD p) .non := by
    intro T
    have h1 : ∃ c : Int, evS T (.asg (.nm 2) (.ife (.cmp .Lt (.var 1) (.bi .len [(.var 0)])) (.bi .int [(.idx (.var 0) (.var 1))]) (.bin .Add (.bin .Add (.bin .Mult (.con (.int 7907)) (.var 1)) (.con (.int 37))) (.bin .Mod (.bi .int [(.bi .sum [(.slc (.var 0) none (some (.con (.int 3))))])]) (.con (.int 1000033)))))) [.sh (.fl (ns.map .int)), .sh (.int (t : Int)), .no, .no, .no] = .nx [.sh (.fl (ns.map .int)), .sh (.int (t : Int)), .sh (.int c), .no, .no] := by
      by_cases hc : (t : Int) < ns.length
      · have hk : t < ns.length := by omega
        refine ⟨ns[t], ?_⟩
        have ha : atI (ns.map D.int) (t : Int) = some (.int ns[t]) := ix_nat (by rw [List.getElem?_map, List.getElem?_eq_getElem hk]; rfl)
        have hk2 : t < ns.length := hk
        simp [hk2, ha]
      · have hk2 : ¬ t < ns.length := by omega
        have e1 := bn_mul (i := 7907) (j := (t : Int)) (mulOk_l (by omega) (by omega))
        have e2 := fun i => bn_mod (i := i) (j := 1000033) (by omega)
        have e3 : slcD (.fl (ns.map .int)) none (some 3) = some (.ow (.lst ((cutL ns none (some 3)).map .int))) := by
          show some (Vl.ow (.lst (cutL (ns.map .int) none (some 3)))) = _
          rw [cut_map]
        have e4 : biD .sum [.lst ((cutL ns none (some 3)).map .int)] = some (.sh (.int (cutL ns none (some 3)).sum)) := by
          show (intsD ((cutL ns none (some 3)).map .int)).map (fun ns => Vl.sh (.int ns.sum)) = _
          rw [PvL.ints_map]; rfl
        refine ⟨7907 * (t : Int) + 37 + (cutL ns none (some 3)).sum % 1000033, ?_⟩
        simp [hk2, e1, e2, e3, e4]
    obtain ⟨c, h1⟩ := h1
    have e1 := bn_mul (i := 9391) (j := (t : Int)) (mulOk_l (by omega) (by omega))
    have h2 : evS T (.asg (.nm 3) (.bin .Add (.con (.int 1001909)) (.bin .Mult (.con (.int 9391)) (.var 1)))) [.sh (.fl (ns.map .int)), .sh (.int (t : Int)), .sh (.int c), .no, .no] = .nx [.sh (.fl (ns.map .int)), .sh (.int (t : Int)), .sh (.int c), .sh (.int (1001909 + 9391 * (t : Int))), .no] := by
      simp [e1]
    obtain ⟨s', y, hl⟩ := pot_loop (T := T) (x0 := .sh (.fl (ns.map .int))) (x1 := .sh (.int (t : Int))) (x2 := .sh (.int c)) (cutL ns none (some 7) ++ [c]) (1001909 + 9391 * (t : Int)) .no fr_no
    have hi : evI T (.sq (.bin .Add (.slc (.var 0) none (some (.con (.int 7)))) (.lst [(.var 2)]))) [.sh (.fl (ns.map .int)), .sh (.int (t : Int)), .sh (.int c), .sh (.int (1001909 + 9391 * (t : Int))), .no] = .ok ((cutL ns none (some 7) ++ [c]).map .int) [.sh (.fl (ns.map .int)), .sh (.int (t : Int)), .sh (.int c), .sh (.int (1001909 + 9391 * (t : Int))), .no] := by
      have e3 : slcD (.fl (ns.map .int)) none (some 7) = some (.ow (.lst ((cutL ns none (some 7)).map .int))) := by
        show some (Vl.ow (.lst (cutL (ns.map .int) none (some 7)))) = _
        rw [cut_map]
      have e4 : binD .Add (.lst ((cutL ns none (some 7)).map .int)) (.lst [.int c]) = some (.ow (.lst ((cutL ns none (some 7) ++ [c]).map .int))) := by
        simp only [binD]
        have := cut_len ns none (some 7)
        rw [if_pos (by rw [List.length_map, sizeLine_eq, List.length_singleton]; omega), List.map_append]; rfl
      simp [e3, e4, sizeLine_eq, -List.map_append]
    have h3 : evE T (.ife (.or (.cmp .Lt (.var 2) (.con (.int 0))) (.cmp .GtE (.var 2) (.bin .Pow (.con (.int 10)) (.con (.int 18))))) (.bin .Mod (.bi .int [(.bi .abs [(.var 2)])]) (.bin .Pow (.con (.int 10)) (.con (.int 64)))) (.con (.int 0))) [.sh (.fl (ns.map .int)), .sh (.int (t : Int)), .sh (.int c), .sh (.int s'), y] =
        .ok (.sh (.int (if c < 0 ∨ 1000000000000000000 ≤ c then (if c < 0 then -c else c) % 10000000000000000000000000000000000000000000000000000000000000000 else 0))) [.sh (.fl (ns.map .int)), .sh (.int (t : Int)), .sh (.int c), .sh (.int s'), y] := by
      have ea : biD .abs [.int c] = some (.sh (.int (if c < 0 then -c else c))) := rfl
      have em := fun i => bn_mod (i := i) (j := 10000000000000000000000000000000000000000000000000000000000000000) (by decide)
      by_cases c1 : c < 0
      · simp [c1, pw10_64, ea, em]
      · by_cases c2 : 1000000000000000000 ≤ c
        · simp [c1, c2, pw10_18, pw10_64, ea, em]
        · simp [c1, c2, pw10_18]
    refine ⟨((if c < 0 ∨ 1000000000000000000 ≤ c then (if c < 0 then -c else c) % 10000000000000000000000000000000000000000000000000000000000000000 else 0), s', 0), ?_⟩
    unfold b_L_pot
    simp only [b_cons, b_nil, h1, h2, s_fr', hi, Rs.toS_ok, hl, s_ret', e_lst, el_cons, h3, Rs.bind_ok]
    simp [sizeLine_eq, outS, ioOut, potD]
  exact key (tabF [])
end G77

/-! K77h: bent texts. -/
namespace G77
open PySem PySem.Spec PyProof.Rows L2 Pv PvL
def okB (d : D) : Prop := (∃ l, d = .str l ∧ okT l ∧ l.length ≤ 640) ∨ ((∀ l, d ≠ .str l) ∧ plainD 6 d = true)
def goodWs (ws : List (List Nat)) : Prop := (∀ w ∈ ws, okT w ∧ w.length ≤ 31) ∧ ws.length ≤ 7
theorem cut_mem {α : Type} {l : List α} {lo hi : Option Int} {c : α} (h : c ∈ cutL l lo hi) : c ∈ l := by
  unfold cutL at h
  exact List.mem_of_mem_drop (List.mem_of_mem_take h)
theorem okT_cut {l : List Nat} (h : okT l) {lo hi : Option Int} : okT (cutL l lo hi) := fun c hc => h c (cut_mem hc)
theorem okT_app {l m : List Nat} (h : okT l) (h2 : okT m) : okT (l ++ m) := fun c hc => by
  rcases List.mem_append.mp hc with hc | hc
  · exact h c hc
  · exact h2 c hc
theorem sl_str {l : List Nat} {lo hi : Option Int} : slcD (.str l) lo hi = some (.sh (.str (cutL l lo hi))) := nr rfl
theorem sl_lst {l : List D} {lo hi : Option Int} : slcD (.lst l) lo hi = some (.ow (.lst (cutL l lo hi))) := nr rfl
theorem add_str {l m : List Nat} (h : l.length + m.length ≤ 16777216) : binD .Add (.str l) (.str m) = some (.sh (.str (l ++ m))) := by
  simp only [binD, sizeLine_eq]
  rw [if_pos h]
theorem add_lst {l m : List D} (h : l.length + m.length ≤ 16777216) : binD .Add (.lst l) (.lst m) = some (.ow (.lst (l ++ m))) := by
  simp only [binD, sizeLine_eq]
  rw [if_pos h]
theorem ixn_nat {n k : Nat} (h : k < n) : ixN n (k : Int) = some k := by
  unfold ixN
  rw [if_pos (by omega), if_pos (by omega), Int.toNat_natCast]
theorem set_lst {l : List D} {k : Nat} {v : D} (h : k < l.length) : setD (.lst l) (.int (k : Int)) v = some (.lst (l.set k v)) := by
  show (ixN l.length (k : Int)).map (fun j => D.lst (l.set j v)) = _
  rw [ixn_nat h]; rfl
theorem map_set {ws : List (List Nat)} {k : Nat} {w : List Nat} : (ws.map D.str).set k (.str w) = (ws.set k w).map .str := by
  rw [List.map_set]
theorem mem_set' {α : Type} {l : List α} {k : Nat} {x y : α} (h : y ∈ l.set k x) : y ∈ l ∨ y = x := List.mem_or_eq_of_mem_set h
theorem good_set {ws : List (List Nat)} {k : Nat} {w : List Nat} (h : goodWs ws) (hw : okT w ∧ w.length ≤ 31) : goodWs (ws.set k w) := by
  refine ⟨fun x hx => ?_, by rw [List.length_set]; exact h.2⟩
  rcases mem_set' hx with hx | rfl
  · exact h.1 x hx
  · exact hw
def swaps : List (List Nat) := [[45, 48], [48, 48], [48, 49], [45, 49], [108, 101, 102, 116], [114, 105, 103, 104, 116], [117, 112], [112, 114, 117, 110, 101], [115, 119, 97, 112], [48], []]
theorem swaps_ok : ∀ w ∈ swaps, okT w ∧ w.length ≤ 31 := by
  have : ∀ w ∈ swaps, (∀ c ∈ w, c < 128) ∧ w.length ≤ 31 := by decide
  exact this
def b_bend : Sx := (.ife (.cmp .Eq (.var 2) (.con (.int 3))) [(.asg (.tup [(.sub 5 (.var 6)), (.sub 5 (.var 7))]) (.tup [(.idx (.var 5) (.var 7)), (.idx (.var 5) (.var 6))]))] [(.ife (.cmp .Eq (.var 2) (.con (.int 4))) [(.asg (.nm 5) (.bin .Add (.slc (.var 5) none (some (.bin .Add (.var 6) (.con (.int 1))))) (.slc (.var 5) (some (.var 6)) none)))] [(.ife (.cmp .Eq (.var 2) (.con (.int 5))) [(.asg (.sub 5 (.var 6)) (.call "_law_pick" [(.var 0), (.tup [(.con (.str [45, 48])), (.con (.str [48, 48])), (.con (.str [48, 49])), (.con (.str [45, 49])), (.con (.str [108, 101, 102, 116])), (.con (.str [114, 105, 103, 104, 116])), (.con (.str [117, 112])), (.con (.str [112, 114, 117, 110, 101])), (.con (.str [115, 119, 97, 112])), (.con (.str [48])), (.con (.str []))])]))] [(.ife (.cmp .Eq (.var 2) (.con (.int 6))) [(.asg (.nm 5) (.bin .Add (.slc (.var 5) none (some (.var 6))) (.slc (.var 5) (some (.bin .Add (.var 6) (.con (.int 1)))) none)))] [])])])])
theorem bend {T : String → Fn} (hT2 : T "_law_pick" = ⟨true, f_L_pick.run⟩) {t : D} {x3 x4 : Sl} {h : Int} {ws : List (List Nat)} {a b : Nat} (p : Pot) (hw : (∀ w ∈ ws, okT w ∧ w.length ≤ 31) ∧ ws.length ≤ 3) (ha : a < ws.length) (hb : b < ws.length) :
    ∃ (ws' : List (List Nat)) (p' : Pot), evS T b_bend [.io (potD p), .sh t, .sh (.int h), x3, x4, .ow (.lst (ws.map .str)), .sh (.int (a : Int)), .sh (.int (b : Int))] = .nx [.io (potD p'), .sh t, .sh (.int h), x3, x4, .ow (.lst (ws'.map .str)), .sh (.int (a : Int)), .sh (.int (b : Int))] ∧ goodWs ws' := by
  have hg : goodWs ws := ⟨hw.1, by omega⟩
  have hcut : ∀ (lo hi : Option Int), (cutL ws lo hi).length ≤ ws.length := fun lo hi => cut_len ws lo hi
  have happ : ∀ (lo hi lo2 hi2 : Option Int), goodWs (cutL ws lo hi ++ cutL ws lo2 hi2) := fun lo hi lo2 hi2 => by
    refine ⟨fun w hm => ?_, ?_⟩
    · rcases List.mem_append.mp hm with hm | hm
      · exact hw.1 w (cut_mem hm)
      · exact hw.1 w (cut_mem hm)
    · rw [List.length_append]
      have := hcut lo hi
      have := hcut lo2 hi2
      omega
  have hadd : ∀ (lo hi lo2 hi2 : Option Int), binD .Add (.lst (cutL (ws.map .str) lo hi)) (.lst (cutL (ws.map .str) lo2 hi2)) = some (.ow (.lst ((cutL ws lo hi ++ cutL ws lo2 hi2).map .str))) := fun lo hi lo2 hi2 => by
    have h1 := hcut lo hi
    have h2 := hcut lo2 hi2
    rw [cut_map, cut_map, add_lst (by rw [List.length_map, List.length_map]; omega), List.map_append]
  have la : a < (ws.map D.str).length := by rw [List.length_map]; exact ha
  have lb : b < (ws.map D.str).length := by rw [List.length_map]; exact hb
  have ia : atI (ws.map D.str) (a : Int) = some (.str ws[a]) := ix_nat (by rw [List.getElem?_map, List.getElem?_eq_getElem ha]; rfl)
  have ib : atI (ws.map D.str) (b : Int) = some (.str ws[b]) := ix_nat (by rw [List.getElem?_map, List.getElem?_eq_getElem hb]; rfl)
  unfold b_bend
  by_cases c3 : h = 3
  · subst c3
    refine ⟨(ws.set a ws[b]).set b ws[a], p, ?_, good_set (good_set hg (hw.1 _ (List.getElem_mem hb))) (hw.1 _ (List.getElem_mem ha))⟩
    have s1 := set_lst (v := .str ws[b]) la
    have s2 := set_lst (l := (ws.set a ws[b]).map D.str) (k := b) (v := .str ws[a]) (by rw [List.length_map, List.length_set]; exact hb)
    rw [map_set] at s1 s2
    generalize ws.map D.str = L at *
    generalize (ws.set a ws[b]).map D.str = L2 at *
    simp [ia, ib, s1, s2, sizeLine_eq, tg_tup]
  · by_cases c4 : h = 4
    · subst c4
      refine ⟨_, p, ?_, happ none (some ((a : Int) + 1)) (some (a : Int)) none⟩
      have e := hadd none (some ((a : Int) + 1)) (some (a : Int)) none
      generalize (cutL ws none (some ((a : Int) + 1)) ++ cutL ws (some (a : Int)) none).map D.str = L2 at *
      generalize ws.map D.str = L at *
      simp [sl_lst, e]
    · by_cases c5 : h = 5
      · subst c5
        obtain ⟨d, p', h1, m1⟩ := run_pickT p (l := swaps.map .str) (by simp [swaps]) (by decide)
        obtain ⟨w, hw1, rfl⟩ := List.mem_map.mp m1
        have h1 : f_L_pick.run [potD p, .tup [.str [45, 48], .str [48, 48], .str [48, 49], .str [45, 49], .str [108, 101, 102, 116], .str [114, 105, 103, 104, 116], .str [117, 112], .str [112, 114, 117, 110, 101], .str [115, 119, 97, 112], .str [48], .str []]] = .sh (.str w) (potD p') := h1
        refine ⟨ws.set a w, p', ?_, good_set hg (swaps_ok w hw1)⟩
        have s1 := set_lst (v := .str w) la
        rw [map_set] at s1
        generalize (ws.set a w).map D.str = L2 at *
        generalize ws.map D.str = L at *
        simp [hT2, callF, ioC, bkV, h1, s1, sizeLine_eq]
      · by_cases c6 : h = 6
        · subst c6
          refine ⟨_, p, ?_, happ none (some (a : Int)) (some ((a : Int) + 1)) none⟩
          have e := hadd none (some (a : Int)) (some ((a : Int) + 1)) none
          generalize (cutL ws none (some (a : Int)) ++ cutL ws (some ((a : Int) + 1)) none).map D.str = L2 at *
          generalize ws.map D.str = L at *
          simp [sl_lst, e]
        · refine ⟨ws, p, ?_, hg⟩
          generalize ws.map D.str = L at *
          simp [c3, c4, c5, c6]
theorem up_ok {t : List Nat} (h : okT t) (hl : t.length ≤ 5592405) : metD .upper (.str t) [] = some (.sh (.str (t.map PyProof.Rows.up1))) ∧ okT (t.map PyProof.Rows.up1) := by
  have e : Txt.upper (mkS t) = mkS (t.map PyProof.Rows.up1) := SX.upper_S (a := t) (List.all_eq_true.mpr fun c hc => decide_eq_true (h c hc))
  refine ⟨?_, fun c hc => ?_⟩
  · simp only [metD]
    rw [if_pos hl, e]
  · obtain ⟨x, hx, rfl⟩ := List.mem_map.mp hc
    have := h x hx
    unfold PyProof.Rows.up1
    split <;> omega
def lasts (t : List Nat) : List D := [.str [], .str [32], .non, .int 5, .tup [.str t], .str (t ++ [32]), .str (t.map PyProof.Rows.up1), .str [112, 114, 117, 110, 101, 32, 48], .str [103, 114, 111, 119, 32, 48], .str (t ++ [10])]
theorem okT_lit {l : List Nat} (h : (l.all fun c => decide (c < 128)) = true) : okT l := fun c hc => of_decide_eq_true (List.all_eq_true.mp h c hc)
theorem lasts_ok {t : List Nat} (h : okT t) (hl : t.length ≤ 96) : ∀ d ∈ lasts t, okB d := by
  intro d hd
  simp only [lasts, List.mem_cons, List.not_mem_nil, or_false] at hd
  rcases hd with rfl | rfl | rfl | rfl | rfl | rfl | rfl | rfl | rfl | rfl
  · exact .inl ⟨_, rfl, okT_lit rfl, by decide⟩
  · exact .inl ⟨_, rfl, okT_lit rfl, by decide⟩
  · exact .inr ⟨fun l e => (by cases e), rfl⟩
  · exact .inr ⟨fun l e => (by cases e), rfl⟩
  · exact .inr ⟨fun l e => (by cases e), rfl⟩
  · exact .inl ⟨_, rfl, okT_app h (okT_lit rfl), by rw [List.length_append, List.length_singleton]; omega⟩
  · exact .inl ⟨_, rfl, (up_ok h (by omega)).2, by rw [List.length_map]; omega⟩
  · exact .inl ⟨_, rfl, okT_lit rfl, by decide⟩
  · exact .inl ⟨_, rfl, okT_lit rfl, by decide⟩
  · exact .inl ⟨_, rfl, okT_app h (okT_lit rfl), by rw [List.length_append, List.length_singleton]; omega⟩
theorem b_step {T : String → Fn} {s : Sx} {ss : List Sx} {env e : En} (h : evS T s env = .nx e) : evB T (s :: ss) env = evB T ss e := by rw [b_cons, h]
theorem run_bent (p : Pot) {t : List Nat} (h : okT t) (hl : t.length ≤ 96) (hw : (∀ w ∈ wds t, okT w ∧ w.length ≤ 31) ∧ (wds t).length ≤ 3) : ∃ (d : D) (p' : Pot), f_L_bent.run [potD p, .str t] = .sh d (potD p') ∧ okB d := by
  have key : ∀ T : String → Fn, T "_law_draw" = ⟨true, f_L_draw.run⟩ → T "_law_pick" = ⟨true, f_L_pick.run⟩ → ∃ (d : D) (p' : Pot), outS true (evB T b_L_bent [.io (potD p), .sh (.str t), .no, .no, .no, .no, .no, .no]) = .sh d (potD p') ∧ okB d := by
    intro T hT1 hT2
    obtain ⟨a, p1, r1, a0, a1⟩ := run_drawN p (m := 8) (by decide) (by decide)
    obtain ⟨b, p2, r2, b0, b1⟩ := run_drawN p1 (m := (t.length : Int) + 1) (by omega) (by omega)
    obtain ⟨c, p3, r3, c0⟩ := run_pickS p2 (l := [48, 49, 53, 57, 45, 32, 10, 97, 108, 43]) (by simp) (by decide)
    have hc : c < 128 := by
      have : ∀ x ∈ ([48, 49, 53, 57, 45, 32, 10, 97, 108, 43] : List Nat), x < 128 := by decide
      exact this c c0
    have g1 : evS T (.par [2, 3] [(.call "_law_draw" [(.var 0), (.con (.int 8))]), (.call "_law_draw" [(.var 0), (.bin .Add (.bi .len [(.var 1)]) (.con (.int 1)))])]) [.io (potD p), .sh (.str t), .no, .no, .no, .no, .no, .no] = .nx [.io (potD p2), .sh (.str t), .sh (.int a), .sh (.int b), .no, .no, .no, .no] := by
      simp [hT1, callF, ioC, bkV, r1, r2]
    have g2 : evS T (.asg (.nm 4) (.call "_law_pick" [(.var 0), (.con (.str [48, 49, 53, 57, 45, 32, 10, 97, 108, 43]))])) [.io (potD p2), .sh (.str t), .sh (.int a), .sh (.int b), .no, .no, .no, .no] = .nx [.io (potD p3), .sh (.str t), .sh (.int a), .sh (.int b), .sh (.str [c]), .no, .no, .no] := by
      simp [hT2, callF, ioC, bkV, r3]
    unfold b_L_bent
    rw [b_step g1, b_step g2]
    by_cases h3 : a < 3
    · have k1 := cut_len t none (some b)
      by_cases h0 : a = 0
      · have k2 := cut_len t (some (b + 1)) none
        have e := add_str (l := cutL t none (some b)) (m := cutL t (some (b + 1)) none) (by omega)
        refine ⟨.str (cutL t none (some b) ++ cutL t (some (b + 1)) none), p3, ?_, .inl ⟨_, rfl, okT_app (okT_cut h) (okT_cut h), by rw [List.length_append]; omega⟩⟩
        subst h0
        simp [sl_str, e, outS, ioOut]
      · have k2 := cut_len t (some (b + a - 1)) none
        have e1 := add_str (l := cutL t none (some b)) (m := [c]) (by rw [List.length_singleton]; omega)
        have e2 := add_str (l := cutL t none (some b) ++ [c]) (m := cutL t (some (b + a - 1)) none) (by rw [List.length_append, List.length_singleton]; omega)
        refine ⟨.str (cutL t none (some b) ++ [c] ++ cutL t (some (b + a - 1)) none), p3, ?_, .inl ⟨_, rfl, okT_app (okT_app (okT_cut h) (fun x hx => by rw [List.mem_singleton] at hx; omega)) (okT_cut h), by rw [List.length_append, List.length_append, List.length_singleton]; omega⟩⟩
        generalize cutL t none (some b) ++ [c] = M at *
        generalize M ++ cutL t (some (b + a - 1)) none = N at *
        simp [h3, h0, sl_str, e1, e2, outS, ioOut]
    · have hs := met_split (t := t) (by omega)
      have hne : wds t ≠ [] := (spl_all t []).2.2
      generalize wds t = ws at *
      have hpos : 0 < ws.length := List.length_pos_iff.mpr hne
      obtain ⟨a2, p4, r4, a20, a21⟩ := run_drawN p3 (m := (ws.length : Int)) (by omega) (by omega)
      obtain ⟨b2, p5, r5, b20, b21⟩ := run_drawN p4 (m := (ws.length : Int)) (by omega) (by omega)
      obtain ⟨ka, rfl⟩ := Int.eq_ofNat_of_zero_le a20
      obtain ⟨kb, rfl⟩ := Int.eq_ofNat_of_zero_le b20
      obtain ⟨ws', p6, g6, hg⟩ := bend hT2 (t := .str t) (x3 := .sh (.int b)) (x4 := .sh (.str [c])) (h := a) (a := ka) (b := kb) p5 hw (by omega) (by omega)
      have hsv : ∀ e : En, strV (.sh (.str t)) e = true := fun _ => rfl
      have hsv2 : ∀ e : En, strV (.sh (.str [32])) e = true := fun _ => rfl
      have g3 : evS T (.ife (.cmp .Lt (.var 2) (.con (.int 3))) [(.ret (.ife (.cmp .Eq (.var 2) (.con (.int 0))) (.bin .Add (.slc (.var 1) none (some (.var 3))) (.slc (.var 1) (some (.bin .Add (.var 3) (.con (.int 1)))) none)) (.bin .Add (.bin .Add (.slc (.var 1) none (some (.var 3))) (.var 4)) (.slc (.var 1) (some (.bin .Sub (.bin .Add (.var 3) (.var 2)) (.con (.int 1)))) none))))] []) [.io (potD p3), .sh (.str t), .sh (.int a), .sh (.int b), .sh (.str [c]), .no, .no, .no] = .nx [.io (potD p3), .sh (.str t), .sh (.int a), .sh (.int b), .sh (.str [c]), .no, .no, .no] := by
        simp [h3]
      have g4 : evS T (.asg (.nm 5) (.met .split (.var 1) [(.con (.str [32]))])) [.io (potD p3), .sh (.str t), .sh (.int a), .sh (.int b), .sh (.str [c]), .no, .no, .no] = .nx [.io (potD p3), .sh (.str t), .sh (.int a), .sh (.int b), .sh (.str [c]), .ow (.lst (ws.map .str)), .no, .no] := by
        simp [hs, hsv]
      have g5 : evS T (.par [6, 7] [(.call "_law_draw" [(.var 0), (.bi .len [(.var 5)])]), (.call "_law_draw" [(.var 0), (.bi .len [(.var 5)])])]) [.io (potD p3), .sh (.str t), .sh (.int a), .sh (.int b), .sh (.str [c]), .ow (.lst (ws.map .str)), .no, .no] = .nx [.io (potD p5), .sh (.str t), .sh (.int a), .sh (.int b), .sh (.str [c]), .ow (.lst (ws.map .str)), .sh (.int (ka : Int)), .sh (.int (kb : Int))] := by
        have r4 : f_L_draw.run [potD p3, .int (ws.map D.str).length] = .sh (.int (ka : Int)) (potD p4) := by rw [List.length_map]; exact r4
        have r5 : f_L_draw.run [potD p4, .int (ws.map D.str).length] = .sh (.int (kb : Int)) (potD p5) := by rw [List.length_map]; exact r5
        generalize ws.map D.str = L at *
        simp [hT1, callF, ioC, bkV, r4, r5]
      unfold b_bend at g6
      rw [b_step g3, b_step g4, b_step g5, b_step g6]
      by_cases h7 : a < 7
      · have hj := met_join (ws := ws') (k := 31) (fun w hw => (hg.1 w hw).2) (by have := hg.2; omega)
        refine ⟨.str (TL.joinL [32] ws'), p6, ?_, .inl ⟨_, rfl, join_ok fun w hw => (hg.1 w hw).1, ?_⟩⟩
        · generalize ws'.map D.str = L at *
          simp [h7, hsv2, hj, outS, ioOut]
        · have e1 := join_len ws'
          have e2 := sum_le (ws := ws') (k := 31) fun w hw => (hg.1 w hw).2
          have := hg.2
          omega
      · obtain ⟨d, p7, r7, m7⟩ := run_pickT p6 (l := lasts t) (by simp [lasts]) (by simp [lasts])
        refine ⟨d, p7, ?_, lasts_ok h hl d m7⟩
        have u := (up_ok h (by omega)).1
        have e1 := add_str (l := t) (m := [32]) (by rw [List.length_singleton]; omega)
        have e2 := add_str (l := t) (m := [10]) (by rw [List.length_singleton]; omega)
        unfold lasts at r7
        generalize ws'.map D.str = L at *
        generalize t.map PyProof.Rows.up1 = U at *
        generalize t ++ [32] = A at *
        generalize t ++ [10] = B at *
        simp [h7, hsv, u, e1, e2, hT2, callF, ioC, bkV, r7, sizeLine_eq, outS, ioOut]
  exact key (tabF [("_law_draw", f_L_draw), ("_law_pick", f_L_pick)]) rfl rfl
end G77

/-! K77i: _law_is_right. -/
namespace G77
open PySem PySem.Spec PyProof.Rows L2 Pv PvL
theorem same_eq : ∀ m : Nat, f_L_same m = PvL.f_same m
  | 0 => rfl
  | m + 1 => by
    show mkFn (tabF [("_law_same", f_L_same m)]) false 3 b_L_same = mkFn (tabF [("_law_same", PvL.f_same m)]) false 3 PvL.b_same
    rw [same_eq m]; rfl
theorem run_same {d : D} (h : plainD 7 d = true) : (f_L_same 8).run [d, d] = .sh (.bl true) .non := by
  rw [same_eq]
  exact same_self 7 d h
theorem plain_P {m : Nat} {d : D} (h : okP d) : plainD m d = true := by
  cases d <;> first | exact h.elim | (cases m <;> rfl)
theorem plain_parts {m : Nat} : ∀ {ds : List D}, (∀ d ∈ ds, okP d) → plainD.plainL m ds = true
  | [], _ => rfl
  | d :: ds, h => by
    show (plainD m d && plainD.plainL m ds) = true
    rw [plain_P (h d List.mem_cons_self), plain_parts fun x hx => h x (List.mem_cons_of_mem _ hx)]; rfl
theorem plain_tup {m : Nat} {ds : List D} (h : ∀ d ∈ ds, okP d) (hl : ds.length ≤ 1000) : plainD (m + 1) (.tup ds) = true := by
  show (plainD.plainL m ds && decide (ds.length ≤ sizeLine)) = true
  rw [plain_parts h, decide_eq_true (by rw [sizeLine_eq]; omega)]; rfl
theorem plain_lst {m : Nat} {ds : List D} (h : ∀ d ∈ ds, okP d) (hl : ds.length ≤ 1000) : plainD (m + 1) (.lst ds) = true := by
  show (plainD.plainL m ds && decide (ds.length ≤ sizeLine)) = true
  rw [plain_parts h, decide_eq_true (by rw [sizeLine_eq]; omega)]; rfl
theorem plain_two {a : List Nat} {d : D} (h : plainD 6 d = true) : plainD 7 (.lst [.str a, d]) = true := by
  show ((plainD 6 (.str a) && (plainD 6 d && true)) && decide (2 ≤ sizeLine)) = true
  rw [h, decide_eq_true (by rw [sizeLine_eq]; omega)]; rfl
theorem rd_ok {ws : List (List Nat)} {l : List D} (h : rd ws = some l) (hw : ∀ w ∈ ws, okT w) : (∃ x xs, l = x :: xs) ∧ (∀ d ∈ l, okP d) ∧ l.length = ws.length := by
  cases ws with
  | nil => cases h
  | cons w r =>
    have h : (if deedB w (tl1 r) = true then some (D.str w :: tl1 r) else none) = some l := h
    split at h
    · cases h
      refine ⟨⟨_, _, rfl⟩, okP_tl hw, ?_⟩
      cases r with
      | nil => rfl
      | cons x r =>
        show (r.map D.str).length + 1 + 1 = _
        rw [List.length_map]; rfl
    · cases h
/-! hearing -/
section
variable {T : String → Fn} {x : String} {ok : List Nat} {hs : List (String × List Nat)} {e : Ex} {env e1 : En} {d : D}
theorem hear_ok (h : evE T e env = .ok (.sh d) e1) : evE T (.hear x ok hs e) env = .ok (.ow (.lst [.str ok, d])) e1 := by
  have e0 : evE T (.hear x ok hs e) env = match evE T e env with
    | .ok v e1 => match fz v e1 with
      | some (d, e2) => .ok (.ow (.lst [.str ok, d])) e2
      | none => .stuck
    | .ex c d e1 => match hs.lookup c with
      | some w => .ok (.ow (.lst [.str w, d])) e1
      | none => .stuck
    | .stuck => .stuck := nr rfl
  rw [e0, h]; rfl
theorem hear_ex {c : String} {w : List Nat} (h : evE T e env = .ex c d e1) (hw : hs.lookup c = some w) : evE T (.hear x ok hs e) env = .ok (.ow (.lst [.str w, d])) e1 := by
  have e0 : evE T (.hear x ok hs e) env = match evE T e env with
    | .ok v e1 => match fz v e1 with
      | some (d, e2) => .ok (.ow (.lst [.str ok, d])) e2
      | none => .stuck
    | .ex c d e1 => match hs.lookup c with
      | some w => .ok (.ow (.lst [.str w, d])) e1
      | none => .stuck
    | .stuck => .stuck := nr rfl
  rw [e0, h]
  simp only [hw]
theorem call_same {a b : Ex} {e2 e3 : En} {v1 v2 : Vl} (hT : T "_law_same" = ⟨false, (f_L_same 8).run⟩) (ha : evE T a env = .ok v1 e1) (hb : evE T b e1 = .ok v2 e2) (hf : fzL [v1, v2] e2 = some ([d, d], e3)) (hp : plainD 7 d = true) : evE T (.call "_law_same" [a, b]) env = .ok (.sh (.bl true)) e3 := by
  rw [e_call, el_cons, ha, Rs.bind_ok, el_cons, hb, Rs.bind_ok, el_nil, Rs.bind_ok, Rs.bind_ok, Rs.bind_ok, hT]
  show (match fzL [v1, v2] e2 with
    | some (ds, e1) => match (f_L_same 8).run ds with
      | .sh r _ => Rs.ok (Vl.sh r) e1
      | .ow r _ => .ok (.ow r) e1
      | .ex c r _ => .ex c r e1
      | .stuck => .stuck
    | none => .stuck) = _
  rw [hf]
  simp only [run_same hp]
end
/-- the callees -/
structure TL (T : String → Fn) : Prop where
  dt : T "deed_text" = ⟨false, f_deed_text.run⟩
  rdd : T "read_deed" = ⟨false, f_read_deed.run⟩
  same : T "_law_same" = ⟨false, (f_L_same 8).run⟩
  bent : T "_law_bent" = ⟨true, f_L_bent.run⟩
  lread : T "_law_read" = ⟨false, f_L_read.run⟩
  pick : T "_law_pick" = ⟨true, f_L_pick.run⟩
abbrev hearR : Ex := (.hear "_law_heard" [116, 111, 108, 100] [("InvalidText", [116, 101, 120, 116]), ("InvalidDeed", [100, 101, 101, 100])] (.call "read_deed" [(.var 5)]))
abbrev hearD : Ex := (.hear "_law_heard" [116, 111, 108, 100] [("InvalidText", [116, 101, 120, 116]), ("InvalidDeed", [100, 101, 101, 100])] (.call "deed_text" [(.var 8)]))
abbrev lapB : List Sx := [(.asg (.nm 5) (.call "_law_bent" [(.var 0), (.var 2)])), (.asg (.nm 6) (.ife (.isi (.var 5) "str") (.call "_law_read" [(.var 5)]) (.tup []))), (.ife (.not (.call "_law_same" [hearR, (.ife (.cmp .NotEq (.var 6) (.tup [])) (.lst [(.con (.str [116, 111, 108, 100])), (.var 6)]) (.lst [(.con (.str [116, 101, 120, 116])), (.var 5)]))])) [(.ret (.con (.bl false)))] [])]
theorem ne_of {a b : D} {x : Bool} (h : eqD a b = some x) : cmpD .NotEq a b = some (!x) := by
  show (eqD a b).map (!·) = _
  rw [h]; rfl
theorem lap {T : String → Fn} (t : TL T) {ds : List D} (hd : IsDeed ds) {x3 x4 x7 x8 x9 x5 x6 : Sl} (p : Pot) (f5 : Fr x5) (f6 : Fr x6) :
    ∃ (p' : Pot) (b c : D), evB T lapB [.io (potD p), .sh (.tup ds), .sh (.str (txtOf ds)), x3, x4, x5, x6, x7, x8, x9] = .nx [.io (potD p'), .sh (.tup ds), .sh (.str (txtOf ds)), x3, x4, .sh b, .sh c, x7, x8, x9] := by
  have hk := txt_ok hd
  have hp := deed_parts hd
  have hwd := wds_txt hp.1 hp.2.2
  have hwl : (wsOf ds).length = ds.length := List.length_map ..
  obtain ⟨b, p', r1, hb⟩ := run_bent p hk.1 hk.2 (by rw [hwd]; exact ⟨fun w hw => (ws_part hp.2.2 w hw).2, by rw [hwl]; exact hp.2.1⟩)
  have g1 : evS T (.asg (.nm 5) (.call "_law_bent" [(.var 0), (.var 2)])) [.io (potD p), .sh (.tup ds), .sh (.str (txtOf ds)), x3, x4, x5, x6, x7, x8, x9] = .nx [.io (potD p'), .sh (.tup ds), .sh (.str (txtOf ds)), x3, x4, .sh b, x6, x7, x8, x9] := by
    simp [t.bent, callF, ioC, bkV, r1, (f5 b).1]
  obtain ⟨c, g2, g3⟩ : ∃ c : D, evS T (.asg (.nm 6) (.ife (.isi (.var 5) "str") (.call "_law_read" [(.var 5)]) (.tup []))) [.io (potD p'), .sh (.tup ds), .sh (.str (txtOf ds)), x3, x4, .sh b, x6, x7, x8, x9] = .nx [.io (potD p'), .sh (.tup ds), .sh (.str (txtOf ds)), x3, x4, .sh b, .sh c, x7, x8, x9] ∧
      evE T (.call "_law_same" [hearR, (.ife (.cmp .NotEq (.var 6) (.tup [])) (.lst [(.con (.str [116, 111, 108, 100])), (.var 6)]) (.lst [(.con (.str [116, 101, 120, 116])), (.var 5)]))]) [.io (potD p'), .sh (.tup ds), .sh (.str (txtOf ds)), x3, x4, .sh b, .sh c, x7, x8, x9] = .ok (.sh (.bl true)) [.io (potD p'), .sh (.tup ds), .sh (.str (txtOf ds)), x3, x4, .sh b, .sh c, x7, x8, x9] := by
    have nn := ne_of eqt_nil
    rcases hb with ⟨l, rfl, hl, hl2⟩ | ⟨hn, hpl⟩
    · have hR := run_read hl hl2
      have hL := run_Lread hl hl2
      cases ho : rd (wds l) with
      | none =>
        rw [ho] at hR hL
        refine ⟨.tup [], by simp [isiD, t.lread, callF, hL, rdL, (f6 (.tup [])).1], ?_⟩
        refine call_same t.same (hear_ex (c := "InvalidText") (w := [116, 101, 120, 116]) (d := .str l) (e1 := [.io (potD p'), .sh (.tup ds), .sh (.str (txtOf ds)), x3, x4, .sh (.str l), .sh (.tup []), x7, x8, x9]) ?_ rfl) (d := .lst [.str [116, 101, 120, 116], .str l]) (v2 := .ow (.lst [.str [116, 101, 120, 116], .str l])) ?_ rfl rfl
        · simp [t.rdd, callF, hR, rdF]
        · simp [nn, sizeLine_eq]
      | some q =>
        rw [ho] at hR hL
        obtain ⟨⟨y, ys, rfl⟩, k1, k2⟩ := rd_ok ho fun w hw => (wds_ok hl w hw).1
        have hlen := wds_len l
        have n2 := ne_of (eqt_cons k1)
        refine ⟨.tup (y :: ys), by simp [isiD, t.lread, callF, hL, rdL, (f6 (.tup (y :: ys))).1], ?_⟩
        refine call_same t.same (hear_ok (d := .tup (y :: ys)) (e1 := [.io (potD p'), .sh (.tup ds), .sh (.str (txtOf ds)), x3, x4, .sh (.str l), .sh (.tup (y :: ys)), x7, x8, x9]) ?_) (d := .lst [.str [116, 111, 108, 100], .tup (y :: ys)]) (v2 := .ow (.lst [.str [116, 111, 108, 100], .tup (y :: ys)])) ?_ rfl (plain_two (plain_tup k1 (by omega)))
        · simp [t.rdd, callF, hR, rdF]
        · simp [n2, sizeLine_eq]
    · have hR := run_read_no hn
      have hi : isiD b "str" = some false := by
        cases b <;> first | rfl | exact absurd rfl (hn _)
      refine ⟨.tup [], by simp [hi, sizeLine_eq, (f6 (.tup [])).1], ?_⟩
      refine call_same t.same (hear_ex (c := "InvalidText") (w := [116, 101, 120, 116]) (d := b) (e1 := [.io (potD p'), .sh (.tup ds), .sh (.str (txtOf ds)), x3, x4, .sh b, .sh (.tup []), x7, x8, x9]) ?_ rfl) (d := .lst [.str [116, 101, 120, 116], b]) (v2 := .ow (.lst [.str [116, 101, 120, 116], b])) ?_ rfl (plain_two hpl)
      · simp [t.rdd, callF, hR]
      · simp [nn, sizeLine_eq]
  refine ⟨p', b, c, ?_⟩
  unfold lapB
  rw [b_step g1, b_step g2, b_cons, s_ife', tru1_def, e_not, g3]
  simp
theorem add_tup {l m : List D} (h : l.length + m.length ≤ 16777216) : binD .Add (.tup l) (.tup m) = some (.sh (.tup (l ++ m))) := by
  simp only [binD, sizeLine_eq]
  rw [if_pos h]
theorem odds_plain {ds : List D} (hd : IsDeed ds) {t : List Nat} : ∀ d ∈ odds ds t, plainD 6 d = true := by
  intro d hm
  have hp := deed_parts hd
  simp only [odds, List.mem_cons, List.not_mem_nil, or_false] at hm
  rcases hm with rfl | rfl | rfl | rfl | rfl | rfl | rfl | rfl | rfl | rfl | rfl | rfl | rfl | rfl | rfl | rfl | rfl | rfl | rfl | rfl
  · rfl
  · rfl
  · refine plain_tup (fun d hd => ?_) (by rw [List.length_append, List.length_singleton]; have := hp.2.1; omega)
    rcases List.mem_append.mp hd with hd | hd
    · exact okP_W (hp.2.2 d hd)
    · rw [List.mem_singleton] at hd
      rw [hd]; trivial
  · exact plain_lst (fun d hd => okP_W (hp.2.2 d hd)) (by have := hp.2.1; omega)
  all_goals rfl
abbrev exOdds1 : Ex := (.lst [(.con .non), (.tup []), (.bin .Add (.var 1) (.tup [(.con (.int 1))])), (.bi .list [(.var 1)]), (.var 2), (.con (.int 5)), (.tup [(.con (.str [103, 114, 111, 119])), (.con (.int 0))]), (.tup [(.con (.str [103, 114, 111, 119])), (.con (.int 0)), (.con (.str [117, 112]))]), (.tup [(.con (.str [103, 114, 111, 119])), (.con .non), (.con (.str [108, 101, 102, 116]))]), (.tup [(.con (.str [103, 114, 111, 119])), (.con (.bl true)), (.con (.str [108, 101, 102, 116]))]), (.tup [(.con (.str [112, 114, 117, 110, 101])), (.con (.int 0))])])
abbrev exOdds2 : Ex := (.lst [(.tup [(.con (.str [115, 119, 97, 112])), (.con (.str [48]))]), (.tup [(.con (.str [115, 119, 97, 112]))]), (.tup [(.con (.str [115, 104, 114, 105, 110, 107])), (.con (.int 1)), (.con (.str [108, 101, 102, 116]))]), (.tup [(.con (.str [116, 117, 114, 110])), (.con (.int 1))]), (.tup [(.con (.str [116, 117, 114, 110])), (.con (.str [49])), (.con (.str [108, 101, 102, 116]))]), (.tup [(.con (.str [116, 117, 114, 110])), (.con (.int 1)), (.con (.int 2))]), (.tup [(.con (.int 5)), (.con (.int 1))]), (.tup [(.con (.str [83, 119, 97, 112])), (.con (.int 1))]), (.tup [(.con (.str [115, 119, 97, 112])), (.tup [(.con (.int 1))])])])
def odds1 (ds : List D) (t : List Nat) : List D := [.non, .tup [], .tup (ds ++ [.int 1]), .lst ds, .str t, .int 5, .tup [.str sGrow, .int 0], .tup [.str sGrow, .int 0, .str [117, 112]], .tup [.str sGrow, .non, .str sLeft], .tup [.str sGrow, .bl true, .str sLeft], .tup [.str sPrune, .int 0]]
def odds2 : List D := [.tup [.str sSwap, .str [48]], .tup [.str sSwap], .tup [.str sShrink, .int 1, .str sLeft], .tup [.str sTurn, .int 1], .tup [.str sTurn, .str [49], .str sLeft], .tup [.str sTurn, .int 1, .int 2], .tup [.int 5, .int 1], .tup [.str [83, 119, 97, 112], .int 1], .tup [.str sSwap, .tup [.int 1]]]
theorem odds_eq {ds : List D} {t : List Nat} : odds1 ds t ++ odds2 = odds ds t := rfl
section
variable {T : String → Fn} {ds : List D} {t : List Nat} {x0 x3 x4 x5 x6 x7 x8 x9 : Sl}
theorem ev_odds1 (hl : ds.length ≤ 3) : evE T exOdds1 [x0, .sh (.tup ds), .sh (.str t), x3, x4, x5, x6, x7, x8, x9] = .ok (.ow (.lst (odds1 ds t))) [x0, .sh (.tup ds), .sh (.str t), x3, x4, x5, x6, x7, x8, x9] := by
  have e := add_tup (l := ds) (m := [.int 1]) (by rw [List.length_singleton]; omega)
  unfold odds1
  generalize ds ++ [.int 1] = L at *
  simp [e, sizeLine_eq]
theorem ev_odds2 : evE T exOdds2 [x0, .sh (.tup ds), .sh (.str t), x3, x4, x5, x6, x7, x8, x9] = .ok (.ow (.lst odds2)) [x0, .sh (.tup ds), .sh (.str t), x3, x4, x5, x6, x7, x8, x9] := by
  unfold odds2
  simp [sizeLine_eq]
end
end G77

/-! K77j: the law. -/
namespace G77
open PySem PySem.Spec PyProof.Rows L2 Pv PvL
theorem run_mk {T : String → Fn} {io : Bool} {n : Nat} {b : List Sx} {ds : List D} : (mkFn T io n b).run ds = outS io (evB T b (envAt io n ds)) := rfl
theorem all_rep {α : Type} (l : List α) : biD .all [.lst (l.map fun _ => .bl true)] = some (.sh (.bl true)) := by
  rw [List.map_const']
  exact all_true _
theorem run_is_right (p : Pot) {ds : List D} (hd : IsDeed ds) : ∃ p' : Pot, f_L_is_right.run [potD p, .tup ds] = .sh (.bl true) (potD p') := by
  have key : ∀ T : String → Fn, TL T → ∃ p' : Pot, outS true (evB T b_L_is_right [.io (potD p), .sh (.tup ds), .no, .no, .no, .no, .no, .no, .no, .no]) = .sh (.bl true) (potD p') := by
    intro T t
    have hp := deed_parts hd
    obtain ⟨tx, htx⟩ : ∃ tx, tx = txtOf ds := ⟨_, rfl⟩
    have hz : (ds.map fun d => D.str (partT d)).length ≤ sizeLine := by rw [List.length_map, sizeLine_eq]; have := hp.2.1; omega
    have hsv : ∀ e : En, strV (.sh (.str [32])) e = true := fun _ => rfl
    have hj := met_ws hp.2.1 hp.2.2
    rw [← htx] at hj
    have g1 : evS T (.asg (.nm 2) (.met .join (.con (.str [32])) [(.lc [9] (.bi .str [(.var 9)]) (.nm 9) (.sq (.var 1)) [])])) [.io (potD p), .sh (.tup ds), .no, .no, .no, .no, .no, .no, .no, .no] = .nx [.io (potD p), .sh (.tup ds), .sh (.str tx), .no, .no, .no, .no, .no, .no, .no] := by
      have hlc : evE T (.lc [9] (.bi .str [(.var 9)]) (.nm 9) (.sq (.var 1)) []) [.io (potD p), .sh (.tup ds), .no, .no, .no, .no, .no, .no, .no, .no] = .ok (.ow (.lst (ds.map fun d => .str (partT d)))) [.io (potD p), .sh (.tup ds), .no, .no, .no, .no, .no, .no, .no, .no] := by
        rw [e_lc, ei_sq]
        simp only [e_var, List.getElem?_cons_zero, List.getElem?_cons_succ, Rs.bind_ok, f_sh, it_tup]
        rw [show wipeE [.io (potD p), .sh (.tup ds), .no, .no, .no, .no, .no, .no, .no, .no] [9] = [.io (potD p), .sh (.tup ds), .no, .no, .no, .no, .no, .no, .no, .no] from rfl]
        rw [lc_map (ew := [.io (potD p), .sh (.tup ds), .no, .no, .no, .no, .no, .no, .no, .no]) (fun d => .str (partT d)) (fun d => [.io (potD p), .sh (.tup ds), .no, .no, .no, .no, .no, .no, .no, .sh d])]
        · rw [List.nil_append]
          simp only [if_pos hz]
          rfl
        · intro d hm
          refine ⟨by simp, ⟨.sh (.str (partT d)), ?_, rfl⟩, by simp [wipeE]⟩
          simp [str_ok (hp.2.2 d hm)]
      generalize (Ex.lc [9] (.bi .str [(.var 9)]) (.nm 9) (.sq (.var 1)) []) = E at hlc
      simp [hsv, hlc, hj]
    have d1 := deed_text_is hd
    have d2 := read_text_is hd
    rw [← htx] at d1 d2
    have g2 : evS T (.asg (.nm 3) (.lst [(.call "deed_text" [(.var 1)]), (.callK "deed_text" [("deed", (.var 1))] [0]), (.call "read_deed" [(.var 2)]), (.callK "read_deed" [("text", (.var 2))] [0])])) [.io (potD p), .sh (.tup ds), .sh (.str tx), .no, .no, .no, .no, .no, .no, .no] = .nx [.io (potD p), .sh (.tup ds), .sh (.str tx), .ow (.lst [.str tx, .str tx, .tup ds, .tup ds]), .no, .no, .no, .no, .no, .no] := by
      simp [t.dt, t.rdd, callF, d1, d2, sizeLine_eq]
    have hpt : plainD 6 (.tup ds) = true := plain_tup (fun d hm => okP_W (hp.2.2 d hm)) (by have := hp.2.1; omega)
    have g3 : evS T (.ife (.not (.call "_law_same" [(.var 3), (.lst [(.var 2), (.var 2), (.var 1), (.var 1)])])) [(.ret (.con (.bl false)))] []) [.io (potD p), .sh (.tup ds), .sh (.str tx), .ow (.lst [.str tx, .str tx, .tup ds, .tup ds]), .no, .no, .no, .no, .no, .no] = .nx [.io (potD p), .sh (.tup ds), .sh (.str tx), .sh (.lst [.str tx, .str tx, .tup ds, .tup ds]), .no, .no, .no, .no, .no, .no] := by
      have c := call_same (T := T) (a := .var 3) (b := .lst [(.var 2), (.var 2), (.var 1), (.var 1)]) (env := [.io (potD p), .sh (.tup ds), .sh (.str tx), .ow (.lst [.str tx, .str tx, .tup ds, .tup ds]), .no, .no, .no, .no, .no, .no])
        (e1 := [.io (potD p), .sh (.tup ds), .sh (.str tx), .ow (.lst [.str tx, .str tx, .tup ds, .tup ds]), .no, .no, .no, .no, .no, .no]) (e2 := [.io (potD p), .sh (.tup ds), .sh (.str tx), .ow (.lst [.str tx, .str tx, .tup ds, .tup ds]), .no, .no, .no, .no, .no, .no])
        (e3 := [.io (potD p), .sh (.tup ds), .sh (.str tx), .sh (.lst [.str tx, .str tx, .tup ds, .tup ds]), .no, .no, .no, .no, .no, .no])
        (v1 := .bo 3) (v2 := .ow (.lst [.str tx, .str tx, .tup ds, .tup ds])) (d := .lst [.str tx, .str tx, .tup ds, .tup ds]) t.same (by simp) (by simp [sizeLine_eq]) rfl (by
          show ((true && (true && (plainD 6 (.tup ds) && (plainD 6 (.tup ds) && true)))) && decide (4 ≤ sizeLine)) = true
          rw [hpt, decide_eq_true (by rw [sizeLine_eq]; omega)]; rfl)
      rw [s_ife', tru1_def, e_not, c]
      simp
    obtain ⟨e4, g4, p4, x4, x5, x6, he4⟩ : ∃ e4 : En, evS T (.fr (.nm 4) (.rng [(.con (.int 8))]) lapB) [.io (potD p), .sh (.tup ds), .sh (.str tx), .sh (.lst [.str tx, .str tx, .tup ds, .tup ds]), .no, .no, .no, .no, .no, .no] = .nx e4 ∧ ∃ (p4 : Pot) (x4 x5 x6 : Sl), e4 = [.io (potD p4), .sh (.tup ds), .sh (.str tx), .sh (.lst [.str tx, .str tx, .tup ds, .tup ds]), x4, x5, x6, .no, .no, .no] := by
      have hr : rngD [.int 8] = some ((List.range 8).map fun (k : Nat) => .int (k : Int)) := rng_n (n := 8) (by omega)
      have hi := ei_rng1 (T := T) (es := [(.con (.int 8))]) (env := [.io (potD p), .sh (.tup ds), .sh (.str tx), .sh (.lst [.str tx, .str tx, .tup ds, .tup ds]), .no, .no, .no, .no, .no, .no]) (x := .int 8) (by simp; rfl) hr
      obtain ⟨e4, h1, h2⟩ := fr_inv0 (body := evB T lapB) (pt := .nm 4) (fun _ e => ∃ (p4 : Pot) (x4 x5 x6 : Sl), Fr x4 ∧ Fr x5 ∧ Fr x6 ∧ e = [.io (potD p4), .sh (.tup ds), .sh (.str tx), .sh (.lst [.str tx, .str tx, .tup ds, .tup ds]), x4, x5, x6, .no, .no, .no]) ((List.range 8).map fun (k : Nat) => .int (k : Int)) [.io (potD p), .sh (.tup ds), .sh (.str tx), .sh (.lst [.str tx, .str tx, .tup ds, .tup ds]), .no, .no, .no, .no, .no, .no]
        ⟨p, .no, .no, .no, fr_no, fr_no, fr_no, rfl⟩ (fun i d e _ he => by
          obtain ⟨p4, x4, x5, x6, f4, f5, f6, rfl⟩ := he
          obtain ⟨p', b, c, hl⟩ := lap t hd (x3 := .sh (.lst [.str tx, .str tx, .tup ds, .tup ds])) (x4 := .sh d) (x7 := .no) (x8 := .no) (x9 := .no) (x5 := x5) (x6 := x6) p4 f5 f6
          rw [← htx] at hl
          exact ⟨_, _, by simp [(f4 d).1], .inl hl, p', .sh d, .sh b, .sh c, fr_sh, fr_sh, fr_sh, rfl⟩)
      obtain ⟨p4, x4, x5, x6, _, _, _, rfl⟩ := h2
      exact ⟨_, by rw [s_fr', hi, Rs.toS_ok, h1], p4, x4, x5, x6, rfl⟩
    subst he4
    have hadd := add_lst (l := odds1 ds tx) (m := odds2) (by show 11 + 9 ≤ _; decide)
    rw [odds_eq] at hadd
    have g5 : evS T (.asg (.nm 7) exOdds1) [.io (potD p4), .sh (.tup ds), .sh (.str tx), .sh (.lst [.str tx, .str tx, .tup ds, .tup ds]), x4, x5, x6, .no, .no, .no] = .nx [.io (potD p4), .sh (.tup ds), .sh (.str tx), .sh (.lst [.str tx, .str tx, .tup ds, .tup ds]), x4, x5, x6, .ow (.lst (odds1 ds tx)), .no, .no] := by
      rw [s_asg', ev_odds1 hp.2.1, Rs.toS_ok]
      simp
    have g6 : evS T (.asg (.nm 7) (.bin .Add (.var 7) exOdds2)) [.io (potD p4), .sh (.tup ds), .sh (.str tx), .sh (.lst [.str tx, .str tx, .tup ds, .tup ds]), x4, x5, x6, .ow (.lst (odds1 ds tx)), .no, .no] = .nx [.io (potD p4), .sh (.tup ds), .sh (.str tx), .sh (.lst [.str tx, .str tx, .tup ds, .tup ds]), x4, x5, x6, .ow (.lst (odds ds tx)), .no, .no] := by
      have e2 := ev_odds2 (T := T) (ds := ds) (t := tx) (x0 := .io (potD p4)) (x3 := .sh (.lst [.str tx, .str tx, .tup ds, .tup ds])) (x4 := x4) (x5 := x5) (x6 := x6) (x7 := .ow (.lst (odds1 ds tx))) (x8 := .no) (x9 := .no)
      generalize exOdds2 = E at *
      generalize odds ds tx = O at *
      generalize odds1 ds tx = O1 at *
      generalize odds2 = O2 at *
      simp [e2, hadd]
    obtain ⟨d, p5, r7, m7⟩ := run_pickL p4 (l := odds ds tx) (by simp [odds]) (by simp [odds])
    have hno := run_dt_no (odd_no hd d m7)
    have hpl := odds_plain hd d m7
    have g7 : evS T (.asg (.nm 8) (.call "_law_pick" [(.var 0), (.var 7)])) [.io (potD p4), .sh (.tup ds), .sh (.str tx), .sh (.lst [.str tx, .str tx, .tup ds, .tup ds]), x4, x5, x6, .ow (.lst (odds ds tx)), .no, .no] = .nx [.io (potD p5), .sh (.tup ds), .sh (.str tx), .sh (.lst [.str tx, .str tx, .tup ds, .tup ds]), x4, x5, x6, .sh (.lst (odds ds tx)), .sh d, .no] := by
      generalize odds ds tx = O at *
      simp [t.pick, callF, ioC, bkV, r7]
    have g8 : evS T (.ret (.call "_law_same" [hearD, (.lst [(.con (.str [100, 101, 101, 100])), (.var 8)])])) [.io (potD p5), .sh (.tup ds), .sh (.str tx), .sh (.lst [.str tx, .str tx, .tup ds, .tup ds]), x4, x5, x6, .sh (.lst (odds ds tx)), .sh d, .no] = .rt (.sh (.bl true)) [.io (potD p5), .sh (.tup ds), .sh (.str tx), .sh (.lst [.str tx, .str tx, .tup ds, .tup ds]), x4, x5, x6, .sh (.lst (odds ds tx)), .sh d, .no] := by
      generalize odds ds tx = O at *
      have c := call_same (T := T) (env := [.io (potD p5), .sh (.tup ds), .sh (.str tx), .sh (.lst [.str tx, .str tx, .tup ds, .tup ds]), x4, x5, x6, .sh (.lst O), .sh d, .no]) (a := hearD) (b := .lst [(.con (.str [100, 101, 101, 100])), (.var 8)]) t.same
        (hear_ex (c := "InvalidDeed") (w := [100, 101, 101, 100]) (d := d) (e1 := [.io (potD p5), .sh (.tup ds), .sh (.str tx), .sh (.lst [.str tx, .str tx, .tup ds, .tup ds]), x4, x5, x6, .sh (.lst O), .sh d, .no]) (by simp [t.dt, callF, hno]) rfl)
        (d := .lst [.str [100, 101, 101, 100], d]) (v2 := .ow (.lst [.str [100, 101, 101, 100], d])) (e2 := [.io (potD p5), .sh (.tup ds), .sh (.str tx), .sh (.lst [.str tx, .str tx, .tup ds, .tup ds]), x4, x5, x6, .sh (.lst O), .sh d, .no]) (e3 := [.io (potD p5), .sh (.tup ds), .sh (.str tx), .sh (.lst [.str tx, .str tx, .tup ds, .tup ds]), x4, x5, x6, .sh (.lst O), .sh d, .no]) (by simp [sizeLine_eq]) rfl (plain_two hpl)
      rw [s_ret', c, Rs.toS_ok]
    refine ⟨p5, ?_⟩
    unfold b_L_is_right
    rw [b_step g1, b_step g2, b_step g3, b_step g4, b_step g5, b_step g6, b_step g7, b_cons, g8]
    rfl
  have k := key (tabF [("deed_text", f_deed_text), ("read_deed", f_read_deed), ("_law_same", f_L_same 8), ("_law_bent", f_L_bent), ("_law_read", f_L_read), ("_law_pick", f_L_pick)]) ⟨rfl, rfl, rfl, rfl, rfl, rfl⟩
  unfold f_L_is_right
  rw [run_mk]
  exact k
abbrev turnB : List Sx := [(.ife (.not (.call "_law_is_right" [(.var 0), (.call "_law_deed" [(.var 0)])])) [(.ret (.con (.bl false)))] [])]
theorem run_right (p : Pot) : ∃ p' : Pot, f_L_right.run [potD p] = .sh (.bl true) (potD p') := by
  have key : ∀ T : String → Fn, T "_law_is_right" = ⟨true, f_L_is_right.run⟩ → T "_law_deed" = ⟨true, f_L_deed.run⟩ → ∃ p' : Pot, outS true (evB T b_L_right [.io (potD p), .no]) = .sh (.bl true) (potD p') := by
    intro T hT1 hT2
    obtain ⟨e4, g4, p4, x1, he4⟩ : ∃ e4 : En, evS T (.fr (.nm 1) (.rng [(.con (.int 30))]) turnB) [.io (potD p), .no] = .nx e4 ∧ ∃ (p4 : Pot) (x1 : Sl), e4 = [.io (potD p4), x1] := by
      have hr : rngD [.int 30] = some ((List.range 30).map fun (k : Nat) => .int (k : Int)) := rng_n (n := 30) (by omega)
      have hi := ei_rng1 (T := T) (es := [(.con (.int 30))]) (env := [.io (potD p), .no]) (x := .int 30) (by simp; rfl) hr
      obtain ⟨e4, h1, h2⟩ := fr_inv0 (body := evB T turnB) (pt := .nm 1) (fun _ e => ∃ (p4 : Pot) (x1 : Sl), Fr x1 ∧ e = [.io (potD p4), x1]) ((List.range 30).map fun (k : Nat) => .int (k : Int)) [.io (potD p), .no]
        ⟨p, .no, fr_no, rfl⟩ (fun i d e _ he => by
          obtain ⟨p4, x1, f1, rfl⟩ := he
          obtain ⟨ds, p5, r1, hd⟩ := run_deedD p4
          obtain ⟨p6, r2⟩ := run_is_right p5 hd
          have hl : evB T turnB [.io (potD p4), .sh d] = .nx [.io (potD p6), .sh d] := by
            simp [turnB, hT1, hT2, callF, ioC, bkV, r1, r2]
          exact ⟨_, _, by simp [(f1 d).1], .inl hl, p6, .sh d, fr_sh, rfl⟩)
      obtain ⟨p4, x1, _, rfl⟩ := h2
      exact ⟨_, by rw [s_fr', hi, Rs.toS_ok, h1], p4, x1, rfl⟩
    subst he4
    refine ⟨p4, ?_⟩
    unfold b_L_right
    rw [b_step g4]
    simp [outS, ioOut]
  have k := key (tabF [("_law_is_right", f_L_is_right), ("_law_deed", f_L_deed)]) rfl rfl
  unfold f_L_right
  rw [run_mk]
  exact k
theorem ev_turns {T : String → Fn} {ns : List Int} {x1 : Sl} : ∃ n : Nat, n ≤ 4 ∧ evE T (.bi .max [(.con (.int 2)), (.bi .min [(.bi .len [(.var 0)]), (.con (.int 4))])]) [.sh (.fl (ns.map .int)), x1] = .ok (.sh (.int (n : Int))) [.sh (.fl (ns.map .int)), x1] := by
  have e1 : ∀ i j : Int, biD .min [.int i, .int j] = some (.sh (.int (if j < i then j else i))) := fun _ _ => rfl
  have e2 : ∀ i j : Int, biD .max [.int i, .int j] = some (.sh (.int (if j > i then j else i))) := fun _ _ => rfl
  refine ⟨(if (if 4 < (ns.length : Int) then 4 else (ns.length : Int)) > 2 then (if 4 < (ns.length : Int) then 4 else (ns.length : Int)) else 2).toNat, ?_, ?_⟩
  · split <;> (try split) <;> omega
  · rw [Int.toNat_of_nonneg (by split <;> (try split) <;> omega)]
    simp only [e_bi, el_cons, el_nil, e_con, e_var, List.getElem?_cons_zero, Rs.bind_ok, ct_cons, ct_nil, c_sh, bi_len_fl, List.length_map, l_some, e1, e2]
theorem law_true (ns : List Int) (h : ns.length ≤ 63) : f_law.run [.fl (ns.map .int)] = .sh (.bl true) .non := by
  have key : ∀ T : String → Fn, T "_law_right" = ⟨true, f_L_right.run⟩ → T "_law_pot" = ⟨false, f_L_pot.run⟩ → outS false (evB T b_law [.sh (.fl (ns.map .int)), .no]) = .sh (.bl true) .non := by
    intro T hT1 hT2
    obtain ⟨n, hn, hm⟩ := ev_turns (T := T) (ns := ns) (x1 := .no)
    have hi3 := ei_rng1 (T := T) (es := [(.bi .max [(.con (.int 2)), (.bi .min [(.bi .len [(.var 0)]), (.con (.int 4))])])]) (env := [.sh (.fl (ns.map .int)), .no]) (x := .int (n : Int)) (by rw [el_cons, hm]; rfl) (rng_n (n := n) (by omega))
    have hl2 := lc_mapM (T := T) (own := [1]) (ev := evE T (.call "_law_right" [(.call "_law_pot" [(.var 0), (.var 1)])])) (pt := .nm 1) (ew := [.sh (.fl (ns.map .int)), .no]) (fun (k : Nat) => .int (k : Int)) (fun _ => .bl true)
      (fun k => [.sh (.fl (ns.map .int)), .sh (.int (k : Int))]) (List.range n) [] (fun k hk => ⟨by simp, ⟨.sh (.bl true), by
        rw [List.mem_range] at hk
        obtain ⟨p, hp⟩ := run_pot (ns := ns) h (t := k) (by omega)
        obtain ⟨p', hq⟩ := run_right p
        simp [hT1, hT2, callF, hp, ioC, bkV, hq], rfl⟩, by simp [wipeE]⟩)
    rw [List.nil_append] at hl2
    have ew : wipeE [.sh (.fl (ns.map .int)), .no] [1] = [.sh (.fl (ns.map .int)), .no] := by simp [wipeE]
    have hz2 : ((List.range n).map fun _ => D.bl true).length ≤ sizeLine := by rw [List.length_map, List.length_range, sizeLine_eq]; omega
    have ha := all_rep (List.range n)
    have s4 : evE T (.bi .all [(.lc [1] (.call "_law_right" [(.call "_law_pot" [(.var 0), (.var 1)])]) (.nm 1) (.rng [(.bi .max [(.con (.int 2)), (.bi .min [(.bi .len [(.var 0)]), (.con (.int 4))])])]) [])]) [.sh (.fl (ns.map .int)), .no] = .ok (.sh (.bl true)) (backE [.sh (.fl (ns.map .int)), .no] [.sh (.fl (ns.map .int)), .no] [1]) := by
      rw [e_bi, el_cons, e_lc, hi3, Rs.bind_ok, ew, hl2]
      simp only [if_pos hz2, Rs.bind_ok, el_nil, ct_cons, ct_nil, c_ow, ha, l_some]
    unfold b_law
    simp only [b_cons, b_nil, s_ret', s4, Rs.toS_ok]
    rfl
  have k := key (tabF [("_law_right", f_L_right), ("_law_pot", f_L_pot)]) rfl rfl
  unfold f_law
  rw [run_mk]
  exact k
end G77

open PySem PySem.W PyProof.Rows
set_option maxHeartbeats 0 in
theorem PySem.Challenge.cw_brookranks_k77_whole_texts_of_deeds_holds : PySem.Challenge.rw_brookranks_k77_whole_texts_of_deeds.Holds := by
  w_on; o_law; k_head; (case hw => w_witness2)
  k_fill
  refine Pv.walk_tabs (l := PySem.Challenge.rw_brookranks_k77_whole_texts_of_deeds) (n := 63) (k := 14) (x := "script") (CX := fun w => L2.CX (PySem.Challenge.rw_brookranks_k77_whole_texts_of_deeds).prog w) rfl (by decide) rfl ⟨rfl, by decide, by decide⟩ (fun w h Y => PySem.W.km_in_of Y) ?F (fun _ _ _ _ _ h => letI : Pv.Tb := ⟨[]⟩; Pv.cx_none h)
  case F =>
    intro w mg fa h Y KX G hmg tabs
    refine' G77.all_mk KX G hmg G77.law_true tabs ?qr17 ?qa0 ?ql0 ?qc0 ?qk0 ?qa1 ?ql1 ?qc1 ?qk1 ?qa2 ?ql2 ?qc2 ?qk2 ?qa3 ?ql3 ?qc3 ?qk3 ?qa4 ?ql4 ?qc4 ?qk4 ?qa5 ?ql5 ?qc5 ?qk5 ?qa6 ?ql6 ?qc6 ?qk6 ?qa7 ?ql7 ?qc7 ?qk7 ?qa8 ?ql8 ?qc8 ?qk8 ?qa9 ?ql9 ?qc9 ?qk9 ?qa10 ?ql10 ?qc10 ?qk10 ?qa11 ?ql11 ?qc11 ?qk11 ?qa12 ?ql12 ?qc12 ?qk12 ?qa13 ?ql13 ?qc13 ?qk13 ?qa14 ?ql14 ?qc14 ?qk14 ?qa15 ?ql15 ?qc15 ?qk15 ?qa16 ?ql16 ?qc16 ?qk16 ?qa17 ?ql17 ?qc17 ?qk17 ?qt17 ?qnp17 ?qa18 ?ql18 ?qc18 ?qk18 ?qa19 ?ql19 ?qc19 ?qk19 ?qa20 ?ql20 ?qc20 ?qk20 ?qa21 ?ql21 ?qc21 ?qk21 ?qah0 ?qlh0 ?qch0 ?qkh0 ?qxa0 ?qxl0 ?qxs0 ?qxg0 ?qxh0 ?qxn0 ?qxk0 ?qxe0 ?qxt0 ?qxd0 ?qxi0 ?qxc0 ?qai0 ?qli0 ?qci0 ?qki0 ?qxT0 ?qxa1 ?qxl1 ?qxs1 ?qxg1 ?qxh1 ?qxn1 ?qxk1 ?qxe1 ?qxt1 ?qxd1 ?qxi1 ?qxc1 ?qai1 ?qli1 ?qci1 ?qki1 ?qxT1 ?qxz0_1 ?qg0 ?qgl0 ?qg1 ?qg2 ?qgl2 ?qg3 ?qgl3 ?qg4 ?qg5 ?qg6 ?qg7 ?qz0 ?qz1 ?qz2 ?qz3 ?qz4 ?qz5 ?qz6 ?qz7 ?qz8 ?qz9 ?qz10 ?qz11 ?qz12 ?qz13 ?qz14
    (case qr17 => decide +kernel)
    (case qa0 => k_is)
    (case ql0 => k_is)
    (case qc0 => k_is)
    (case qk0 => k_is)
    (case qa1 => k_is)
    (case ql1 => k_is)
    (case qc1 => k_is)
    (case qk1 => k_is)
    (case qa2 => k_is)
    (case ql2 => k_is)
    (case qc2 => k_is)
    (case qk2 => k_is)
    (case qa3 => k_is)
    (case ql3 => k_is)
    (case qc3 => k_is)
    (case qk3 => k_is)
    (case qa4 => k_is)
    (case ql4 => k_is)
    (case qc4 => k_is)
    (case qk4 => k_is)
    (case qa5 => k_is)
    (case ql5 => k_is)
    (case qc5 => k_is)
    (case qk5 => k_is)
    (case qa6 => k_is)
    (case ql6 => k_is)
    (case qc6 => k_is)
    (case qk6 => k_is)
    (case qa7 => k_is)
    (case ql7 => k_is)
    (case qc7 => k_is)
    (case qk7 => k_is)
    (case qa8 => k_is)
    (case ql8 => k_is)
    (case qc8 => k_is)
    (case qk8 => k_is)
    (case qa9 => k_is)
    (case ql9 => k_is)
    (case qc9 => k_is)
    (case qk9 => k_is)
    (case qa10 => k_is)
    (case ql10 => k_is)
    (case qc10 => k_is)
    (case qk10 => k_is)
    (case qa11 => k_is)
    (case ql11 => k_is)
    (case qc11 => k_is)
    (case qk11 => k_is)
    (case qa12 => k_is)
    (case ql12 => k_is)
    (case qc12 => k_is)
    (case qk12 => k_is)
    (case qa13 => k_is)
    (case ql13 => k_is)
    (case qc13 => k_is)
    (case qk13 => k_is)
    (case qa14 => k_is)
    (case ql14 => k_is)
    (case qc14 => k_is)
    (case qk14 => k_is)
    (case qa15 => k_is)
    (case ql15 => k_is)
    (case qc15 => k_is)
    (case qk15 => k_is)
    (case qa16 => k_is)
    (case ql16 => k_is)
    (case qc16 => k_is)
    (case qk16 => k_is)
    (case qa17 => k_is)
    (case ql17 => k_is)
    (case qc17 => k_is)
    (case qk17 => k_is)
    (case qt17 => first | k_is | rfl)
    (case qnp17 => first | k_is | rfl)
    (case qa18 => k_is)
    (case ql18 => k_is)
    (case qc18 => k_is)
    (case qk18 => k_is)
    (case qa19 => k_is)
    (case ql19 => k_is)
    (case qc19 => k_is)
    (case qk19 => k_is)
    (case qa20 => k_is)
    (case ql20 => k_is)
    (case qc20 => k_is)
    (case qk20 => k_is)
    (case qa21 => k_is)
    (case ql21 => k_is)
    (case qc21 => k_is)
    (case qk21 => k_is)
    (case qah0 => k_is)
    (case qlh0 => k_is)
    (case qch0 => k_is)
    (case qkh0 => k_is)
    (case qxa0 => first | k_is | rfl)
    (case qxl0 => first | k_is | rfl)
    (case qxs0 => first | k_is | rfl)
    (case qxg0 => first | k_is | rfl)
    (case qxh0 => first | k_is | rfl)
    (case qxn0 => first | k_is | rfl)
    (case qxk0 => first | k_is | rfl)
    (case qxe0 => first | k_is | rfl)
    (case qxt0 => first | k_is | rfl)
    (case qxd0 => first | k_is | rfl)
    (case qxi0 => first | k_is | rfl)
    (case qxc0 => first | k_is | rfl)
    (case qai0 => k_is)
    (case qli0 => k_is)
    (case qci0 => k_is)
    (case qki0 => k_is)
    (case qxT0 => first | k_is | rfl)
    (case qxa1 => first | k_is | rfl)
    (case qxl1 => first | k_is | rfl)
    (case qxs1 => first | k_is | rfl)
    (case qxg1 => first | k_is | rfl)
    (case qxh1 => first | k_is | rfl)
    (case qxn1 => first | k_is | rfl)
    (case qxk1 => first | k_is | rfl)
    (case qxe1 => first | k_is | rfl)
    (case qxt1 => first | k_is | rfl)
    (case qxd1 => first | k_is | rfl)
    (case qxi1 => first | k_is | rfl)
    (case qxc1 => first | k_is | rfl)
    (case qai1 => k_is)
    (case qli1 => k_is)
    (case qci1 => k_is)
    (case qki1 => k_is)
    (case qxT1 => first | k_is | rfl)
    (case qxz0_1 => first | k_is | rfl)
    (case qg0 => k_is)
    (case qgl0 => k_is)
    (case qg1 => k_is)
    (case qg2 => k_is)
    (case qgl2 => k_is)
    (case qg3 => k_is)
    (case qgl3 => k_is)
    (case qg4 => k_is)
    (case qg5 => k_is)
    (case qg6 => k_is)
    (case qg7 => k_is)
    (case qz0 => k_is)
    (case qz1 => k_is)
    (case qz2 => k_is)
    (case qz3 => k_is)
    (case qz4 => k_is)
    (case qz5 => k_is)
    (case qz6 => k_is)
    (case qz7 => k_is)
    (case qz8 => k_is)
    (case qz9 => k_is)
    (case qz10 => k_is)
    (case qz11 => k_is)
    (case qz12 => k_is)
    (case qz13 => k_is)
    (case qz14 => k_is)
