import PyProof.Rows.All
import Wide.All
import OpenK.AllK
import Wide.FinOn
import HandS.ForMost
import HandS.Wide
import HandS.Deep
import HandS.IsInst
import HandS.FStr
import HandS.Flow
import HandS.Conv
import HandS.Zip
import HandS.Defaults
import HandS.Lambda
import HandS.ExcInit
import HandS.TryMany
import HandS.HotCalls
import HandS.ClsMeth
import HandS.Star
import HandS.EndOwn
import KE.SortData
import HandS.TupMul
import PyProof.StrBlock2
import HandS.TupAny
import PyProof.CollectStr
import HandS.More
import HandS.CallLocal
import HandS.SortKw
import KE.DataMinMax
import HandS.ExcField
import KE.KExcInit
import KE.KNestM
import PySem.Challenge.RW_fewtell_k15_texts_that_are_no_programs
import KE.IntTextLaws
set_option Elab.async false
set_option linter.all false
set_option maxRecDepth 100000
set_option maxHeartbeats 4000000
/-! Values without addresses, a small store of what may change, and what both stand for in the layer's heap. -/
namespace Fw
open PySem PySem.Spec PyProof.Rows L2

inductive Ty where
  | tNone | tBool | tInt | tStr | tTup | tLst
  deriving DecidableEq, Inhabited
def Ty.nm : Ty → String
  | .tNone => "NoneType" | .tBool => "bool" | .tInt => "int" | .tStr => "str" | .tTup => "tuple" | .tLst => "list"
/-- data that never changes; ins: an instance of the class numbered c, its attributes -/
inductive D where
  | non | bl (b : Bool) | int (i : Int) | str (x : Str) | tup (ds : List D) | lst (ds : List D) | scr (ns : List Int) | fn (i : Nat) | ty (n : Ty)
  | ins (c : Nat) (ns : List Str) (ds : List D) | kl (c : Nat)
  deriving Inhabited
/-- a value: data, or a place of the store -/
inductive A where
  | p (d : D) | m (i : Nat)
/-- what stands in the store -/
inductive MO where
  | lst (xs : List D) | ins (c : Nat) (ns : List Str) (ds : List D) | dead
abbrev Store := List MO
/-- where the store's things stand; E: lists that are being made, which nobody knows yet -/
structure Bk where
  l : List Addr
  E : List Addr
structure Z where
  B : Bk
  S : Store
  H : Hp

def live (B : Bk) (S : Store) (a : Addr) : Prop := (∃ (i : Nat) (o : MO), B.l[i]? = some a ∧ S[i]? = some o ∧ o ≠ .dead) ∨ a ∈ B.E
/-- a thing of a kind that may change -/
def Chg (u : HO) : Prop := (∃ vs, u = .lst vs) ∨ ∃ C dx fs, u = .ins C dx fs
theorem Chg.lst {vs : List V} : Chg (.lst vs) := .inl ⟨vs, rfl⟩
theorem Chg.ins {C dx : Addr} {fs : List (Str × V)} : Chg (.ins C dx fs) := .inr ⟨C, dx, fs, rfl⟩
/-- where the defs and the classes stand; T: the tables of code objects -/
structure Ad where
  f : Nat → Addr
  c : Nat → Addr
  few : Addr
  mis : Addr
  T : List (Addr × Str)
/-- what else holds of the heap throughout -/
def Ad.iv (a : Ad) (H : Hp) : Prop := LamX.Tabs a.T H
theorem Ad.ivN (a : Ad) (H : Hp) (p : Addr) (o : HO) (hp : H p = none) (h : a.iv H) : a.iv (upd H p o) :=
  LamX.Tabs.ext h fun b u e => by
    rw [upd_ne (ne_of_none e hp)]
    exact e
theorem Ad.ivP (a : Ad) (H : Hp) (b : Addr) (u u' : HO) (hb : H b = some u) (hc : Chg u) (h : a.iv H) : a.iv (upd H b u') := fun p hp => by
  have ne : ∀ c w, H c = some w → ¬ Chg w → c ≠ b := fun c w e n z => by
    rw [z, hb] at e
    cases e
    exact n hc
  obtain ⟨ps, h1, h2, h3⟩ := h p hp
  refine ⟨ps, ?_, h2, fun pos cv hv => ?_⟩
  · rw [upd_ne (ne _ _ h1 fun z => by rcases z with ⟨_, e⟩ | ⟨_, _, _, e⟩ <;> cases e)]
    exact h1
  · obtain ⟨c, e1, e2⟩ := h3 pos cv hv
    refine ⟨c, e1, ?_⟩
    rw [upd_ne (ne _ _ e2 fun z => by rcases z with ⟨_, e⟩ | ⟨_, _, _, e⟩ <;> (unfold LamX.CodeO at e; cases e))]
    exact e2
/-- what is fixed: the written part, where things stand -/
structure G where
  K : PySem.W.Frag
  fa : Ad

/-- a list of the written part -/
def KL (K : PySem.W.Frag) (a : Addr) (xs : List V) : Prop :=
  ∃ (o : Obj) (its : Array Value) (n : Nat), K.lookup a = some o ∧ o.cls = .type "list" ∧ o.dict = none ∧ o.data = .seq its n ∧ its.size ≤ sizeLine ∧ Vals xs its.toList
mutual
def Dat (g : G) (z : Z) : D → V → Prop
  | .non, v => v = .non
  | .bl b, v => v = .bl b
  | .int i, v => v = .int i
  | .str x, v => v = .str x
  | .tup ds, v => ∃ a vs, v = .ref a ∧ SqT g.K z.H a vs ∧ DatL g z ds vs
  | .lst ds, v => ∃ a vs, v = .ref a ∧ z.H a = some (.lst vs) ∧ ¬ live z.B z.S a ∧ DatL g z ds vs
  | .scr ns, v => ∃ a, v = .ref a ∧ ((∃ o, z.H a = some (.frz o (.lst (ns.map V.int)))) ∨ KL g.K a (ns.map V.int) ∨ (z.H a = some (.lst (ns.map V.int)) ∧ ¬ live z.B z.S a))
  | .fn i, v => v = .ref (g.fa.f i)
  | .ty n, v => v = .ty n.nm
  | .kl c, v => v = .ref (g.fa.c c)
  | .ins c ns ds, v => ∃ a dx vs, v = .ref a ∧ z.H a = some (.ins (g.fa.c c) dx (ns.zip vs)) ∧ ¬ live z.B z.S a ∧ ns.length = ds.length ∧ DatL g z ds vs
def DatL (g : G) (z : Z) : List D → List V → Prop
  | [], vs => vs = []
  | d :: ds, vs => ∃ v r, vs = v :: r ∧ Dat g z d v ∧ DatL g z ds r
end
def DatA (g : G) (z : Z) : A → V → Prop
  | .p d, v => Dat g z d v
  | .m i, v => ∃ a, z.B.l[i]? = some a ∧ v = .ref a
def DatAL (g : G) (z : Z) : List A → List V → Prop
  | [], vs => vs = []
  | d :: ds, vs => ∃ v r, vs = v :: r ∧ DatA g z d v ∧ DatAL g z ds r
/-- a thing of the store and what stands for it -/
def Ob (g : G) (z : Z) : MO → HO → Prop
  | .lst xs, u => ∃ vs, u = .lst vs ∧ DatL g z xs vs
  | .ins c ns ds, u => ∃ dx vs, u = .ins (g.fa.c c) dx (ns.zip vs) ∧ ns.length = ds.length ∧ DatL g z ds vs
  | .dead, u => Chg u
theorem Ob.chgA {g : G} {z : Z} {o : MO} {u : HO} (h : Ob g z o u) : Chg u := by
  cases o with
  | lst xs =>
    obtain ⟨vs, rfl, _⟩ := h
    exact Chg.lst
  | ins c ns ds =>
    obtain ⟨dx, vs, rfl, _⟩ := h
    exact Chg.ins
  | dead => exact h
theorem Ob.chg {g : G} {z : Z} {o : MO} {u : HO} (h : Ob g z o u) (_ : o ≠ .dead) : Chg u := h.chgA

section
variable {g : G} {z z' z'' : Z}
mutual
theorem Dat.mono (ht : ∀ a vs, SqT g.K z.H a vs → SqT g.K z'.H a vs) (hl : ∀ a u, Chg u → z.H a = some u → ¬ live z.B z.S a → z'.H a = some u ∧ ¬ live z'.B z'.S a) (hf : ∀ a o u, z.H a = some (.frz o u) → z'.H a = some (.frz o u)) :
    ∀ (d : D) (v : V), Dat g z d v → Dat g z' d v
  | .non, _, h => h
  | .bl _, _, h => h
  | .int _, _, h => h
  | .str _, _, h => h
  | .tup ds, _, h => by
    obtain ⟨a, vs, e, t, l⟩ := h
    exact ⟨a, vs, e, ht a vs t, Dat.monoL ht hl hf ds vs l⟩
  | .lst ds, _, h => by
    obtain ⟨a, vs, e, t, n, l⟩ := h
    have q := hl a _ Chg.lst t n
    exact ⟨a, vs, e, q.1, q.2, Dat.monoL ht hl hf ds vs l⟩
  | .scr ns, _, h => by
    obtain ⟨a, e, t⟩ := h
    refine ⟨a, e, ?_⟩
    rcases t with ⟨o, t⟩ | t | ⟨t, n⟩
    · exact .inl ⟨o, hf a o _ t⟩
    · exact .inr (.inl t)
    · exact .inr (.inr (hl a _ Chg.lst t n))
  | .fn _, _, h => h
  | .ty _, _, h => h
  | .kl _, _, h => h
  | .ins c ns ds, _, h => by
    obtain ⟨a, dx, vs, e, t, n, e2, l⟩ := h
    have q := hl a _ Chg.ins t n
    exact ⟨a, dx, vs, e, q.1, q.2, e2, Dat.monoL ht hl hf ds vs l⟩
theorem Dat.monoL (ht : ∀ a vs, SqT g.K z.H a vs → SqT g.K z'.H a vs) (hl : ∀ a u, Chg u → z.H a = some u → ¬ live z.B z.S a → z'.H a = some u ∧ ¬ live z'.B z'.S a) (hf : ∀ a o u, z.H a = some (.frz o u) → z'.H a = some (.frz o u)) :
    ∀ (ds : List D) (vs : List V), DatL g z ds vs → DatL g z' ds vs
  | [], _, h => h
  | d :: ds, _, h => by
    obtain ⟨v, r, e, a, b⟩ := h
    exact ⟨v, r, e, Dat.mono ht hl hf d v a, Dat.monoL ht hl hf ds r b⟩
end

/-- what was known is known -/
structure Stab (g : G) (z z' : Z) : Prop where
  dat : ∀ d v, Dat g z d v → Dat g z' d v
  pre : ∀ (i : Nat) a, z.B.l[i]? = some a → z'.B.l[i]? = some a
  same : z'.B.E = z.B.E
  keep : ∀ a ∈ z.B.E, z'.H a = z.H a
theorem Stab.refl : Stab g z z := ⟨fun _ _ h => h, fun _ _ h => h, rfl, fun _ _ => rfl⟩
theorem Stab.trans (a : Stab g z z') (b : Stab g z' z'') : Stab g z z'' := ⟨fun d v h => b.dat d v (a.dat d v h), fun i c h => b.pre i c (a.pre i c h), b.same.trans a.same, fun c h => (b.keep c (by rw [a.same]; exact h)).trans (a.keep c h)⟩
theorem Stab.datL (s : Stab g z z') : ∀ {ds : List D} {vs : List V}, DatL g z ds vs → DatL g z' ds vs
  | [], _, h => h
  | d :: ds, _, ⟨v, r, e, a, b⟩ => ⟨v, r, e, s.dat d v a, s.datL b⟩
theorem Stab.datA (s : Stab g z z') : ∀ {x : A} {v : V}, DatA g z x v → DatA g z' x v
  | .p d, v, h => s.dat d v h
  | .m i, v, ⟨a, h, e⟩ => ⟨a, s.pre i a h, e⟩
theorem Stab.datAL (s : Stab g z z') : ∀ {ds : List A} {vs : List V}, DatAL g z ds vs → DatAL g z' ds vs
  | [], _, h => h
  | d :: ds, _, ⟨v, r, e, a, b⟩ => ⟨v, r, e, s.datA a, s.datAL b⟩
theorem Stab.ob (s : Stab g z z') {o : MO} {u : HO} (h : Ob g z o u) : Ob g z' o u := by
  cases o with
  | lst xs =>
    obtain ⟨vs, e, d⟩ := h
    exact ⟨vs, e, s.datL d⟩
  | ins c ns ds =>
    obtain ⟨dx, vs, e, n, d⟩ := h
    exact ⟨dx, vs, e, n, s.datL d⟩
  | dead => exact h

structure StoreOk (g : G) (z : Z) : Prop where
  len : z.B.l.length = z.S.length
  nd : z.B.l.Nodup
  obj : ∀ (i : Nat) a o, z.B.l[i]? = some a → z.S[i]? = some o → ∃ u, z.H a = some u ∧ Ob g z o u
  ex : ∀ a ∈ z.B.E, (∃ o, z.H a = some o ∧ Chg o) ∧ a ∉ z.B.l
  iv : g.fa.iv z.H
theorem StoreOk.has (k : StoreOk g z) : ∀ (i : Nat) a, z.B.l[i]? = some a → ∃ o, z.H a = some o := fun i a h => by
  have hi : i < z.S.length := by
    rw [← k.len]
    exact (List.getElem?_eq_some_iff.mp h).1
  obtain ⟨u, e, _⟩ := k.obj i a _ h (List.getElem?_eq_getElem hi)
  exact ⟨u, e⟩
theorem StoreOk.ob (k : StoreOk g z) : ∀ (i : Nat) a xs, z.B.l[i]? = some a → z.S[i]? = some (.lst xs) → ∃ vs, z.H a = some (.lst vs) ∧ DatL g z xs vs := fun i a xs h1 h2 => by
  obtain ⟨u, e, vs, rfl, d⟩ := k.obj i a _ h1 h2
  exact ⟨vs, e, d⟩

/-! ### the steps -/
theorem sqT_upd {K : PySem.W.Frag} {H : Hp} {p a : Addr} {o : HO} {vs : List V} (hp : H p = none) (h : SqT K H a vs) : SqT K (upd H p o) a vs := by
  rcases h with (h | ⟨u, h⟩) | h
  · exact .inl (.inl (by rw [upd_ne (ne_of_none h hp)]; exact h))
  · exact .inl (.inr ⟨u, by rw [upd_ne (ne_of_none h hp)]; exact h⟩)
  · exact .inr h
theorem at_upd {H : Hp} {p a : Addr} {o u : HO} (hp : H p = none) (h : H a = some u) : upd H p o a = some u := by
  rw [upd_ne (ne_of_none h hp)]
  exact h
/-- a new thing that never changes -/
theorem StoreOk.exne {B : Bk} {S : Store} {H : Hp} {p : Addr} (k : StoreOk g ⟨B, S, H⟩) (hp : H p = none) : ∀ a ∈ B.E, a ≠ p := fun a ha => by
  obtain ⟨⟨o, e, _⟩, _⟩ := k.ex a ha
  exact ne_of_none (show H a = some o from e) hp
theorem Stab.new {B : Bk} {S : Store} {H : Hp} {p : Addr} {o : HO} (k : StoreOk g ⟨B, S, H⟩) (hp : H p = none) : Stab g ⟨B, S, H⟩ ⟨B, S, upd H p o⟩ :=
  ⟨Dat.mono (fun a vs h => sqT_upd hp h) (fun a u _ h n => ⟨at_upd hp h, n⟩) fun a o u h => at_upd hp h, fun _ _ h => h, rfl, fun a ha => upd_ne (k.exne hp a ha)⟩
theorem StoreOk.new {B : Bk} {S : Store} {H : Hp} {p : Addr} {o : HO} (k : StoreOk g ⟨B, S, H⟩) (hp : H p = none) : StoreOk g ⟨B, S, upd H p o⟩ where
  len := k.len
  nd := k.nd
  obj := fun i a x h1 h2 => by
    obtain ⟨u, e, d⟩ := k.obj i a x h1 h2
    exact ⟨u, at_upd hp e, (Stab.new k hp).ob d⟩
  ex := fun a ha => ⟨by
    obtain ⟨u, e, c⟩ := (k.ex a ha).1
    exact ⟨u, at_upd hp e, c⟩, (k.ex a ha).2⟩
  iv := g.fa.ivN _ _ _ hp k.iv
theorem StoreOk.fresh {B : Bk} {S : Store} {H : Hp} {p : Addr} (k : StoreOk g ⟨B, S, H⟩) (hp : H p = none) : ¬ live B S p := fun h => by
  rcases h with ⟨i, xs, h1, h2, _⟩ | h
  · obtain ⟨u, e⟩ := k.has i p h1
    have e' : H p = some u := e
    rw [hp] at e'
    cases e'
  · exact k.exne hp p h rfl
theorem StoreOk.notIn {B : Bk} {S : Store} {H : Hp} {p : Addr} (k : StoreOk g ⟨B, S, H⟩) (hp : H p = none) : p ∉ B.l := fun h => by
  obtain ⟨i, hi⟩ := List.getElem?_of_mem h
  obtain ⟨u, e⟩ := k.has i p hi
  have e' : H p = some u := e
  rw [hp] at e'
  cases e'
/-- one more thing in the store -/
def Bk.add (B : Bk) (p : Addr) : Bk := ⟨B.l ++ [p], B.E⟩
theorem live_app {B : Bk} {S : Store} {p a : Addr} {o : MO} (hl : B.l.length = S.length) (hn : a ≠ p) (h : live (B.add p) (S ++ [o]) a) : live B S a := by
  rcases h with ⟨i, xs, h1, h2, h3⟩ | h
  · refine .inl ?_
    have h1 : (B.l ++ [p])[i]? = some a := h1
    by_cases hi : i < B.l.length
    · rw [List.getElem?_append_left hi] at h1
      rw [List.getElem?_append_left (by omega)] at h2
      exact ⟨i, xs, h1, h2, h3⟩
    · rw [List.getElem?_append_right (by omega)] at h1
      have : i - B.l.length = 0 := by
        by_cases z : i - B.l.length = 0
        · exact z
        · rw [List.getElem?_eq_none (by simp; omega)] at h1; cases h1
      rw [this] at h1
      have e : p = a := Option.some.inj h1
      exact absurd e.symm hn
  · exact .inr h
/-- a new thing of the store -/
theorem Stab.alloc {B : Bk} {S : Store} {H : Hp} {p : Addr} {u : HO} {o : MO} (k : StoreOk g ⟨B, S, H⟩) (hp : H p = none) : Stab g ⟨B, S, H⟩ ⟨B.add p, S ++ [o], upd H p u⟩ :=
  ⟨Dat.mono (fun a vs h => sqT_upd hp h) (fun a w _ h n => ⟨at_upd hp h, fun q => n (live_app k.len (ne_of_none h hp) q)⟩) fun a o u h => at_upd hp h, fun i a h => by
    have h' : B.l[i]? = some a := h
    show (B.l ++ [p])[i]? = some a
    rw [List.getElem?_append_left (List.getElem?_eq_some_iff.mp h').1]
    exact h', rfl, fun a ha => upd_ne (k.exne hp a ha)⟩
theorem StoreOk.allocO {B : Bk} {S : Store} {H : Hp} {p : Addr} {o : MO} {w : HO} (k : StoreOk g ⟨B, S, H⟩) (hp : H p = none) (d : Ob g ⟨B, S, H⟩ o w) : StoreOk g ⟨B.add p, S ++ [o], upd H p w⟩ := by
  have hl : B.l.length = S.length := k.len
  have st : Stab g ⟨B, S, H⟩ ⟨B.add p, S ++ [o], upd H p w⟩ := Stab.alloc k hp
  refine ⟨by show (B.l ++ [p]).length = (S ++ [o]).length; simp [hl], ?_, fun i a y h1 h2 => ?_, fun a ha => ?_, g.fa.ivN _ _ _ hp k.iv⟩
  · show (B.l ++ [p]).Nodup
    rw [List.nodup_append]
    refine ⟨k.nd, by simp, fun a ha b hb => ?_⟩
    rw [List.mem_singleton] at hb
    intro e
    subst hb
    subst e
    exact k.notIn hp ha
  · have h1' : (B.l ++ [p])[i]? = some a := h1
    have h2' : (S ++ [o])[i]? = some y := h2
    by_cases hi : i < B.l.length
    · rw [List.getElem?_append_left hi] at h1'
      rw [List.getElem?_append_left (by omega)] at h2'
      obtain ⟨u, e, q⟩ := k.obj i a y h1' h2'
      exact ⟨u, at_upd hp e, st.ob q⟩
    · have hi' : i = B.l.length := by
        have := (List.getElem?_eq_some_iff.mp h1').1
        rw [List.length_append, List.length_singleton] at this
        omega
      subst hi'
      rw [List.getElem?_append_right (Nat.le_refl _), Nat.sub_self] at h1'
      rw [List.getElem?_append_right (by omega), hl, Nat.sub_self] at h2'
      have e1 : p = a := Option.some.inj h1'
      have e2 : o = y := Option.some.inj h2'
      subst e2
      subst e1
      exact ⟨w, upd_same, st.ob d⟩
  · have ha : a ∈ B.E := ha
    obtain ⟨⟨u, e, c⟩, n⟩ := k.ex a ha
    refine ⟨⟨u, at_upd hp e, c⟩, fun q => ?_⟩
    have q : a ∈ B.l ++ [p] := q
    rcases List.mem_append.mp q with q | q
    · exact n q
    · exact k.exne hp a ha (List.mem_singleton.mp q)
theorem StoreOk.alloc {B : Bk} {S : Store} {H : Hp} {p : Addr} {xs : List D} {vs : List V} (k : StoreOk g ⟨B, S, H⟩) (hp : H p = none) (d : DatL g ⟨B, S, H⟩ xs vs) : StoreOk g ⟨B.add p, S ++ [.lst xs], upd H p (.lst vs)⟩ :=
  k.allocO hp ⟨vs, rfl, d⟩
theorem nodup_at {α : Type} {l : List α} (hN : l.Nodup) {i j : Nat} {x : α} (a : l[i]? = some x) (b : l[j]? = some x) : i = j := by
  obtain ⟨h1, e1⟩ := List.getElem?_eq_some_iff.mp a
  obtain ⟨h2, e2⟩ := List.getElem?_eq_some_iff.mp b
  exact (List.getElem_inj hN).mp (e1.trans e2.symm)
theorem chg_tup {u : HO} {vs : List V} (h : Chg u) : HO.tup vs ≠ u := fun z => by
  subst z
  rcases h with ⟨_, e⟩ | ⟨_, _, _, e⟩ <;> cases e
theorem chg_frz {u w : HO} {o : Obj} (h : Chg u) : HO.frz o w ≠ u := fun z => by
  subst z
  rcases h with ⟨_, e⟩ | ⟨_, _, _, e⟩ <;> cases e
/-- a thing of the store is changed -/
theorem Stab.putO {B : Bk} {S : Store} {H : Hp} {i : Nat} {a : Addr} {o o' : MO} {w : HO} (k : StoreOk g ⟨B, S, H⟩) (hb : B.l[i]? = some a) (hs : S[i]? = some o) (hn : o ≠ .dead) : Stab g ⟨B, S, H⟩ ⟨B, S.set i o', upd H a w⟩ := by
  obtain ⟨u, e, ob⟩ := k.obj i a o hb hs
  have e : H a = some u := e
  have cu := ob.chg hn
  refine ⟨Dat.mono (fun b us h => ?_) (fun b us _ h n => ?_) fun b o u' h => (by show upd H a _ b = _; rw [upd_ne (ne_of (show H b = _ from h) e (chg_frz cu))]; exact h), fun _ _ h => h, rfl, fun b hb' => upd_ne fun z => (k.ex b hb').2 (by rw [z]; exact List.mem_of_getElem? hb)⟩
  · rcases h with (h | ⟨x, h⟩) | h
    · have h : H b = _ := h
      exact .inl (.inl (by show upd H a _ b = _; rw [upd_ne (ne_of h e (chg_tup cu))]; exact h))
    · have h : H b = _ := h
      exact .inl (.inr ⟨x, by show upd H a _ b = _; rw [upd_ne (ne_of h e (chg_frz cu))]; exact h⟩)
    · exact .inr h
  · have nb : b ≠ a := fun z => n (.inl ⟨i, o, by rw [z]; exact hb, hs, hn⟩)
    refine ⟨?_, fun q => ?_⟩
    · show upd H a _ b = _
      rw [upd_ne nb]
      exact h
    · rcases q with ⟨j, y, h1, h2, h3⟩ | q
      · have h2 : (S.set i o')[j]? = some y := h2
        by_cases hij : i = j
        · subst hij
          have h1 : B.l[i]? = some b := h1
          rw [hb] at h1
          exact nb (Option.some.inj h1).symm
        · rw [List.getElem?_set_ne hij] at h2
          exact n (.inl ⟨j, y, h1, h2, h3⟩)
      · exact n (.inr q)
theorem Stab.put {B : Bk} {S : Store} {H : Hp} {i : Nat} {a : Addr} {xs ys : List D} {vs : List V} (k : StoreOk g ⟨B, S, H⟩) (hb : B.l[i]? = some a) (hs : S[i]? = some (.lst xs)) : Stab g ⟨B, S, H⟩ ⟨B, S.set i (.lst ys), upd H a (.lst vs)⟩ :=
  Stab.putO k hb hs (fun z => by cases z)
theorem StoreOk.putO {B : Bk} {S : Store} {H : Hp} {i : Nat} {a : Addr} {o o' : MO} {w : HO} (k : StoreOk g ⟨B, S, H⟩) (hb : B.l[i]? = some a) (hs : S[i]? = some o) (hn : o ≠ .dead) (d : Ob g ⟨B, S, H⟩ o' w) :
    StoreOk g ⟨B, S.set i o', upd H a w⟩ := by
  have st : Stab g ⟨B, S, H⟩ ⟨B, S.set i o', upd H a w⟩ := Stab.putO k hb hs hn
  obtain ⟨u0, e0, ob0⟩ := k.obj i a o hb hs
  refine ⟨by show B.l.length = (S.set i _).length; rw [List.length_set]; exact k.len, k.nd, fun j b y h1 h2 => ?_, fun b hb' => ⟨?_, (k.ex b hb').2⟩, g.fa.ivP _ _ _ _ e0 (ob0.chg hn) k.iv⟩
  · have h1 : B.l[j]? = some b := h1
    have h2 : (S.set i o')[j]? = some y := h2
    by_cases hij : i = j
    · subst hij
      rw [hb] at h1
      cases h1
      rw [List.getElem?_set_self (List.getElem?_eq_some_iff.mp hs).1] at h2
      cases h2
      exact ⟨w, upd_same, st.ob d⟩
    · rw [List.getElem?_set_ne hij] at h2
      obtain ⟨u, e, q⟩ := k.obj j b y h1 h2
      have nb : b ≠ a := fun z => hij (nodup_at k.nd hb (by rw [← z]; exact h1))
      exact ⟨u, by show upd H a _ b = _; rw [upd_ne nb]; exact e, st.ob q⟩
  · obtain ⟨u, e, c⟩ := (k.ex b hb').1
    exact ⟨u, by show upd H a _ b = _; rw [upd_ne fun z => (k.ex b hb').2 (by rw [z]; exact List.mem_of_getElem? hb)]; exact e, c⟩
theorem StoreOk.put {B : Bk} {S : Store} {H : Hp} {i : Nat} {a : Addr} {xs ys : List D} {vs : List V} (k : StoreOk g ⟨B, S, H⟩) (hb : B.l[i]? = some a) (hs : S[i]? = some (.lst xs)) (d : DatL g ⟨B, S, H⟩ ys vs) :
    StoreOk g ⟨B, S.set i (.lst ys), upd H a (.lst vs)⟩ := k.putO hb hs (fun z => by cases z) ⟨vs, rfl, d⟩
theorem set_dead {S : Store} {i j : Nat} {o : MO} (h : (S.set i .dead)[j]? = some o) (n : o ≠ .dead) : i ≠ j ∧ S[j]? = some o := by
  by_cases hij : i = j
  · subst hij
    by_cases hl : i < S.length
    · rw [List.getElem?_set_self hl] at h
      exact absurd (Option.some.inj h).symm n
    · rw [List.getElem?_eq_none (by rw [List.length_set]; omega)] at h
      cases h
  · rw [List.getElem?_set_ne hij] at h
    exact ⟨hij, h⟩
theorem live_dead {B : Bk} {S : Store} {i : Nat} {a : Addr} (h : live B (S.set i .dead) a) : live B S a := by
  rcases h with ⟨j, o, h1, h2, h3⟩ | h
  · exact .inl ⟨j, o, h1, (set_dead h2 h3).2, h3⟩
  · exact .inr h
/-- a thing of the store is data from now on -/
theorem Stab.freeze {B : Bk} {S : Store} {H : Hp} {i : Nat} : Stab g ⟨B, S, H⟩ ⟨B, S.set i .dead, H⟩ :=
  ⟨Dat.mono (fun _ _ h => h) (fun _ _ _ h n => ⟨h, fun q => n (live_dead q)⟩) fun _ _ _ h => h, fun _ _ h => h, rfl, fun _ _ => rfl⟩
theorem StoreOk.freeze {B : Bk} {S : Store} {H : Hp} {i : Nat} (k : StoreOk g ⟨B, S, H⟩) : StoreOk g ⟨B, S.set i .dead, H⟩ := by
  refine ⟨by show B.l.length = (S.set i _).length; rw [List.length_set]; exact k.len, k.nd, fun j b o h1 h2 => ?_, k.ex, k.iv⟩
  by_cases ho : o = .dead
  · subst ho
    have hj : j < S.length := by
      have h1 : B.l[j]? = some b := h1
      have q : B.l.length = S.length := k.len
      rw [← q]
      exact (List.getElem?_eq_some_iff.mp h1).1
    obtain ⟨u, e, q⟩ := k.obj j b _ h1 (List.getElem?_eq_getElem hj)
    exact ⟨u, e, q.chgA⟩
  · obtain ⟨u, e, q⟩ := k.obj j b o h1 (set_dead h2 ho).2
    exact ⟨u, e, Stab.freeze.ob q⟩
theorem freeze_dead {B : Bk} {S : Store} {H : Hp} {i : Nat} {a : Addr} (k : StoreOk g ⟨B, S, H⟩) (hb : B.l[i]? = some a) : ¬ live B (S.set i .dead) a := fun h => by
  rcases h with ⟨j, o, h1, h2, h3⟩ | h
  · exact (set_dead h2 h3).1 (nodup_at k.nd hb h1)
  · exact (k.ex a h).2 (List.mem_of_getElem? hb)
/-- the heap grows -/
theorem Stab.ext {B : Bk} {S : Store} {H H' : Hp} (k : StoreOk g ⟨B, S, H⟩) (x : LamX.ExtN H H') : Stab g ⟨B, S, H⟩ ⟨B, S, H'⟩ := by
  have nc : ∀ {u : HO}, Chg u → ∀ ps, u ≠ .tbl ps := fun {u} h ps z => by
    subst z
    rcases h with ⟨_, e⟩ | ⟨_, _, _, e⟩ <;> cases e
  refine ⟨Dat.mono (fun a vs h => ?_) (fun a u c h n => ⟨x a u h (nc c), n⟩) (fun a o u h => x a _ h (fun ps z => by cases z)), fun _ _ h => h, rfl, fun a ha => ?_⟩
  · rcases h with (h | ⟨u, h⟩) | h
    · exact .inl (.inl (x a _ h (fun ps z => by cases z)))
    · exact .inl (.inr ⟨u, x a _ h (fun ps z => by cases z)⟩)
    · exact .inr h
  · obtain ⟨⟨o, e, c⟩, _⟩ := k.ex a ha
    exact (x a o e (nc c)).trans (Eq.symm e)
theorem StoreOk.ext {B : Bk} {S : Store} {H H' : Hp} (k : StoreOk g ⟨B, S, H⟩) (x : LamX.ExtN H H') (t : g.fa.iv H') : StoreOk g ⟨B, S, H'⟩ := by
  have nc : ∀ {u : HO}, Chg u → ∀ ps, u ≠ .tbl ps := fun {u} h ps z => by
    subst z
    rcases h with ⟨_, e⟩ | ⟨_, _, _, e⟩ <;> cases e
  refine ⟨k.len, k.nd, fun i a o h1 h2 => ?_, fun a ha => ?_, t⟩
  · obtain ⟨u, e, q⟩ := k.obj i a o h1 h2
    exact ⟨u, x a u e (nc q.chgA), (Stab.ext k x).ob q⟩
  · obtain ⟨⟨o, e, c⟩, n⟩ := k.ex a ha
    exact ⟨⟨o, x a o e (nc c), c⟩, n⟩
/-- what is dead behind the n-th place is forgotten -/
def allDead (S : Store) : Bool := S.all fun o => match o with
  | .dead => true
  | _ => false
def Bk.take (B : Bk) (n : Nat) : Bk := ⟨B.l.take n, B.E⟩
theorem at_take {α : Type} {l : List α} {n i : Nat} {a : α} (h : (l.take n)[i]? = some a) : l[i]? = some a := by
  have hi : i < n := by
    have := (List.getElem?_eq_some_iff.mp h).1
    rw [List.length_take] at this
    omega
  rw [List.getElem?_take_of_lt hi] at h
  exact h
theorem live_take {B : Bk} {S : Store} {n : Nat} {a : Addr} (h : live (B.take n) (S.take n) a) : live B S a := by
  rcases h with ⟨i, o, h1, h2, h3⟩ | h
  · exact .inl ⟨i, o, at_take h1, at_take h2, h3⟩
  · exact .inr h
theorem Dat.cut {B : Bk} {S : Store} {H : Hp} {n : Nat} {d : D} {v : V} (h : Dat g ⟨B, S, H⟩ d v) : Dat g ⟨B.take n, S.take n, H⟩ d v :=
  Dat.mono (z := ⟨B, S, H⟩) (z' := ⟨B.take n, S.take n, H⟩) (fun _ _ h => h) (fun _ _ _ h m => ⟨h, fun q => m (live_take (n := n) q)⟩) (fun _ _ _ h => h) d v h
theorem DatL.cutB {B : Bk} {S : Store} {H : Hp} {n : Nat} {d : List D} {v : List V} (h : DatL g ⟨B, S, H⟩ d v) : DatL g ⟨B.take n, S.take n, H⟩ d v :=
  Dat.monoL (z := ⟨B, S, H⟩) (z' := ⟨B.take n, S.take n, H⟩) (fun _ _ h => h) (fun _ _ _ h m => ⟨h, fun q => m (live_take (n := n) q)⟩) (fun _ _ _ h => h) d v h
theorem Stab.cut {B : Bk} {S : Store} {H : Hp} {n : Nat} {z0 : Z} (s : Stab g z0 ⟨B, S, H⟩) (hn : z0.B.l.length ≤ n) : Stab g z0 ⟨B.take n, S.take n, H⟩ :=
  ⟨fun d v h => Dat.cut (s.dat d v h), fun i a h => by
    have hi : i < n := Nat.lt_of_lt_of_le (List.getElem?_eq_some_iff.mp h).1 hn
    show (B.l.take n)[i]? = some a
    rw [List.getElem?_take_of_lt hi]
    exact s.pre i a h, s.same, s.keep⟩
theorem StoreOk.cut {B : Bk} {S : Store} {H : Hp} {n : Nat} (k : StoreOk g ⟨B, S, H⟩) : StoreOk g ⟨B.take n, S.take n, H⟩ := by
  refine ⟨by show (B.l.take n).length = (S.take n).length; rw [List.length_take, List.length_take, show B.l.length = S.length from k.len], ?_, fun i a o h1 h2 => ?_, fun a ha => ⟨(k.ex a ha).1, fun q => (k.ex a ha).2 (List.mem_of_mem_take q)⟩, k.iv⟩
  · exact k.nd.sublist (List.take_sublist _ _)
  · obtain ⟨u, e, q⟩ := k.obj i a o (at_take (show (B.l.take n)[i]? = some a from h1)) (at_take (show (S.take n)[i]? = some _ from h2))
    refine ⟨u, e, ?_⟩
    cases o with
    | lst xs =>
      obtain ⟨vs, e, d⟩ := q
      exact ⟨vs, e, DatL.cutB d⟩
    | ins c ns ds =>
      obtain ⟨dx, vs, e, l, d⟩ := q
      exact ⟨dx, vs, e, l, DatL.cutB d⟩
    | dead => exact q
end
end Fw

/-! The small language: its codes and its evaluator. -/
namespace Fw
open PySem PySem.Spec PyProof.Rows L2

abbrev Env := List (Option A)
structure Exn where
  c : Nat
  ns : List Str
  ds : List D
def getN (n : Str) (ns : List Str) (ds : List D) : Option D := (ns.zip ds).lookup n
def Exn.at (e : Exn) (n : Str) : Option D := getN n e.ns e.ds
inductive Rz (α : Type) where
  | ok (a : α) (S : Store) | ex (e : Exn) (S : Store) | bad
def Rz.bind {α β : Type} (r : Rz α) (f : α → Store → Rz β) : Rz β := match r with
  | .ok a S => f a S
  | .ex e S => .ex e S
  | .bad => .bad
theorem Rz.bind_ok {α β : Type} {r : Rz α} {f : α → Store → Rz β} {b : β} {S' : Store} (h : r.bind f = .ok b S') : ∃ a S1, r = .ok a S1 ∧ f a S1 = .ok b S' := by
  cases r with
  | ok a S => exact ⟨a, S, rfl, h⟩
  | ex e S => cases h
  | bad => cases h
def Rz.of {α : Type} (o : Option α) (S : Store) : Rz α := match o with
  | some a => .ok a S
  | none => .bad
@[simp] theorem Rz.of_some {α : Type} (a : α) (S : Store) : Rz.of (some a) S = .ok a S := rfl
@[simp] theorem Rz.of_none {α : Type} (S : Store) : (Rz.of none S : Rz α) = .bad := rfl
theorem Rz.of_ok {α : Type} {o : Option α} {S S' : Store} {a : α} (h : Rz.of o S = .ok a S') : o = some a ∧ S' = S := by
  cases o with
  | none => cases h
  | some b => cases h; exact ⟨rfl, rfl⟩

def LIM : Nat := 100000
theorem lim_line : LIM ≤ sizeLine := by decide

/-! ### data -/
mutual
def D.py : D → Option PyData
  | .non => some .none
  | .bl b => some (.bool b)
  | .int i => some (.int i)
  | .str x => some (.str x)
  | .tup ds => (D.pyL ds).map .tuple
  | .lst ds => (D.pyL ds).map .list
  | .scr _ => none
  | .fn _ => none
  | .ty _ => none
  | .ins _ _ _ => none
  | .kl _ => none
def D.pyL : List D → Option (List PyData)
  | [] => some []
  | d :: ds => match d.py, D.pyL ds with
    | some a, some b => some (a :: b)
    | _, _ => none
end
/-- == -/
def eqF (d e : D) : Option Bool := match d.py, e.py with
  | some a, some b => if SeqAt.shaped a && SeqAt.shaped b then some (PyData.eqv a b) else none
  | _, _ => none
def D.ints : List D → Option (List Int)
  | [] => some []
  | .int i :: ds => (D.ints ds).map (i :: ·)
  | _ :: _ => none
def D.bls : List D → Option (List Bool)
  | [] => some []
  | .bl i :: ds => (D.bls ds).map (i :: ·)
  | _ :: _ => none
def D.strs : List D → Option (List Str)
  | [] => some []
  | .str i :: ds => (D.strs ds).map (i :: ·)
  | _ :: _ => none
def mulOk (i j : Int) : Bool := decide ((-(2 ^ 64) < i ∧ i < 2 ^ 64) ∨ (-(2 ^ 64) < j ∧ j < 2 ^ 64) ∨ i.natAbs.log2 + j.natAbs.log2 < 1000000)
def divOk (j : Int) : Bool := decide (j ≠ 0 ∧ j.natAbs.log2 < 9000)
def powOk (i j : Int) : Bool := decide (0 ≤ j ∧ j ≤ 1000000 ∧ i.natAbs < 2 ^ 64)
def intStr (i : Int) : Str := toString i

/-! ### operators -/
def binF (op : Operator) (x y : D) : Option D := match op, x, y with
  | .Add, .int i, .int j => some (.int (i + j))
  | .Sub, .int i, .int j => some (.int (i - j))
  | .Mult, .int i, .int j => if mulOk i j then some (.int (i * j)) else none
  | .FloorDiv, .int i, .int j => if divOk j then some (.int (i.fdiv j)) else none
  | .Mod, .int i, .int j => if j = 0 then none else some (.int (i.fmod j))
  | .Pow, .int i, .int j => if powOk i j then some (.int (i ^ j.toNat)) else none
  | .Add, .str i, .str j => if i.length + j.length ≤ LIM then some (.str (i ++ j)) else none
  | .Add, .tup xs, .tup ys => if xs.length + ys.length ≤ LIM then some (.tup (xs ++ ys)) else none
  | .Add, .lst xs, .lst ys => if xs.length + ys.length ≤ LIM then some (.lst (xs ++ ys)) else none
  | .Mult, .lst xs, .int k => if k < 1000000 ∧ -1000000 < k ∧ xs.length * k.toNat ≤ LIM then some (.lst (List.replicate k.toNat xs).flatten) else none
  | .Mult, .str x, .int k => if k < 1000 ∧ 0 ≤ k ∧ x.length ≤ 1000 then some (.str (Txt.mul x k)) else none
  | .Mult, .tup xs, .int k => if 2 ≤ k ∧ k ≤ 1000 ∧ 1 ≤ xs.length ∧ xs.length ≤ 1000 then some (.tup (List.replicate k.toNat xs).flatten) else none
  | _, _, _ => none
def cmpF (op : CmpOp) (x y : D) : Option Bool := match op, x, y with
  | .Eq, x, y => eqF x y
  | .NotEq, x, y => (eqF x y).map (! ·)
  | .Lt, .int i, .int j => some (decide (i < j))
  | .LtE, .int i, .int j => some (decide (i ≤ j))
  | .Gt, .int i, .int j => some (decide (j < i))
  | .GtE, .int i, .int j => some (decide (j ≤ i))
  | .Lt, .str i, .str j => some (decide (i.cps.toList < j.cps.toList))
  | .LtE, .str i, .str j => some (!decide (j.cps.toList < i.cps.toList))
  | .Gt, .str i, .str j => some (decide (j.cps.toList < i.cps.toList))
  | .GtE, .str i, .str j => some (!decide (i.cps.toList < j.cps.toList))
  | .In, .str i, .str j => signIn i j
  | .NotIn, .str i, .str j => (signIn i j).map (! ·)
  | .In, x, .lst ds => (inF x ds)
  | .NotIn, x, .lst ds => (inF x ds).map (! ·)
  | .In, x, .tup ds => (inFT x ds)
  | .NotIn, x, .tup ds => (inFT x ds).map (! ·)
  | _, _, _ => none
where
  signIn (i j : Str) : Option Bool := match i.cps.toList with
    | [c] => some (decide (c ∈ j.cps.toList))
    | _ => none
  inF (x : D) (ds : List D) : Option Bool := match x.py, D.pyL ds with
    | some a, some bs => if SeqAt.shaped a && SeqAt.shaped (.list bs) then some (bs.any fun z => PyData.eqv z a) else none
    | _, _ => none
  inFT (x : D) (ds : List D) : Option Bool := match x, D.strs ds with
    | .str a, some bs => some (bs.any fun z => z == a)
    | _, _ => none
def isF (x : A) : Bool := match x with
  | .p .non => true
  | _ => false
def cmpA (op : CmpOp) (x y : A) : Option Bool := match op, x, y with
  | .Is, x, .p .non => some (isF x)
  | .IsNot, x, .p .non => some (!isF x)
  | op, .p x, .p y => cmpF op x y
  | _, _, _ => none
/-- a list of the store read as it stands -/
def dig (x : A) (S : Store) : A := match x with
  | .p d => .p d
  | .m j => match S[j]? with
    | some (.lst ds) => .p (.lst ds)
    | _ => .m j
def truF (x : D) : Option Bool := match x with
  | .non => some false
  | .bl b => some b
  | .int i => some (i != 0)
  | .str y => if y.length ≤ LIM then some ((y.length : Int) != 0) else none
  | .tup ds => some (!ds.isEmpty)
  | .lst ds => some (!ds.isEmpty)
  | _ => none
def subF (x y : A) (S : Store) : Option A := match x, y with
  | .p (.lst ds), .p (.int i) => (atI ds i).map .p
  | .p (.tup ds), .p (.int i) => (atI ds i).map .p
  | .p (.str z), .p (.int i) => if z.length ≤ LIM then (atI z.cps.toList i).map fun c => .p (.str ⟨#[c]⟩) else none
  | .m j, .p (.int i) => match S[j]? with
    | some (.lst xs) => (atI xs i).map .p
    | _ => none
  | _, _ => none
def cutD {α : Type} (xs : List α) (lo hi : Option Int) : List α := (xs.drop (HT.sIx xs.length 0 lo)).take (HT.sIx xs.length xs.length hi - HT.sIx xs.length 0 lo)
def slcF (x : D) (lo hi : Option Int) : Option D := match x with
  | .lst ds => some (.lst (cutD ds lo hi))
  | .scr ns => some (.lst (cutD (ns.map .int) lo hi))
  | .tup ds => some (.tup (cutD ds lo hi))
  | .str z => if z.length ≤ LIM then some (.str (cutS z lo hi)) else none
  | _ => none

/-! ### calls of what is built in -/
inductive Blt where
  | len | abs | int | str | isi | all | any | sum | max | min | list | tuple | sorted
  deriving DecidableEq
def tyF (x : A) (S : Store) : Option Ty := match x with
  | .p .non => some .tNone
  | .p (.bl _) => some .tBool
  | .p (.int _) => some .tInt
  | .p (.str _) => some .tStr
  | .p (.tup _) => some .tTup
  | .p (.lst _) => some .tLst
  | .p (.scr _) => some .tLst
  | .m j => match S[j]? with
    | some (.lst _) => some .tLst
    | _ => none
  | _ => none
def isaF (t c : Ty) : Bool := t == c || (t == .tBool && c == .tInt)
def D.tys : List D → Option (List Ty)
  | [] => some []
  | .ty i :: ds => (D.tys ds).map (i :: ·)
  | _ :: _ => none
def maxI : List Int → Int
  | [] => 0
  | [x] => x
  | x :: xs => max x (maxI xs)
def minI : List Int → Int
  | [] => 0
  | [x] => x
  | x :: xs => min x (minI xs)
def maxDf (d : Int) : List Int → Int
  | [] => d
  | n :: ns => ns.foldl max n
def D.enc (d : D) : PyData := d.py.getD .none
def tupB : PyData → Bool
  | .tuple (_ :: _) => true
  | _ => false
def othB : PyData → Bool
  | .none => false
  | .tuple _ => false
  | _ => true
def sortOk (ps : List PyData) : Bool := (ps.all fun a => ps.all fun b => PySem.W.alike a b) && (ps.all tupB || ps.all othB) && ps.all fun a => decide (a.depth ≤ 60)
/-- sorted(ds) -/
def sortF (ds : List D) : Option (List D) := match D.pyL ds with
  | some ps => if sortOk ps && decide (ds.length ≤ LIM) then some (ds.mergeSort (PySem.W.dataLe false D.enc)) else none
  | none => none
def bltF (b : Blt) (xs : List A) (S : Store) : Option A := match b, xs with
  | .len, [.p (.lst ds)] => some (.p (.int ds.length))
  | .len, [.p (.tup ds)] => some (.p (.int ds.length))
  | .len, [.p (.scr ds)] => some (.p (.int ds.length))
  | .len, [.p (.str x)] => if x.length ≤ LIM then some (.p (.int x.length)) else none
  | .len, [.m j] => match S[j]? with
    | some (.lst ys) => some (.p (.int ys.length))
    | _ => none
  | .abs, [.p (.int i)] => some (.p (.int (if i < 0 then -i else i)))
  | .int, [.p (.int i)] => some (.p (.int i))
  | .int, [.p (.bl b)] => some (.p (.int (if b then 1 else 0)))
  | .str, [.p (.int i)] => if i.natAbs.log2 < 1920 then some (.p (.str (intStr i))) else none
  | .isi, [x, .p (.ty c)] => (tyF x S).map fun t => .p (.bl (isaF t c))
  | .all, [.p (.lst ds)] => (D.bls ds).map fun bs => .p (.bl (bs.all id))
  | .any, [.p (.lst ds)] => (D.bls ds).map fun bs => .p (.bl (bs.any id))
  | .sum, [.p (.lst ds)] => (D.ints ds).map fun ns => .p (.int ns.sum)
  | .max, [.p (.lst ds)] => match D.ints ds with
    | some (n :: ns) => some (.p (.int (maxI (n :: ns))))
    | _ => none
  | .min, [.p (.lst ds)] => match D.ints ds with
    | some (n :: ns) => some (.p (.int (minI (n :: ns))))
    | _ => none
  | .list, [.p (.lst ds)] => some (.p (.lst ds))
  | .list, [.p (.tup ds)] => some (.p (.lst ds))
  | .tuple, [.p (.lst ds)] => some (.p (.tup ds))
  | .tuple, [.p (.tup ds)] => some (.p (.tup ds))
  | .list, [.p (.str x)] => if x.length ≤ LIM then some (.p (.lst (x.cps.toList.map fun c => .str ⟨#[c]⟩))) else none
  | .min, [.p (.int i), .p (.int j)] => some (.p (.int (if j < i then j else i)))
  | .sorted, [.p (.lst ds)] => (sortF ds).map fun es => .p (.lst es)
  | .sorted, [.p (.tup ds)] => (sortF ds).map fun es => .p (.lst es)
  | .int, [.p (.str x)] => if x.length ≤ 640 then (PySem.intText? x).map fun n => .p (.int n) else none
  | .tuple, [.m j] => match S[j]? with
    | some (.lst ys) => some (.p (.tup ys))
    | _ => none
  | _, _ => none
def maxF (x y : A) : Option A := match x, y with
  | .p (.lst ds), .p (.int d) => (D.ints ds).map fun ns => .p (.int (maxDf d ns))
  | _, _ => none
def fmtF (x : A) : Option A := match x with
  | .p (.str y) => if y.length ≤ LIM then some (.p (.str y)) else none
  | .p (.int i) => if i.natAbs.log2 < 1920 then some (.p (.str (intStr i))) else none
  | _ => none
/-- the texts one behind the other -/
def catF : Str → List A → Option Str
  | acc, [] => some acc
  | acc, .p (.str y) :: r => if acc.length + y.length ≤ LIM then catF (acc ++ y) r else none
  | _, _ :: _ => none

/-! ### what is walked -/
@[irreducible] def rgB (i : Int) : Bool := decide (-(2 ^ 62) ≤ i ∧ i < 2 ^ 62)
theorem rgB_iff {i : Int} : rgB i = true ↔ (-(2 ^ 62) ≤ i ∧ i < 2 ^ 62) := by
  unfold rgB
  exact decide_eq_true_iff
inductive ItK where
  | seq | range1 | range2 | zip | enum
  deriving DecidableEq
def walkF (k : ItK) (xs : List A) : Option (List A) := match k, xs with
  | .seq, [.p (.lst ds)] => some (ds.map .p)
  | .seq, [.p (.tup ds)] => some (ds.map .p)
  | .seq, [.p (.str x)] => some (x.cps.toList.map fun c => .p (.str ⟨#[c]⟩))
  | .range1, [.p (.int j)] => if rgB j then some ((List.range j.toNat).map fun i => .p (.int (0 + (i : Nat)))) else none
  | .range2, [.p (.int i), .p (.int j)] => if rgB i && rgB j then some ((List.range (j - i).toNat).map fun n => .p (.int (i + (n : Nat)))) else none
  | .zip, [.p (.lst ds), .p (.lst es)] => some (List.zipWith (fun a b => .p (.tup [a, b])) ds es)
  | .zip, [.p (.tup ds), .p (.tup es)] => some (List.zipWith (fun a b => .p (.tup [a, b])) ds es)
  | .enum, [.p (.lst ds)] => some (ds.zipIdx.map fun (d, i) => .p (.tup [.int (i : Nat), d]))
  | _, _ => none
/-- where a value goes -/
inductive Tg where
  | nm (i : Nat) | tp (ts : List Tg)
mutual
def bindT : Tg → A → Env → Option Env
  | .nm i, x, ρ => some (ρ.set i (some x))
  | .tp ts, .p (.tup ds), ρ => bindTs ts ds ρ
  | .tp _, _, _ => none
def bindTs : List Tg → List D → Env → Option Env
  | [], [], ρ => some ρ
  | t :: ts, d :: ds, ρ => match bindT t (.p d) ρ with
    | some ρ1 => bindTs ts ds ρ1
    | none => none
  | _, _, _ => none
end
def wipeE (ρ : Env) : List Nat → Env
  | [] => ρ
  | v :: vs => (wipeE ρ vs).set v none

/-! ### methods -/
inductive Mth where
  | append | join
  deriving DecidableEq
def mthF (m : Mth) (o : A) (xs : List A) (S : Store) : Rz A := match m, o, xs with
  | .append, .m j, [.p x] => match S[j]? with
    | some (.lst ys) => if ys.length < LIM then .ok (.p .non) (S.set j (.lst (ys ++ [x]))) else .bad
    | _ => .bad
  | .join, .p (.str a), [.p (.lst ds)] => match D.strs ds with
    | some ys => if (ys.map (·.length)).sum + ys.length * a.length ≤ LIM then .ok (.p (.str (Txt.join a ys))) S else .bad
    | none => .bad
  | _, _, _ => .bad

/-- the method is the one that is meant -/
def mthTy (m : Mth) (o : A) (S : Store) : Bool := match m, o with
  | .append, .m j => match S[j]? with
    | some (.lst _) => true
    | _ => false
  | .join, .p (.str _) => true
  | _, _ => false
/-! ### codes -/
/-- what is called: a def; a class; a class that a local holds; a classmethod with a star parameter -/
inductive Hd where
  | fn (f : Nat) (ds : List D) | make (ci fi : Nat) (ds : List D) | makeL (i ci fi : Nat) | makeM (ci fi : Nat) (ds : List D) | cmeth (ci fi : Nat) (m : Str)
inductive C where
  | var (i : Nat) | cst (d : D)
  | bin (op : Operator) (a b : C) | neg (a : C)
  | cmp (op : CmpOp) (a b : C) | chain (op op' : CmpOp) (a b c : C)
  | and (a b : C) | or (a b : C) | not (a : C) | ite (t a b : C)
  | tup (cs : List C) | lst (cs : List C) | lstM (cs : List C)
  | tupS (fl : List Bool) (cs : List C) | lstS (fl : List Bool) (cs : List C)
  | sub (a b : C) | slcL (a lo : C) | slcH (a hi : C) | slcB (a lo hi : C)
  | call (f : Nat) (cs : List C) (ds : List D)
  | callK (f : Nat) (cs : List C) (ks : List C) (asm : List (Nat ⊕ D))
  | blt (b : Blt) (cs : List C)
  | mth (m : Mth) (o : C) (cs : List C)
  | comp (k : ItK) (its : List C) (t : Tg) (own : List Nat) (cond : Option C) (e : C)
  | fstr (cs : List C) | fmt (c : C) | isiT (a : C) (cs : List Ty) | maxD (a d : C)
  | callV (i nf : Nat) (cs : List C)
  | fld (ci : Nat) (o : C) (n : Str) | ccst (ci : Nat) (n : Str) (d : D)
  | app (h : Hd) (cs : List C) | meth (ci fi : Nat) (m : Str) (o : C) (cs : List C) (ds : List D)
  | methK (ci fi : Nat) (m : Str) (o : C) (ks : List C) (asm : List (Nat ⊕ D)) | whyK (ci fi : Nat) (m : Str) (o : C) (ks : List C) (asm : List (Nat ⊕ D))
  | whyA (h : Hd) (cs : List C) | whyS (ci fi : Nat) (m : Str) (o : C) (cs : List C) (ds : List D)
def asmF (asm : List (Nat ⊕ D)) (xs : List A) : Option (List A) := match asm with
  | [] => some []
  | .inl i :: r => match xs[i]?, asmF r xs with
    | some x, some ys => some (x :: ys)
    | _, _ => none
  | .inr d :: r => (asmF r xs).map (.p d :: ·)
def datas : List A → Option (List D)
  | [] => some []
  | .p d :: xs => (datas xs).map (d :: ·)
  | .m _ :: _ => none
/-- the value as a test, or as it is -/
def tst (t : Bool) (x : A) (S : Store) : Rz A := if t then (match x with
  | .p d => Rz.of ((truF d).map fun b => .p (.bl b)) S
  | .m _ => .bad) else .ok x S
def compL (bnd : A → Option Env) (cond : Env → Store → Rz A) (elt : Env → Store → Rz A) : List A → Store → Rz (List D)
  | [], S => .ok [] S
  | x :: xs, S => match bnd x with
    | none => .bad
    | some ρ => (cond ρ S).bind fun b S1 => match b with
      | .p (.bl true) => (elt ρ S1).bind fun y S2 => match y with
        | .p d => (compL bnd cond elt xs S2).bind fun ds S3 => .ok (d :: ds) S3
        | .m _ => .bad
      | .p (.bl false) => compL bnd cond elt xs S1
      | _ => .bad
/-- an exception may not leave here -/
def Rz.np {α : Type} (r : Rz α) : Rz α := match r with
  | .ok a S => .ok a S
  | _ => .bad
/-- an instance, its class and attributes -/
def insF (x : A) (S : Store) : Option (Nat × List Str × List D) := match x with
  | .p (.ins c ns ds) => some (c, ns, ds)
  | .m j => match S[j]? with
    | some (.ins c ns ds) => some (c, ns, ds)
    | _ => none
  | _ => none
/-- a new instance -/
def mkF (cl : Nat → List A → Store → Rz A) (ci fi : Nat) (xs : List A) (S : Store) : Rz A := match cl fi (.m S.length :: xs) (S ++ [.ins ci [] []]) with
  | .ok (.p .non) S' => match S'[S.length]? with
    | some (.ins c ns ds) => if c = ci then .ok (.p (.ins ci ns ds)) (S'.take S.length) else .bad
    | _ => .bad
  | .ex e S' => .ex e (S'.take S.length)
  | _ => .bad
/-- a new instance that may change later -/
def mkM (cl : Nat → List A → Store → Rz A) (ci fi : Nat) (xs : List A) (S : Store) : Rz A := match cl fi (.m S.length :: xs) (S ++ [.ins ci [] []]) with
  | .ok (.p .non) S' => match S'[S.length]? with
    | some (.ins c _ _) => if c = ci then .ok (.m S.length) S' else .bad
    | _ => .bad
  | .ex e S' => .ex e (S'.take S.length)
  | _ => .bad
def appF (cl : Nat → List A → Store → Rz A) (h : Hd) (ρ : Env) (xs : List A) (S : Store) : Rz A := match h with
  | .fn f ds => cl f (xs ++ ds.map .p) S
  | .make ci fi ds => mkF cl ci fi (xs ++ ds.map .p) S
  | .makeM ci fi ds => mkM cl ci fi (xs ++ ds.map .p) S
  | .makeL i ci fi => match ρ[i]? with
    | some (some (.p (.kl c))) => if c = ci then mkF cl ci fi xs S else .bad
    | _ => .bad
  | .cmeth ci fi _ => match datas xs with
    | some ds => if ds.length ≤ LIM then cl fi [.p (.kl ci), .p (.tup ds)] S else .bad
    | none => .bad
/-- which attribute the law's own helper tells of which code -/
def fldM (k : Str) : Option Str :=
  if k ∈ (["InvalidName", "DuplicateName", "UnknownName"] : List Str) then some "name" else
  if k ∈ (["InvalidPart", "InvalidTrait", "InvalidRow", "InvalidWave", "InvalidSight", "InvalidDrawing"] : List Str) then some "index" else
  if k ∈ (["InvalidPerson", "InvalidEntry", "InvalidNumber", "InvalidWeb", "NotTold"] : List Str) then some "given" else
  if k ∈ (["TooWide", "TooLarge", "TooMany"] : List Str) then some "most" else
  if k ∈ (["Unseen", "Barred"] : List Str) then some "web" else
  if k = "InvalidProgram" then some "path" else
  if k = "InvalidText" then some "position" else
  if k = "InvalidPage" then some "line" else none
def fldNames : List Str := ["name", "index", "given", "most", "web", "path", "position", "line"]
/-- what it tells of an exception -/
def whyF (e : Exn) : Option D := match e.at "code" with
  | some (.str k) => (match fldM k with
    | some attr => e.at attr
    | none => some .non).map fun d => .tup [.str k, d]
  | _ => none
def whyR (r : Rz A) : Rz A := match r with
  | .ok _ S => .ok (.p (.tup [.str "value", .non])) S
  | .ex e S => Rz.of ((whyF e).map .p) S
  | .bad => .bad
/-- the items of a list or a tuple -/
def sqF (x : A) (S : Store) : Option (List D) := match x with
  | .p (.tup ds) => some ds
  | .p (.lst ds) => some ds
  | .m j => match S[j]? with
    | some (.lst ds) => some ds
    | _ => none
  | _ => none
mutual
def ev (cl : Nat → List A → Store → Rz A) (t : Bool) : C → Env → Store → Rz A
  | .var i, ρ, S => match ρ[i]? with
    | some (some x) => tst t x S
    | _ => .bad
  | .cst d, _, S => tst t (.p d) S
  | .bin op a b, ρ, S => (ev cl false a ρ S).bind fun x S1 => (ev cl false b ρ S1).bind fun y S2 => match x, y with
    | .p x, .p y => (Rz.of (binF op x y) S2).bind fun z S3 => tst t (.p z) S3
    | _, _ => .bad
  | .neg a, ρ, S => (ev cl false a ρ S).bind fun x S1 => match x with
    | .p (.int i) => tst t (.p (.int (-i))) S1
    | _ => .bad
  | .cmp op a b, ρ, S => (ev cl false a ρ S).bind fun x S1 => (ev cl false b ρ S1).bind fun y S2 => (Rz.of (cmpA op (dig x S2) (dig y S2)) S2).bind fun z S3 => .ok (.p (.bl z)) S3
  | .chain op op' a b c, ρ, S => (ev cl false a ρ S).bind fun x S1 => (ev cl false b ρ S1).bind fun y S2 => (Rz.of (cmpA op x y) S2).bind fun z S3 =>
      if z then (ev cl false c ρ S3).bind fun w S4 => (Rz.of (cmpA op' (dig y S4) (dig w S4)) S4).bind fun z S5 => .ok (.p (.bl z)) S5 else .ok (.p (.bl false)) S3
  | .and a b, ρ, S => if t then (ev cl true a ρ S).bind fun x S1 => match x with
      | .p (.bl true) => ev cl true b ρ S1
      | .p (.bl false) => .ok (.p (.bl false)) S1
      | _ => .bad
    else (ev cl false a ρ S).bind fun x S1 => (tst true x S1).bind fun y S1 => match y with
      | .p (.bl true) => ev cl false b ρ S1
      | .p (.bl false) => .ok x S1
      | _ => .bad
  | .or a b, ρ, S => if t then (ev cl true a ρ S).bind fun x S1 => match x with
      | .p (.bl false) => ev cl true b ρ S1
      | .p (.bl true) => .ok (.p (.bl true)) S1
      | _ => .bad
    else (ev cl false a ρ S).bind fun x S1 => (tst true x S1).bind fun y S1 => match y with
      | .p (.bl false) => ev cl false b ρ S1
      | .p (.bl true) => .ok x S1
      | _ => .bad
  | .not a, ρ, S => (ev cl true a ρ S).bind fun x S1 => match x with
      | .p (.bl b) => .ok (.p (.bl (!b))) S1
      | _ => .bad
  | .ite c a b, ρ, S => (ev cl true c ρ S).bind fun x S1 => match x with
      | .p (.bl true) => ev cl t a ρ S1
      | .p (.bl false) => ev cl t b ρ S1
      | _ => .bad
  | .tup cs, ρ, S => (evs cl cs ρ S).bind fun xs S1 => match datas xs with
      | some ds => if ds.length ≤ LIM then tst t (.p (.tup ds)) S1 else .bad
      | none => .bad
  | .lst cs, ρ, S => (evs cl cs ρ S).bind fun xs S1 => match datas xs with
      | some ds => if ds.length ≤ LIM then tst t (.p (.lst ds)) S1 else .bad
      | none => .bad
  | .lstM cs, ρ, S => (evs cl cs ρ S).bind fun xs S1 => match datas xs with
      | some ds => if ds.length ≤ LIM && !t then .ok (.m S1.length) (S1 ++ [.lst ds]) else .bad
      | none => .bad
  | .tupS fl cs, ρ, S => (evsS cl fl cs ρ S).bind fun xs S1 => match datas xs with
      | some ds => if ds.length ≤ LIM then tst t (.p (.tup ds)) S1 else .bad
      | none => .bad
  | .lstS fl cs, ρ, S => (evsS cl fl cs ρ S).bind fun xs S1 => match datas xs with
      | some ds => if ds.length ≤ LIM then tst t (.p (.lst ds)) S1 else .bad
      | none => .bad
  | .sub a b, ρ, S => (ev cl false a ρ S).bind fun x S1 => (ev cl false b ρ S1).bind fun y S2 => (Rz.of (subF x y S2) S2).bind fun z S3 => tst t z S3
  | .slcL a lo, ρ, S => (ev cl false a ρ S).bind fun x S1 => (ev cl false lo ρ S1).bind fun l S2 => match x, l with
      | .p x, .p (.int l) => (Rz.of (slcF x (some l) none) S2).bind fun z S3 => tst t (.p z) S3
      | _, _ => .bad
  | .slcH a hi, ρ, S => (ev cl false a ρ S).bind fun x S1 => (ev cl false hi ρ S1).bind fun l S2 => match x, l with
      | .p x, .p (.int l) => (Rz.of (slcF x none (some l)) S2).bind fun z S3 => tst t (.p z) S3
      | _, _ => .bad
  | .slcB a lo hi, ρ, S => (ev cl false a ρ S).bind fun x S1 => (ev cl false lo ρ S1).bind fun l S2 => (ev cl false hi ρ S2).bind fun h S3 => match x, l, h with
      | .p x, .p (.int l), .p (.int h) => (Rz.of (slcF x (some l) (some h)) S3).bind fun z S4 => tst t (.p z) S4
      | _, _, _ => .bad
  | .call f cs ds, ρ, S => (evs cl cs ρ S).bind fun xs S1 => (cl f (xs ++ ds.map .p) S1).bind fun z S2 => tst t z S2
  | .callK f cs ks asm, ρ, S => (evs cl cs ρ S).bind fun xs S1 => (evs cl ks ρ S1).bind fun ys S2 => (Rz.of (asmF asm (xs ++ ys)) S2).bind fun zs S3 => (cl f zs S3).bind fun z S4 => tst t z S4
  | .blt b cs, ρ, S => (evs cl cs ρ S).bind fun xs S1 => (Rz.of (bltF b xs S1) S1).bind fun z S2 => tst t z S2
  | .mth m o cs, ρ, S => (ev cl false o ρ S).bind fun x S1 => if mthTy m x S1 then (evs cl cs ρ S1).bind fun xs S2 => (mthF m x xs S2).bind fun z S3 => tst t z S3 else .bad
  | .comp k its tg own cond e, ρ, S => (evs cl its ρ S).bind fun xs S1 => (Rz.of (walkF k xs) S1).bind fun items S1 =>
      (compL (fun x => bindT tg x (wipeE ρ own)) (match cond with
        | none => fun _ S => .ok (.p (.bl true)) S
        | some c => ev cl true c) (ev cl false e) items S1).bind fun ds S2 => if ds.length < LIM then tst t (.p (.lst ds)) S2 else .bad
  | .fstr cs, ρ, S => (evs cl cs ρ S).bind fun xs S1 => (Rz.of (catF Str.empty xs) S1).bind fun z S2 => tst t (.p (.str z)) S2
  | .isiT a cs, ρ, S => (ev cl false a ρ S).bind fun x S1 => match tyF x S1 with
      | some t => .ok (.p (.bl (cs.any fun c => isaF t c))) S1
      | none => .bad
  | .callV i nf cs, ρ, S => (match ρ[i]? with
    | some (some (.p (.fn f))) => if f < nf then (evs cl cs ρ S).bind fun xs S1 => (cl f xs S1).bind fun z S2 => tst t z S2 else .bad
    | _ => .bad)
  | .fld ci o n, ρ, S => (ev cl false o ρ S).bind fun x S1 => match insF x S1 with
    | some (c, ns, ds) => if c = ci then (Rz.of (getN n ns ds) S1).bind fun d S2 => tst t (.p d) S2 else .bad
    | none => .bad
  | .ccst _ _ d, _, S => tst t (.p d) S
  | .app h cs, ρ, S => ((evs cl cs ρ S).np.bind fun xs S1 => appF cl h ρ xs S1).bind fun z S2 => tst t z S2
  | .meth ci fi m o cs ds, ρ, S => ((ev cl false o ρ S).np.bind fun x S1 => match insF x S1 with
    | some (c, ns, _) => if c = ci && !(ns.any fun n => n == m) then (evs cl cs ρ S1).np.bind fun xs S2 => cl fi (x :: (xs ++ ds.map .p)) S2 else .bad
    | none => .bad).bind fun z S3 => tst t z S3
  | .whyA h cs, ρ, S => (whyR ((evs cl cs ρ S).np.bind fun xs S1 => appF cl h ρ xs S1)).bind fun z S2 => tst t z S2
  | .whyS ci fi m o cs ds, ρ, S => (whyR ((ev cl false o ρ S).np.bind fun x S1 => match insF x S1 with
    | some (c, ns, _) => if c = ci && !(ns.any fun n => n == m) then (evs cl cs ρ S1).np.bind fun xs S2 => cl fi (x :: (xs ++ ds.map .p)) S2 else .bad
    | none => .bad)).bind fun z S3 => tst t z S3
  | .methK ci fi m o ks asm, ρ, S => ((ev cl false o ρ S).np.bind fun x S1 => match insF x S1 with
    | some (c, ns, _) => if c = ci && !(ns.any fun n => n == m) then (evs cl ks ρ S1).np.bind fun ys S2 => (match asmF asm (x :: ys) with
      | some zs => cl fi zs S2
      | none => .bad) else .bad
    | none => .bad).bind fun z S3 => tst t z S3
  | .whyK ci fi m o ks asm, ρ, S => (whyR ((ev cl false o ρ S).np.bind fun x S1 => match insF x S1 with
    | some (c, ns, _) => if c = ci && !(ns.any fun n => n == m) then (evs cl ks ρ S1).np.bind fun ys S2 => (match asmF asm (x :: ys) with
      | some zs => cl fi zs S2
      | none => .bad) else .bad
    | none => .bad)).bind fun z S3 => tst t z S3
  | .maxD a d, ρ, S => (ev cl false a ρ S).bind fun x S1 => (ev cl false d ρ S1).bind fun y S2 => (Rz.of (maxF x y) S2).bind fun z S3 => tst t z S3
  | .fmt c, ρ, S => (ev cl false c ρ S).bind fun x S1 => (Rz.of (fmtF x) S1).bind fun z S2 => tst t z S2
def evs (cl : Nat → List A → Store → Rz A) : List C → Env → Store → Rz (List A)
  | [], _, S => .ok [] S
  | c :: cs, ρ, S => (ev cl false c ρ S).bind fun x S1 => (evs cl cs ρ S1).bind fun xs S2 => .ok (x :: xs) S2
/-- items, some of them opened -/
def evsS (cl : Nat → List A → Store → Rz A) : List Bool → List C → Env → Store → Rz (List A)
  | fl, [], _, S => if fl.isEmpty then .ok [] S else .bad
  | fl, c :: cs, ρ, S => match fl with
    | [] => .bad
    | true :: fl => (ev cl false c ρ S).bind fun x S1 => match sqF x S1 with
      | some ds => (evsS cl fl cs ρ S1).bind fun xs S2 => .ok (ds.map .p ++ xs) S2
      | none => .bad
    | false :: fl => (ev cl false c ρ S).bind fun x S1 => (evsS cl fl cs ρ S1).bind fun xs S2 => .ok (x :: xs) S2
end

/-- a call that may raise -/
inductive XC where
  | app (h : Hd) (cs : List C) | meth (ci fi : Nat) (m : Str) (o : C) (cs : List C) (ds : List D) | methK (ci fi : Nat) (m : Str) (o : C) (ks : List C) (asm : List (Nat ⊕ D))
def xcF (cl : Nat → List A → Store → Rz A) (x : XC) (ρ : Env) (S : Store) : Rz A := match x with
  | .app h cs => (evs cl cs ρ S).np.bind fun xs S1 => appF cl h ρ xs S1
  | .meth ci fi m o cs ds => (ev cl false o ρ S).np.bind fun x S1 => match insF x S1 with
    | some (c, ns, _) => if c = ci && !(ns.any fun n => n == m) then (evs cl cs ρ S1).np.bind fun xs S2 => cl fi (x :: (xs ++ ds.map .p)) S2 else .bad
    | none => .bad
  | .methK ci fi m o ks asm => (ev cl false o ρ S).np.bind fun x S1 => match insF x S1 with
    | some (c, ns, _) => if c = ci && !(ns.any fun n => n == m) then (evs cl ks ρ S1).np.bind fun ys S2 => (match asmF asm (x :: ys) with
      | some zs => cl fi zs S2
      | none => .bad) else .bad
    | none => .bad
/-- an expression in which a call may raise -/
inductive CXx where
  | p (c : C) | x (xc : XC) | tup (cs : List CXx) | lst (cs : List CXx) | lstM (cs : List CXx) | neg (c : CXx) | int (c : CXx) | app (o : C) (c : CXx)
mutual
def evX (cl : Nat → List A → Store → Rz A) : CXx → Env → Store → Rz A
  | .p c, ρ, S => (ev cl false c ρ S).np
  | .x xc, ρ, S => xcF cl xc ρ S
  | .tup cs, ρ, S => (evXs cl cs ρ S).bind fun xs S1 => match datas xs with
      | some ds => if ds.length ≤ LIM then .ok (.p (.tup ds)) S1 else .bad
      | none => .bad
  | .lst cs, ρ, S => (evXs cl cs ρ S).bind fun xs S1 => match datas xs with
      | some ds => if ds.length ≤ LIM then .ok (.p (.lst ds)) S1 else .bad
      | none => .bad
  | .lstM cs, ρ, S => (evXs cl cs ρ S).bind fun xs S1 => match datas xs with
      | some ds => if ds.length ≤ LIM then .ok (.m S1.length) (S1 ++ [.lst ds]) else .bad
      | none => .bad
  | .neg c, ρ, S => (evX cl c ρ S).bind fun x S1 => match x with
      | .p (.int i) => .ok (.p (.int (-i))) S1
      | _ => .bad
  | .int c, ρ, S => (evX cl c ρ S).bind fun x S1 => Rz.of (bltF .int [x] S1) S1
  | .app o c, ρ, S => (ev cl false o ρ S).np.bind fun x S1 => if mthTy .append x S1 then (evX cl c ρ S1).bind fun y S2 => mthF .append x [y] S2 else .bad
def evXs (cl : Nat → List A → Store → Rz A) : List CXx → Env → Store → Rz (List A)
  | [], _, S => .ok [] S
  | c :: cs, ρ, S => (evX cl c ρ S).bind fun x S1 => (evXs cl cs ρ S1).bind fun xs S2 => .ok (x :: xs) S2
end
/-! ### statements -/
/-- an own exception's class: its number, its code, the attribute of its parameter -/
structure Xi where
  c : Nat
  code : Str
  attr : Option Str
/-- an attribute is set -/
def putN (n : Str) (d : D) : List Str → List D → List Str × List D
  | [], _ => ([n], [d])
  | m :: ns, x :: ds => if m = n then (m :: ns, d :: ds) else (m :: (putN n d ns ds).1, x :: (putN n d ns ds).2)
  | m :: ns, [] => (m :: ns, [])
def exnF (x : Xi) (xs : List A) : Option Exn := match x.attr, xs with
  | some a, [.p d] => some ⟨x.c, ["code", a], [.str x.code, d]⟩
  | none, [] => some ⟨x.c, ["code"], [.str x.code]⟩
  | _, _ => none
inductive Sc where
  | asg (t : Tg) (c : C) | par (i j : Nat) (a b : C) | parT (i j : Nat) (a b : C) | setI (o i v : C)
  | exp (c : C) | ret (c : C) | retN | ite (c : C) (a b : List Sc)
  | for (k : ItK) (its : List C) (t : Tg) (body : List Sc) | while (c : C) (body : List Sc)
  | frz (i : Nat) | pass | brk | cnt
  | asgX (t : Tg) (x : XC) | expX (x : XC) | retX (x : XC) | raise (x : Xi) (cs : List C) | setF (ci : Nat) (o : C) (n : Str) (v : C)
  | asgE (t : Tg) (x : CXx) | expE (x : CXx) | retE (x : CXx) | augF (ci : Nat) (o : C) (n : Str) (sb : Bool) (v : C)
inductive Rs where
  | nx (ρ : Env) (S : Store) | rt (x : A) (S : Store) | bk (ρ : Env) (S : Store) | ct (ρ : Env) (S : Store) | ex (e : Exn) (S : Store) | bad
def Rz.then {α : Type} (r : Rz α) (f : α → Store → Rs) : Rs := match r with
  | .ok a S => f a S
  | _ => .bad
def Rz.thenX {α : Type} (r : Rz α) (f : α → Store → Rs) : Rs := match r with
  | .ok a S => f a S
  | .ex e S => .ex e S
  | .bad => .bad
def Rs.then (r : Rs) (f : Env → Store → Rs) : Rs := match r with
  | .nx ρ S => f ρ S
  | r => r
def forL (bnd : A → Env → Option Env) (body : Env → Store → Rs) : List A → Env → Store → Rs
  | [], ρ, S => .nx ρ S
  | x :: xs, ρ, S => match bnd x ρ with
    | none => .bad
    | some ρ1 => match body ρ1 S with
      | .nx ρ2 S2 => forL bnd body xs ρ2 S2
      | .ct ρ2 S2 => forL bnd body xs ρ2 S2
      | .bk ρ2 S2 => .nx ρ2 S2
      | r => r
def whileL (cond : Env → Store → Rz A) (body : Env → Store → Rs) : Nat → Env → Store → Rs
  | 0, _, _ => .bad
  | n + 1, ρ, S => (cond ρ S).then fun x S1 => match x with
    | .p (.bl false) => .nx ρ S1
    | .p (.bl true) => match body ρ S1 with
      | .nx ρ2 S2 => whileL cond body n ρ2 S2
      | .ct ρ2 S2 => whileL cond body n ρ2 S2
      | .bk ρ2 S2 => .nx ρ2 S2
      | r => r
    | _ => .bad
mutual
def run1 (cl : Nat → List A → Store → Rz A) (wf : Nat) : Sc → Env → Store → Rs
  | .asg t c, ρ, S => (ev cl false c ρ S).then fun x S1 => match bindT t x ρ with
    | some ρ1 => .nx ρ1 S1
    | none => .bad
  | .par i j a b, ρ, S => (ev cl false a ρ S).then fun x S1 => (ev cl false b ρ S1).then fun y S2 => .nx ((ρ.set i (some x)).set j (some y)) S2
  | .parT i j a b, ρ, S => (ev cl false a ρ S).then fun x S1 => (ev cl false b ρ S1).then fun y S2 => .nx ((ρ.set i (some x)).set j (some y)) S2
  | .setI o i v, ρ, S => (ev cl false v ρ S).then fun x S1 => (ev cl false o ρ S1).then fun o S2 => (ev cl false i ρ S2).then fun i S3 => match o, i with
    | .m j, .p (.int k) => match S3[j]?, x with
      | some (.lst ys), .p x => match ixN ys.length k with
        | some n => .nx ρ (S3.set j (.lst (ys.set n x)))
        | none => .bad
      | _, _ => .bad
    | _, _ => .bad
  | .exp c, ρ, S => (ev cl false c ρ S).then fun _ S1 => .nx ρ S1
  | .ret c, ρ, S => (ev cl false c ρ S).then fun x S1 => .rt x S1
  | .retN, _, S => .rt (.p .non) S
  | .ite c a b, ρ, S => (ev cl true c ρ S).then fun x S1 => match x with
    | .p (.bl true) => run cl wf a ρ S1
    | .p (.bl false) => run cl wf b ρ S1
    | _ => .bad
  | .for k its t body, ρ, S => (evs cl its ρ S).then fun xs S1 => (Rz.of (walkF k xs) S1).then fun items S1 => forL (bindT t) (run cl wf body) items ρ S1
  | .while c body, ρ, S => whileL (ev cl true c) (run cl wf body) wf ρ S
  | .frz i, ρ, S => match ρ[i]? with
    | some (some (.m j)) => match S[j]? with
      | some (.lst ds) => .nx (ρ.set i (some (.p (.lst ds)))) (S.set j .dead)
      | _ => .bad
    | _ => .bad
  | .asgX t x, ρ, S => (xcF cl x ρ S).thenX fun x S1 => match bindT t x ρ with
    | some ρ1 => .nx ρ1 S1
    | none => .bad
  | .expX x, ρ, S => (xcF cl x ρ S).thenX fun _ S1 => .nx ρ S1
  | .retX x, ρ, S => (xcF cl x ρ S).thenX fun x S1 => .rt x S1
  | .raise x cs, ρ, S => (evs cl cs ρ S).then fun xs S1 => match exnF x xs with
    | some e => .ex e S1
    | none => .bad
  | .setF ci o n v, ρ, S => (ev cl false v ρ S).then fun x S1 => (ev cl false o ρ S1).then fun o S2 => match o, x with
    | .m j, .p d => match S2[j]? with
      | some (.ins c ns ds) => if c = ci ∧ ns.length < 900 then .nx ρ (S2.set j (.ins c (putN n d ns ds).1 (putN n d ns ds).2)) else .bad
      | _ => .bad
    | _, _ => .bad
  | .asgE t x, ρ, S => (evX cl x ρ S).thenX fun x S1 => match bindT t x ρ with
    | some ρ1 => .nx ρ1 S1
    | none => .bad
  | .expE x, ρ, S => (evX cl x ρ S).thenX fun _ S1 => .nx ρ S1
  | .retE x, ρ, S => (evX cl x ρ S).thenX fun x S1 => .rt x S1
  | .augF ci o n sb v, ρ, S => (ev cl false o ρ S).then fun o S1 => match o with
    | .m j => match S1[j]? with
      | some (.ins c ns ds) => if c = ci then (match getN n ns ds with
        | some (.int i) => (ev cl false v ρ S1).then fun y S2 => match y, S2[j]? with
          | .p (.int k), some (.ins c' ns' ds') => if c' = ci ∧ ns'.length < 900 then .nx ρ (S2.set j (.ins c' (putN n (.int (if sb then i - k else i + k)) ns' ds').1 (putN n (.int (if sb then i - k else i + k)) ns' ds').2)) else .bad
          | _, _ => .bad
        | _ => .bad) else .bad
      | _ => .bad
    | _ => .bad
  | .pass, ρ, S => .nx ρ S
  | .brk, ρ, S => .bk ρ S
  | .cnt, ρ, S => .ct ρ S
def run (cl : Nat → List A → Store → Rz A) (wf : Nat) : List Sc → Env → Store → Rs
  | [], ρ, S => .nx ρ S
  | c :: cs, ρ, S => (run1 cl wf c ρ S).then fun ρ1 S1 => run cl wf cs ρ1 S1
end
/-- a def: how many parameters, how many names, its code -/
structure Fn where
  np : Nat
  nn : Nat
  code : List Sc
def isP : A → Bool
  | .p _ => true
  | .m _ => false
/-- the store behind a call -/
def fin (n : Nat) (x : A) (S' : Store) : Rz A := if S'.length = n then .ok x S' else if isP x then .ok x (S'.take n) else .ok x S'
def callI (ft : List Fn) (wf : Nat) : Nat → Nat → List A → Store → Rz A
  | 0, _, _, _ => .bad
  | k + 1, f, xs, S => match ft[f]? with
    | none => .bad
    | some i => if xs.length = i.np then (match run (callI ft wf k) wf i.code (xs.map some ++ List.replicate (i.nn - i.np) none) S with
      | .rt x S' => fin S.length x S'
      | .nx _ S' => fin S.length (.p .non) S'
      | .ex e S' => .ex e (S'.take S.length)
      | _ => .bad) else .bad
end Fw

/-! What the evaluator's answers are worth: the operators. -/
namespace Fw
open PySem PySem.Spec PyProof.Rows L2

structure EnvOk (g : G) (z : Z) (ρ : Env) (σ : L2.St) : Prop where
  len : ρ.length = σ.length
  get : ∀ (i : Nat) x, ρ[i]? = some (some x) → ∃ v, σ[i]? = some (some v) ∧ DatA g z x v
section
variable {g : G} {B B' : Bk} {S S' : Store} {H H' : Hp} {ρ : Env} {σ : L2.St} {z z' : Z}
theorem EnvOk.mono (e : EnvOk g z ρ σ) (s : Stab g z z') : EnvOk g z' ρ σ := ⟨e.len, fun i x h => by
  obtain ⟨v, a, b⟩ := e.get i x h
  exact ⟨v, a, s.datA b⟩⟩
theorem EnvOk.set (e : EnvOk g z ρ σ) {i : Nat} {x : A} {v : V} (d : DatA g z x v) : EnvOk g z (ρ.set i (some x)) (σ.set i (some v)) := by
  refine ⟨by rw [List.length_set, List.length_set]; exact e.len, fun j y h => ?_⟩
  by_cases hij : i = j
  · subst hij
    by_cases hl : i < ρ.length
    · rw [List.getElem?_set_self hl] at h
      cases h
      exact ⟨v, by rw [List.getElem?_set_self (by rw [← e.len]; exact hl)], d⟩
    · rw [List.getElem?_eq_none (by rw [List.length_set]; omega)] at h
      cases h
  · rw [List.getElem?_set_ne hij] at h
    obtain ⟨w, a, b⟩ := e.get j y h
    exact ⟨w, by rw [List.getElem?_set_ne hij]; exact a, b⟩
theorem EnvOk.none (e : EnvOk g z ρ σ) {i : Nat} : EnvOk g z (ρ.set i Option.none) (σ.set i Option.none) := by
  refine ⟨by rw [List.length_set, List.length_set]; exact e.len, fun j y h => ?_⟩
  by_cases hij : i = j
  · subst hij
    by_cases hl : i < ρ.length
    · rw [List.getElem?_set_self hl] at h
      cases h
    · rw [List.getElem?_eq_none (by rw [List.length_set]; omega)] at h
      cases h
  · rw [List.getElem?_set_ne hij] at h
    obtain ⟨w, a, b⟩ := e.get j y h
    exact ⟨w, by rw [List.getElem?_set_ne hij]; exact a, b⟩
theorem EnvOk.wipe (e : EnvOk g z ρ σ) : ∀ vs : List Nat, EnvOk g z (wipeE ρ vs) (L2.wipe σ vs)
  | [] => e
  | v :: vs => (e.wipe vs).none
end

/-! ### the readings -/
def tE (g : G) (m : Env → Store → Rz A) : TE := fun σ H Q => ∃ B S ρ x S', EnvOk g ⟨B, S, H⟩ ρ σ ∧ StoreOk g ⟨B, S, H⟩ ∧ m ρ S = .ok x S' ∧
  ∀ v B' H', StoreOk g ⟨B', S', H'⟩ → Stab g ⟨B, S, H⟩ ⟨B', S', H'⟩ → DatA g ⟨B', S', H'⟩ x v → Q v H'
def tT (g : G) (m : Env → Store → Rz A) : TT := fun σ H Q => ∃ B S ρ b S', EnvOk g ⟨B, S, H⟩ ρ σ ∧ StoreOk g ⟨B, S, H⟩ ∧ m ρ S = .ok (.p (.bl b)) S' ∧
  ∀ B' H', StoreOk g ⟨B', S', H'⟩ → Stab g ⟨B, S, H⟩ ⟨B', S', H'⟩ → Q b H'
def tA (g : G) (m : Env → Store → Rz (List A)) : TA := fun σ H Q => ∃ B S ρ xs S', EnvOk g ⟨B, S, H⟩ ρ σ ∧ StoreOk g ⟨B, S, H⟩ ∧ m ρ S = .ok xs S' ∧
  ∀ vs B' H', StoreOk g ⟨B', S', H'⟩ → Stab g ⟨B, S, H⟩ ⟨B', S', H'⟩ → DatAL g ⟨B', S', H'⟩ xs vs → Q vs H'
abbrev gx (X : Cx) (fa : Ad) : G := ⟨X.K, fa⟩
theorem _root_.L2.CX.no {P : Program} {w : World} {outer : List PySem.Env} {H : Hp} {s s' : Shared} {u : Value} (h : L2.CX P w outer H s (fun _ _ _ => False) u s') : False := by
  obtain ⟨_, _, _, _, _, _, _, _, _, _, _, _, z⟩ := h
  exact z
theorem passN {X : Cx} : Passes (L2.CX X.prog X.w) X E0 := fun _ _ _ _ _ _ _ z => (L2.CX.no z).elim
section
variable {g : G} {B : Bk} {S S' : Store} {H : Hp} {ρ : Env} {σ : L2.St}
theorem tE.use {m : Env → Store → Rz A} {x : A} {Q : VK} (eo : EnvOk g ⟨B, S, H⟩ ρ σ) (so : StoreOk g ⟨B, S, H⟩) (hm : m ρ S = .ok x S')
    (k : ∀ v B' H', StoreOk g ⟨B', S', H'⟩ → Stab g ⟨B, S, H⟩ ⟨B', S', H'⟩ → EnvOk g ⟨B', S', H'⟩ ρ σ → DatA g ⟨B', S', H'⟩ x v → Q v H') : tE g m σ H Q :=
  ⟨B, S, ρ, x, S', eo, so, hm, fun v B' H' so' st dv => k v B' H' so' st (eo.mono st) dv⟩
theorem tT.use {m : Env → Store → Rz A} {b : Bool} {Q : Bool → Hp → Prop} (eo : EnvOk g ⟨B, S, H⟩ ρ σ) (so : StoreOk g ⟨B, S, H⟩) (hm : m ρ S = .ok (.p (.bl b)) S')
    (k : ∀ B' H', StoreOk g ⟨B', S', H'⟩ → Stab g ⟨B, S, H⟩ ⟨B', S', H'⟩ → EnvOk g ⟨B', S', H'⟩ ρ σ → Q b H') : tT g m σ H Q :=
  ⟨B, S, ρ, b, S', eo, so, hm, fun B' H' so' st => k B' H' so' st (eo.mono st)⟩
theorem tA.use {m : Env → Store → Rz (List A)} {xs : List A} {Q : List V → Hp → Prop} (eo : EnvOk g ⟨B, S, H⟩ ρ σ) (so : StoreOk g ⟨B, S, H⟩) (hm : m ρ S = .ok xs S')
    (k : ∀ vs B' H', StoreOk g ⟨B', S', H'⟩ → Stab g ⟨B, S, H⟩ ⟨B', S', H'⟩ → EnvOk g ⟨B', S', H'⟩ ρ σ → DatAL g ⟨B', S', H'⟩ xs vs → Q vs H') : tA g m σ H Q :=
  ⟨B, S, ρ, xs, S', eo, so, hm, fun vs B' H' so' st dv => k vs B' H' so' st (eo.mono st) dv⟩
end

/-! ### lists of data -/
section
variable {g : G} {z : Z}
theorem DatL.len : ∀ {ds : List D} {vs : List V}, DatL g z ds vs → vs.length = ds.length
  | [], _, h => by
    rw [h]
    rfl
  | d :: ds, _, ⟨v, r, e, _, b⟩ => by
    rw [e, List.length_cons, List.length_cons, b.len]
theorem DatAL.len : ∀ {ds : List A} {vs : List V}, DatAL g z ds vs → vs.length = ds.length
  | [], _, h => by
    rw [h]
    rfl
  | d :: ds, _, ⟨v, r, e, _, b⟩ => by
    rw [e, List.length_cons, List.length_cons, b.len]
theorem DatL.get : ∀ {ds : List D} {vs : List V} {i : Nat} {d : D}, DatL g z ds vs → ds[i]? = some d → ∃ v, vs[i]? = some v ∧ Dat g z d v
  | [], _, i, d, _, h => by simp at h
  | c :: ds, _, 0, d, ⟨v, r, e, a, _⟩, h => by
    simp at h
    subst h
    exact ⟨v, by rw [e]; rfl, a⟩
  | c :: ds, _, i + 1, d, ⟨v, r, e, _, b⟩, h => by
    obtain ⟨w, h1, h2⟩ := DatL.get (i := i) (d := d) b (by simpa using h)
    exact ⟨w, by rw [e]; simpa using h1, h2⟩
theorem DatAL.get : ∀ {ds : List A} {vs : List V} {i : Nat} {d : A}, DatAL g z ds vs → ds[i]? = some d → ∃ v, vs[i]? = some v ∧ DatA g z d v
  | [], _, i, d, _, h => by simp at h
  | c :: ds, _, 0, d, ⟨v, r, e, a, _⟩, h => by
    simp at h
    subst h
    exact ⟨v, by rw [e]; rfl, a⟩
  | c :: ds, _, i + 1, d, ⟨v, r, e, _, b⟩, h => by
    obtain ⟨w, h1, h2⟩ := DatAL.get (i := i) (d := d) b (by simpa using h)
    exact ⟨w, by rw [e]; simpa using h1, h2⟩
theorem DatL.app : ∀ {ds es : List D} {vs ws : List V}, DatL g z ds vs → DatL g z es ws → DatL g z (ds ++ es) (vs ++ ws)
  | [], es, _, ws, h, k => by
    rw [h]
    exact k
  | d :: ds, es, _, ws, ⟨v, r, e, a, b⟩, k => ⟨v, r ++ ws, by rw [e]; rfl, a, b.app k⟩
theorem DatAL.app : ∀ {ds es : List A} {vs ws : List V}, DatAL g z ds vs → DatAL g z es ws → DatAL g z (ds ++ es) (vs ++ ws)
  | [], es, _, ws, h, k => by
    rw [h]
    exact k
  | d :: ds, es, _, ws, ⟨v, r, e, a, b⟩, k => ⟨v, r ++ ws, by rw [e]; rfl, a, b.app k⟩
theorem DatL.drop : ∀ {ds : List D} {vs : List V} (n : Nat), DatL g z ds vs → DatL g z (ds.drop n) (vs.drop n)
  | _, _, 0, h => h
  | [], _, n + 1, h => by
    rw [h]
    rfl
  | d :: ds, _, n + 1, ⟨v, r, e, a, b⟩ => by
    rw [e]
    exact b.drop n
theorem DatL.take : ∀ {ds : List D} {vs : List V} (n : Nat), DatL g z ds vs → DatL g z (ds.take n) (vs.take n)
  | _, _, 0, h => rfl
  | [], _, n + 1, h => by
    rw [h]
    rfl
  | d :: ds, _, n + 1, ⟨v, r, e, a, b⟩ => ⟨v, r.take n, by rw [e]; rfl, a, b.take n⟩
theorem DatL.cut {ds : List D} {vs : List V} (h : DatL g z ds vs) (lo hi : Option Int) : DatL g z (cutD ds lo hi) (cutV vs lo hi) := by
  unfold cutD cutV
  rw [h.len]
  exact (h.drop _).take _
theorem DatL.rep {ds : List D} {vs : List V} (h : DatL g z ds vs) : ∀ k : Nat, DatL g z (List.replicate k ds).flatten (List.replicate k vs).flatten
  | 0 => rfl
  | k + 1 => by
    rw [List.replicate_succ, List.replicate_succ, List.flatten_cons, List.flatten_cons]
    exact h.app (h.rep k)
theorem DatL.ofInts : ∀ ns : List Int, DatL g z (ns.map D.int) (ns.map V.int)
  | [] => rfl
  | n :: ns => ⟨.int n, ns.map V.int, rfl, rfl, DatL.ofInts ns⟩
theorem DatL.ints : ∀ {ds : List D} {ns : List Int} {vs : List V}, D.ints ds = some ns → DatL g z ds vs → vs = ns.map V.int
  | [], ns, vs, e, h => by
    cases e
    exact h
  | .int i :: ds, ns, vs, e, ⟨v, r, e1, a, b⟩ => by
    rw [D.ints] at e
    cases h : D.ints ds with
    | none => rw [h] at e; cases e
    | some ms =>
      rw [h] at e
      cases e
      rw [e1, show v = V.int i from a, DatL.ints h b]
      rfl
theorem DatL.bls : ∀ {ds : List D} {ns : List Bool} {vs : List V}, D.bls ds = some ns → DatL g z ds vs → vs = ns.map V.bl
  | [], ns, vs, e, h => by
    cases e
    exact h
  | .bl i :: ds, ns, vs, e, ⟨v, r, e1, a, b⟩ => by
    rw [D.bls] at e
    cases h : D.bls ds with
    | none => rw [h] at e; cases e
    | some ms =>
      rw [h] at e
      cases e
      rw [e1, show v = V.bl i from a, DatL.bls h b]
      rfl
theorem DatL.strs : ∀ {ds : List D} {ns : List Str} {vs : List V}, D.strs ds = some ns → DatL g z ds vs → vs = ns.map V.str
  | [], ns, vs, e, h => by
    cases e
    exact h
  | .str i :: ds, ns, vs, e, ⟨v, r, e1, a, b⟩ => by
    rw [D.strs] at e
    cases h : D.strs ds with
    | none => rw [h] at e; cases e
    | some ms =>
      rw [h] at e
      cases e
      rw [e1, show v = V.str i from a, DatL.strs h b]
      rfl
theorem DatAL.datas : ∀ {xs : List A} {ds : List D} {vs : List V}, datas xs = some ds → DatAL g z xs vs → DatL g z ds vs
  | [], ds, vs, e, h => by
    cases e
    exact h
  | .p d :: xs, ds, vs, e, ⟨v, r, e1, a, b⟩ => by
    rw [Fw.datas] at e
    cases h : Fw.datas xs with
    | none => rw [h] at e; cases e
    | some ms =>
      rw [h] at e
      cases e
      exact ⟨v, r, e1, a, DatAL.datas h b⟩
theorem DatL.ofP : ∀ {ds : List D} {vs : List V}, DatL g z ds vs → DatAL g z (ds.map A.p) vs
  | [], _, h => h
  | d :: ds, _, ⟨v, r, e, a, b⟩ => ⟨v, r, e, a, b.ofP⟩
theorem DatL.at {ds : List D} {vs : List V} {i : Int} {d : D} (h : DatL g z ds vs) (e : atI ds i = some d) : ∃ v, atI vs i = some v ∧ Dat g z d v := by
  unfold atI at e ⊢
  rw [h.len]
  cases q : ixN ds.length i with
  | none => rw [q] at e; cases e
  | some j =>
    rw [q] at e
    exact h.get e
theorem DatAL.at {ds : List A} {vs : List V} {i : Int} {d : A} (h : DatAL g z ds vs) (e : atI ds i = some d) : ∃ v, atI vs i = some v ∧ DatA g z d v := by
  unfold atI at e ⊢
  rw [h.len]
  cases q : ixN ds.length i with
  | none => rw [q] at e; cases e
  | some j =>
    rw [q] at e
    exact h.get e
mutual
theorem Dat.dp : ∀ (d : D) (v : V) (a : PyData), d.py = some a → Dat g z d v → Dp g.K z.H v a
  | .non, v, a, e, h => by
    simp only [D.py, Option.some.injEq] at e
    subst e
    rw [show v = V.non from h]
    exact .non
  | .bl b, v, a, e, h => by
    simp only [D.py, Option.some.injEq] at e
    subst e
    rw [show v = V.bl b from h]
    exact .bl b
  | .int b, v, a, e, h => by
    simp only [D.py, Option.some.injEq] at e
    subst e
    rw [show v = V.int b from h]
    exact .int b
  | .str b, v, a, e, h => by
    simp only [D.py, Option.some.injEq] at e
    subst e
    rw [show v = V.str b from h]
    exact .str b
  | .tup ds, v, a, e, h => by
    obtain ⟨p, vs, rfl, t, l⟩ := h
    simp only [D.py] at e
    cases q : D.pyL ds with
    | none => rw [q] at e; cases e
    | some as =>
      rw [q] at e
      cases e
      exact .tup t (Dat.dpL ds vs as q l)
  | .lst ds, v, a, e, h => by
    obtain ⟨p, vs, rfl, t, _, l⟩ := h
    simp only [D.py] at e
    cases q : D.pyL ds with
    | none => rw [q] at e; cases e
    | some as =>
      rw [q] at e
      cases e
      exact .lst (SqL.of t) (Dat.dpL ds vs as q l)
  | .scr _, _, _, e, _ => by simp [D.py] at e
  | .fn _, _, _, e, _ => by simp [D.py] at e
  | .ty _, _, _, e, _ => by simp [D.py] at e
theorem Dat.dpL : ∀ (ds : List D) (vs : List V) (as : List PyData), D.pyL ds = some as → DatL g z ds vs → DpAll g.K z.H vs as
  | [], vs, as, e, h => by
    simp only [D.pyL, Option.some.injEq] at e
    subst e
    rw [show vs = [] from h]
    exact .nil
  | d :: ds, vs, as, e, h => by
    obtain ⟨v, r, rfl, a, b⟩ := h
    simp only [D.pyL] at e
    cases q : d.py with
    | none => rw [q] at e; cases e
    | some x =>
      cases q2 : D.pyL ds with
      | none => rw [q, q2] at e; cases e
      | some xs =>
        rw [q, q2] at e
        cases e
        exact .cons (Dat.dp d v x q a) (Dat.dpL ds r xs q2 b)
end
end
/-! ### the operators on data -/
theorem lim_le {n : Nat} (h : n ≤ LIM) : n ≤ sizeLine := Nat.le_trans h lim_line
theorem mulOk.ok {i j : Int} (h : mulOk i j = true) : IntMulOk i j := by
  unfold mulOk at h
  rcases of_decide_eq_true h with h | h | h
  · exact CMul.ok (.inl h)
  · exact CMul.ok (.inr h)
  · exact CMulW.ok h
theorem op_mulA {X : Cx} : OpR X (binaryOp .Mult) (rI (fun i j => mulOk i j = true) fun i j => .int (i * j)) := opI fun _ _ _ _ _ _ _ hc q => mul_int q (mulOk.ok hc)
theorem op_fdivA {X : Cx} : OpR X (binaryOp .FloorDiv) (rI (fun _ j => divOk j = true) fun i j => .int (i.fdiv j)) := opI fun i j _ _ _ _ _ hc q => by
  have h := of_decide_eq_true hc
  exact floordiv_int h.1 q (.inl (PyProof.noPylong_of_log2 h.2))
theorem op_powA {X : Cx} : OpR X (binaryOp .Pow) (rI (fun i j => powOk i j = true) fun i j => .int (i ^ j.toNat)) := opI fun _ _ _ _ _ _ _ hc q => by
  have h := of_decide_eq_true hc
  exact pow_int_small h.1 h.2.1 h.2.2 q
theorem op_mulS {X : Cx} : OpR X (binaryOp .Mult) (fun x y H Q => ∃ z k, x = .str z ∧ y = .int k ∧ k < 1000 ∧ 0 ≤ k ∧ z.length ≤ 1000 ∧ Q (.str (Txt.mul z k)) H) := by
  rintro pins s σ H x y u v Q I rx ry ⟨z, k, rfl, rfl, h1, h0, h2, q⟩
  obtain ⟨t, rfl⟩ := (show ∃ t, u = Value.str z t from rx)
  obtain ⟨t', rfl⟩ := (show ∃ t', v = Value.int k t' from ry)
  refine SB.mul ⟨?_, fun h3 _ => ?_, fun _ _ => ?_⟩ fun t' k' => ⟨.str (Txt.mul z k), H, I.tok _, ⟨t', rfl⟩, q⟩
  · rw [Bool.or_eq_false_iff]
    exact ⟨decide_eq_false (by omega), decide_eq_false (by omega)⟩
  · have : (2 ^ 63 - 1 : Int) / k ≥ (2 ^ 63 - 1) / 1000 := by
      refine Int.le_ediv_of_mul_le (by omega) ?_
      have : (2 ^ 63 - 1 : Int) / 1000 * k ≤ (2 ^ 63 - 1) / 1000 * 1000 := Int.mul_le_mul_of_nonneg_left (by omega) (by decide)
      exact Int.le_trans this (by decide)
    have e : (2 ^ 63 - 1 : Int) / 1000 = 9223372036854775 := by decide
    omega
  · have : z.length * k.toNat ≤ 1000 * 1000 := Nat.mul_le_mul h2 (by omega)
    refine decide_eq_false ?_
    have e : sizeLine = 16777216 := sizeLine_eq
    omega
section
variable {X : Cx} {fa : Ad}
/-- what an operator's answer on data is worth -/
def BinOk (X : Cx) (fa : Ad) (f : Value → Value → Sem Value) (x y z : D) : Prop := ∃ r : R2, OpR X f r ∧
  ∀ v w B S H (Q : VK), StoreOk (gx X fa) ⟨B, S, H⟩ → Dat (gx X fa) ⟨B, S, H⟩ x v → Dat (gx X fa) ⟨B, S, H⟩ y w →
    (∀ u H', StoreOk (gx X fa) ⟨B, S, H'⟩ → Stab (gx X fa) ⟨B, S, H⟩ ⟨B, S, H'⟩ → Dat (gx X fa) ⟨B, S, H'⟩ z u → Q u H') → r v w H Q
theorem new_tup {g : G} {B : Bk} {S : Store} {H : Hp} {p : Addr} {ds : List D} {vs : List V} (so : StoreOk g ⟨B, S, H⟩) (hp : H p = none) (dl : DatL g ⟨B, S, H⟩ ds vs) : Dat g ⟨B, S, upd H p (.tup vs)⟩ (.tup ds) (.ref p) :=
  ⟨p, vs, rfl, SqT.of upd_same, (Stab.new so hp).datL dl⟩
theorem new_lst {g : G} {B : Bk} {S : Store} {H : Hp} {p : Addr} {ds : List D} {vs : List V} (so : StoreOk g ⟨B, S, H⟩) (hp : H p = none) (dl : DatL g ⟨B, S, H⟩ ds vs) : Dat g ⟨B, S, upd H p (.lst vs)⟩ (.lst ds) (.ref p) :=
  ⟨p, vs, rfl, upd_same, so.fresh hp, (Stab.new so hp).datL dl⟩
theorem bin_ok {op : Operator} {x y z : D} (h : binF op x y = some z) : BinOk X fa (binaryOp op) x y z := by
  unfold binF at h
  split at h
  case h_1 i j =>
    cases h
    exact ⟨_, op_add, fun v w B S H Q so d1 d2 k => ⟨i, j, d1, d2, k _ H so Stab.refl rfl⟩⟩
  case h_2 i j =>
    cases h
    exact ⟨_, op_sub, fun v w B S H Q so d1 d2 k => ⟨i, j, d1, d2, k _ H so Stab.refl rfl⟩⟩
  case h_3 i j =>
    split at h
    · rename_i hc
      cases h
      exact ⟨_, op_mulA, fun v w B S H Q so d1 d2 k => ⟨i, j, d1, d2, hc, k _ H so Stab.refl rfl⟩⟩
    · cases h
  case h_4 i j =>
    split at h
    · rename_i hc
      cases h
      exact ⟨_, op_fdivA, fun v w B S H Q so d1 d2 k => ⟨i, j, d1, d2, hc, k _ H so Stab.refl rfl⟩⟩
    · cases h
  case h_5 i j =>
    split at h
    · cases h
    · rename_i hc
      cases h
      exact ⟨_, op_modN, fun v w B S H Q so d1 d2 k => ⟨i, j, d1, d2, hc, k _ H so Stab.refl rfl⟩⟩
  case h_6 i j =>
    split at h
    · rename_i hc
      cases h
      exact ⟨_, op_powA, fun v w B S H Q so d1 d2 k => ⟨i, j, d1, d2, hc, k _ H so Stab.refl rfl⟩⟩
    · cases h
  case h_7 i j =>
    split at h
    · rename_i hc
      cases h
      exact ⟨_, op_add_str, fun v w B S H Q so d1 d2 k => ⟨i, j, d1, d2, lim_le hc, k _ H so Stab.refl rfl⟩⟩
    · cases h
  case h_8 xs ys =>
    split at h
    · rename_i hc
      cases h
      refine ⟨_, op_catA, fun v w B S H Q so d1 d2 k => ?_⟩
      obtain ⟨a, vs, rfl, t1, l1⟩ := d1
      obtain ⟨b, ws, rfl, t2, l2⟩ := d2
      refine ⟨a, b, vs, ws, rfl, rfl, t1, t2, by rw [l1.len, l2.len]; exact lim_le hc, fun e => ?_, fun _ e => ?_, fun _ _ p hp => ?_⟩
      · refine k _ H so Stab.refl ⟨b, ws, rfl, t2, ?_⟩
        have := l1.app l2
        rw [e, List.nil_append] at this
        exact this
      · refine k _ H so Stab.refl ⟨a, vs, rfl, t1, ?_⟩
        have := l1.app l2
        rw [e, List.append_nil] at this
        exact this
      · exact k _ _ (so.new hp) (Stab.new so hp) (new_tup so hp (l1.app l2))
    · cases h
  case h_9 xs ys =>
    split at h
    · rename_i hc
      cases h
      refine ⟨_, op_cat, fun v w B S H Q so d1 d2 k => ?_⟩
      obtain ⟨a, vs, rfl, t1, n1, l1⟩ := d1
      obtain ⟨b, ws, rfl, t2, n2, l2⟩ := d2
      exact ⟨a, b, vs, ws, rfl, rfl, t1, t2, by rw [l1.len, l2.len]; exact lim_le hc, fun p hp => k _ _ (so.new hp) (Stab.new so hp) (new_lst so hp (l1.app l2))⟩
    · cases h
  case h_10 xs n =>
    split at h
    · rename_i hc
      cases h
      refine ⟨_, op_rep, fun v w B S H Q so d1 d2 k => ?_⟩
      obtain ⟨a, vs, rfl, t1, n1, l1⟩ := d1
      exact ⟨a, n, vs, rfl, d2, t1, by omega, by omega, by rw [l1.len]; exact lim_le hc.2.2, fun p hp => k _ _ (so.new hp) (Stab.new so hp) (new_lst so hp (l1.rep _))⟩
    · cases h
  case h_11 x n =>
    split at h
    · rename_i hc
      cases h
      exact ⟨_, op_mulS, fun v w B S H Q so d1 d2 k => ⟨x, n, d1, d2, hc.1, hc.2.1, hc.2.2, k _ H so Stab.refl rfl⟩⟩
    · cases h
  case h_12 xs n =>
    split at h
    · rename_i hc
      cases h
      refine ⟨_, op_repT, fun v w B S H Q so d1 d2 k => ?_⟩
      obtain ⟨a, vs, rfl, t1, l1⟩ := d1
      refine ⟨a, n, vs, rfl, d2, t1, fun e => ?_, hc.1, hc.2.1, by rw [l1.len]; exact hc.2.2.2, fun p hp => k _ _ (so.new hp) (Stab.new so hp) (new_tup so hp (l1.rep _))⟩
      have := l1.len
      rw [e, List.length_nil] at this
      omega
    · cases h
  case h_13 => cases h
end
end Fw

/-! What the evaluator's answers are worth: comparisons, truth, items, slices, built-in calls. -/
namespace Fw
open PySem PySem.Spec PyProof.Rows L2
section
variable {X : Cx} {fa : Ad}
/-- what a comparison's answer is worth -/
def CmpOk (X : Cx) (fa : Ad) (f : Value → Value → Sem Value) (x y : A) (b : Bool) : Prop := ∃ r : R2, OpR X f r ∧
  ∀ v w B S H (Q : VK), StoreOk (gx X fa) ⟨B, S, H⟩ → DatA (gx X fa) ⟨B, S, H⟩ x v → DatA (gx X fa) ⟨B, S, H⟩ y w → Q (.bl b) H → r v w H Q
theorem any_eqv : ∀ {bs : List Str} {a : Str}, (bs.map V.str).any (fun y => eqV y (.str a)) = bs.any fun z => z == a
  | [], _ => rfl
  | b :: bs, a => by
    rw [List.map_cons, List.any_cons, List.any_cons, any_eqv]
    rfl
theorem flat_strs : ∀ bs : List Str, (bs.map V.str).all flatV = true
  | [] => rfl
  | b :: bs => by
    rw [List.map_cons, List.all_cons, flat_strs bs]
    rfl
theorem sign_eq {i : Str} {c : Nat} (h : i.cps.toList = [c]) : i = ⟨#[c]⟩ := by
  obtain ⟨a⟩ := i
  have : a = #[c] := by
    have h' : a.toList = (#[c] : Array Nat).toList := h
    exact Array.toList_inj.mp h'
  rw [this]
theorem cmpF_ok {op : CmpOp} {x y : D} {b : Bool} {k : Nat} (hr : Room k X.A) (h : cmpF op x y = some b) : CmpOk X fa (compareOp op) (.p x) (.p y) b := by
  have hu : X.A.units + 65 < cLine := by have := hr.un; omega
  unfold cmpF at h
  split at h
  case h_1 x y =>
    unfold eqF at h
    split at h
    · rename_i a c ha hc
      split at h
      · rename_i hs
        cases h
        rw [Bool.and_eq_true] at hs
        exact ⟨_, op_eqD (by omega), fun v w B S H Q so d1 d2 q => ⟨a, c, Dat.dp _ v a ha d1, Dat.dp _ w c hc d2, hs.1, hs.2, q⟩⟩
      · cases h
    · cases h
  case h_2 x y =>
    unfold eqF at h
    split at h
    · rename_i a c ha hc
      split at h
      · rename_i hs
        cases h
        rw [Bool.and_eq_true] at hs
        exact ⟨_, op_neD (by omega), fun v w B S H Q so d1 d2 q => ⟨a, c, Dat.dp _ v a ha d1, Dat.dp _ w c hc d2, hs.1, hs.2, q⟩⟩
      · cases h
    · cases h
  case h_3 i j => cases h; exact ⟨_, op_lt, fun v w B S H Q so d1 d2 q => ⟨i, j, d1, d2, q⟩⟩
  case h_4 i j => cases h; exact ⟨_, op_le, fun v w B S H Q so d1 d2 q => ⟨i, j, d1, d2, q⟩⟩
  case h_5 i j => cases h; exact ⟨_, op_gt, fun v w B S H Q so d1 d2 q => ⟨i, j, d1, d2, q⟩⟩
  case h_6 i j => cases h; exact ⟨_, op_ge, fun v w B S H Q so d1 d2 q => ⟨i, j, d1, d2, q⟩⟩
  case h_7 i j => cases h; exact ⟨_, op_lt_str, fun v w B S H Q so d1 d2 q => ⟨i, j, d1, d2, q⟩⟩
  case h_8 i j => cases h; exact ⟨_, op_le_str, fun v w B S H Q so d1 d2 q => ⟨i, j, d1, d2, q⟩⟩
  case h_9 i j => cases h; exact ⟨_, op_gt_str, fun v w B S H Q so d1 d2 q => ⟨i, j, d1, d2, q⟩⟩
  case h_10 i j => cases h; exact ⟨_, op_ge_str, fun v w B S H Q so d1 d2 q => ⟨i, j, d1, d2, q⟩⟩
  case h_11 i j =>
    unfold cmpF.signIn at h
    split at h
    · rename_i c hc
      cases h
      exact ⟨_, op_in_sign, fun v w B S H Q so d1 d2 q => ⟨c, j, by rw [show v = V.str i from d1, sign_eq hc], d2, q⟩⟩
    · cases h
  case h_12 i j =>
    unfold cmpF.signIn at h
    split at h
    · rename_i c hc
      cases h
      exact ⟨_, op_notIn_sign, fun v w B S H Q so d1 d2 q => ⟨c, j, by rw [show v = V.str i from d1, sign_eq hc], d2, q⟩⟩
    · cases h
  case h_13 x ds _ =>
    unfold cmpF.inF at h
    split at h
    · rename_i a bs ha hb
      split at h
      · rename_i hs
        cases h
        rw [Bool.and_eq_true] at hs
        refine ⟨_, op_inD hu, fun v w B S H Q so d1 d2 q => ⟨a, bs, Dat.dp _ v a ha d1, Dat.dp (.lst _) w (.list bs) (by simp only [D.py, hb, Option.map_some]) d2, hs.1, hs.2, q⟩⟩
      · cases h
    · cases h
  case h_14 x ds _ =>
    unfold cmpF.inF at h
    split at h
    · rename_i a bs ha hb
      split at h
      · rename_i hs
        cases h
        rw [Bool.and_eq_true] at hs
        refine ⟨_, op_notInD hu, fun v w B S H Q so d1 d2 q => ⟨a, bs, Dat.dp _ v a ha d1, Dat.dp (.lst _) w (.list bs) (by simp only [D.py, hb, Option.map_some]) d2, hs.1, hs.2, q⟩⟩
      · cases h
    · cases h
  case h_15 x ds _ =>
    unfold cmpF.inFT at h
    split at h
    · rename_i a bs ha
      cases h
      refine ⟨_, op_in_seq, fun v w B S H Q so d1 d2 q => ?_⟩
      obtain ⟨p, vs, rfl, t, l⟩ := d2
      have e := l.strs ha
      subst e
      refine ⟨p, _, rfl, .inr t, by rw [show v = V.str a from d1]; rfl, flat_strs bs, ?_⟩
      rw [show v = V.str a from d1]
      show Q (.bl ((bs.map V.str).any fun y => eqV y (.str a))) H
      rw [any_eqv]
      exact q
    · cases h
  case h_16 x ds _ =>
    unfold cmpF.inFT at h
    split at h
    · rename_i a bs ha
      cases h
      refine ⟨_, op_notIn_seq, fun v w B S H Q so d1 d2 q => ?_⟩
      obtain ⟨p, vs, rfl, t, l⟩ := d2
      have e := l.strs ha
      subst e
      refine ⟨p, _, rfl, .inr t, by rw [show v = V.str a from d1]; rfl, flat_strs bs, ?_⟩
      rw [show v = V.str a from d1]
      show Q (.bl (!(bs.map V.str).any fun y => eqV y (.str a))) H
      rw [any_eqv]
      exact q
    · cases h
  case h_17 => cases h
theorem isF_ok {g : G} {z : Z} {x : A} {v : V} (h : DatA g z x v) : decide (v = V.non) = isF x := by
  cases x with
  | m i =>
    obtain ⟨a, _, rfl⟩ := h
    rfl
  | p d =>
    cases d with
    | non => rw [show v = V.non from h]; rfl
    | bl b => rw [show v = V.bl b from h]; rfl
    | int b => rw [show v = V.int b from h]; rfl
    | str b => rw [show v = V.str b from h]; rfl
    | tup ds => obtain ⟨a, vs, rfl, _⟩ := h; rfl
    | lst ds => obtain ⟨a, vs, rfl, _⟩ := h; rfl
    | scr ds => obtain ⟨a, rfl, _⟩ := h; rfl
    | fn b => rw [show v = V.ref _ from h]; rfl
    | ty b => rw [show v = V.ty _ from h]; rfl
    | kl b => rw [show v = V.ref _ from h]; rfl
    | ins c ns ds => obtain ⟨a, dx, vs, rfl, _⟩ := h; rfl
theorem cmp_ok {op : CmpOp} {x y : A} {b : Bool} {k : Nat} (hr : Room k X.A) (h : cmpA op x y = some b) : CmpOk X fa (compareOp op) x y b := by
  unfold cmpA at h
  split at h
  · cases h
    exact ⟨_, op_isN, fun v w B S H Q so d1 d2 q => ⟨d2, by rw [isF_ok d1]; exact q⟩⟩
  · cases h
    exact ⟨_, op_notN, fun v w B S H Q so d1 d2 q => ⟨d2, by rw [isF_ok d1]; exact q⟩⟩
  · exact cmpF_ok hr h
  · cases h
theorem tru_dat {B : Bk} {S : Store} {H : Hp} {d : D} {v : V} {b : Bool} (h : truF d = some b) (dv : Dat (gx X fa) ⟨B, S, H⟩ d v) : TruV X.K v H b := by
  cases d with
  | non => cases h; rw [show v = V.non from dv]; rfl
  | bl c => cases h; rw [show v = V.bl _ from dv]; rfl
  | int i => cases h; rw [show v = V.int i from dv]; rfl
  | str x =>
    rw [show v = V.str x from dv]
    unfold truF at h
    dsimp only at h
    split at h
    · rename_i hl
      cases h
      exact ⟨lim_le hl, rfl⟩
    · cases h
  | tup ds =>
    cases h
    obtain ⟨a, vs, rfl, t, l⟩ := dv
    refine .inr (.inl ⟨vs, t, ?_⟩)
    have := l.len
    cases ds <;> cases vs <;> first | rfl | (simp at this)
  | lst ds =>
    cases h
    obtain ⟨a, vs, rfl, t, _, l⟩ := dv
    refine .inl ⟨vs, SqL.of t, ?_⟩
    have := l.len
    cases ds <;> cases vs <;> first | rfl | (simp at this)
  | scr _ => cases h
  | fn _ => cases h
  | ty _ => cases h
  | kl _ => cases h
  | ins _ _ _ => cases h

/-- an item -/
def SubOk (X : Cx) (fa : Ad) (S : Store) (x y z : A) : Prop := ∃ r : R2, IxR X r ∧
  ∀ v w B H (Q : VK), StoreOk (gx X fa) ⟨B, S, H⟩ → DatA (gx X fa) ⟨B, S, H⟩ x v → DatA (gx X fa) ⟨B, S, H⟩ y w → (∀ u, DatA (gx X fa) ⟨B, S, H⟩ z u → Q u H) → r v w H Q
theorem sub_ok {S : Store} {x y z : A} (h : subF x y S = some z) : SubOk X fa S x y z := by
  unfold subF at h
  split at h
  · rename_i ds i
    cases q : atI ds i with
    | none => rw [q] at h; cases h
    | some d =>
      rw [q] at h
      cases h
      refine ⟨_, ix_list, fun v w B H Q so d1 d2 k => ?_⟩
      obtain ⟨p, vs, rfl, t, _, l⟩ := d1
      obtain ⟨u, e, du⟩ := l.at q
      exact ⟨p, vs, i, u, rfl, d2, SqL.of t, e, k u du⟩
  · rename_i ds i
    cases q : atI ds i with
    | none => rw [q] at h; cases h
    | some d =>
      rw [q] at h
      cases h
      refine ⟨_, ix_tup, fun v w B H Q so d1 d2 k => ?_⟩
      obtain ⟨p, vs, rfl, t, l⟩ := d1
      obtain ⟨u, e, du⟩ := l.at q
      exact ⟨p, vs, i, u, rfl, d2, t, e, k u du⟩
  · rename_i s i
    split at h
    · rename_i hl
      cases q : atI s.cps.toList i with
      | none => rw [q] at h; cases h
      | some c =>
        rw [q] at h
        cases h
        exact ⟨_, ix_str, fun v w B H Q so d1 d2 k => ⟨s, i, c, d1, d2, lim_le hl, q, k _ rfl⟩⟩
    · cases h
  · rename_i j i
    split at h
    · rename_i xs hs
      cases q : atI xs i with
      | none => rw [q] at h; cases h
      | some d =>
        rw [q] at h
        cases h
        refine ⟨_, ix_list, fun v w B H Q so d1 d2 k => ?_⟩
        obtain ⟨a, hb, rfl⟩ := d1
        obtain ⟨vs, e, l⟩ := so.ob j a xs hb hs
        obtain ⟨u, e2, du⟩ := l.at q
        exact ⟨a, vs, i, u, rfl, d2, SqL.of e, e2, k u du⟩
    · cases h
  · cases h
/-- a slice -/
def SlcOk (X : Cx) (fa : Ad) (x : D) (lo hi : Option Int) (z : D) : Prop := ∃ r, SlR X r ∧
  ∀ v B S H (Q : VK), StoreOk (gx X fa) ⟨B, S, H⟩ → Dat (gx X fa) ⟨B, S, H⟩ x v →
    (∀ u H', StoreOk (gx X fa) ⟨B, S, H'⟩ → Stab (gx X fa) ⟨B, S, H⟩ ⟨B, S, H'⟩ → Dat (gx X fa) ⟨B, S, H'⟩ z u → Q u H') → r v lo hi H Q
theorem slc_ok {x z : D} {lo hi : Option Int} (h : slcF x lo hi = some z) : SlcOk X fa x lo hi z := by
  unfold slcF at h
  split at h
  · rename_i ds
    cases h
    refine ⟨_, sl_list, fun v B S H Q so d k => ?_⟩
    obtain ⟨a, vs, rfl, t, _, l⟩ := d
    exact ⟨a, vs, rfl, SqL.of t, fun p hp => k _ _ (so.new hp) (Stab.new so hp) (new_lst so hp (l.cut lo hi))⟩
  · rename_i ns
    cases h
    refine ⟨_, sl_list, fun v B S H Q so d k => ?_⟩
    obtain ⟨a, rfl, t⟩ := d
    refine ⟨a, ns.map V.int, rfl, ?_, fun p hp => k _ _ (so.new hp) (Stab.new so hp) (new_lst so hp ((DatL.ofInts ns).cut lo hi))⟩
    rcases t with ⟨o, t⟩ | t | ⟨t, _⟩
    · exact .inl (.inr ⟨o, t⟩)
    · exact .inr t
    · exact SqL.of t
  · rename_i ds
    cases h
    refine ⟨_, sl_tupA, fun v B S H Q so d k => ?_⟩
    obtain ⟨a, vs, rfl, t, l⟩ := d
    refine ⟨a, vs, rfl, t, fun e => k _ _ so Stab.refl ⟨a, vs, rfl, t, ?_⟩, fun _ p hp => k _ _ (so.new hp) (Stab.new so hp) (new_tup so hp (l.cut lo hi))⟩
    have c := l.cut lo hi
    have ec : cutV vs lo hi = vs := by
      unfold cutV
      rw [e.1, e.2, List.drop_zero, Nat.sub_zero, List.take_length]
    rw [ec] at c
    exact c
  · rename_i s
    split at h
    · rename_i hl
      cases h
      exact ⟨_, sl_str, fun v B S H Q so d k => ⟨s, d, lim_le hl, k _ _ so Stab.refl rfl⟩⟩
    · cases h
  · cases h
end
end Fw

/-! list(x) of a text. -/
namespace Fw
open PySem PySem.Spec PyProof.Rows L2
section
variable {prog : Program} {w : World} {A : Around} {E : Value → Shared → Prop} {s : Shared}
theorem extend_str {R : Result → Shared → Prop} (hh : A.handled = none) (x : Str) (t : Tok) (S : Addr) (res : Value) (c0 : Nat) (hS : s.heap.get? S = some { cls := .type "list", data := .seq #[] c0 })
    (hR : ∀ h' tk acc c, (∀ b o, b ≠ S → s.heap.get? b = some o → h'.get? b = some o) → h'.get? S = some { cls := .type "list", dict := none, data := .seq acc c, slots := #[] } → ItemsOf (SignAt x) acc x.cps.size → R (.ok (.ret res)) { s with heap := h', toks := tk }) (hn : x.cps.size ≤ sizeLine) :
    wpAny (model prog w) A.in1 (Builtin.List.listExtendWith (.ref S) (.str x t) res)
      (fun fin s' => match fin with | .done f => R (.ok f) s' | .again c' => c'.quiet = true ∧ codeAny (model prog w) A c' R s') (fun e s' => R (.error e) s') s := by
  have hSf : S ∉ [s.heap.objs.size] := fun hm => Nat.ne_of_lt (Heap.lt_size hS) (List.mem_singleton.mp hm)
  unfold Builtin.List.listExtendWith
  refine wpAny_bind (wpAny_typeOf (T := "str") (v := .str x t) rfl ?_)
  have e1 : Builtin.List.listSameRef (.ref S) (.str x t) = false := rfl
  have e2 : (Value.type "str" == Value.type "list") = false := by decide
  have e3 : (Value.type "str" == Value.type "tuple") = false := by decide
  simp only [e1, e2, e3, Bool.or_false, Bool.false_eq_true, if_false]
  refine wpAny_bind (wpAny_pyIter_str fun o St W hst => ?_)
  refine wpAny_bind (wpAny_holding ?_)
  unfold Builtin.List.listLengthHint
  refine wpAny_bind (wpAny_specialOf (T := "str") (v := .str x t) rfl F.str_len ?_)
  wp_delta
  refine wpAny_bind (wpAny_isInstance (T := "str") (v := .str x t) (b := true) rfl (by rw [isSubtype_type]; kernel_rfl) ?_)
  refine wpAny_bind (wpAny_typeOf (T := "str") (v := .str x t) rfl ?_)
  refine wpAny_pure ?_
  rw [if_neg (by decide)]
  refine wpAny_pure ⟨plainId_quiet F.plain_extend_loop _, codeAny_extend_loopS (W A.in1 hh).toS hn _ hSf _ x.cps.size 0 _ _ _ rfl (Nat.zero_le _) hst (Heap.get?_push_of_some _ hS) (ItemsOf.nil _) fun s' acc c hm hS' hacc => ?_⟩
  rw [Moved.eq_with hm]
  refine hR s'.heap s'.toks acc c (fun b ob hb e => hm.heap b ob (fun hmem => ?_) (Heap.get?_push_of_some _ e)) hS' hacc
  rcases List.mem_cons.mp hmem with e' | hmem
  · exact hb e'
  · exact absurd (Heap.lt_size e) (by rw [List.mem_singleton.mp hmem]; exact Nat.lt_irrefl _)
theorem init_str {R : Result → Shared → Prop} (hh : A.handled = none) (x : Str) (t : Tok) (S : Addr) (hS : s.heap.get? S = some { cls := .type "list", data := .seq #[] })
    (hR : ∀ h' tk acc c, (∀ b o, b ≠ S → s.heap.get? b = some o → h'.get? b = some o) → h'.get? S = some { cls := .type "list", dict := none, data := .seq acc c, slots := #[] } → ItemsOf (SignAt x) acc x.cps.size → R (.ok (.ret .none)) { s with heap := h', toks := tk }) (hn : x.cps.size ≤ sizeLine) :
    wpAny (model prog w) A.in1 (Builtin.«list.__init__» ⟨[.ref S, .str x t], []⟩)
      (fun fin s' => match fin with | .done f => R (.ok f) s' | .again c' => c'.quiet = true ∧ codeAny (model prog w) A c' R s') (fun e s' => R (.error e) s') s := by
  show wpAny _ _ (do let old ← Builtin.List.listItems (.ref S); Builtin.List.listUpdate (.ref S) (fun _ => #[]); letGo old.toList.reverse; Builtin.List.listExtendWith (.ref S) (.str x t) .none) _ _ s
  refine wpAny_bind ?_
  unfold Builtin.List.listItems
  refine wpAny_bind (wpAny_seqItems hS rfl (wpAny_pure ?_))
  show wpAny _ _ (updateSeq S (fun _ => #[]) >>= fun _ => letGo (#[] : Array Value).toList.reverse >>= fun _ => Builtin.List.listExtendWith (.ref S) (.str x t) .none) _ _ s
  refine wpAny_bind (wpAny_updateSeq hS rfl ?_)
  have hS2 := Heap.get?_update_self (Obj.mapSeq (fun _ => (#[] : Array Value))) hS rfl
  have oth : ∀ b o, b ≠ S → s.heap.get? b = some o → (s.heap.update S (Obj.mapSeq (fun _ => (#[] : Array Value)))).get? b = some o := fun b o hb e => (Heap.get?_update_other _ _ (Ne.symm hb)).trans e
  refine wpAny_bind (wpAny_letGo ?_)
  exact extend_str hh x t S .none _ hS2 (fun h' tk acc c hk hS' hacc => hR h' tk acc c (fun b o hb e => hk b o hb (oth b o hb e)) hS' hacc) hn
theorem list_str {x : Str} {t : Tok} {Q : Value → Shared → Prop} (hh : A.handled = none) (hn : x.cps.size ≤ sizeLine)
    (hQ : ∀ h' tk acc c, (∀ b o, s.heap.get? b = some o → h'.get? b = some o) → h'.get? s.heap.objs.size = some { cls := .type "list", dict := none, data := .seq acc c, slots := #[] } → ItemsOf (SignAt x) acc x.cps.size → Q (.ref s.heap.objs.size) { s with heap := h', toks := tk }) :
    wpAny (model prog w) A (call (.type "list") [.str x t]) Q E s := by
  refine callType_codes (Q₁ := fun obj s1 => obj = .ref s.heap.objs.size ∧ s1 = { s with heap := s.heap.push { cls := .type "list", data := .seq #[] } }) PySem.F.called_list (PySem.F.typeCall_list_1 _) PySem.F.entry_list_init (code_list_new _ ⟨rfl, rfl⟩) fun obj s1 h1 => ?_
  obtain ⟨rfl, rfl⟩ := h1
  have hS : (s.heap.push { cls := .type "list", data := .seq #[] }).get? s.heap.objs.size = some { cls := .type "list", data := .seq #[] } := Heap.get?_push_size _ rfl
  refine ⟨⟨_, hS, rfl⟩, PySem.F.args_list_init_2 _ _, init_str (A := A.in1) hh x t _ hS (fun h' tk acc c hk hS' hacc => ?_) hn⟩
  exact ⟨rfl, hQ h' tk acc c (fun b o e => hk b o (Nat.ne_of_lt (Heap.lt_size e)) (Heap.get?_push_of_some _ e)) hS' hacc⟩
end
def charsV (x : Str) : List V := x.cps.toList.map fun c => V.str ⟨#[c]⟩
theorem call_list_s {X : Cx} (hc : X.calm = true) : CallR X (.type "list") (fun xs H Q => ∃ x, xs = [.str x] ∧ x.cps.size ≤ sizeLine ∧ ∀ q, H q = none → Q (.ref q) (upd H q (.lst (charsV x)))) := by
  intro pins s σ H xs us Q I r h
  obtain ⟨x, rfl, hz, q⟩ := h
  obtain ⟨u, rfl, t, rfl⟩ := vals1 r
  refine list_str (I.ok.hd hc) hz fun h' tk acc c hk e hi => ?_
  have hlen : (charsV x).length = x.cps.size := by
    unfold charsV
    rw [List.length_map, Array.length_toList]
  refine ⟨.ref s.heap.objs.size, upd H s.heap.objs.size (.lst (charsV x)), I.laid hk (Nat.le_refl _) ⟨by rw [hlen]; exact hz, acc.toList, c, ?_, by rw [Array.toArray_toList]; exact e⟩, rfl, q _ (I.hok.fresh (Nat.le_refl _))⟩
  refine vals_of_idx _ _ (by rw [hlen, Array.length_toList]; exact hi.1) fun j u hj => ?_
  obtain ⟨c, t', hc, rfl⟩ := hi.2 j u (by rw [← Array.getElem?_toList]; exact hj)
  exact ⟨.str ⟨#[c]⟩, by unfold charsV; rw [List.getElem?_map, Array.getElem?_toList, hc]; rfl, ⟨_, rfl⟩⟩
end Fw

/-! sorted. -/
namespace Fw
open PySem PySem.Spec PyProof.Rows L2
section
open PySem.Calls PySem.W
variable {prog : Program} {w : World} {A : Around} {E : Value → Shared → Prop} {s : Shared}
/-- the items of a tuple, collected -/
theorem collect_tup {l : Addr} {o : Obj} {vs : List Value} {n : Nat} {Q : List Value → Shared → Prop} (ho : s.heap.get? l = some o) (hc : o.cls = .type "tuple") (hd : o.data = .seq vs.toArray n)
    (h : Q vs { s with heap := (s.heap.push (seqObj "list" #[] 0)).update s.heap.objs.size (Obj.mapSeq (· ++ vs.toArray)) }) (hsz : vs.length ≤ sizeLine) :
    wpAny (model prog w) A (collect (.ref l)) Q E s := by
  unfold collect
  refine wpAny_bind (wpAny_runValue (codeAny_builtin entry_proto_collect' ?_))
  show wpAny _ _ (do again (.builtin "list.__iadd__" ⟨[← newList [], .ref l], []⟩)) _ _ s
  refine wpAny_bind (wpAny_newList (wpAny_pure ⟨Code.quiet_builtin _ (by decide +kernel), codeAny_builtin entry_list_iadd' ?_⟩))
  show wpAny _ _ (Builtin.List.listExtendWith (.ref s.heap.objs.size) (.ref l) (.ref s.heap.objs.size)) _ _ { s with heap := s.heap.push (seqObj "list" #[] 0) }
  unfold Builtin.List.listExtendWith
  have ho' : (s.heap.push (seqObj "list" #[] 0)).get? l = some o := Heap.get?_push_of_some _ ho
  refine wpAny_bind (wpAny_typeOf (T := "tuple") ⟨o, ho', hc⟩ ?_)
  have ht : (Value.type "tuple" == Value.type "tuple") = true := by rfl
  rw [if_pos (by rw [ht]; simp)]
  refine wpAny_bind (listItems_at ho' hd ?_)
  refine wpAny_bind (listItems_at (xs := #[]) (n := 0) (Heap.get?_push_size _ rfl) rfl ?_)
  rw [if_neg (by simp)]
  refine wpAny_bind (listUpdate_at (xs := #[]) (n := 0) (Heap.get?_push_size _ rfl) rfl ?_ (Nat.zero_le _) (by show (#[] ++ vs.toArray).size ≤ sizeLine + 1; simp only [Array.size_append, List.size_toArray, List.length_nil]; omega))
  refine wpAny_pure ?_
  show wpAny (model prog w) A (do
      let o ← load s.heap.objs.size
      match o.data with
      | .seq xs _ => pure xs.toList
      | _ => unsupported "internal:collect") Q E { s with heap := (s.heap.push (seqObj "list" #[] 0)).update s.heap.objs.size (Obj.mapSeq (· ++ vs.toArray)) }
  refine wpAny_bind (wpAny_load (get?_update_seq (Heap.get?_push_size _ rfl) _) ?_)
  show wpAny _ _ (pure ((#[] : Array Value) ++ vs.toArray).toList) Q E _
  rw [show ((#[] : Array Value) ++ vs.toArray).toList = vs by simp]
  exact wpAny_pure h
/-- sorted of what can be collected -/
theorem sorted_it {β : Type} {v : Value} {vs : List Value} {bs : List β} {enc : β → PyData} {R : Value → β → Prop} {Q : Value → Shared → Prop}
    (hcol : ∀ (A' : Around) (E' : Value → Shared → Prop) (Q' : List Value → Shared → Prop), Q' vs { s with heap := (s.heap.push (seqObj "list" #[] 0)).update s.heap.objs.size (Obj.mapSeq (· ++ vs.toArray)) } → wpAny (model prog w) A' (collect v) Q' E' s)
    (e : PySem.W.EachIs R vs bs) (er : PySem.W.EachIs (fun v b => ∃ as, Reads s.heap v (enc b) as) vs bs) (hal : PySem.W.AllAlike (bs.map enc)) (hk : PySem.W.Sortable (bs.map enc)) (hL : bs.length ≤ sizeLine)
    (hu : ∀ b, b ∈ bs → A.units + 2 + (enc b).depth < cLine) (h : ∀ out, out.length = bs.length → PySem.W.EachIs R out (bs.mergeSort (PySem.W.dataLe false enc)) → Q (.ref (s.heap.objs.size + 1)) { s with heap := sortedAll s.heap vs (List.toArray out) }) :
    wpAny (model prog w) A (call (.builtin "sorted") [v]) Q E s := by
  have hL' : vs.length ≤ sizeLine := by rw [e.length]; exact hL
  have er' : PySem.W.EachIs (fun v b => ∃ as, Reads (PySem.W.sortingHeap (PySem.W.copyHeap s.heap vs) (s.heap.objs.size + 1) vs) v (enc b) as) vs bs := er.mono fun _ _ ⟨as, r⟩ => ⟨as, PyProof.Rows.Reads.keeps (fun _ _ => PySem.W.sorting_copy_old) r⟩
  have S := PySem.W.SortsAt.data (prog := prog) (w := w) (A := A.in1.in1) (s := { s with heap := PySem.W.sortingHeap (PySem.W.copyHeap s.heap vs) (s.heap.objs.size + 1) vs }) (PySem.W.each_map (R := fun v d => ∃ as, Reads (PySem.W.sortingHeap (PySem.W.copyHeap s.heap vs) (s.heap.objs.size + 1) vs) v d as) enc er') hal hk (PySem.W.bound_map hu)
  have hh := h _ (by rw [PySem.W.sortVals_length false rfl]; exact e.length) (PySem.W.sortVals_data false e er' hal)
  refine call_function_entry_kw kind_sorted plain_sorted entry_sorted (args_sorted1 _) ?_
  unfold Builtin.«sorted»
  refine wpAny_bind (m := checkCount "sorted" 1 1 _) (wpAny_pure ?_)
  refine wpAny_bind (hcol _ _ _ ?_)
  refine wpAny_bind (wpAny_newList ?_ hL')
  have hsz : ((s.heap.push (seqObj "list" #[] 0)).update s.heap.objs.size (Obj.mapSeq (· ++ vs.toArray))).objs.size = s.heap.objs.size + 1 := by
    rw [Heap.size_update, size_push']
  show wpAny _ _ _ _ _ { s with heap := PySem.W.copyHeap s.heap vs }
  rw [hsz]
  refine wpAny_bind (wpAny_holding (wpAny_call_entry_kw slot_list_sort ⟨_, PySem.W.copyHeap_at s.heap vs, rfl⟩ entry_list_sort ?body (args_list_sort _)))
  case body =>
    show wpAny (model prog w) A.in1.in1 (Builtin.«list.sort» ⟨[.ref (s.heap.objs.size + 1)], []⟩) _ _ _
    refine PySem.W.list_sort_vals (s := { s with heap := PySem.W.copyHeap s.heap vs }) (PySem.W.copyHeap_at s.heap vs) S hL' ?_
    exact ⟨_, rfl, wpAny_pure ⟨_, rfl, hh⟩⟩
end
theorem each_vals : ∀ {bs : List (V × D)} {its : List Value}, Vals (bs.map (·.1)) its → PySem.W.EachIs (fun v b => RelV b.1 v) its bs
  | [], _, .nil => .nil
  | _ :: _, _, .cons r t => .cons r (each_vals t)
theorem vals_each : ∀ {bs : List (V × D)} {its : List Value}, PySem.W.EachIs (fun v b => RelV b.1 v) its bs → Vals (bs.map (·.1)) its
  | [], _, .nil => .nil
  | _ :: _, _, .cons r t => .cons r (vals_each t)
/-- what is sorted -/
structure SortH (K : PySem.W.Frag) (H : Hp) (bs : List (V × D)) : Prop where
  dp : ∀ b ∈ bs, Dp K H b.1 b.2.enc
  al : PySem.W.AllAlike (bs.map fun b => b.2.enc)
  so : PySem.W.Sortable (bs.map fun b => b.2.enc)
  ln : bs.length ≤ LIM
  dd : ∀ b ∈ bs, b.2.enc.depth ≤ 60
def rSortD (K : PySem.W.Frag) : List V → Hp → VK → Prop := fun vs H Q => ∃ (a : Addr) (bs : List (V × D)), vs = [V.ref a] ∧ (SqL K H a (bs.map (·.1)) ∨ SqT K H a (bs.map (·.1))) ∧ SortH K H bs ∧
  ∀ (ys : List V) (p : Addr), H p = none → ys = (bs.mergeSort (PySem.W.dataLe false fun b => b.2.enc)).map (·.1) → Q (.ref p) (upd H p (.lst ys))
theorem each_reads {X : Cx} {pins : List (Addr × Obj)} {σ : L2.St} {H : Hp} {s : Shared} (I : Inv X pins σ H s) : ∀ {bs : List (V × D)} {its : List Value}, (∀ b ∈ bs, Dp X.K H b.1 b.2.enc) → Vals (bs.map (·.1)) its → PySem.W.EachIs (fun v b => ∃ as, Reads s.heap v b.2.enc as) its bs
  | [], _, _, .nil => .nil
  | b :: bs, _, h, .cons r t => .cons (Dp.reads I _ _ _ (h b (List.mem_cons_self ..)) r) (each_reads I (fun x hx => h x (List.mem_cons_of_mem _ hx)) t)
theorem cr_sortD {X : Cx} {k : Nat} (hr : Room k X.A) : CallR X (.builtin "sorted") (rSortD X.K) := by
  intro pins s σ H vs us Q I r h
  obtain ⟨a, bs, rfl, hs, sh, q⟩ := h
  have hu : X.A.units + 65 < cLine := by have := hr.un; omega
  have hL : bs.length ≤ sizeLine := Nat.le_trans sh.ln lim_line
  rw [Vals.ref1 r]
  have key : ∀ its : List Value, Vals (bs.map (·.1)) its → (∀ (A' : Around) (E' : Value → Shared → Prop) (Q' : List Value → Shared → Prop), Q' its { s with heap := (s.heap.push (seqObj "list" #[] 0)).update s.heap.objs.size (Obj.mapSeq (· ++ its.toArray)) } → wpAny (model X.prog X.w) A' (collect (.ref a)) Q' E' s) →
      wpAny (model X.prog X.w) X.A (call (.builtin "sorted") [.ref a]) (EP X pins σ Q) X.xe s := fun its rv hcol => by
    refine sorted_it hcol (each_vals rv) (each_reads I sh.dp rv) sh.al sh.so hL (fun b hb => by have := sh.dd b hb; omega) fun out hlen he => ?_
    obtain ⟨ep, he'⟩ := PyProof.Rows.sortedAll_at s.heap its out.toArray
    have rv2 := vals_each he
    have hl2 : ((bs.mergeSort (PySem.W.dataLe false fun b => b.2.enc)).map (·.1)).length ≤ sizeLine := by
      rw [List.length_map, List.length_mergeSort]
      exact hL
    exact ⟨.ref _, upd H (s.heap.objs.size + 1) (.lst ((bs.mergeSort (PySem.W.dataLe false fun b => b.2.enc)).map (·.1))), I.laid (t' := s.toks) (fun _ _ => PyProof.Rows.sortedAll_old) (Nat.le_succ _) ⟨hl2, out, ep, rv2, he'⟩, rfl, q _ _ (I.hok.fresh (Nat.le_succ _)) rfl⟩
  rcases hs with hs | hs
  · obtain ⟨its, rv, hl, hz⟩ := I.list hs
    exact key its rv fun A' E' Q' hq => collect_list hl.isList hq (by rw [← rv.length]; exact hz)
  · obtain ⟨its, rv, ht, hz⟩ := I.tuple hs
    refine key its rv fun A' E' Q' hq => ?_
    obtain ⟨o, h1, h2, n, h3⟩ := ht
    exact collect_tup h1 h2 h3 hq (by rw [← rv.length]; exact hz)
theorem datL_zip {g : G} {z : Z} : ∀ {ds : List D} {ws : List V}, DatL g z ds ws → ∃ bs : List (V × D), bs.map (·.1) = ws ∧ bs.map (·.2) = ds ∧ ∀ b ∈ bs, Dat g z b.2 b.1
  | [], ws, h => ⟨[], by rw [show ws = [] from h]; rfl, rfl, by simp⟩
  | d :: ds, ws, h => by
    obtain ⟨v, r, rfl, h1, h2⟩ := h
    obtain ⟨bs, e1, e2, e3⟩ := datL_zip h2
    refine ⟨(v, d) :: bs, by rw [List.map_cons, e1], by rw [List.map_cons, e2], fun b hb => ?_⟩
    rcases List.mem_cons.mp hb with rfl | hb
    · exact h1
    · exact e3 b hb
theorem datL_of {g : G} {z : Z} : ∀ {bs : List (V × D)}, (∀ b ∈ bs, Dat g z b.2 b.1) → DatL g z (bs.map (·.2)) (bs.map (·.1))
  | [], _ => rfl
  | b :: bs, h => ⟨_, _, rfl, h b (List.mem_cons_self ..), datL_of fun x hx => h x (List.mem_cons_of_mem _ hx)⟩
theorem pyL_enc : ∀ {ds : List D} {ps : List PyData}, D.pyL ds = some ps → ps = ds.map D.enc ∧ ∀ d ∈ ds, d.py = some d.enc
  | [], ps, h => by
    rw [D.pyL] at h
    cases h
    exact ⟨rfl, by simp⟩
  | d :: ds, ps, h => by
    rw [D.pyL] at h
    split at h
    · rename_i a b ha hb
      cases h
      obtain ⟨e1, e2⟩ := pyL_enc hb
      have ed : d.enc = a := by
        unfold D.enc
        rw [ha]
        rfl
      refine ⟨by rw [List.map_cons, ed, e1], fun x hx => ?_⟩
      rcases List.mem_cons.mp hx with rfl | hx
      · rw [ed]
        exact ha
      · exact e2 x hx
    · cases h
theorem sort_dat {X : Cx} {fa : Ad} {B : Bk} {S : Store} {H : Hp} {ds es : List D} {ws : List V} (l : DatL (gx X fa) ⟨B, S, H⟩ ds ws) (q : sortF ds = some es) :
    ∃ bs : List (V × D), bs.map (·.1) = ws ∧ bs.map (·.2) = ds ∧ SortH X.K H bs ∧ ∀ ys : List V, ys = (bs.mergeSort (PySem.W.dataLe false fun b => b.2.enc)).map (·.1) → DatL (gx X fa) ⟨B, S, H⟩ es ys := by
  obtain ⟨bs, e1, e2, e3⟩ := datL_zip l
  unfold sortF at q
  split at q
  · rename_i ps hps
    split at q
    · rename_i hok
      cases q
      obtain ⟨p1, p2⟩ := pyL_enc hps
      rw [Bool.and_eq_true] at hok
      obtain ⟨hok, hl⟩ := hok
      have hl := of_decide_eq_true hl
      unfold sortOk at hok
      rw [Bool.and_eq_true, Bool.and_eq_true, List.all_eq_true, List.all_eq_true] at hok
      obtain ⟨⟨h1, h2⟩, h3⟩ := hok
      have em : (bs.map fun b => b.2.enc) = ps := by
        rw [p1, ← e2, List.map_map]
        rfl
      refine ⟨bs, e1, e2, ⟨fun b hb => ?_, ?_, ?_, ?_, fun b hb => ?_⟩, fun ys hy => ?_⟩
      · have hm : b.2 ∈ ds := by
          rw [← e2]
          exact List.mem_map_of_mem hb
        exact Dat.dp _ _ _ (p2 _ hm) (e3 b hb)
      · rw [em]
        intro d hd d' hd'
        exact List.all_eq_true.mp (h1 d hd) d' hd'
      · rw [em]
        rw [Bool.or_eq_true, List.all_eq_true, List.all_eq_true] at h2
        rcases h2 with h2 | h2
        · refine .inl fun d hd => ?_
          have := h2 d hd
          unfold tupB at this
          split at this
          · exact ⟨_, _, rfl⟩
          · cases this
        · refine .inr fun d hd => ?_
          have := h2 d hd
          constructor
          · rintro rfl
            cases this
          · rintro xs rfl
            cases this
      · have := congrArg List.length e2
        rw [List.length_map] at this
        omega
      · have hm : b.2.enc ∈ ps := by
          rw [← em]
          exact List.mem_map_of_mem (f := fun b : V × D => b.2.enc) hb
        exact of_decide_eq_true (h3 _ hm)
      · have er : (bs.mergeSort (PySem.W.dataLe false fun b => b.2.enc)).map (·.2) = ds.mergeSort (PySem.W.dataLe false D.enc) := by
          rw [← e2]
          exact List.map_mergeSort fun a _ b _ => rfl
        rw [hy, ← er]
        exact datL_of fun b hb => e3 b ((List.mergeSort_perm _ _).mem_iff.mp hb)
    · cases q
  · cases q
end Fw

/-! What the evaluator's answers are worth: built-in calls. -/
namespace Fw
open PySem PySem.Spec PyProof.Rows L2
def Blt.val : Blt → Value
  | .len => .builtin "len" | .abs => .builtin "abs" | .int => .type "int" | .str => .type "str" | .isi => .builtin "isinstance" | .all => .builtin "all" | .any => .builtin "any"
  | .sum => .builtin "sum" | .max => .builtin "max" | .min => .builtin "min" | .list => .type "list" | .tuple => .type "tuple" | .sorted => .builtin "sorted"
def Blt.nm : Blt → Str
  | .len => "len" | .abs => "abs" | .int => "int" | .str => "str" | .isi => "isinstance" | .all => "all" | .any => "any"
  | .sum => "sum" | .max => "max" | .min => "min" | .list => "list" | .tuple => "tuple" | .sorted => "sorted"
theorem Blt.boot (b : Blt) : bootBuiltins b.nm = some b.val := by cases b <;> decide +kernel
theorem Blt.nn (b : Blt) : b.nm ≠ "__name__" := by cases b <;> decide +kernel
theorem Blt.nd (b : Blt) : (b.nm == ("__debug__" : Str)) = false := by cases b <;> decide +kernel
theorem kit_isa (t c : Ty) : kitB t.nm c.nm = some (isaF t c) := by cases t <;> cases c <;> decide +kernel
theorem maxI_mem : ∀ {n : Int} {ns : List Int}, maxI (n :: ns) ∈ n :: ns
  | n, [] => by simp [maxI]
  | n, m :: ns => by
    have ih := maxI_mem (n := m) (ns := ns)
    show max n (maxI (m :: ns)) ∈ _
    rcases Int.le_total n (maxI (m :: ns)) with h | h
    · rw [Int.max_eq_right h]
      exact List.mem_cons_of_mem _ ih
    · rw [Int.max_eq_left h]
      exact List.mem_cons_self ..
theorem maxI_ge : ∀ {n : Int} {ns : List Int} {y : Int}, y ∈ n :: ns → y ≤ maxI (n :: ns)
  | n, [], y, h => by
    rw [List.mem_singleton.mp h]
    exact Int.le_refl _
  | n, m :: ns, y, h => by
    show y ≤ max n (maxI (m :: ns))
    rcases List.mem_cons.mp h with h | h
    · rw [h]
      exact Int.le_max_left ..
    · exact Int.le_trans (maxI_ge h) (Int.le_max_right ..)
theorem minI_mem : ∀ {n : Int} {ns : List Int}, minI (n :: ns) ∈ n :: ns
  | n, [] => by simp [minI]
  | n, m :: ns => by
    have ih := minI_mem (n := m) (ns := ns)
    show min n (minI (m :: ns)) ∈ _
    rcases Int.le_total n (minI (m :: ns)) with h | h
    · rw [Int.min_eq_left h]
      exact List.mem_cons_self ..
    · rw [Int.min_eq_right h]
      exact List.mem_cons_of_mem _ ih
theorem minI_le : ∀ {n : Int} {ns : List Int} {y : Int}, y ∈ n :: ns → minI (n :: ns) ≤ y
  | n, [], y, h => by
    rw [List.mem_singleton.mp h]
    exact Int.le_refl _
  | n, m :: ns, y, h => by
    show min n (minI (m :: ns)) ≤ y
    rcases List.mem_cons.mp h with h | h
    · rw [h]
      exact Int.min_le_left ..
    · exact Int.le_trans (Int.min_le_right ..) (minI_le h)
section
variable {X : Cx} {fa : Ad}
theorem sqT_tyX {K : PySem.W.Frag} {H : Hp} {a : Addr} {xs : List V} (h : SqT K H a xs) : TyX K H (.ref a) (.type "tuple") := by
  rcases h with (h | ⟨o, h⟩) | ⟨o, its, n, h, c, _⟩
  · exact .base (.tup h)
  · exact .fTuple h
  · exact .kTuple h c
theorem ty_ok {B : Bk} {S : Store} {H : Hp} {x : A} {v : V} {t : Ty} (so : StoreOk (gx X fa) ⟨B, S, H⟩) (h : tyF x S = some t) (d : DatA (gx X fa) ⟨B, S, H⟩ x v) : TyX X.K H v (.type t.nm) := by
  unfold tyF at h
  split at h
  · cases h; rw [show v = V.non from d]; exact .base .non
  · cases h; rw [show v = V.bl _ from d]; exact .base (.bl _)
  · cases h; rw [show v = V.int _ from d]; exact .base (.int _)
  · cases h; rw [show v = V.str _ from d]; exact .base (.str _)
  · cases h
    obtain ⟨a, vs, rfl, t, _⟩ := d
    exact sqT_tyX t
  · cases h
    obtain ⟨a, vs, rfl, t, _⟩ := d
    exact .base (.lst t)
  · cases h
    obtain ⟨a, rfl, t⟩ := d
    rcases t with ⟨o, t⟩ | ⟨o, its, n, e, c, _⟩ | ⟨t, _⟩
    · exact .base (.frz t)
    · exact .kList e c
    · exact .base (.lst t)
  · rename_i j
    split at h
    · rename_i xs hs
      cases h
      obtain ⟨a, hb, rfl⟩ := d
      obtain ⟨vs, e, _⟩ := so.ob j a xs hb hs
      exact .base (.lst e)
    · cases h
  · cases h
def BltOk (X : Cx) (fa : Ad) (f : Value) (S : Store) (xs : List A) (z : A) : Prop := ∃ r, CallR X f r ∧
  ∀ vs B H (Q : VK), StoreOk (gx X fa) ⟨B, S, H⟩ → DatAL (gx X fa) ⟨B, S, H⟩ xs vs →
    (∀ u H', StoreOk (gx X fa) ⟨B, S, H'⟩ → Stab (gx X fa) ⟨B, S, H⟩ ⟨B, S, H'⟩ → DatA (gx X fa) ⟨B, S, H'⟩ z u → Q u H') → r vs H Q
theorem DatAL.one {g : G} {z : Z} {x : A} {vs : List V} (h : DatAL g z [x] vs) : ∃ v, vs = [v] ∧ DatA g z x v := by
  obtain ⟨v, r, e, d, e2⟩ := h
  exact ⟨v, by rw [e, show r = [] from e2], d⟩
theorem DatAL.two {g : G} {z : Z} {x y : A} {vs : List V} (h : DatAL g z [x, y] vs) : ∃ v w, vs = [v, w] ∧ DatA g z x v ∧ DatA g z y w := by
  obtain ⟨v, r, e, d, h2⟩ := h
  obtain ⟨w, rfl, d2⟩ := DatAL.one h2
  exact ⟨v, w, e, d, d2⟩
theorem blt_ok {b : Blt} {S : Store} {xs : List A} {z : A} {k : Nat} (hc : X.calm = true) (hr : Room k X.A) (h : bltF b xs S = some z) : BltOk X fa b.val S xs z := by
  unfold bltF at h
  split at h
  case h_1 ds =>
    cases h
    refine ⟨_, call_len_seq, fun vs B H Q so d k => ?_⟩
    obtain ⟨v, rfl, a, ws, rfl, t, _, l⟩ := d.one
    refine ⟨a, ws, rfl, .inl (SqL.of t), ?_⟩
    rw [l.len]
    exact k _ H so Stab.refl rfl
  case h_2 ds =>
    cases h
    refine ⟨_, call_len_seq, fun vs B H Q so d k => ?_⟩
    obtain ⟨v, rfl, a, ws, rfl, t, l⟩ := d.one
    refine ⟨a, ws, rfl, .inr t, ?_⟩
    rw [l.len]
    exact k _ H so Stab.refl rfl
  case h_3 ds =>
    cases h
    refine ⟨_, call_len_seq, fun vs B H Q so d k => ?_⟩
    obtain ⟨v, rfl, a, rfl, t⟩ := d.one
    refine ⟨a, ds.map V.int, rfl, .inl ?_, ?_⟩
    · rcases t with ⟨o, t⟩ | t | ⟨t, _⟩
      · exact .inl (.inr ⟨o, t⟩)
      · exact .inr t
      · exact SqL.of t
    · rw [List.length_map]
      exact k _ H so Stab.refl rfl
  case h_4 x =>
    split at h
    · rename_i hl
      cases h
      refine ⟨_, call_len_str, fun vs B H Q so d k => ?_⟩
      obtain ⟨v, rfl, e⟩ := d.one
      exact ⟨x, by rw [show v = V.str x from e], lim_le hl, k _ H so Stab.refl rfl⟩
    · cases h
  case h_5 j =>
    split at h
    · rename_i ys hs
      cases h
      refine ⟨_, call_len_seq, fun vs B H Q so d k => ?_⟩
      obtain ⟨v, rfl, a, hb, rfl⟩ := d.one
      obtain ⟨ws, e, l⟩ := so.ob j a ys hb hs
      refine ⟨a, ws, rfl, .inl (SqL.of e), ?_⟩
      rw [l.len]
      exact k _ H so Stab.refl rfl
    · cases h
  case h_6 i =>
    cases h
    refine ⟨_, call_abs, fun vs B H Q so d k => ?_⟩
    obtain ⟨v, rfl, e⟩ := d.one
    exact ⟨i, by rw [show v = V.int i from e], k _ H so Stab.refl rfl⟩
  case h_7 i =>
    cases h
    refine ⟨_, call_int1, fun vs B H Q so d k => ?_⟩
    obtain ⟨v, rfl, e⟩ := d.one
    exact .inl ⟨i, by rw [show v = V.int i from e], k _ H so Stab.refl rfl⟩
  case h_8 b =>
    cases h
    refine ⟨_, call_int1, fun vs B H Q so d k => ?_⟩
    obtain ⟨v, rfl, e⟩ := d.one
    exact .inr ⟨b, by rw [show v = V.bl b from e], k _ H so Stab.refl rfl⟩
  case h_9 i =>
    split at h
    · rename_i hl
      cases h
      refine ⟨_, call_str_int, fun vs B H Q so d k => ?_⟩
      obtain ⟨v, rfl, e⟩ := d.one
      exact ⟨i, by rw [show v = V.int i from e], hl, k _ H so Stab.refl rfl⟩
    · cases h
  case h_10 x c =>
    cases q : tyF x S with
    | none => rw [q] at h; cases h
    | some t =>
      rw [q] at h
      cases h
      refine ⟨_, call_isi, fun vs B H Q so d k => ?_⟩
      obtain ⟨v, w, rfl, d1, d2⟩ := d.two
      exact ⟨v, w, .type t.nm, .type c.nm, isaF t c, rfl, by rw [show w = V.ty c.nm from d2]; exact .ty _, ty_ok so q d1, kit_ty (kit_isa t c), k _ H so Stab.refl rfl⟩
  case h_11 ds =>
    cases q : D.bls ds with
    | none => rw [q] at h; cases h
    | some bs =>
      rw [q] at h
      cases h
      refine ⟨_, cr_all hc, fun vs B H Q so d k => ?_⟩
      obtain ⟨v, rfl, a, ws, rfl, t, _, l⟩ := d.one
      exact ⟨a, bs, rfl, by rw [← l.bls q]; exact SqL.of t, k _ H so Stab.refl rfl⟩
  case h_12 ds =>
    cases q : D.bls ds with
    | none => rw [q] at h; cases h
    | some bs =>
      rw [q] at h
      cases h
      refine ⟨_, cr_any hc, fun vs B H Q so d k => ?_⟩
      obtain ⟨v, rfl, a, ws, rfl, t, _, l⟩ := d.one
      exact ⟨a, bs, rfl, by rw [← l.bls q]; exact SqL.of t, k _ H so Stab.refl rfl⟩
  case h_13 ds =>
    cases q : D.ints ds with
    | none => rw [q] at h; cases h
    | some bs =>
      rw [q] at h
      cases h
      refine ⟨_, cr_sum hc, fun vs B H Q so d k => ?_⟩
      obtain ⟨v, rfl, a, ws, rfl, t, _, l⟩ := d.one
      exact ⟨a, bs, rfl, by rw [← l.ints q]; exact SqL.of t, k _ H so Stab.refl rfl⟩
  case h_14 ds =>
    split at h
    · rename_i n ns q
      cases h
      refine ⟨_, cr_max hc, fun vs B H Q so d k => ?_⟩
      obtain ⟨v, rfl, a, ws, rfl, t, _, l⟩ := d.one
      refine ⟨a, n :: ns, rfl, by rw [← l.ints q]; exact SqL.of t, Nat.succ_pos _, fun m hm hy => ?_⟩
      have : m = maxI (n :: ns) := Int.le_antisymm (maxI_ge hm) (hy _ maxI_mem)
      rw [this]
      exact k _ H so Stab.refl rfl
    · cases h
  case h_15 ds =>
    split at h
    · rename_i n ns q
      cases h
      refine ⟨_, cr_min hc, fun vs B H Q so d k => ?_⟩
      obtain ⟨v, rfl, a, ws, rfl, t, _, l⟩ := d.one
      refine ⟨a, n :: ns, rfl, by rw [← l.ints q]; exact SqL.of t, Nat.succ_pos _, fun m hm hy => ?_⟩
      have : m = minI (n :: ns) := Int.le_antisymm (hy _ minI_mem) (minI_le hm)
      rw [this]
      exact k _ H so Stab.refl rfl
    · cases h
  case h_16 ds =>
    cases h
    refine ⟨_, call_list_of, fun vs B H Q so d k => ?_⟩
    obtain ⟨v, rfl, a, ws, rfl, t, _, l⟩ := d.one
    exact ⟨a, ws, rfl, .inl (SqL.of t), fun p hp => k _ _ (so.new hp) (Stab.new so hp) (new_lst so hp l)⟩
  case h_17 ds =>
    cases h
    refine ⟨_, call_list_of, fun vs B H Q so d k => ?_⟩
    obtain ⟨v, rfl, a, ws, rfl, t, l⟩ := d.one
    exact ⟨a, ws, rfl, .inr t, fun p hp => k _ _ (so.new hp) (Stab.new so hp) (new_lst so hp l)⟩
  case h_18 ds =>
    cases h
    refine ⟨_, call_tuple_of, fun vs B H Q so d k => ?_⟩
    obtain ⟨v, rfl, a, ws, rfl, t, _, l⟩ := d.one
    exact ⟨a, ws, rfl, .inl ⟨SqL.of t, fun p hp => k _ _ (so.new hp) (Stab.new so hp) (new_tup so hp l)⟩⟩
  case h_19 ds =>
    cases h
    refine ⟨_, call_tuple_of, fun vs B H Q so d k => ?_⟩
    obtain ⟨v, rfl, a, ws, rfl, t, l⟩ := d.one
    exact ⟨a, ws, rfl, .inr ⟨t, k _ H so Stab.refl ⟨a, ws, rfl, t, l⟩⟩⟩
  case h_20 x =>
    split at h
    · rename_i hl
      cases h
      refine ⟨_, call_list_s hc, fun vs B H Q so d k => ?_⟩
      obtain ⟨v, rfl, dv⟩ := d.one
      rw [show v = V.str x from dv]
      refine ⟨x, rfl, lim_le hl, fun p hp => k _ _ (so.new hp) (Stab.new so hp) (new_lst so hp ?_)⟩
      unfold charsV
      have : ∀ l : List Nat, DatL (gx X fa) ⟨B, S, H⟩ (l.map fun c => D.str ⟨#[c]⟩) (l.map fun c => V.str ⟨#[c]⟩) := by
        intro l
        induction l with
        | nil => rfl
        | cons c l ih => exact ⟨_, _, rfl, rfl, ih⟩
      exact this _
    · cases h
  case h_21 i j =>
    cases h
    refine ⟨_, call_min2 hc, fun vs B H Q so d k => ?_⟩
    obtain ⟨v, w, rfl, d1, d2⟩ := d.two
    exact ⟨i, j, by rw [show v = V.int i from d1, show w = V.int j from d2], k _ H so Stab.refl rfl⟩
  case h_22 ds =>
    cases q : sortF ds with
    | none => rw [q] at h; cases h
    | some es =>
      rw [q] at h
      cases h
      refine ⟨_, cr_sortD hr, fun vs B H Q so d k => ?_⟩
      obtain ⟨v, rfl, a, ws, rfl, t, _, l⟩ := d.one
      obtain ⟨bs, e1, e2, h1, h2⟩ := sort_dat (X := X) (fa := fa) l q
      exact ⟨a, bs, rfl, .inl (by rw [e1]; exact SqL.of t), h1, fun ys p hp hy => k _ _ (so.new hp) (Stab.new so hp) (new_lst so hp (h2 ys hy))⟩
  case h_23 ds =>
    cases q : sortF ds with
    | none => rw [q] at h; cases h
    | some es =>
      rw [q] at h
      cases h
      refine ⟨_, cr_sortD hr, fun vs B H Q so d k => ?_⟩
      obtain ⟨v, rfl, a, ws, rfl, t, l⟩ := d.one
      obtain ⟨bs, e1, e2, h1, h2⟩ := sort_dat (X := X) (fa := fa) l q
      exact ⟨a, bs, rfl, .inr (by rw [e1]; exact t), h1, fun ys p hp hy => k _ _ (so.new hp) (Stab.new so hp) (new_lst so hp (h2 ys hy))⟩
  case h_24 x =>
    split at h
    · rename_i hl
      cases q : PySem.intText? x with
      | none => rw [q] at h; cases h
      | some n =>
        rw [q] at h
        cases h
        refine ⟨_, call_int_str, fun vs B H Q so d k => ?_⟩
        obtain ⟨v, rfl, e⟩ := d.one
        exact ⟨x, n, by rw [show v = V.str x from e], q, hl, k _ H so Stab.refl rfl⟩
    · cases h
  case h_25 j =>
    split at h
    · rename_i ys hs
      cases h
      refine ⟨_, call_tuple_of, fun vs B H Q so d k => ?_⟩
      obtain ⟨v, rfl, a, hb, rfl⟩ := d.one
      obtain ⟨ws, e, l⟩ := so.ob j a ys hb hs
      exact ⟨a, ws, rfl, .inl ⟨SqL.of e, fun p hp => k _ _ (so.new hp) (Stab.new so hp) (new_tup so hp l)⟩⟩
    · cases h
  case h_26 => cases h
end
end Fw

/-! Expressions. -/
namespace Fw
open PySem PySem.Spec PyProof.Rows L2
abbrev SE (fa : Ad) (cl : Nat → List A → Store → Rz A) (X : Cx) (e : Expr) (c : C) : Prop := PE X e (tE (gx X fa) (ev cl false c))
abbrev ST (fa : Ad) (cl : Nat → List A → Store → Rz A) (X : Cx) (e : Expr) (c : C) : Prop := PT X e (tT (gx X fa) (ev cl true c))
abbrev SW (fa : Ad) (cl : Nat → List A → Store → Rz A) (X : Cx) (e : Expr) (c : C) : Prop := PW X e (tT (gx X fa) (ev cl true c))
abbrev SA (fa : Ad) (cl : Nat → List A → Store → Rz A) (X : Cx) (es : List Expr) (cs : List C) : Prop := PA X es (tA (gx X fa) (evs cl cs))
theorem _root_.L2.PE.imp {X : Cx} {e : Expr} {t t' : TE} (h : PE X e t) (f : ∀ σ H Q, t' σ H Q → t σ H Q) : PE X e t' := ⟨fun pins s σ H Q I q => h.run pins s σ H Q I (f σ H Q q)⟩
theorem _root_.L2.PT.imp {X : Cx} {e : Expr} {t t' : TT} (h : PT X e t) (f : ∀ σ H Q, t' σ H Q → t σ H Q) : PT X e t' := ⟨fun pins s σ H Q I q => h.run pins s σ H Q I (f σ H Q q)⟩
theorem _root_.L2.PW.imp {X : Cx} {e : Expr} {t t' : TT} (h : PW X e t) (f : ∀ σ H Q, t' σ H Q → t σ H Q) : PW X e t' := ⟨fun w pins s σ H Q I q => h.run w pins s σ H Q I (f σ H Q q)⟩
theorem _root_.L2.PA.imp {X : Cx} {e : List Expr} {t t' : TA} (h : PA X e t) (f : ∀ σ H Q, t' σ H Q → t σ H Q) : PA X e t' := ⟨fun p pins s σ H Q I q => h.run p pins s σ H Q I (f σ H Q q)⟩
theorem tst_f {x : A} {S : Store} : tst false x S = .ok x S := rfl
theorem tst_t {x : A} {S S' : Store} {y : A} (h : tst true x S = .ok y S') : ∃ d b, x = .p d ∧ truF d = some b ∧ y = .p (.bl b) ∧ S' = S := by
  cases x with
  | m i => cases h
  | p d =>
    have h' : Rz.of ((truF d).map fun b => A.p (.bl b)) S = .ok y S' := h
    obtain ⟨e, rfl⟩ := Rz.of_ok h'
    cases q : truF d with
    | none => rw [q] at e; cases e
    | some b =>
      rw [q] at e
      cases e
      exact ⟨d, b, rfl, q, rfl, rfl⟩
section
variable {fa : Ad} {cl : Nat → List A → Store → Rz A} {X : Cx} {e a b : Expr} {c ca cb : C} {pos : Pos} {k : Nat}
/-- a value as a test -/
theorem st_of (h : SE fa cl X e c) (ht : ∀ ρ S, ev cl true c ρ S = (ev cl false c ρ S).bind (tst true)) (he : ∀ whole, isTrue e X.env whole = (do let v ← whole; standAt e.pos; holding [v] (truthy v))) : ST fa cl X e c :=
  (pt_truth h he).imp fun σ H Q q => by
    obtain ⟨B, S, ρ, b, S', eo, so, hm, k⟩ := q
    rw [ht] at hm
    obtain ⟨x, S1, hx, h2⟩ := Rz.bind_ok hm
    obtain ⟨d, b', rfl, hb, e2, rfl⟩ := tst_t h2
    cases e2
    exact tE.use eo so hx fun v B' H' so' st _ dv => ⟨b, tru_dat hb dv, k B' H' so' st⟩
theorem se_var {i : Nat} {x : Str} (hN : X.N[i]? = some x) (hv : Vis X.env.scope x) (hd : (x == ("__debug__" : Str)) = false) (hcd : (x == ("__classdict__" : Str)) = false) : SE fa cl X (.Name x pos) (.var i) :=
  (pe_var hN hv hd hcd).imp fun σ H Q q => by
    obtain ⟨B, S, ρ, x, S', eo, so, hm, k⟩ := q
    rw [ev] at hm
    split at hm
    · rename_i y hy
      rw [tst_f] at hm
      cases hm
      obtain ⟨v, hv, dv⟩ := eo.get i _ hy
      exact ⟨v, hv, k v B H so Stab.refl dv⟩
    · cases hm
theorem se_cst {d : D} {v : V} (h : PE X e (tC v)) (hd : ∀ z, Dat (gx X fa) z d v) : SE fa cl X e (.cst d) := h.imp fun σ H Q q => by
  obtain ⟨B, S, ρ, x, S', eo, so, hm, k⟩ := q
  rw [ev, tst_f] at hm
  cases hm
  exact k v B H so Stab.refl (hd _)
theorem se_bin {op : Operator} (ha : SE fa cl X a ca) (hb : SE fa cl X b cb) : SE fa cl X (.BinOp a op b pos) (.bin op ca cb) := by
  refine ⟨fun pins s σ H Q I q => ?_⟩
  obtain ⟨B, S, ρ, z, S', eo, so, hm, k⟩ := q
  rw [ev] at hm
  obtain ⟨x, S1, hx, hm1⟩ := Rz.bind_ok hm
  obtain ⟨y, S2, hy, hm2⟩ := Rz.bind_ok hm1
  split at hm2
  · rename_i x y
    obtain ⟨w, S3, hw, hm3⟩ := Rz.bind_ok hm2
    obtain ⟨gw, rfl⟩ := Rz.of_ok hw
    rw [tst_f] at hm3
    cases hm3
    obtain ⟨r, hr, ok⟩ := bin_ok (X := X) (fa := fa) gw
    refine (pe_op hr ha hb).run pins s σ H Q I ?_
    refine tE.use eo so hx fun v1 B1 H1 so1 st1 eo1 d1 => tE.use eo1 so1 hy fun v2 B2 H2 so2 st2 eo2 d2 => ?_
    exact ok v1 v2 B2 _ H2 Q so2 (st2.dat _ _ d1) d2 fun u H' so' st' du => k u B2 H' so' ((st1.trans st2).trans st') du
  · cases hm2
theorem se_neg (ha : SE fa cl X a ca) : SE fa cl X (.UnaryOp .USub a pos) (.neg ca) := by
  refine (pe_un un_neg ha).imp fun σ H Q q => ?_
  obtain ⟨B, S, ρ, z, S', eo, so, hm, k⟩ := q
  rw [ev] at hm
  obtain ⟨x, S1, hx, hm1⟩ := Rz.bind_ok hm
  split at hm1
  · rename_i i
    rw [tst_f] at hm1
    cases hm1
    exact tE.use eo so hx fun v1 B1 H1 so1 st1 eo1 d1 => ⟨i, d1, k _ B1 H1 so1 st1 rfl⟩
  · cases hm1
theorem notSet_marks {op : CmpOp} {b : Expr} (h : ∀ es k p, b ≠ .Set es k p) : behindInMarks op b = false := by
  unfold behindInMarks
  split
  · rename_i es k p
    exact absurd rfl (h es k p)
  · rfl
theorem dig1 {g : G} {B : Bk} {S : Store} {H : Hp} {x : A} {v : V} (k : StoreOk g ⟨B, S, H⟩) (d : DatA g ⟨B, S, H⟩ x v) : ∃ S', StoreOk g ⟨B, S', H⟩ ∧ Stab g ⟨B, S, H⟩ ⟨B, S', H⟩ ∧ DatA g ⟨B, S', H⟩ (dig x S) v := by
  cases x with
  | p e => exact ⟨S, k, Stab.refl, d⟩
  | m j =>
    unfold dig
    dsimp only
    split
    · rename_i ds hj
      obtain ⟨a, ha, rfl⟩ := d
      obtain ⟨vs, hv, hd⟩ := k.ob j a ds ha hj
      exact ⟨S.set j .dead, k.freeze, Stab.freeze, a, vs, rfl, hv, freeze_dead k ha, Stab.freeze.datL hd⟩
    · exact ⟨S, k, Stab.refl, d⟩
theorem dig2 {g : G} {B : Bk} {S : Store} {H : Hp} {x y : A} {v w : V} (k : StoreOk g ⟨B, S, H⟩) (d : DatA g ⟨B, S, H⟩ x v) (e : DatA g ⟨B, S, H⟩ y w) : ∃ S', StoreOk g ⟨B, S', H⟩ ∧ DatA g ⟨B, S', H⟩ (dig x S) v ∧ DatA g ⟨B, S', H⟩ (dig y S) w := by
  obtain ⟨S1, k1, s1, d1⟩ := dig1 k d
  cases y with
  | p f => exact ⟨S1, k1, d1, s1.datA e⟩
  | m j =>
    cases hj : S[j]? with
    | none => exact ⟨S1, k1, d1, by rw [show dig (.m j) S = .m j by simp [dig, hj]]; exact s1.datA e⟩
    | some o =>
      cases o with
      | lst ds =>
        obtain ⟨a, ha, rfl⟩ := e
        obtain ⟨vs, hv, hd⟩ := k.ob j a ds ha hj
        refine ⟨S1.set j .dead, k1.freeze, Stab.freeze.datA d1, ?_⟩
        rw [show dig (.m j) S = .p (.lst ds) by simp [dig, hj]]
        exact ⟨a, vs, rfl, hv, freeze_dead k1 ha, Stab.freeze.datL (s1.datL hd)⟩
      | dead => exact ⟨S1, k1, d1, by rw [show dig (.m j) S = .m j by simp [dig, hj]]; exact s1.datA e⟩
      | ins c ns ds => exact ⟨S1, k1, d1, by rw [show dig (.m j) S = .m j by simp [dig, hj]]; exact s1.datA e⟩
theorem cmp_run {x y : A} {z : Bool} {S S1 S2 : Store} {B : Bk} {ρ : Env} {σ : L2.St} {H : Hp} {r : R2} {Q : VK} (eo : EnvOk (gx X fa) ⟨B, S, H⟩ ρ σ) (so : StoreOk (gx X fa) ⟨B, S, H⟩)
    (hx : ev cl false ca ρ S = .ok x S1) (hy : ev cl false cb ρ S1 = .ok y S2)
    (ok : ∀ v w B S H (Q : VK), StoreOk (gx X fa) ⟨B, S, H⟩ → DatA (gx X fa) ⟨B, S, H⟩ (dig x S2) v → DatA (gx X fa) ⟨B, S, H⟩ (dig y S2) w → Q (.bl z) H → r v w H Q)
    (k : ∀ B' H', StoreOk (gx X fa) ⟨B', S2, H'⟩ → Stab (gx X fa) ⟨B, S, H⟩ ⟨B', S2, H'⟩ → Q (.bl z) H') : tOp r (tE (gx X fa) (ev cl false ca)) (tE (gx X fa) (ev cl false cb)) σ H Q :=
  tE.use eo so hx fun v1 B1 H1 so1 st1 eo1 d1 => tE.use eo1 so1 hy fun v2 B2 H2 so2 st2 eo2 d2 => by
    obtain ⟨S3, k3, e1, e2⟩ := dig2 so2 (st2.datA d1) d2
    exact ok v1 v2 B2 S3 H2 Q k3 e1 e2 (k B2 H2 so2 (st1.trans st2))
theorem se_cmp {op : CmpOp} (hr : Room k X.A) (ha : SE fa cl X a ca) (hb : SE fa cl X b cb) (hs : ∀ es k p, b ≠ .Set es k p) : SE fa cl X (.Compare a [op] [b] pos) (.cmp op ca cb) := by
  refine ⟨fun pins s σ H Q I q => ?_⟩
  obtain ⟨B, S, ρ, z, S', eo, so, hm, k⟩ := q
  rw [ev] at hm
  obtain ⟨x, S1, hx, hm1⟩ := Rz.bind_ok hm
  obtain ⟨y, S2, hy, hm2⟩ := Rz.bind_ok hm1
  obtain ⟨w, S3, hw, hm3⟩ := Rz.bind_ok hm2
  obtain ⟨gw, rfl⟩ := Rz.of_ok hw
  cases hm3
  obtain ⟨r, hop, ok⟩ := cmp_ok (X := X) (fa := fa) hr gw
  exact (pe_cmpR hop ha hb (notSet_marks hs)).run pins s σ H Q I (cmp_run eo so hx hy ok fun B' H' so' st => k _ B' H' so' st rfl)
theorem st_cmp {op : CmpOp} (hr : Room k X.A) (ha : SE fa cl X a ca) (hb : SE fa cl X b cb) (hs : ∀ es k p, b ≠ .Set es k p) : ST fa cl X (.Compare a [op] [b] pos) (.cmp op ca cb) := by
  refine ⟨fun pins s σ H Q I q => ?_⟩
  obtain ⟨B, S, ρ, z, S', eo, so, hm, k⟩ := q
  rw [ev] at hm
  obtain ⟨x, S1, hx, hm1⟩ := Rz.bind_ok hm
  obtain ⟨y, S2, hy, hm2⟩ := Rz.bind_ok hm1
  obtain ⟨w, S3, hw, hm3⟩ := Rz.bind_ok hm2
  obtain ⟨gw, rfl⟩ := Rz.of_ok hw
  cases hm3
  obtain ⟨r, hop, ok⟩ := cmp_ok (X := X) (fa := fa) hr gw
  exact (pt_cmpR hop ha hb (notSet_marks hs)).run pins s σ H Q I (cmp_run eo so hx hy ok fun B' H' so' st => ⟨_, rfl, k B' H' so' st⟩)
theorem chain_run {op op' : CmpOp} {x : A} {S S' : Store} {B : Bk} {ρ : Env} {σ : L2.St} {H : Hp} {z : Bool} (hr : Room k X.A) (eo : EnvOk (gx X fa) ⟨B, S, H⟩ ρ σ) (so : StoreOk (gx X fa) ⟨B, S, H⟩) {cc : C}
    (hm : ev cl false (.chain op op' ca cb cc) ρ S = .ok (.p (.bl z)) S') : ∃ r r', OpR X (compareOp op) r ∧ OpR X (compareOp op') r' ∧ ∀ Q : VK, (∀ B' H', StoreOk (gx X fa) ⟨B', S', H'⟩ → Stab (gx X fa) ⟨B, S, H⟩ ⟨B', S', H'⟩ → Q (.bl z) H') →
      tChain r r' (tE (gx X fa) (ev cl false ca)) (tE (gx X fa) (ev cl false cb)) (tE (gx X fa) (ev cl false cc)) σ H Q := by
  rw [ev] at hm
  obtain ⟨x, S1, hx, hm1⟩ := Rz.bind_ok hm
  obtain ⟨y, S2, hy, hm2⟩ := Rz.bind_ok hm1
  obtain ⟨w, S3, hw, hm3⟩ := Rz.bind_ok hm2
  obtain ⟨gw, rfl⟩ := Rz.of_ok hw
  obtain ⟨r, hop, ok⟩ := cmp_ok (X := X) (fa := fa) hr gw
  cases w with
  | true =>
    simp only [if_true] at hm3
    obtain ⟨w2, S4, hw2, hm4⟩ := Rz.bind_ok hm3
    obtain ⟨z2, S5, hz2, hm5⟩ := Rz.bind_ok hm4
    obtain ⟨gz2, rfl⟩ := Rz.of_ok hz2
    cases hm5
    obtain ⟨r', hop', ok'⟩ := cmp_ok (X := X) (fa := fa) hr gz2
    refine ⟨r, r', hop, hop', fun Q k => ?_⟩
    refine tE.use eo so hx fun v1 B1 H1 so1 st1 eo1 d1 => tE.use eo1 so1 hy fun v2 B2 H2 so2 st2 eo2 d2 => ?_
    refine ok v1 v2 B2 _ H2 _ so2 (st2.datA d1) d2 ⟨true, rfl, ?_⟩
    simp only [if_true]
    exact tE.use eo2 so2 hw2 fun v3 B3 H3 so3 st3 eo3 d3 => by
      obtain ⟨S9, k9, e1, e2⟩ := dig2 so3 (st3.datA d2) d3
      exact ok' v2 v3 B3 S9 H3 Q k9 e1 e2 (k B3 H3 so3 ((st1.trans st2).trans st3))
  | false =>
    simp only [Bool.false_eq_true, if_false] at hm3
    cases hm3
    refine ⟨r, fun _ _ _ _ => False, hop, fun _ _ _ _ _ _ _ _ _ _ _ _ f => f.elim, fun Q k => ?_⟩
    refine tE.use eo so hx fun v1 B1 H1 so1 st1 eo1 d1 => tE.use eo1 so1 hy fun v2 B2 H2 so2 st2 eo2 d2 => ?_
    refine ok v1 v2 B2 _ H2 _ so2 (st2.datA d1) d2 ⟨false, rfl, ?_⟩
    simp only [Bool.false_eq_true, if_false]
    exact k B2 H2 so2 (st1.trans st2)
theorem chain_bl {t : Bool} {op op' : CmpOp} {cc : C} {ρ : Env} {S S' : Store} {x : A} (h : ev cl t (.chain op op' ca cb cc) ρ S = .ok x S') : ev cl false (.chain op op' ca cb cc) ρ S = .ok x S' ∧ ∃ b, x = .p (.bl b) := by
  rw [ev] at h
  refine ⟨by rw [ev]; exact h, ?_⟩
  obtain ⟨x, S1, hx, hm1⟩ := Rz.bind_ok h
  obtain ⟨y, S2, hy, hm2⟩ := Rz.bind_ok hm1
  obtain ⟨w, S3, hw, hm3⟩ := Rz.bind_ok hm2
  split at hm3
  · obtain ⟨w2, S4, hw2, hm4⟩ := Rz.bind_ok hm3
    obtain ⟨z2, S5, hz2, hm5⟩ := Rz.bind_ok hm4
    cases hm5
    exact ⟨_, rfl⟩
  · cases hm3
    exact ⟨_, rfl⟩
theorem notSet_last {op op' : CmpOp} {b c : Expr} (h : ∀ es k p, c ≠ .Set es k p) : lastMarks [op, op'] [b, c] = false := by
  show lastMarks [op'] [c] = false
  exact notSet_marks h
theorem se_chain {op op' : CmpOp} {d : Expr} {cd : C} (hr : Room k X.A) (ha : SE fa cl X a ca) (hb : SE fa cl X b cb) (hd : SE fa cl X d cd) (hs : ∀ es k p, d ≠ .Set es k p) : SE fa cl X (.Compare a [op, op'] [b, d] pos) (.chain op op' ca cb cd) := by
  refine ⟨fun pins s σ H Q I q => ?_⟩
  obtain ⟨B, S, ρ, z, S', eo, so, hm, k⟩ := q
  obtain ⟨hm, b', rfl⟩ := chain_bl hm
  obtain ⟨r, r', h1, h2, rd⟩ := chain_run (x := .m 0) hr eo so hm
  exact (pe_chain h1 h2 ha hb hd (notSet_last hs)).run pins s σ H Q I (rd Q fun B' H' so' st => k _ B' H' so' st rfl)
theorem st_chain {op op' : CmpOp} {d : Expr} {cd : C} (hr : Room k X.A) (ha : SE fa cl X a ca) (hb : SE fa cl X b cb) (hd : SE fa cl X d cd) (hs : ∀ es k p, d ≠ .Set es k p) : ST fa cl X (.Compare a [op, op'] [b, d] pos) (.chain op op' ca cb cd) := by
  refine ⟨fun pins s σ H Q I q => ?_⟩
  obtain ⟨B, S, ρ, z, S', eo, so, hm, k⟩ := q
  obtain ⟨hm, b', hb'⟩ := chain_bl hm
  obtain ⟨r, r', h1, h2, rd⟩ := chain_run (x := .m 0) hr eo so hm
  exact (pt_chain h1 h2 ha hb hd (notSet_last hs)).run pins s σ H Q I (rd _ fun B' H' so' st => ⟨_, rfl, k B' H' so' st⟩)
/-! ### and, or, not -/
variable {rest : List Expr}
theorem se_andC (ha : SE fa cl X a ca) (hb : SE fa cl X (.BoolOp .And (b :: rest) pos) cb) : SE fa cl X (.BoolOp .And (a :: b :: rest) pos) (.and ca cb) := by
  refine (pe_andT ha hb).imp fun σ H Q q => ?_
  obtain ⟨B, S, ρ, z, S', eo, so, hm, k⟩ := q
  rw [ev] at hm
  simp only [Bool.false_eq_true, if_false] at hm
  obtain ⟨x, S1, hx, hm1⟩ := Rz.bind_ok hm
  obtain ⟨y, S2, hy, hm2⟩ := Rz.bind_ok hm1
  obtain ⟨d, b', rfl, hb', rfl, rfl⟩ := tst_t hy
  refine tE.use eo so hx fun v1 B1 H1 so1 st1 eo1 d1 => ⟨b', tru_dat hb' d1, ?_⟩
  cases b' with
  | true =>
    simp only [if_true]
    exact tE.use eo1 so1 hm2 fun v2 B2 H2 so2 st2 eo2 d2 => k v2 B2 H2 so2 (st1.trans st2) d2
  | false =>
    simp only [Bool.false_eq_true, if_false]
    cases hm2
    exact k v1 B1 H1 so1 st1 d1
theorem se_orC (ha : SE fa cl X a ca) (hb : SE fa cl X (.BoolOp .Or (b :: rest) pos) cb) : SE fa cl X (.BoolOp .Or (a :: b :: rest) pos) (.or ca cb) := by
  refine (pe_orT ha hb).imp fun σ H Q q => ?_
  obtain ⟨B, S, ρ, z, S', eo, so, hm, k⟩ := q
  rw [ev] at hm
  simp only [Bool.false_eq_true, if_false] at hm
  obtain ⟨x, S1, hx, hm1⟩ := Rz.bind_ok hm
  obtain ⟨y, S2, hy, hm2⟩ := Rz.bind_ok hm1
  obtain ⟨d, b', rfl, hb', rfl, rfl⟩ := tst_t hy
  refine tE.use eo so hx fun v1 B1 H1 so1 st1 eo1 d1 => ⟨b', tru_dat hb' d1, ?_⟩
  cases b' with
  | false =>
    simp only [Bool.false_eq_true, if_false]
    exact tE.use eo1 so1 hm2 fun v2 B2 H2 so2 st2 eo2 d2 => k v2 B2 H2 so2 (st1.trans st2) d2
  | true =>
    simp only [if_true]
    cases hm2
    exact k v1 B1 H1 so1 st1 d1
theorem se_one {op : BoolOp} (ha : SE fa cl X a ca) : SE fa cl X (.BoolOp op [a] pos) ca := pe_one ha
theorem sw_and1 (ha : ST fa cl X a ca) : SW fa cl X (.BoolOp .And [a] pos) ca := pw_and1 ha
theorem sw_or1 (ha : ST fa cl X a ca) : SW fa cl X (.BoolOp .Or [a] pos) ca := pw_or1 ha
theorem ev_bl {x : A} {S' : Store} {ρ : Env} {S : Store} {cc : C} (h : ev cl true cc ρ S = .ok x S') : True := trivial
theorem sw_andC (ha : ST fa cl X a ca) (hb : SW fa cl X (.BoolOp .And (b :: rest) pos) cb) : SW fa cl X (.BoolOp .And (a :: b :: rest) pos) (.and ca cb) := by
  refine (pw_and ha hb).imp fun σ H Q q => ?_
  obtain ⟨B, S, ρ, z, S', eo, so, hm, k⟩ := q
  rw [ev] at hm
  simp only [if_true] at hm
  obtain ⟨x, S1, hx, hm1⟩ := Rz.bind_ok hm
  split at hm1
  · refine tT.use eo so hx fun B1 H1 so1 st1 eo1 => ?_
    simp only [if_true]
    exact tT.use eo1 so1 hm1 fun B2 H2 so2 st2 eo2 => k B2 H2 so2 (st1.trans st2)
  · cases hm1
    refine tT.use eo so hx fun B1 H1 so1 st1 eo1 => ?_
    simp only [Bool.false_eq_true, if_false]
    exact k B1 H1 so1 st1
  · cases hm1
theorem sw_orC (ha : ST fa cl X a ca) (hb : SW fa cl X (.BoolOp .Or (b :: rest) pos) cb) : SW fa cl X (.BoolOp .Or (a :: b :: rest) pos) (.or ca cb) := by
  refine (pw_or ha hb).imp fun σ H Q q => ?_
  obtain ⟨B, S, ρ, z, S', eo, so, hm, k⟩ := q
  rw [ev] at hm
  simp only [if_true] at hm
  obtain ⟨x, S1, hx, hm1⟩ := Rz.bind_ok hm
  split at hm1
  · refine tT.use eo so hx fun B1 H1 so1 st1 eo1 => ?_
    simp only [Bool.false_eq_true, if_false]
    exact tT.use eo1 so1 hm1 fun B2 H2 so2 st2 eo2 => k B2 H2 so2 (st1.trans st2)
  · cases hm1
    refine tT.use eo so hx fun B1 H1 so1 st1 eo1 => ?_
    simp only [if_true]
    exact k B1 H1 so1 st1
  · cases hm1
theorem st_not (ha : ST fa cl X a ca) : ST fa cl X (.UnaryOp .Not a pos) (.not ca) := by
  refine (pt_not ha).imp fun σ H Q q => ?_
  obtain ⟨B, S, ρ, z, S', eo, so, hm, k⟩ := q
  rw [ev] at hm
  obtain ⟨x, S1, hx, hm1⟩ := Rz.bind_ok hm
  split at hm1
  · cases hm1
    exact tT.use eo so hx fun B1 H1 so1 st1 eo1 => k B1 H1 so1 st1
  · cases hm1
theorem not_run {pins : List (Addr × Obj)} {s : Shared} {Q : Value → Shared → Prop} (h : wpAny (model X.prog X.w) X.A (isTrue a X.env (eval a X.env)) (fun b s1 => Q (.bool (!b)) s1) X.xe s) : True := trivial
theorem se_ite {t : Expr} {ct : C} (ht : ST fa cl X t ct) (ha : SE fa cl X a ca) (hb : SE fa cl X b cb) : SE fa cl X (.IfExp t a b pos) (.ite ct ca cb) := by
  refine (pe_ifExp ht ha hb).imp fun σ H Q q => ?_
  obtain ⟨B, S, ρ, z, S', eo, so, hm, k⟩ := q
  rw [ev] at hm
  obtain ⟨x, S1, hx, hm1⟩ := Rz.bind_ok hm
  split at hm1
  · refine tT.use eo so hx fun B1 H1 so1 st1 eo1 => ?_
    simp only [if_true]
    exact tE.use eo1 so1 hm1 fun v2 B2 H2 so2 st2 eo2 d2 => k v2 B2 H2 so2 (st1.trans st2) d2
  · refine tT.use eo so hx fun B1 H1 so1 st1 eo1 => ?_
    simp only [Bool.false_eq_true, if_false]
    exact tE.use eo1 so1 hm1 fun v2 B2 H2 so2 st2 eo2 d2 => k v2 B2 H2 so2 (st1.trans st2) d2
  · cases hm1
/-! ### arguments, displays -/
variable {es : List Expr} {cs : List C}
theorem sa_nil : SA fa cl X [] [] := pa_nil.imp fun σ H Q q => by
  obtain ⟨B, S, ρ, z, S', eo, so, hm, k⟩ := q
  rw [evs] at hm
  cases hm
  exact k [] B H so Stab.refl rfl
theorem sa_cons (ha : SE fa cl X e c) (hr : SA fa cl X es cs) (hs : starEach (e :: es) X.env = (false, eval e X.env) :: starEach es X.env) : SA fa cl X (e :: es) (c :: cs) := (pa_cons ha hr hs).imp fun σ H Q q => by
  obtain ⟨B, S, ρ, z, S', eo, so, hm, k⟩ := q
  rw [evs] at hm
  obtain ⟨x, S1, hx, hm1⟩ := Rz.bind_ok hm
  obtain ⟨xs, S2, hy, hm2⟩ := Rz.bind_ok hm1
  cases hm2
  exact tE.use eo so hx fun v1 B1 H1 so1 st1 eo1 d1 => tA.use eo1 so1 hy fun vs B2 H2 so2 st2 eo2 d2 => k _ B2 H2 so2 (st1.trans st2) ⟨v1, vs, rfl, st2.datA d1, d2⟩
theorem se_tup {x1 : Nat} (h : SA fa cl X es cs) : SE fa cl X (.Tuple es x1 pos) (.tup cs) := (pe_tup h).imp fun σ H Q q => by
  obtain ⟨B, S, ρ, z, S', eo, so, hm, k⟩ := q
  rw [ev] at hm
  obtain ⟨xs, S1, hx, hm1⟩ := Rz.bind_ok hm
  split at hm1
  · rename_i ds hd
    split at hm1
    · rename_i hl
      rw [tst_f] at hm1
      cases hm1
      refine tA.use eo so hx fun vs B1 H1 so1 st1 eo1 d1 => ?_
      have dl := DatAL.datas hd d1
      exact ⟨by rw [dl.len]; exact lim_le hl, fun p hp => k _ B1 _ (so1.new hp) (st1.trans (Stab.new so1 hp)) (new_tup so1 hp dl)⟩
    · cases hm1
  · cases hm1
theorem se_lst (h : SA fa cl X es cs) : SE fa cl X (.List es pos) (.lst cs) := (pe_lst h).imp fun σ H Q q => by
  obtain ⟨B, S, ρ, z, S', eo, so, hm, k⟩ := q
  rw [ev] at hm
  obtain ⟨xs, S1, hx, hm1⟩ := Rz.bind_ok hm
  split at hm1
  · rename_i ds hd
    split at hm1
    · rename_i hl
      rw [tst_f] at hm1
      cases hm1
      refine tA.use eo so hx fun vs B1 H1 so1 st1 eo1 d1 => ?_
      have dl := DatAL.datas hd d1
      exact ⟨by rw [dl.len]; exact lim_le hl, fun p hp => k _ B1 _ (so1.new hp) (st1.trans (Stab.new so1 hp)) (new_lst so1 hp dl)⟩
    · cases hm1
  · cases hm1
theorem se_lstM (h : SA fa cl X es cs) : SE fa cl X (.List es pos) (.lstM cs) := (pe_lst h).imp fun σ H Q q => by
  obtain ⟨B, S, ρ, z, S', eo, so, hm, k⟩ := q
  rw [ev] at hm
  obtain ⟨xs, S1, hx, hm1⟩ := Rz.bind_ok hm
  split at hm1
  · rename_i ds hd
    split at hm1
    · rename_i hl
      cases hm1
      rw [Bool.and_eq_true] at hl
      refine tA.use eo so hx fun vs B1 H1 so1 st1 eo1 d1 => ?_
      have dl := DatAL.datas hd d1
      refine ⟨by rw [dl.len]; exact lim_le (of_decide_eq_true hl.1), fun p hp => k _ (B1.add p) _ (so1.alloc hp dl) (st1.trans (Stab.alloc so1 hp)) ⟨p, ?_, rfl⟩⟩
      show (B1.l ++ [p])[S1.length]? = some p
      rw [← show B1.l.length = S1.length from so1.len, List.getElem?_append_right (Nat.le_refl _), Nat.sub_self]
      rfl
    · cases hm1
  · cases hm1
/-! ### displays with opened items -/
abbrev SAS (fa : Ad) (cl : Nat → List A → Store → Rz A) (X : Cx) (es : List Expr) (fl : List Bool) (cs : List C) : Prop := PA X es (tA (gx X fa) (evsS cl fl cs))
theorem sas_nil : SAS fa cl X [] [] [] := pa_nil.imp fun σ H Q q => by
  obtain ⟨B, S, ρ, z, S', eo, so, hm, k⟩ := q
  rw [evsS] at hm
  cases hm
  exact k [] B H so Stab.refl rfl
theorem sas_cons {fl : List Bool} (ha : SE fa cl X e c) (hr : SAS fa cl X es fl cs) (hs : starEach (e :: es) X.env = (false, eval e X.env) :: starEach es X.env) : SAS fa cl X (e :: es) (false :: fl) (c :: cs) := (pa_cons ha hr hs).imp fun σ H Q q => by
  obtain ⟨B, S, ρ, z, S', eo, so, hm, k⟩ := q
  rw [evsS] at hm
  try dsimp only at hm
  obtain ⟨x, S1, hx, hm1⟩ := Rz.bind_ok hm
  obtain ⟨xs, S2, hy, hm2⟩ := Rz.bind_ok hm1
  cases hm2
  exact tE.use eo so hx fun v1 B1 H1 so1 st1 eo1 d1 => tA.use eo1 so1 hy fun vs B2 H2 so2 st2 eo2 d2 => k _ B2 H2 so2 (st1.trans st2) ⟨v1, vs, rfl, st2.datA d1, d2⟩
theorem sq_ok {g : G} {B : Bk} {S : Store} {H : Hp} {x : A} {v : V} {ds : List D} (so : StoreOk g ⟨B, S, H⟩) (d : DatA g ⟨B, S, H⟩ x v) (h : sqF x S = some ds) : ∃ p vs, v = V.ref p ∧ (SqT g.K H p vs ∨ SqL g.K H p vs) ∧ DatL g ⟨B, S, H⟩ ds vs := by
  unfold sqF at h
  split at h
  · cases h
    obtain ⟨a, vs, rfl, t, l⟩ := d
    exact ⟨a, vs, rfl, .inl t, l⟩
  · cases h
    obtain ⟨a, vs, rfl, t, _, l⟩ := d
    exact ⟨a, vs, rfl, .inr (SqL.of t), l⟩
  · rename_i j
    split at h
    · rename_i es hs
      cases h
      obtain ⟨a, hb, rfl⟩ := d
      obtain ⟨ws, e, l⟩ := so.ob j a _ hb hs
      exact ⟨a, ws, rfl, .inr (SqL.of e), l⟩
    · cases h
  · cases h
theorem sas_star {fl : List Bool} {p : Pos} (ha : SE fa cl X e c) (hr : SAS fa cl X es fl cs) (hs : starEach (.Starred e p :: es) X.env = (true, eval e X.env) :: starEach es X.env) : SAS fa cl X (.Starred e p :: es) (true :: fl) (c :: cs) := (StX.pa_star ha hr hs).imp fun σ H Q q => by
  obtain ⟨B, S, ρ, z, S', eo, so, hm, k⟩ := q
  rw [evsS] at hm
  try dsimp only at hm
  obtain ⟨x, S1, hx, hm1⟩ := Rz.bind_ok hm
  split at hm1
  · rename_i ds hd
    obtain ⟨xs, S2, hy, hm2⟩ := Rz.bind_ok hm1
    cases hm2
    refine tE.use eo so hx fun v1 B1 H1 so1 st1 eo1 d1 => ?_
    obtain ⟨p, us, rfl, hq, dl⟩ := sq_ok so1 d1 hd
    refine ⟨p, us, rfl, hq, tA.use eo1 so1 hy fun vs B2 H2 so2 st2 eo2 d2 => k _ B2 H2 so2 (st1.trans st2) ?_⟩
    have := (st2.datL dl).ofP
    exact this.app d2
  · cases hm1
theorem se_tupS {x1 : Nat} {fl : List Bool} (h : SAS fa cl X es fl cs) : SE fa cl X (.Tuple es x1 pos) (.tupS fl cs) := (pe_tup h).imp fun σ H Q q => by
  obtain ⟨B, S, ρ, z, S', eo, so, hm, k⟩ := q
  rw [ev] at hm
  obtain ⟨xs, S1, hx, hm1⟩ := Rz.bind_ok hm
  split at hm1
  · rename_i ds hd
    split at hm1
    · rename_i hl
      rw [tst_f] at hm1
      cases hm1
      refine tA.use eo so hx fun vs B1 H1 so1 st1 eo1 d1 => ?_
      have dl := DatAL.datas hd d1
      exact ⟨by rw [dl.len]; exact lim_le hl, fun p hp => k _ B1 _ (so1.new hp) (st1.trans (Stab.new so1 hp)) (new_tup so1 hp dl)⟩
    · cases hm1
  · cases hm1
theorem se_lstS {fl : List Bool} (h : SAS fa cl X es fl cs) : SE fa cl X (.List es pos) (.lstS fl cs) := (pe_lst h).imp fun σ H Q q => by
  obtain ⟨B, S, ρ, z, S', eo, so, hm, k⟩ := q
  rw [ev] at hm
  obtain ⟨xs, S1, hx, hm1⟩ := Rz.bind_ok hm
  split at hm1
  · rename_i ds hd
    split at hm1
    · rename_i hl
      rw [tst_f] at hm1
      cases hm1
      refine tA.use eo so hx fun vs B1 H1 so1 st1 eo1 d1 => ?_
      have dl := DatAL.datas hd d1
      exact ⟨by rw [dl.len]; exact lim_le hl, fun p hp => k _ B1 _ (so1.new hp) (st1.trans (Stab.new so1 hp)) (new_lst so1 hp dl)⟩
    · cases hm1
  · cases hm1
/-! ### items, slices -/
theorem se_sub (ha : SE fa cl X a ca) (hb : SE fa cl X b cb) (hs : PlainIx b) : SE fa cl X (.Subscript a b pos) (.sub ca cb) := by
  refine ⟨fun pins s σ H Q I q => ?_⟩
  obtain ⟨B, S, ρ, z, S', eo, so, hm, k⟩ := q
  rw [ev] at hm
  obtain ⟨x, S1, hx, hm1⟩ := Rz.bind_ok hm
  obtain ⟨y, S2, hy, hm2⟩ := Rz.bind_ok hm1
  obtain ⟨w, S3, hw, hm3⟩ := Rz.bind_ok hm2
  obtain ⟨gw, rfl⟩ := Rz.of_ok hw
  rw [tst_f] at hm3
  cases hm3
  obtain ⟨r, hr, ok⟩ := sub_ok (X := X) (fa := fa) gw
  refine (pe_ix hr ha hb hs).run pins s σ H Q I ?_
  exact tE.use eo so hx fun v1 B1 H1 so1 st1 eo1 d1 => tE.use eo1 so1 hy fun v2 B2 H2 so2 st2 eo2 d2 => ok v1 v2 B2 H2 Q so2 (st2.datA d1) d2 fun u du => k u B2 H2 so2 (st1.trans st2) du
theorem slc_fin {x z : D} {lo hi : Option Int} {v : V} {B B2 : Bk} {S S2 : Store} {H H2 : Hp} {Q : VK} {r : V → Option Int → Option Int → Hp → VK → Prop}
    (ok : ∀ v B S H (Q : VK), StoreOk (gx X fa) ⟨B, S, H⟩ → Dat (gx X fa) ⟨B, S, H⟩ x v → (∀ u H', StoreOk (gx X fa) ⟨B, S, H'⟩ → Stab (gx X fa) ⟨B, S, H⟩ ⟨B, S, H'⟩ → Dat (gx X fa) ⟨B, S, H'⟩ z u → Q u H') → r v lo hi H Q)
    (so : StoreOk (gx X fa) ⟨B2, S2, H2⟩) (st : Stab (gx X fa) ⟨B, S, H⟩ ⟨B2, S2, H2⟩) (d : Dat (gx X fa) ⟨B2, S2, H2⟩ x v)
    (k : ∀ v B' H', StoreOk (gx X fa) ⟨B', S2, H'⟩ → Stab (gx X fa) ⟨B, S, H⟩ ⟨B', S2, H'⟩ → DatA (gx X fa) ⟨B', S2, H'⟩ (.p z) v → Q v H') : r v lo hi H2 Q :=
  ok v B2 S2 H2 Q so d fun u H' so' st' du => k u B2 H' so' (st.trans st') du
theorem se_slcL {p2 : Pos} (ha : SE fa cl X a ca) (hb : SE fa cl X b cb) : SE fa cl X (.Subscript a (.Slice (some b) none none p2) pos) (.slcL ca cb) := by
  refine ⟨fun pins s σ H Q I q => ?_⟩
  obtain ⟨B, S, ρ, z, S', eo, so, hm, k⟩ := q
  rw [ev] at hm
  obtain ⟨x, S1, hx, hm1⟩ := Rz.bind_ok hm
  obtain ⟨y, S2, hy, hm2⟩ := Rz.bind_ok hm1
  split at hm2
  · rename_i x l
    obtain ⟨w, S3, hw, hm3⟩ := Rz.bind_ok hm2
    obtain ⟨gw, rfl⟩ := Rz.of_ok hw
    rw [tst_f] at hm3
    cases hm3
    obtain ⟨r, hr, ok⟩ := slc_ok (X := X) (fa := fa) gw
    refine (pe_slice hr ha (po_some hb) po_none).run pins s σ H Q I ?_
    exact tE.use eo so hx fun v1 B1 H1 so1 st1 eo1 d1 => tE.use eo1 so1 hy fun v2 B2 H2 so2 st2 eo2 d2 => ⟨l, d2, slc_fin ok so2 (st1.trans st2) (st2.dat _ _ d1) k⟩
  · cases hm2
theorem se_slcH {p2 : Pos} (ha : SE fa cl X a ca) (hb : SE fa cl X b cb) : SE fa cl X (.Subscript a (.Slice none (some b) none p2) pos) (.slcH ca cb) := by
  refine ⟨fun pins s σ H Q I q => ?_⟩
  obtain ⟨B, S, ρ, z, S', eo, so, hm, k⟩ := q
  rw [ev] at hm
  obtain ⟨x, S1, hx, hm1⟩ := Rz.bind_ok hm
  obtain ⟨y, S2, hy, hm2⟩ := Rz.bind_ok hm1
  split at hm2
  · rename_i x l
    obtain ⟨w, S3, hw, hm3⟩ := Rz.bind_ok hm2
    obtain ⟨gw, rfl⟩ := Rz.of_ok hw
    rw [tst_f] at hm3
    cases hm3
    obtain ⟨r, hr, ok⟩ := slc_ok (X := X) (fa := fa) gw
    refine (pe_slice hr ha po_none (po_some hb)).run pins s σ H Q I ?_
    exact tE.use eo so hx fun v1 B1 H1 so1 st1 eo1 d1 => tE.use eo1 so1 hy fun v2 B2 H2 so2 st2 eo2 d2 => ⟨l, d2, slc_fin ok so2 (st1.trans st2) (st2.dat _ _ d1) k⟩
  · cases hm2
theorem se_slcB {p2 : Pos} {d : Expr} {cd : C} (ha : SE fa cl X a ca) (hb : SE fa cl X b cb) (hd : SE fa cl X d cd) : SE fa cl X (.Subscript a (.Slice (some b) (some d) none p2) pos) (.slcB ca cb cd) := by
  refine ⟨fun pins s σ H Q I q => ?_⟩
  obtain ⟨B, S, ρ, z, S', eo, so, hm, k⟩ := q
  rw [ev] at hm
  obtain ⟨x, S1, hx, hm1⟩ := Rz.bind_ok hm
  obtain ⟨y, S2, hy, hm2⟩ := Rz.bind_ok hm1
  obtain ⟨y2, S2', hy2, hm3⟩ := Rz.bind_ok hm2
  split at hm3
  · rename_i x l h
    obtain ⟨w, S3, hw, hm4⟩ := Rz.bind_ok hm3
    obtain ⟨gw, rfl⟩ := Rz.of_ok hw
    rw [tst_f] at hm4
    cases hm4
    obtain ⟨r, hr, ok⟩ := slc_ok (X := X) (fa := fa) gw
    refine (pe_slice hr ha (po_some hb) (po_some hd)).run pins s σ H Q I ?_
    exact tE.use eo so hx fun v1 B1 H1 so1 st1 eo1 d1 => tE.use eo1 so1 hy fun v2 B2 H2 so2 st2 eo2 d2 => ⟨l, d2, tE.use eo2 so2 hy2 fun v3 B3 H3 so3 st3 eo3 d3 => ⟨h, d3, slc_fin ok so3 ((st1.trans st2).trans st3) (st3.dat _ _ (st2.dat _ _ d1)) k⟩⟩
  · cases hm3
/-! ### built-in calls -/
theorem se_blt {f : Blt} {p : Pos} {k : Nat} (hc : X.calm = true) (hro : Room k X.A) (hg : Gl X f.nm) (hmg : X.mg f.nm = none) (h : SA fa cl X (e :: es) (c :: cs)) (he : starEach (e :: es) X.env = (false, eval e X.env) :: starEach es X.env) (hpl : (backTo pos (starEach es X.env)).any (·.1) = false) :
    SE fa cl X (.Call (.Name f.nm p) (e :: es) [] pos) (.blt f (c :: cs)) := by
  refine ⟨fun pins s σ H Q I q => ?_⟩
  obtain ⟨B, S, ρ, z, S', eo, so, hm, k⟩ := q
  rw [ev] at hm
  obtain ⟨xs, S1, hx, hm1⟩ := Rz.bind_ok hm
  obtain ⟨w, S3, hw, hm2⟩ := Rz.bind_ok hm1
  obtain ⟨gw, rfl⟩ := Rz.of_ok hw
  rw [tst_f] at hm2
  cases hm2
  obtain ⟨r, hr, ok⟩ := blt_ok (X := X) (fa := fa) hc hro gw
  have rd : tCB r (tA (gx X fa) (evs cl (c :: cs))) σ H Q := tA.use eo so hx fun vs B1 H1 so1 st1 eo1 d1 => ok vs B1 H1 Q so1 d1 fun u H' so' st' du => k u B1 H' so' (st1.trans st') du
  have hv : (∃ id, f.val = .builtin id) ∨ ∃ T, f.val = .type T := by cases f <;> first | exact .inl ⟨_, rfl⟩ | exact .inr ⟨_, rfl⟩
  rcases hv with ⟨id, hv⟩ | ⟨T, hv⟩
  · rw [hv] at hr
    exact (pe_callB hr hg hmg (f.boot.trans (by rw [hv])) h f.nn f.nd he hpl).run pins s σ H Q I rd
  · rw [hv] at hr
    exact (pe_callTy hr hg hmg (f.boot.trans (by rw [hv])) h f.nn f.nd he hpl).run pins s σ H Q I rd
/-! ### texts -/
theorem se_fmt (ha : SE fa cl X a ca) : SE fa cl X (.FormattedValue a (-1) none pos) (.fmt ca) := (pe_fmt ha).imp fun σ H Q q => by
  obtain ⟨B, S, ρ, z, S', eo, so, hm, k⟩ := q
  rw [ev] at hm
  obtain ⟨x, S1, hx, hm1⟩ := Rz.bind_ok hm
  obtain ⟨w, S3, hw, hm2⟩ := Rz.bind_ok hm1
  obtain ⟨gw, rfl⟩ := Rz.of_ok hw
  rw [tst_f] at hm2
  cases hm2
  refine tE.use eo so hx fun v1 B1 H1 so1 st1 eo1 d1 => ?_
  unfold fmtF at gw
  split at gw
  · rename_i y
    split at gw
    · rename_i hl
      cases gw
      exact .inl ⟨y, d1, lim_le hl, k _ B1 H1 so1 st1 rfl⟩
    · cases gw
  · rename_i i
    split at gw
    · rename_i hl
      cases gw
      exact .inr ⟨i, d1, hl, k _ B1 H1 so1 st1 rfl⟩
    · cases gw
  · cases gw
/-- the parts of an f-string -/
inductive SJ (fa : Ad) (cl : Nat → List A → Store → Rz A) (X : Cx) : List Expr → List C → Prop where
  | nil : SJ fa cl X [] []
  | cons {e : Expr} {c : C} {es : List Expr} {cs : List C} (h : SE fa cl X e c) (r : SJ fa cl X es cs) : SJ fa cl X (e :: es) (c :: cs)
theorem SJ.pj : ∀ {es : List Expr} {cs : List C}, SJ fa cl X es cs → PJ X es (cs.map fun c => tE (gx X fa) (ev cl false c))
  | _, _, .nil => .nil
  | _, _, .cons h r => .cons h r.pj
theorem tJs_run {out : Str} {S' : Store} {σ : L2.St} {ρ : Env} : ∀ (cs : List C) (acc : Str) (S : Store) (B : Bk) (H : Hp) (xs : List A) (Q : Str → Hp → Prop), EnvOk (gx X fa) ⟨B, S, H⟩ ρ σ → StoreOk (gx X fa) ⟨B, S, H⟩ → evs cl cs ρ S = .ok xs S' → catF acc xs = some out →
    (∀ B' H', StoreOk (gx X fa) ⟨B', S', H'⟩ → Stab (gx X fa) ⟨B, S, H⟩ ⟨B', S', H'⟩ → Q out H') → tJs (cs.map fun c => tE (gx X fa) (ev cl false c)) acc σ H Q
  | [], acc, S, B, H, xs, Q, eo, so, hx, hc, k => by
    rw [evs] at hx
    cases hx
    cases hc
    exact k B H so Stab.refl
  | c :: cs, acc, S, B, H, xs, Q, eo, so, hx, hc, k => by
    rw [evs] at hx
    obtain ⟨x, S1, h1, hx⟩ := Rz.bind_ok hx
    obtain ⟨ys, S2, h2, hx⟩ := Rz.bind_ok hx
    cases hx
    show tE (gx X fa) (ev cl false c) σ H _
    refine tE.use eo so h1 fun v1 B1 H1 so1 st1 eo1 d1 => ?_
    cases x with
    | m j => simp [catF] at hc
    | p d =>
      cases d with
      | str y =>
        rw [catF] at hc
        split at hc
        · rename_i hl
          refine ⟨y, d1, ?_, tJs_run cs (acc ++ y) S1 B1 H1 ys Q eo1 so1 h2 hc fun B' H' so' st' => k B' H' so' (st1.trans st')⟩
          have : (acc ++ y).length = acc.length + y.length := by
            first | exact Str.length_append .. | (show (acc.cps ++ y.cps).size = _; exact Array.size_append ..)
          rw [this]
          exact lim_le hl
        · cases hc
      | _ => simp [catF] at hc
theorem se_fstr {v1 v2 : Expr} {es : List Expr} (h : SJ fa cl X (v1 :: v2 :: es) cs) : SE fa cl X (.JoinedStr (v1 :: v2 :: es) pos) (.fstr cs) := (pe_joined h.pj).imp fun σ H Q q => by
  obtain ⟨B, S, ρ, z, S', eo, so, hm, k⟩ := q
  rw [ev] at hm
  obtain ⟨xs, S1, hx, hm1⟩ := Rz.bind_ok hm
  obtain ⟨w, S3, hw, hm2⟩ := Rz.bind_ok hm1
  obtain ⟨gw, rfl⟩ := Rz.of_ok hw
  rw [tst_f] at hm2
  cases hm2
  exact tJs_run cs Str.empty S B H xs _ eo so hx gw fun B' H' so' st' => k _ B' H' so' st' rfl
end
end Fw

/-! Tests and values, calls, targets, what is walked, comprehensions. -/
namespace Fw
open PySem PySem.Spec PyProof.Rows L2
theorem tst_bl {t b : Bool} {S : Store} : tst t (.p (.bl b)) S = .ok (.p (.bl b)) S := by cases t <;> rfl
theorem bind_tst {r : Rz A} : (r.bind fun x S => tst true x S) = r.bind (tst true) := rfl
theorem Rz.assoc {α β γ : Type} (r : Rz α) (f : α → Store → Rz β) (g : β → Store → Rz γ) : (r.bind f).bind g = r.bind fun a S => (f a S).bind g := by cases r <;> rfl
theorem Rz.ext {α β : Type} (r : Rz α) {f g : α → Store → Rz β} (h : ∀ a S, f a S = g a S) : r.bind f = r.bind g := by
  cases r with
  | ok a S => exact h a S
  | ex e S => rfl
  | bad => rfl
theorem tst_two (r : Rz A) : (r.bind fun z S => tst true z S) = (r.bind fun z S => tst false z S).bind (tst true) := by cases r <;> rfl
/-- a test is the truth of the value -/
theorem ev_tst {cl : Nat → List A → Store → Rz A} : ∀ (c : C) (ρ : Env) (S : Store), ev cl true c ρ S = (ev cl false c ρ S).bind (tst true)
  | .var i, ρ, S => by
    rw [ev, ev]
    split <;> rfl
  | .cst d, ρ, S => by
    rw [ev, ev]
    rfl
  | .fld ci o n, ρ, S => by
    rw [ev, ev, Rz.assoc]
    refine Rz.ext _ fun x S1 => ?_
    split
    · split
      · rw [Rz.assoc]
        rfl
      · rfl
    · rfl
  | .ccst _ _ d, ρ, S => by
    rw [ev, ev]
    rfl
  | .app h cs, ρ, S => by
    rw [ev, ev]
    exact tst_two _
  | .meth ci fi m o cs ds, ρ, S => by
    rw [ev, ev]
    exact tst_two _
  | .whyA h cs, ρ, S => by
    rw [ev, ev]
    exact tst_two _
  | .whyS ci fi m o cs ds, ρ, S => by
    rw [ev, ev]
    exact tst_two _
  | .methK ci fi m o ks asm, ρ, S => by
    rw [ev, ev]
    exact tst_two _
  | .whyK ci fi m o ks asm, ρ, S => by
    rw [ev, ev]
    exact tst_two _
  | .bin op a b, ρ, S => by
    rw [ev, ev, Rz.assoc]
    refine Rz.ext _ fun x S1 => ?_
    rw [Rz.assoc]
    refine Rz.ext _ fun y S2 => ?_
    cases x <;> cases y <;> first | rfl | (dsimp only; rw [Rz.assoc]; rfl)
  | .neg a, ρ, S => by
    rw [ev, ev, Rz.assoc]
    refine Rz.ext _ fun x S1 => ?_
    split <;> rfl
  | .cmp op a b, ρ, S => by
    rw [ev, ev, Rz.assoc]
    refine Rz.ext _ fun x S1 => ?_
    rw [Rz.assoc]
    refine Rz.ext _ fun y S2 => ?_
    rw [Rz.assoc]
    rfl
  | .chain op op' a b c, ρ, S => by
    rw [ev, ev, Rz.assoc]
    refine Rz.ext _ fun x S1 => ?_
    rw [Rz.assoc]
    refine Rz.ext _ fun y S2 => ?_
    rw [Rz.assoc]
    refine Rz.ext _ fun z S3 => ?_
    split
    · rw [Rz.assoc]
      refine Rz.ext _ fun w S4 => ?_
      rw [Rz.assoc]
      rfl
    · rfl
  | .and a b, ρ, S => by
    rw [ev, ev]
    simp only [if_true, Bool.false_eq_true, if_false]
    rw [ev_tst a, Rz.assoc, Rz.assoc]
    refine Rz.ext _ fun x S1 => ?_
    rw [Rz.assoc]
    cases h : tst true x S1 with
    | ex e S => rfl
    | bad => rfl
    | ok y S2 =>
      obtain ⟨d, b', rfl, hb, rfl, rfl⟩ := tst_t h
      cases b' with
      | true => exact ev_tst b ρ _
      | false => exact h.symm
  | .or a b, ρ, S => by
    rw [ev, ev]
    simp only [if_true, Bool.false_eq_true, if_false]
    rw [ev_tst a, Rz.assoc, Rz.assoc]
    refine Rz.ext _ fun x S1 => ?_
    rw [Rz.assoc]
    cases h : tst true x S1 with
    | ex e S => rfl
    | bad => rfl
    | ok y S2 =>
      obtain ⟨d, b', rfl, hb, rfl, rfl⟩ := tst_t h
      cases b' with
      | false => exact ev_tst b ρ _
      | true => exact h.symm
  | .not a, ρ, S => by
    rw [ev, ev, Rz.assoc]
    refine Rz.ext _ fun x S1 => ?_
    split <;> rfl
  | .ite c a b, ρ, S => by
    rw [ev, ev, Rz.assoc]
    refine Rz.ext _ fun x S1 => ?_
    split
    · exact ev_tst a ρ _
    · exact ev_tst b ρ _
    · rfl
  | .tup cs, ρ, S => by
    rw [ev, ev, Rz.assoc]
    refine Rz.ext _ fun x S1 => ?_
    split
    · split <;> rfl
    · rfl
  | .tupS fl cs, ρ, S => by
    rw [ev, ev, Rz.assoc]
    refine Rz.ext _ fun x S1 => ?_
    split
    · split <;> rfl
    · rfl
  | .lstS fl cs, ρ, S => by
    rw [ev, ev, Rz.assoc]
    refine Rz.ext _ fun x S1 => ?_
    split
    · split <;> rfl
    · rfl
  | .lst cs, ρ, S => by
    rw [ev, ev, Rz.assoc]
    refine Rz.ext _ fun x S1 => ?_
    split
    · split <;> rfl
    · rfl
  | .lstM cs, ρ, S => by
    rw [ev, ev, Rz.assoc]
    refine Rz.ext _ fun x S1 => ?_
    split
    · rename_i ds _
      cases h : decide (ds.length ≤ LIM) <;> simp [h] <;> rfl
    · rfl
  | .sub a b, ρ, S => by
    rw [ev, ev, Rz.assoc]
    refine Rz.ext _ fun x S1 => ?_
    rw [Rz.assoc]
    refine Rz.ext _ fun y S2 => ?_
    rw [Rz.assoc]
    rfl
  | .slcL a b, ρ, S => by
    rw [ev, ev, Rz.assoc]
    refine Rz.ext _ fun x S1 => ?_
    rw [Rz.assoc]
    refine Rz.ext _ fun y S2 => ?_
    split
    · rw [Rz.assoc]
      rfl
    · rfl
  | .slcH a b, ρ, S => by
    rw [ev, ev, Rz.assoc]
    refine Rz.ext _ fun x S1 => ?_
    rw [Rz.assoc]
    refine Rz.ext _ fun y S2 => ?_
    split
    · rw [Rz.assoc]
      rfl
    · rfl
  | .slcB a b c, ρ, S => by
    rw [ev, ev, Rz.assoc]
    refine Rz.ext _ fun x S1 => ?_
    rw [Rz.assoc]
    refine Rz.ext _ fun y S2 => ?_
    rw [Rz.assoc]
    refine Rz.ext _ fun w S3 => ?_
    split
    · rw [Rz.assoc]
      rfl
    · rfl
  | .call f cs ds, ρ, S => by
    rw [ev, ev, Rz.assoc]
    refine Rz.ext _ fun x S1 => ?_
    rw [Rz.assoc]
    rfl
  | .callK f cs ks asm, ρ, S => by
    rw [ev, ev, Rz.assoc]
    refine Rz.ext _ fun x S1 => ?_
    rw [Rz.assoc]
    refine Rz.ext _ fun y S2 => ?_
    rw [Rz.assoc]
    refine Rz.ext _ fun w S3 => ?_
    rw [Rz.assoc]
    rfl
  | .blt b cs, ρ, S => by
    rw [ev, ev, Rz.assoc]
    refine Rz.ext _ fun x S1 => ?_
    rw [Rz.assoc]
    rfl
  | .mth m o cs, ρ, S => by
    rw [ev, ev, Rz.assoc]
    refine Rz.ext _ fun x S1 => ?_
    split
    · rw [Rz.assoc]
      refine Rz.ext _ fun y S2 => ?_
      rw [Rz.assoc]
      rfl
    · rfl
  | .comp k its tg own none e, ρ, S => by
    rw [ev, ev, Rz.assoc]
    refine Rz.ext _ fun x S1 => ?_
    rw [Rz.assoc]
    refine Rz.ext _ fun y S2 => ?_
    rw [Rz.assoc]
    refine Rz.ext _ fun w S3 => ?_
    split <;> rfl
  | .comp k its tg own (some c) e, ρ, S => by
    rw [ev, ev, Rz.assoc]
    refine Rz.ext _ fun x S1 => ?_
    rw [Rz.assoc]
    refine Rz.ext _ fun y S2 => ?_
    rw [Rz.assoc]
    refine Rz.ext _ fun w S3 => ?_
    split <;> rfl
  | .fstr cs, ρ, S => by
    rw [ev, ev, Rz.assoc]
    refine Rz.ext _ fun x S1 => ?_
    rw [Rz.assoc]
    rfl
  | .callV i nf cs, ρ, S => by
    rw [ev, ev]
    split
    · split
      · rw [Rz.assoc]
        refine Rz.ext _ fun x S1 => ?_
        rw [Rz.assoc]
        rfl
      · rfl
    · rfl
  | .maxD a d, ρ, S => by
    rw [ev, ev, Rz.assoc]
    refine Rz.ext _ fun x S1 => ?_
    rw [Rz.assoc]
    refine Rz.ext _ fun y S2 => ?_
    rw [Rz.assoc]
    rfl
  | .fmt c, ρ, S => by
    rw [ev, ev, Rz.assoc]
    refine Rz.ext _ fun x S1 => ?_
    rw [Rz.assoc]
    rfl
  | .isiT a cs, ρ, S => by
    rw [ev, ev, Rz.assoc]
    refine Rz.ext _ fun x S1 => ?_
    split <;> rfl
section
variable {fa : Ad} {cl : Nat → List A → Store → Rz A} {X : Cx} {e a b : Expr} {c ca cb : C} {pos : Pos} {k : Nat} {es : List Expr} {cs : List C}
theorem se_not (ha : SE fa cl X a ca) : SE fa cl X (.UnaryOp .Not a pos) (.not ca) := (pe_notT ha).imp fun σ H Q q => by
  obtain ⟨B, S, ρ, z, S', eo, so, hm, k⟩ := q
  rw [ev, ev_tst, Rz.assoc] at hm
  obtain ⟨x, S1, hx, hm1⟩ := Rz.bind_ok hm
  obtain ⟨y, S2, hy, hm2⟩ := Rz.bind_ok hm1
  obtain ⟨d, b', rfl, hb', rfl, rfl⟩ := tst_t hy
  cases hm2
  exact tE.use eo so hx fun v1 B1 H1 so1 st1 eo1 d1 => ⟨b', tru_dat hb' d1, k _ B1 H1 so1 st1 rfl⟩
/-! ### calls -/
def spF (g : G) (np : Nat) (m : List A → Store → Rz A) : Sp := fun vs H Q _ => ∃ B S xs x S', StoreOk g ⟨B, S, H⟩ ∧ DatAL g ⟨B, S, H⟩ xs vs ∧ xs.length = np ∧ m xs S = .ok x S' ∧
  ∀ v B' H', StoreOk g ⟨B', S', H'⟩ → Stab g ⟨B, S, H⟩ ⟨B', S', H'⟩ → DatA g ⟨B', S', H'⟩ x v → Q v H'
theorem se_call {f : Addr} {fd : FuncData} {ps : List Str} {fi : Nat} {x : Str} {p : Pos} {dsV : List Value} {dvs : List V} {ds : List D} {np : Nat} (F : FnOk X.prog X.w X.K X.mg X.base (L2.CX X.prog X.w) k f fd ps (spF (gx X fa) np (cl fi))) (hr : Room k X.A) (hg : Gl X x) (hmg : X.mg x = some (.ref f))
    (hk : PySem.W.keepIn X.K (.ref f) = true) (hb : Binds X.K fd ps dsV) (hd : Vals dvs dsV) (hdd : ∀ z, DatL (gx X fa) z ds dvs) (hn : cs.length + ds.length + 1 = np) (hx : Passes (L2.CX X.prog X.w) X E0) (ha : SA fa cl X (e :: es) (c :: cs))
    (hdb : (x == ("__debug__" : Str)) = false) (he : starEach (e :: es) X.env = (false, eval e X.env) :: starEach es X.env) (hpl : (backTo pos (starEach es X.env)).any (·.1) = false) : SE fa cl X (.Call (.Name x p) (e :: es) [] pos) (.call fi (c :: cs) ds) :=
  (pe_call F hr hg hmg hk hb hd hx ha hdb he hpl).imp fun σ H Q q => by
    obtain ⟨B, S, ρ, z, S', eo, so, hm, k⟩ := q
    rw [ev] at hm
    obtain ⟨xs, S1, hxs, hm1⟩ := Rz.bind_ok hm
    obtain ⟨y, S2, hy, hm2⟩ := Rz.bind_ok hm1
    rw [tst_f] at hm2
    cases hm2
    refine tA.use eo so hxs fun vs B1 H1 so1 st1 eo1 d1 => ⟨B1, S1, xs ++ ds.map A.p, z, S', so1, d1.app (hdd _).ofP, ?_, hy, fun v B' H' so' st' dv => k v B' H' so' (st1.trans st') dv⟩
    have : xs.length = (c :: cs).length := by
      have l : ∀ (cs : List C) (S S1 : Store) (xs : List A), evs cl cs ρ S = .ok xs S1 → xs.length = cs.length := by
        intro cs
        induction cs with
        | nil => intro S S1 xs h; rw [evs] at h; cases h; rfl
        | cons c cs ih =>
          intro S S1 xs h
          rw [evs] at h
          obtain ⟨x, S2, _, h1⟩ := Rz.bind_ok h
          obtain ⟨ys, S3, h2, h3⟩ := Rz.bind_ok h1
          cases h3
          rw [List.length_cons, List.length_cons, ih _ _ _ h2]
      exact l _ _ _ _ hxs
    rw [List.length_append, List.length_map, this, List.length_cons]
    omega
theorem se_call0 {f : Addr} {fd : FuncData} {ps : List Str} {fi : Nat} {x : Str} {p : Pos} {dsV : List Value} {dvs : List V} {ds : List D} {np : Nat} (F : FnOk X.prog X.w X.K X.mg X.base (L2.CX X.prog X.w) k f fd ps (spF (gx X fa) np (cl fi))) (hr : Room k X.A) (hg : Gl X x) (hmg : X.mg x = some (.ref f))
    (hk : PySem.W.keepIn X.K (.ref f) = true) (hb : Binds X.K fd ps dsV) (hd : Vals dvs dsV) (hdd : ∀ z, DatL (gx X fa) z ds dvs) (hn : ds.length = np) (hx : Passes (L2.CX X.prog X.w) X E0)
    (hdb : (x == ("__debug__" : Str)) = false) : SE fa cl X (.Call (.Name x p) [] [] pos) (.call fi [] ds) :=
  (pe_call0 F hr hg hmg hk hb hd hx hdb).imp fun σ H Q q => by
    obtain ⟨B, S, ρ, z, S', eo, so, hm, k⟩ := q
    rw [ev, evs] at hm
    obtain ⟨xs, S1, hxs, hm1⟩ := Rz.bind_ok hm
    cases hxs
    obtain ⟨y, S2, hy, hm2⟩ := Rz.bind_ok hm1
    rw [tst_f] at hm2
    cases hm2
    exact ⟨B, S, [] ++ ds.map A.p, z, S', so, (hdd _).ofP, by rw [List.nil_append, List.length_map]; exact hn, hy, fun v B' H' so' st' dv => k v B' H' so' st' dv⟩
/-- how a call with keywords binds -/
def KBA (g : G) (fd : FuncData) (ps : List Str) (n : Nat) (ks : List Str) (asm : List (Nat ⊕ D)) : Prop :=
  ∀ (s : Shared) (us ws : List Value) (vs zs : List V) (xs ys qs : List A) (z : Z), g.K.In s.heap → DatAL g z xs vs → DatAL g z ys zs → Vals vs us → Vals zs ws → asmF asm (xs ++ ys) = some qs → us.length = n → ws.length = ks.length →
    ∃ os rs, BindsTo s fd ⟨us, ks.zip ws⟩ (ps.zip os) ∧ Vals rs os ∧ DatAL g z qs rs ∧ rs.length = ps.length
/-- the keywords' values, from the left -/
inductive SK (fa : Ad) (cl : Nat → List A → Store → Rz A) (X : Cx) : List Keyword → List C → Prop where
  | nil : SK fa cl X [] []
  | cons {nm : Option Str} {e : Expr} {p : Pos} {c : C} {ks : List Keyword} {cs : List C} (h : SE fa cl X e c) (r : SK fa cl X ks cs) : SK fa cl X (⟨nm, e, p⟩ :: ks) (c :: cs)
theorem SK.pk : ∀ {kws : List Keyword} {cs : List C}, SK fa cl X kws cs → PK X kws (tA (gx X fa) (evs cl cs))
  | _, _, .nil => ⟨fun pos pins s σ H Q I h => pk_nil.run pos pins s σ H Q I (by
      obtain ⟨B, S, ρ, z, S', eo, so, hm, k⟩ := h
      rw [evs] at hm
      cases hm
      exact k [] B H so Stab.refl rfl)⟩
  | _, _, .cons h r => ⟨fun pos pins s σ H Q I h' => (pk_cons h r.pk).run pos pins s σ H Q I (by
      obtain ⟨B, S, ρ, z, S', eo, so, hm, k⟩ := h'
      rw [evs] at hm
      obtain ⟨x, S1, hx, hm1⟩ := Rz.bind_ok hm
      obtain ⟨xs, S2, hy, hm2⟩ := Rz.bind_ok hm1
      cases hm2
      exact tE.use eo so hx fun v1 B1 H1 so1 st1 eo1 d1 => tA.use eo1 so1 hy fun vs B2 H2 so2 st2 eo2 d2 => k _ B2 H2 so2 (st1.trans st2) ⟨v1, vs, rfl, st2.datA d1, d2⟩)⟩
theorem evs_len : ∀ {cs : List C} {ρ : Env} {S S1 : Store} {xs : List A}, evs cl cs ρ S = .ok xs S1 → xs.length = cs.length
  | [], ρ, S, S1, xs, h => by
    rw [evs] at h
    cases h
    rfl
  | c :: cs, ρ, S, S1, xs, h => by
    rw [evs] at h
    obtain ⟨x, S2, _, h1⟩ := Rz.bind_ok h
    obtain ⟨ys, S3, h2, h3⟩ := Rz.bind_ok h1
    cases h3
    rw [List.length_cons, List.length_cons, evs_len h2]
/-- f(.., k = v): run on values -/
theorem runK {f : Addr} {fd : FuncData} {ps ks : List Str} {fi n : Nat} {asm : List (Nat ⊕ D)} {pins : List (Addr × Obj)} {σ : L2.St} {H : Hp} {s : Shared} {Q : VK} {us ws : List Value} {vs zs : List V} {xs ys : List A} {z : A} {B : Bk} {S S' : Store} {qs : List A}
    (F : FnOk X.prog X.w X.K X.mg X.base (L2.CX X.prog X.w) k f fd ps (spF (gx X fa) ps.length (cl fi))) (hr : Room k X.A) (hb : KBA (gx X fa) fd ps n ks asm) (hx : Passes (L2.CX X.prog X.w) X E0) (I : Inv X pins σ H s) (r : Vals vs us) (rz : Vals zs ws)
    (so : StoreOk (gx X fa) ⟨B, S, H⟩) (d1 : DatAL (gx X fa) ⟨B, S, H⟩ xs vs) (d2 : DatAL (gx X fa) ⟨B, S, H⟩ ys zs) (ha : asmF asm (xs ++ ys) = some qs) (l1 : us.length = n) (l2 : ws.length = ks.length) (hm : cl fi qs S = .ok z S')
    (k' : ∀ v B' H', StoreOk (gx X fa) ⟨B', S', H'⟩ → Stab (gx X fa) ⟨B, S, H⟩ ⟨B', S', H'⟩ → DatA (gx X fa) ⟨B', S', H'⟩ z v → Q v H') : wpAny (model X.prog X.w) X.A (call (.ref f) us (ks.zip ws)) (EP X pins σ Q) X.xe s := by
  obtain ⟨os, rs, bt, vr, dr, lr⟩ := hb s us ws vs zs xs ys qs ⟨B, S, H⟩ I.kIn d1 d2 r rz ha l1 l2
  refine wpAny_call (codeAny_mono (F.run X.A X.stack s H ⟨us, ks.zip ws⟩ os rs Q E0 hr I.env0 bt vr ⟨B, S, qs, z, S', so, dr, by rw [← dr.len]; exact lr, hm, k'⟩) fun r s' hq => ?_)
  cases r with
  | error e => exact hx pins σ H s e s' I hq
  | ok fl =>
    cases fl with
    | ret u => exact I.after hq
    | next => exact False.elim hq
    | brk => exact False.elim hq
    | cont => exact False.elim hq
theorem se_callK {f : Addr} {fd : FuncData} {ps ks : List Str} {fi : Nat} {x : Str} {p : Pos} {asm : List (Nat ⊕ D)} {kws : List Keyword} {kcs : List C} (F : FnOk X.prog X.w X.K X.mg X.base (L2.CX X.prog X.w) k f fd ps (spF (gx X fa) ps.length (cl fi))) (hr : Room k X.A) (hg : Gl X x) (hmg : X.mg x = some (.ref f))
    (hk : PySem.W.keepIn X.K (.ref f) = true) (hb : KBA (gx X fa) fd ps (cs.length + 1) ks asm) (hx : Passes (L2.CX X.prog X.w) X E0) (ha : SA fa cl X (e :: es) (c :: cs)) (hkw : SK fa cl X kws kcs) (hlk : kcs.length = ks.length)
    (hall : (backToKw pos (keywordEach kws X.env)).all (·.1.isSome) = true) (hks : (backToKw pos (keywordEach kws X.env)).filterMap (·.1) = ks)
    (hdb : (x == ("__debug__" : Str)) = false) (he : starEach (e :: es) X.env = (false, eval e X.env) :: starEach es X.env)
    (hpl : ((backTo pos (starEach (e :: es) X.env)).any (·.1) || (backToKw pos (keywordEach kws X.env)).any (·.1.isNone)) = false) : SE fa cl X (.Call (.Name x p) (e :: es) kws pos) (.callK fi (c :: cs) kcs asm) := by
  refine ⟨fun pins s σ H Q I q => ?_⟩
  obtain ⟨B, S, ρ, z, S', eo, so, hm, k⟩ := q
  rw [ev] at hm
  obtain ⟨xs, S1, hxs, hm1⟩ := Rz.bind_ok hm
  obtain ⟨ys, S2, hys, hm2⟩ := Rz.bind_ok hm1
  obtain ⟨qs, S3, hqs, hm3⟩ := Rz.bind_ok hm2
  obtain ⟨gqs, rfl⟩ := Rz.of_ok hqs
  obtain ⟨y, S4, hy, hm4⟩ := Rz.bind_ok hm3
  rw [tst_f] at hm4
  cases hm4
  refine wpAny_Call_Name_kw (ld_glob I hg hmg ?_ hdb)
  refine PySem.W.callWith_KW (h₀ := X.base) I.ok.mod.kin hk hall (thn (ha.run pos pins s σ H (fun vs H1 => ∃ B1, StoreOk (gx X fa) ⟨B1, S1, H1⟩ ∧ Stab (gx X fa) ⟨B, S, H⟩ ⟨B1, S1, H1⟩ ∧ DatAL (gx X fa) ⟨B1, S1, H1⟩ xs vs) I
    (tA.use eo so hxs fun vs B1 H1 so1 st1 eo1 d1 => ⟨B1, so1, st1, d1⟩)) fun us s1 ⟨vs, H1, I1, r, B1, so1, st1, d1⟩ => ?_) hpl he
  refine thn (hkw.pk.run pos pins s1 σ H1 (fun zs H2 => ∃ B2, StoreOk (gx X fa) ⟨B2, S3, H2⟩ ∧ Stab (gx X fa) ⟨B1, S1, H1⟩ ⟨B2, S3, H2⟩ ∧ DatAL (gx X fa) ⟨B2, S3, H2⟩ ys zs) I1
    (tA.use (eo.mono st1) so1 hys fun vs B1 H1 so1 st1 eo1 d1 => ⟨B1, so1, st1, d1⟩)) fun ws s2 ⟨zs, H2, I2, rz, B2, so2, st2, d2⟩ => ⟨I2.kIn, ?_⟩
  rw [hks]
  refine runK F hr hb hx I2 r rz so2 (st2.datAL d1) d2 gqs ?_ ?_ hy fun v B' H' so' st' dv => k v B' H' so' ((st1.trans st2).trans st') dv
  · show us.length = _
    rw [← r.length, d1.len, evs_len hxs]
    rfl
  · rw [← rz.length, d2.len, evs_len hys, hlk]
theorem se_callK0 {f : Addr} {fd : FuncData} {ps ks : List Str} {fi : Nat} {x : Str} {p : Pos} {asm : List (Nat ⊕ D)} {kws : List Keyword} {kcs : List C} (F : FnOk X.prog X.w X.K X.mg X.base (L2.CX X.prog X.w) k f fd ps (spF (gx X fa) ps.length (cl fi))) (hr : Room k X.A) (hg : Gl X x) (hmg : X.mg x = some (.ref f))
    (hk : PySem.W.keepIn X.K (.ref f) = true) (hb : KBA (gx X fa) fd ps 0 ks asm) (hx : Passes (L2.CX X.prog X.w) X E0) (hkw : SK fa cl X kws kcs) (hlk : kcs.length = ks.length)
    (hall : (backToKw pos (keywordEach kws X.env)).all (·.1.isSome) = true) (hks : (backToKw pos (keywordEach kws X.env)).filterMap (·.1) = ks)
    (hdb : (x == ("__debug__" : Str)) = false)
    (hpl : ((backTo pos (starEach [] X.env)).any (·.1) || (backToKw pos (keywordEach kws X.env)).any (·.1.isNone)) = false) : SE fa cl X (.Call (.Name x p) [] kws pos) (.callK fi [] kcs asm) := by
  refine ⟨fun pins s σ H Q I q => ?_⟩
  obtain ⟨B, S, ρ, z, S', eo, so, hm, k⟩ := q
  rw [ev, evs] at hm
  obtain ⟨xs, S1, hxs, hm1⟩ := Rz.bind_ok hm
  cases hxs
  obtain ⟨ys, S2, hys, hm2⟩ := Rz.bind_ok hm1
  obtain ⟨qs, S3, hqs, hm3⟩ := Rz.bind_ok hm2
  obtain ⟨gqs, rfl⟩ := Rz.of_ok hqs
  obtain ⟨y, S4, hy, hm4⟩ := Rz.bind_ok hm3
  rw [tst_f] at hm4
  cases hm4
  refine wpAny_Call_Name_kw (ld_glob I hg hmg ?_ hdb)
  refine PySem.W.callWith_KW0 (h₀ := X.base) I.ok.mod.kin hk hall (thn (hkw.pk.run pos pins s σ H (fun zs H2 => ∃ B2, StoreOk (gx X fa) ⟨B2, S3, H2⟩ ∧ Stab (gx X fa) ⟨B, S, H⟩ ⟨B2, S3, H2⟩ ∧ DatAL (gx X fa) ⟨B2, S3, H2⟩ ys zs) I
    (tA.use eo so hys fun vs B1 H1 so1 st1 eo1 d1 => ⟨B1, so1, st1, d1⟩)) fun ws s2 ⟨zs, H2, I2, rz, B2, so2, st2, d2⟩ => ⟨I2.kIn, ?_⟩) hpl
  rw [hks]
  refine runK (us := []) (vs := []) (xs := []) F hr hb hx I2 .nil rz so2 rfl d2 gqs rfl ?_ hy fun v B' H' so' st' dv => k v B' H' so' (st2.trans st') dv
  rw [← rz.length, d2.len, evs_len hys, hlk]
/-- a def that a name of one's own holds -/
theorem se_callV {i nf : Nat} {x : Str} {p : Pos} (tab : ∀ f, f < nf → ∃ fd ps, FnOk X.prog X.w X.K X.mg X.base (L2.CX X.prog X.w) k (fa.f f) fd ps (spF (gx X fa) ps.length (cl f)) ∧ PySem.W.keepIn X.K (.ref (fa.f f)) = true ∧ Binds X.K fd ps [] ∧ ∀ xs S z S', cl f xs S = .ok z S' → xs.length = ps.length) (hr : Room k X.A) (hN : X.N[i]? = some x) (hv : Vis X.env.scope x)
    (hx : Passes (L2.CX X.prog X.w) X E0) (ha : SA fa cl X (e :: es) (c :: cs)) (hdb : (x == ("__debug__" : Str)) = false) (hcd : (x == ("__classdict__" : Str)) = false) (he : starEach (e :: es) X.env = (false, eval e X.env) :: starEach es X.env) (hpl : (backTo pos (starEach es X.env)).any (·.1) = false) : SE fa cl X (.Call (.Name x p) (e :: es) [] pos) (.callV i nf (c :: cs)) := by
  refine ⟨fun pins s σ H Q I q => ?_⟩
  obtain ⟨B, S, ρ, z, S', eo, so, hm, k⟩ := q
  rw [ev] at hm
  split at hm
  · rename_i f hf
    split at hm
    · rename_i hlt
      obtain ⟨xs, S1, hxs, hm1⟩ := Rz.bind_ok hm
      obtain ⟨y, S2, hy, hm2⟩ := Rz.bind_ok hm1
      rw [tst_f] at hm2
      cases hm2
      obtain ⟨fd, ps, F, hk, hb, hl⟩ := tab f hlt
      obtain ⟨v, hv', dv⟩ := eo.get i _ hf
      have dv : v = .ref (fa.f f) := dv
      subst dv
      refine (pe_callL (dvs := []) F hr hN hv hk hb .nil hx ha hdb hcd he hpl).run pins s σ H Q I ⟨hv', ?_⟩
      refine tA.use eo so hxs fun vs B1 H1 so1 st1 eo1 d1 => ?_
      refine ⟨B1, S1, xs, z, S', so1, by rw [List.append_nil]; exact d1, hl _ _ _ _ hy, hy, fun v B' H' so' st' dv => k v B' H' so' (st1.trans st') dv⟩
    · cases hm
  · cases hm
end
end Fw

/-! max of a list of ints with a default. -/
namespace Fw
open PySem PySem.Spec PyProof.Rows L2
def rMaxDf (K : PySem.W.Frag) : List V → List V → Hp → VK → Prop := fun vs zs H Q => ∃ (a : Addr) (ns : List Int) (d : Int), vs = [V.ref a] ∧ zs = [V.int d] ∧ SqL K H a (ns.map V.int) ∧ Q (.int (maxDf d ns)) H
theorem reads_ints {h : Heap} : ∀ {ns : List Int} {its : List Value}, Vals (ns.map V.int) its → ∃ as, ReadsAll h its (ns.map .int) as
  | [], _, .nil => ⟨_, .nil⟩
  | n :: ns, _, .cons ⟨t, e⟩ r => by
    subst e
    obtain ⟨as, ih⟩ := reads_ints (h := h) r
    exact ⟨_, .cons (.int n t) ih⟩
theorem depth_ints : ∀ ns : List Int, PyData.depthAll (ns.map .int) ≤ 1
  | [] => by simp [PyData.depthAll]
  | n :: ns => by
    have := depth_ints ns
    simp [PyData.depthAll, PyData.depth] at this ⊢
    omega
theorem cr_maxDf {X : Cx} {k : Nat} (hc : X.calm = true) (hr : Room k X.A) : CallRK X (.builtin "max") ["default"] (rMaxDf X.K) := by
  intro pins s σ H vs zs us ws Q I r rz h
  obtain ⟨a, ns, d, rfl, rfl, hs, q⟩ := h
  obtain ⟨its, rv, hl, _⟩ := I.list hs
  rw [Vals.ref1 r]
  obtain ⟨wd, rfl, td, rfl⟩ := Vals.one rz
  obtain ⟨as, ra⟩ := reads_ints (h := s.heap) rv
  have hu : X.A.units + 65 < cLine := by have := hr.un; omega
  have hdp := depth_ints ns
  refine PySem.W.max_list_default (I.ok.hd hc) hl.isList (xs := ns.map .int) ra ⟨fun x hx y hy => ?_, fun x hx => ?_⟩ (by omega) (fun e h' tk hk => ?_) fun y ys i v h' tk bs e hv rd hk => ?_
  · obtain ⟨i, _, rfl⟩ := List.mem_map.mp hx
    obtain ⟨j, _, rfl⟩ := List.mem_map.mp hy
    rfl
  · obtain ⟨i, _, rfl⟩ := List.mem_map.mp hx
    intro z
    cases z
  · have e := List.map_eq_nil_iff.mp e
    subst e
    exact ⟨.int d, H, I.kept hk, ⟨_, rfl⟩, q⟩
  · cases ns with
    | nil => cases e
    | cons n ns =>
      rw [List.map_cons] at e
      injection e with e1 e2
      subst e1
      subst e2
      rw [PySem.W.maxD_ints] at rd
      cases rd with
      | int _ t => exact ⟨.int _, H, I.kept hk, ⟨_, rfl⟩, q⟩
section
variable {fa : Ad} {cl : Nat → List A → Store → Rz A} {X : Cx} {k : Nat} {a d : Expr} {ca cd : C} {p kp pos : Pos}
theorem se_maxD (hc : X.calm = true) (hr : Room k X.A) (hg : Gl X "max") (hmg : X.mg "max" = none) (he : starEach [a] X.env = (false, eval a X.env) :: starEach [] X.env) (ha : SA fa cl X [a] [ca]) (hd : SE fa cl X d cd) : SE fa cl X (.Call (.Name "max" p) [a] [⟨some "default", d, kp⟩] pos) (.maxD ca cd) := by
  have hp := pe_callBK (p := p) (pos := pos) (cr_maxDf hc hr) hg hmg (by rfl) ha (SK.cons (nm := some "default") (p := kp) hd .nil).pk (by decide) (by decide) (by rw [he]; rfl) (by rw [he]; rfl) rfl rfl rfl
  refine hp.imp fun σ H Q q => ?_
  obtain ⟨B, S, ρ, z, S', eo, so, hm, k⟩ := q
  rw [ev] at hm
  obtain ⟨x, S1, hx, hm1⟩ := Rz.bind_ok hm
  obtain ⟨y, S2, hy, hm2⟩ := Rz.bind_ok hm1
  obtain ⟨w, S3, hw, hm3⟩ := Rz.bind_ok hm2
  obtain ⟨gw, rfl⟩ := Rz.of_ok hw
  rw [tst_f] at hm3
  cases hm3
  have ex : evs cl [ca] ρ S = .ok [x] S1 := by rw [evs, hx]; rfl
  have ey : evs cl [cd] ρ S1 = .ok [y] S' := by rw [evs, hy]; rfl
  refine tA.use eo so ex fun vs B1 H1 so1 st1 eo1 d1 => tA.use eo1 so1 ey fun zs B2 H2 so2 st2 eo2 d2 => ?_
  unfold maxF at gw
  split at gw
  · rename_i ds dd
    cases hq : D.ints ds with
    | none => rw [hq] at gw; cases gw
    | some ns =>
      rw [hq] at gw
      cases gw
      obtain ⟨v, rfl, l, ws, rfl, t, _, hl⟩ := (st2.datAL d1).one
      obtain ⟨u, rfl, hu⟩ := d2.one
      exact ⟨l, ns, dd, rfl, by rw [show u = V.int dd from hu], by rw [← hl.ints hq]; exact SqL.of t, k _ B2 H2 so2 (st1.trans st2) rfl⟩
  · cases gw
end
end Fw

/-! Targets, what is walked, comprehensions, methods. -/
namespace Fw
open PySem PySem.Spec PyProof.Rows L2
/-! ### a weaker step: what was known is known -/
structure Sub (g : G) (z z' : Z) : Prop where
  dat : ∀ d v, Dat g z d v → Dat g z' d v
  pre : ∀ (i : Nat) a, z.B.l[i]? = some a → z'.B.l[i]? = some a
section
variable {g : G} {z z' z'' : Z} {ρ : Env} {σ : L2.St}
theorem Stab.sub (s : Stab g z z') : Sub g z z' := ⟨s.dat, s.pre⟩
theorem Sub.trans (a : Sub g z z') (b : Sub g z' z'') : Sub g z z'' := ⟨fun d v h => b.dat d v (a.dat d v h), fun i c h => b.pre i c (a.pre i c h)⟩
theorem Sub.datL (s : Sub g z z') : ∀ {ds : List D} {vs : List V}, DatL g z ds vs → DatL g z' ds vs
  | [], _, h => h
  | d :: ds, _, ⟨v, r, e, a, b⟩ => ⟨v, r, e, s.dat d v a, s.datL b⟩
theorem Sub.datA (s : Sub g z z') : ∀ {x : A} {v : V}, DatA g z x v → DatA g z' x v
  | .p d, v, h => s.dat d v h
  | .m i, v, ⟨a, h, e⟩ => ⟨a, s.pre i a h, e⟩
theorem EnvOk.sub (e : EnvOk g z ρ σ) (s : Sub g z z') : EnvOk g z' ρ σ := ⟨e.len, fun i x h => by
  obtain ⟨v, a, b⟩ := e.get i x h
  exact ⟨v, a, s.datA b⟩⟩
end
/-! ### a list that is being made -/
def Bk.opn (B : Bk) (p : Addr) : Bk := ⟨B.l, p :: B.E⟩
section
variable {g : G} {B : Bk} {S : Store} {H : Hp} {p : Addr}
theorem live_opn {a : Addr} (h : live (B.opn p) S a) (hn : a ≠ p) : live B S a := by
  rcases h with h | h
  · exact .inl h
  · rcases List.mem_cons.mp h with h | h
    · exact absurd h hn
    · exact .inr h
theorem Sub.ob {z z' : Z} (s : Sub g z z') {o : MO} {u : HO} (h : Ob g z o u) : Ob g z' o u := by
  cases o with
  | lst xs =>
    obtain ⟨vs, e, d⟩ := h
    exact ⟨vs, e, s.datL d⟩
  | ins c ns ds =>
    obtain ⟨dx, vs, e, n, d⟩ := h
    exact ⟨dx, vs, e, n, s.datL d⟩
  | dead => exact h
theorem Sub.open {o : HO} (hp : H p = none) : Sub g ⟨B, S, H⟩ ⟨B.opn p, S, upd H p o⟩ :=
  ⟨Dat.mono (fun a vs h => sqT_upd hp h) (fun a vs _ h n => ⟨at_upd hp h, fun q => n (live_opn q (ne_of_none h hp))⟩) fun a o u h => at_upd hp h, fun _ _ h => h⟩
theorem StoreOk.open {xs : List V} (k : StoreOk g ⟨B, S, H⟩) (hp : H p = none) : StoreOk g ⟨B.opn p, S, upd H p (.lst xs)⟩ := by
  refine ⟨k.len, k.nd, fun i a o h1 h2 => ?_, fun a ha => ?_, g.fa.ivN _ _ _ hp k.iv⟩
  · obtain ⟨u, e, q⟩ := k.obj i a o h1 h2
    exact ⟨u, at_upd hp e, (Sub.open hp).ob q⟩
  · rcases List.mem_cons.mp ha with rfl | ha
    · exact ⟨⟨_, upd_same, Chg.lst⟩, k.notIn hp⟩
    · obtain ⟨⟨u, e, c⟩, n⟩ := k.ex a ha
      exact ⟨⟨u, at_upd hp e, c⟩, n⟩
theorem live_mono_opn {a : Addr} (h : live B S a) : live (B.opn p) S a := by
  rcases h with h | h
  · exact .inl h
  · exact .inr (List.mem_cons_of_mem _ h)
theorem Sub.close : Sub g ⟨B.opn p, S, H⟩ ⟨B, S, H⟩ := ⟨Dat.mono (fun _ _ h => h) (fun _ _ _ h n => ⟨h, fun q => n (live_mono_opn q)⟩) fun _ _ _ h => h, fun _ _ h => h⟩
theorem StoreOk.close (k : StoreOk g ⟨B.opn p, S, H⟩) : StoreOk g ⟨B, S, H⟩ :=
  ⟨k.len, k.nd, fun i a o h1 h2 => by
    obtain ⟨u, e, q⟩ := k.obj i a o h1 h2
    exact ⟨u, e, Sub.close.ob q⟩, fun a ha => k.ex a (List.mem_cons_of_mem _ ha), k.iv⟩
/-- one more item -/
theorem Sub.push {xs : List V} {ys : List V} (k : StoreOk g ⟨B.opn p, S, H⟩) (h : H p = some (.lst xs)) : Sub g ⟨B.opn p, S, H⟩ ⟨B.opn p, S, upd H p (.lst ys)⟩ := by
  refine ⟨Dat.mono (fun b us q => ?_) (fun b us _ q n => ?_) fun b o u q => ?_, fun _ _ q => q⟩
  · rcases q with (q | ⟨u, q⟩) | q
    · have q : H b = _ := q
      exact .inl (.inl (by show upd H p _ b = _; rw [upd_ne (ne_of q h (by intro z; cases z))]; exact q))
    · have q : H b = _ := q
      exact .inl (.inr ⟨u, by show upd H p _ b = _; rw [upd_ne (ne_of q h (by intro z; cases z))]; exact q⟩)
    · exact .inr q
  · have nb : b ≠ p := fun z => n (.inr (by rw [z]; exact List.mem_cons_self ..))
    exact ⟨by show upd H p _ b = _; rw [upd_ne nb]; exact q, n⟩
  · have q : H b = _ := q
    show upd H p _ b = _
    rw [upd_ne (ne_of q h (by intro z; cases z))]
    exact q
theorem StoreOk.push {xs ys : List V} (k : StoreOk g ⟨B.opn p, S, H⟩) (h : H p = some (.lst xs)) : StoreOk g ⟨B.opn p, S, upd H p (.lst ys)⟩ := by
  have np : p ∉ B.l := (k.ex p (List.mem_cons_self ..)).2
  refine ⟨k.len, k.nd, fun i a o h1 h2 => ?_, fun a ha => ?_, g.fa.ivP _ _ _ _ h Chg.lst k.iv⟩
  · obtain ⟨u, e, q⟩ := k.obj i a o h1 h2
    have na : a ≠ p := fun z => np (by rw [← z]; exact List.mem_of_getElem? h1)
    exact ⟨u, by show upd H p _ a = _; rw [upd_ne na]; exact e, (Sub.push k h).ob q⟩
  · obtain ⟨⟨u, e, c⟩, n⟩ := k.ex a ha
    by_cases na : a = p
    · subst na
      exact ⟨⟨_, upd_same, Chg.lst⟩, n⟩
    · exact ⟨⟨u, by show upd H p _ a = _; rw [upd_ne na]; exact e, c⟩, n⟩
end
/-! ### targets -/
mutual
def Tg.slots : Tg → List Nat
  | .nm i => [i]
  | .tp ts => Tg.slotsL ts
def Tg.slotsL : List Tg → List Nat
  | [] => []
  | t :: ts => t.slots ++ Tg.slotsL ts
end
def Off (vs : List Nat) (σ σ' : L2.St) : Prop := σ'.length = σ.length ∧ ∀ i, i ∉ vs → σ'[i]? = σ[i]?
def gT (g : G) (t : Tg) : TG := fun v σ H Q => ∃ B S ρ x ρ', EnvOk g ⟨B, S, H⟩ ρ σ ∧ StoreOk g ⟨B, S, H⟩ ∧ DatA g ⟨B, S, H⟩ x v ∧ bindT t x ρ = some ρ' ∧ ∀ σ', EnvOk g ⟨B, S, H⟩ ρ' σ' → Off t.slots σ σ' → Q σ' H
def gTs (g : G) (ts : List Tg) : TGs := fun vs σ H Q => ∃ B S ρ ds ρ', EnvOk g ⟨B, S, H⟩ ρ σ ∧ StoreOk g ⟨B, S, H⟩ ∧ DatL g ⟨B, S, H⟩ ds vs ∧ bindTs ts ds ρ = some ρ' ∧ ∀ σ', EnvOk g ⟨B, S, H⟩ ρ' σ' → Off (Tg.slotsL ts) σ σ' → Q σ' H
theorem _root_.L2.PG.imp {X : Cx} {e : Expr} {t t' : TG} (h : PG X e t) (f : ∀ v σ H Q, t' v σ H Q → t v σ H Q) : PG X e t' := ⟨fun pins s σ H v u Q I r q => h.run pins s σ H v u Q I r (f v σ H Q q)⟩
theorem _root_.L2.PGs.imp {X : Cx} {e : List Expr} {t t' : TGs} (h : PGs X e t) (f : ∀ v σ H Q, t' v σ H Q → t v σ H Q) : PGs X e t' := ⟨fun pins s σ H v u Q I r q => h.run pins s σ H v u Q I r (f v σ H Q q)⟩
theorem Off.refl {vs : List Nat} {σ : L2.St} : Off vs σ σ := ⟨rfl, fun _ _ => rfl⟩
theorem bindTs_len {ts : List Tg} : ∀ {ds : List D} {ρ ρ' : Env}, bindTs ts ds ρ = some ρ' → ds.length = ts.length := by
  induction ts with
  | nil =>
    intro ds ρ ρ' h
    cases ds with
    | nil => rfl
    | cons d ds => simp [bindTs] at h
  | cons t ts ih =>
    intro ds ρ ρ' h
    cases ds with
    | nil => simp [bindTs] at h
    | cons d ds =>
      rw [bindTs] at h
      split at h
      · rw [List.length_cons, List.length_cons, ih h]
      · cases h
section
variable {fa : Ad} {cl : Nat → List A → Store → Rz A} {X : Cx} {e a b tg : Expr} {c ca cb : C} {pos : Pos} {k : Nat} {es : List Expr} {cs : List C}
abbrev SG (fa : Ad) (X : Cx) (e : Expr) (t : Tg) : Prop := PG X e (gT (gx X fa) t)
abbrev SGs (fa : Ad) (X : Cx) (e : List Expr) (t : List Tg) : Prop := PGs X e (gTs (gx X fa) t)
theorem sg_name {i : Nat} {x : Str} (hN : X.N.Nodup) (hi : X.N[i]? = some x) (hx : Loc X.env.scope x) (hf : X.fn x = true ∨ X.env.scope.names.lookup x = some .local) : SG fa X (.Name x pos) (.nm i) :=
  (pg_name hN hi hx hf).imp fun v σ H Q q => by
    obtain ⟨B, S, ρ, x, ρ', eo, so, dv, hb, k⟩ := q
    rw [bindT] at hb
    cases hb
    refine k _ (eo.set dv) ⟨by rw [List.length_set], fun j hj => ?_⟩
    rw [List.getElem?_set_ne]
    intro h
    exact hj (by rw [← h]; exact List.mem_singleton.mpr rfl)
theorem sgs_nil : SGs fa X [] [] := pgs_nil.imp fun vs σ H Q q => by
  obtain ⟨B, S, ρ, ds, ρ', eo, so, dv, hb, k⟩ := q
  cases ds with
  | nil =>
    rw [bindTs] at hb
    cases hb
    exact ⟨dv, k σ eo Off.refl⟩
  | cons d ds => simp [bindTs] at hb
theorem sgs_cons {t : Tg} {ts : List Tg} (h1 : SG fa X e t) (h2 : SGs fa X es ts) (hs : (assignEach (e :: es) X.env).map (·.2) = assign e X.env :: (assignEach es X.env).map (·.2)) : SGs fa X (e :: es) (t :: ts) :=
  (pgs_cons h1 h2 hs).imp fun vs σ H Q q => by
    obtain ⟨B, S, ρ, ds, ρ', eo, so, dv, hb, k⟩ := q
    cases ds with
    | nil => simp [bindTs] at hb
    | cons d ds =>
      obtain ⟨v, r, rfl, d1, d2⟩ := dv
      rw [bindTs] at hb
      split at hb
      · rename_i ρ1 h1
        refine ⟨v, r, rfl, B, S, ρ, .p d, ρ1, eo, so, d1, h1, fun σ' eo' off => ?_⟩
        refine ⟨B, S, ρ1, ds, ρ', eo', so, d2, hb, fun σ2 eo2 off2 => k σ2 eo2 ⟨off2.1.trans off.1, fun i hi => ?_⟩⟩
        have hi' : i ∉ t.slots ++ Tg.slotsL ts := hi
        rw [List.mem_append] at hi'
        rw [off2.2 i fun z => hi' (.inr z), off.2 i fun z => hi' (.inl z)]
      · cases hb
theorem sg_tup {ts : List Tg} {kk : Nat} (hc : X.calm = true) (h : SGs fa X es ts) (hn : (assignEach es X.env).length = ts.length) (hst : (assignEach es X.env).findIdx? (·.1) = none) : SG fa X (.Tuple es kk pos) (.tp ts) :=
  (pg_tup hc h hn hst).imp fun v σ H Q q => by
    obtain ⟨B, S, ρ, x, ρ', eo, so, dv, hb, k⟩ := q
    cases x with
    | m i => simp [bindT] at hb
    | p d =>
      cases d with
      | tup ds =>
        rw [bindT] at hb
        obtain ⟨a, vs, rfl, t, l⟩ := dv
        exact ⟨a, vs, rfl, t, by rw [l.len, bindTs_len hb], B, S, ρ, ds, ρ', eo, so, l, hb, k⟩
      | _ => simp [bindT] at hb
/-! ### what is walked -/
structure Walks (g : G) (J : It) (z0 : Z) (items : List A) : Prop where
  go : ∀ (i : Nat) B S H, Sub g z0 ⟨B, S, H⟩ → StoreOk g ⟨B, S, H⟩ → i < items.length → J.go i H
  yld : ∀ (i : Nat) B S H x H' y, Sub g z0 ⟨B, S, H⟩ → StoreOk g ⟨B, S, H⟩ → items[i]? = some y → J.yld i H x H' → StoreOk g ⟨B, S, H'⟩ ∧ Stab g ⟨B, S, H⟩ ⟨B, S, H'⟩ ∧ DatA g ⟨B, S, H'⟩ y x
  stop : ∀ B S H, Sub g z0 ⟨B, S, H⟩ → StoreOk g ⟨B, S, H⟩ → J.stop items.length H
def iW (g : G) (cl : Nat → List A → Store → Rz A) (k : ItK) (its : List C) : TI := fun σ H R => ∃ B S ρ xs S' items, EnvOk g ⟨B, S, H⟩ ρ σ ∧ StoreOk g ⟨B, S, H⟩ ∧ evs cl its ρ S = .ok xs S' ∧ walkF k xs = some items ∧
  ∀ J B' H', StoreOk g ⟨B', S', H'⟩ → Stab g ⟨B, S, H⟩ ⟨B', S', H'⟩ → Walks g J ⟨B', S', H'⟩ items → R J H'
abbrev SI (fa : Ad) (cl : Nat → List A → Store → Rz A) (X : Cx) (tg e : Expr) (k : ItK) (its : List C) : Prop := PI X tg e (iW (gx X fa) cl k its)
theorem map_p {ds : List D} {i : Nat} {y : A} (h : (ds.map A.p)[i]? = some y) : ∃ d, ds[i]? = some d ∧ y = .p d := by
  rw [List.getElem?_map] at h
  cases q : ds[i]? with
  | none => rw [q] at h; cases h
  | some d =>
    rw [q] at h
    cases h
    exact ⟨d, rfl, rfl⟩
theorem walks_list {g : G} {z : Z} {a : Addr} {ds : List D} (d : Dat g z (.lst ds) (.ref a)) : Walks g (Itl g.K a) z (ds.map .p) := by
  have at_ : ∀ B S H, Sub g z ⟨B, S, H⟩ → ∃ vs, H a = some (.lst vs) ∧ DatL g ⟨B, S, H⟩ ds vs := fun B S H s => by
    obtain ⟨a', vs, e, t, _, l⟩ := s.dat _ _ d
    cases e
    exact ⟨vs, t, l⟩
  refine ⟨fun i B S H s so hi => ?_, fun i B S H x H' y s so hy q => ?_, fun B S H s so => ?_⟩
  · obtain ⟨vs, t, l⟩ := at_ B S H s
    rw [List.length_map] at hi
    obtain ⟨v, hv, _⟩ := l.get (List.getElem?_eq_getElem hi)
    exact ⟨vs, v, SqL.of t, hv⟩
  · obtain ⟨vs, t, l⟩ := at_ B S H s
    obtain ⟨rfl, q⟩ := q
    obtain ⟨d', hd', rfl⟩ := map_p hy
    obtain ⟨v, hv, dv⟩ := l.get hd'
    have := (q vs (SqL.of t)).symm.trans hv
    cases this
    exact ⟨so, Stab.refl, dv⟩
  · obtain ⟨vs, t, l⟩ := at_ B S H s
    exact ⟨vs, SqL.of t, by rw [List.length_map, l.len]; exact Nat.le_refl _⟩
theorem walks_tup {g : G} {z : Z} {a : Addr} {ds : List D} (d : Dat g z (.tup ds) (.ref a)) : Walks g (Itt g.K a) z (ds.map .p) := by
  have at_ : ∀ B S H, Sub g z ⟨B, S, H⟩ → ∃ vs, SqT g.K H a vs ∧ DatL g ⟨B, S, H⟩ ds vs := fun B S H s => by
    obtain ⟨a', vs, e, t, l⟩ := s.dat _ _ d
    cases e
    exact ⟨vs, t, l⟩
  refine ⟨fun i B S H s so hi => ?_, fun i B S H x H' y s so hy q => ?_, fun B S H s so => ?_⟩
  · obtain ⟨vs, t, l⟩ := at_ B S H s
    rw [List.length_map] at hi
    obtain ⟨v, hv, _⟩ := l.get (List.getElem?_eq_getElem hi)
    exact ⟨vs, v, t, hv⟩
  · obtain ⟨vs, t, l⟩ := at_ B S H s
    obtain ⟨rfl, q⟩ := q
    obtain ⟨d', hd', rfl⟩ := map_p hy
    obtain ⟨v, hv, dv⟩ := l.get hd'
    have := (q vs t).symm.trans hv
    cases this
    exact ⟨so, Stab.refl, dv⟩
  · obtain ⟨vs, t, l⟩ := at_ B S H s
    exact ⟨vs, t, by rw [List.length_map, l.len]; exact Nat.le_refl _⟩
theorem walks_range {g : G} {z : Z} {lo : Int} {n : Nat} : Walks g (Itr lo n) z ((List.range n).map fun (i : Nat) => .p (.int (lo + i))) := by
  refine ⟨fun i B S H s so hi => ?_, fun i B S H x H' y s so hy q => ?_, fun B S H s so => ?_⟩
  · rw [List.length_map, List.length_range] at hi
    exact hi
  · obtain ⟨rfl, rfl⟩ := q
    rw [List.getElem?_map] at hy
    cases h : (List.range n)[i]? with
    | none => rw [h] at hy; cases hy
    | some j =>
      rw [h] at hy
      cases hy
      have : j = i := by
        obtain ⟨hl, e⟩ := List.getElem?_eq_some_iff.mp h
        rw [List.getElem_range] at e
        exact e.symm
      rw [this]
      exact ⟨so, Stab.refl, rfl⟩
  · show n ≤ _
    rw [List.length_map, List.length_range]
    exact Nat.le_refl _
theorem walks_str {g : G} {z : Z} {x : Str} : Walks g (Its x) z (x.cps.toList.map fun c => .p (.str ⟨#[c]⟩)) := by
  refine ⟨fun i B S H s so hi => ?_, fun i B S H v H' y s so hy q => ?_, fun B S H s so => ?_⟩
  · rw [List.length_map, Array.length_toList] at hi
    exact hi
  · obtain ⟨rfl, c, hc, rfl⟩ := q
    rw [List.getElem?_map, Array.getElem?_toList, hc] at hy
    cases hy
    exact ⟨so, Stab.refl, rfl⟩
  · show x.cps.size ≤ _
    rw [List.length_map, Array.length_toList]
    exact Nat.le_refl _
theorem walks_zip {g : G} {z : Z} {a b : Addr} {ds es : List D} (d1 : Dat g z (.lst ds) (.ref a)) (d2 : Dat g z (.lst es) (.ref b)) : Walks g (Itz g.K a b) z (List.zipWith (fun a b => .p (.tup [a, b])) ds es) := by
  have at_ : ∀ {a ds}, Dat g z (.lst ds) (.ref a) → ∀ B S H, Sub g z ⟨B, S, H⟩ → ∃ vs, H a = some (.lst vs) ∧ DatL g ⟨B, S, H⟩ ds vs := fun {a ds} d B S H s => by
    obtain ⟨a', vs, e, t, _, l⟩ := s.dat _ _ d
    cases e
    exact ⟨vs, t, l⟩
  refine ⟨fun i B S H s so hi => ?_, fun i B S H x H' y s so hy q => ?_, fun B S H s so => ?_⟩
  · obtain ⟨vs, t1, l1⟩ := at_ d1 B S H s
    obtain ⟨ws, t2, l2⟩ := at_ d2 B S H s
    rw [List.length_zipWith] at hi
    have i1 : i < ds.length := by omega
    have i2 : i < es.length := by omega
    obtain ⟨v, hv, _⟩ := l1.get (List.getElem?_eq_getElem i1)
    obtain ⟨w, hw, _⟩ := l2.get (List.getElem?_eq_getElem i2)
    exact ⟨vs, ws, v, w, SqL.of t1, SqL.of t2, hv, hw⟩
  · obtain ⟨vs, t1, l1⟩ := at_ d1 B S H s
    obtain ⟨ws, t2, l2⟩ := at_ d2 B S H s
    obtain ⟨T, v, w, rfl, nT, rfl, q1, q2⟩ := q
    rw [List.getElem?_zipWith] at hy
    cases h1 : ds[i]? with
    | none => rw [h1] at hy; cases hy
    | some x1 =>
      cases h2 : es[i]? with
      | none => rw [h1, h2] at hy; cases hy
      | some x2 =>
        rw [h1, h2] at hy
        cases hy
        obtain ⟨v', hv, dv⟩ := l1.get h1
        obtain ⟨w', hw, dw⟩ := l2.get h2
        have e1 := (q1 vs (SqL.of t1)).symm.trans hv
        have e2 := (q2 ws (SqL.of t2)).symm.trans hw
        cases e1
        cases e2
        exact ⟨so.new nT, Stab.new so nT, new_tup so nT ⟨v, [w], rfl, dv, w, [], rfl, dw, rfl⟩⟩
  · obtain ⟨vs, t1, l1⟩ := at_ d1 B S H s
    obtain ⟨ws, t2, l2⟩ := at_ d2 B S H s
    refine ⟨vs, ws, SqL.of t1, SqL.of t2, ?_⟩
    rw [List.length_zipWith, l1.len, l2.len]
    omega
theorem walks_zipT {g : G} {z : Z} {a b : Addr} {ds es : List D} (d1 : Dat g z (.tup ds) (.ref a)) (d2 : Dat g z (.tup es) (.ref b)) : Walks g (RZ.ItzT g.K a b) z (List.zipWith (fun a b => .p (.tup [a, b])) ds es) := by
  have at_ : ∀ {a ds}, Dat g z (.tup ds) (.ref a) → ∀ B S H, Sub g z ⟨B, S, H⟩ → ∃ vs, SqT g.K H a vs ∧ DatL g ⟨B, S, H⟩ ds vs := fun {a ds} d B S H s => by
    obtain ⟨a', vs, e, t, l⟩ := s.dat _ _ d
    cases e
    exact ⟨vs, t, l⟩
  refine ⟨fun i B S H s so hi => ?_, fun i B S H x H' y s so hy q => ?_, fun B S H s so => ?_⟩
  · obtain ⟨vs, t1, l1⟩ := at_ d1 B S H s
    obtain ⟨ws, t2, l2⟩ := at_ d2 B S H s
    rw [List.length_zipWith] at hi
    have i1 : i < ds.length := by omega
    have i2 : i < es.length := by omega
    obtain ⟨v, hv, _⟩ := l1.get (List.getElem?_eq_getElem i1)
    obtain ⟨w, hw, _⟩ := l2.get (List.getElem?_eq_getElem i2)
    exact ⟨vs, ws, v, w, t1, t2, hv, hw⟩
  · obtain ⟨vs, t1, l1⟩ := at_ d1 B S H s
    obtain ⟨ws, t2, l2⟩ := at_ d2 B S H s
    obtain ⟨T, v, w, rfl, nT, rfl, q1, q2⟩ := q
    rw [List.getElem?_zipWith] at hy
    cases h1 : ds[i]? with
    | none => rw [h1] at hy; cases hy
    | some x1 =>
      cases h2 : es[i]? with
      | none => rw [h1, h2] at hy; cases hy
      | some x2 =>
        rw [h1, h2] at hy
        cases hy
        obtain ⟨v', hv, dv⟩ := l1.get h1
        obtain ⟨w', hw, dw⟩ := l2.get h2
        have e1 := (q1 vs t1).symm.trans hv
        have e2 := (q2 ws t2).symm.trans hw
        cases e1
        cases e2
        exact ⟨so.new nT, Stab.new so nT, new_tup so nT ⟨v, [w], rfl, dv, w, [], rfl, dw, rfl⟩⟩
  · obtain ⟨vs, t1, l1⟩ := at_ d1 B S H s
    obtain ⟨ws, t2, l2⟩ := at_ d2 B S H s
    refine ⟨vs, ws, t1, t2, ?_⟩
    rw [List.length_zipWith, l1.len, l2.len]
    omega
theorem walks_enum {g : G} {z : Z} {a : Addr} {ds : List D} (d : Dat g z (.lst ds) (.ref a)) : Walks g (Ite g.K a) z (ds.zipIdx.map fun (d, i) => .p (.tup [.int (i : Nat), d])) := by
  have at_ : ∀ B S H, Sub g z ⟨B, S, H⟩ → ∃ vs, H a = some (.lst vs) ∧ DatL g ⟨B, S, H⟩ ds vs := fun B S H s => by
    obtain ⟨a', vs, e, t, _, l⟩ := s.dat _ _ d
    cases e
    exact ⟨vs, t, l⟩
  refine ⟨fun i B S H s so hi => ?_, fun i B S H x H' y s so hy q => ?_, fun B S H s so => ?_⟩
  · obtain ⟨vs, t, l⟩ := at_ B S H s
    rw [List.length_map, List.length_zipIdx] at hi
    obtain ⟨v, hv, _⟩ := l.get (List.getElem?_eq_getElem hi)
    exact ⟨vs, v, SqL.of t, hv⟩
  · obtain ⟨vs, t, l⟩ := at_ B S H s
    obtain ⟨T, v, rfl, nT, rfl, q1⟩ := q
    rw [List.getElem?_map, List.getElem?_zipIdx] at hy
    cases h1 : ds[i]? with
    | none => rw [h1] at hy; cases hy
    | some x1 =>
      rw [h1] at hy
      simp only [Option.map_some, Option.some.injEq] at hy
      subst hy
      obtain ⟨v', hv, dv⟩ := l.get h1
      have e1 := (q1 vs (SqL.of t)).symm.trans hv
      cases e1
      refine ⟨so.new nT, Stab.new so nT, ?_⟩
      have : (0 + i : Nat) = i := Nat.zero_add i
      rw [this]
      exact new_tup so nT ⟨.int (i : Nat), [v], rfl, rfl, v, [], rfl, dv, rfl⟩
  · obtain ⟨vs, t, l⟩ := at_ B S H s
    exact ⟨vs, SqL.of t, by rw [List.length_map, List.length_zipIdx, l.len]; exact Nat.le_refl _⟩
theorem _root_.L2.PI.imp {X : Cx} {tg e : Expr} {t t' : TI} (h : PI X tg e t) (f : ∀ σ H R, t' σ H R → t σ H R) : PI X tg e t' := ⟨fun pins s σ H R I q => h.run pins s σ H R I (f σ H R q)⟩
theorem si_seq (h : SE fa cl X e c) : SI fa cl X tg e .seq [c] := by
  refine ⟨fun pins s σ H R I q => ?_⟩
  obtain ⟨B, S, ρ, xs, S', items, eo, so, hm, hw, k⟩ := q
  rw [evs] at hm
  obtain ⟨x, S1, hx, hm1⟩ := Rz.bind_ok hm
  rw [evs] at hm1
  cases hm1
  cases x with
  | m i => simp [walkF] at hw
  | p d =>
    cases d with
    | lst ds =>
      simp only [walkF, Option.some.injEq] at hw
      subst hw
      refine (pi_list h).run pins s σ H R I ?_
      refine tE.use eo so hx fun v1 B1 H1 so1 st1 eo1 d1 => ?_
      obtain ⟨a, vs, rfl, t, n, l⟩ := id d1
      exact ⟨a, rfl, ⟨vs, SqL.of t⟩, k _ B1 H1 so1 st1 (walks_list d1)⟩
    | tup ds =>
      simp only [walkF, Option.some.injEq] at hw
      subst hw
      refine (pi_tup h).run pins s σ H R I ?_
      refine tE.use eo so hx fun v1 B1 H1 so1 st1 eo1 d1 => ?_
      obtain ⟨a, vs, rfl, t, l⟩ := id d1
      exact ⟨a, rfl, ⟨vs, t⟩, k _ B1 H1 so1 st1 (walks_tup d1)⟩
    | str x =>
      simp only [walkF, Option.some.injEq] at hw
      subst hw
      refine (pi_str h).run pins s σ H R I ?_
      exact tE.use eo so hx fun v1 B1 H1 so1 st1 eo1 d1 => ⟨x, d1, k _ B1 H1 so1 st1 walks_str⟩
    | _ => simp [walkF] at hw
theorem si_range1 {p : Pos} (hg : Gl X "range") (hmg : X.mg "range" = none) (h : SA fa cl X [e] [c]) (hs : starEach [e] X.env = [(false, eval e X.env)]) : SI fa cl X tg (.Call (.Name "range" p) [e] [] pos) .range1 [c] :=
  (pi_range1 hg hmg h hs).imp fun σ H R q => by
    obtain ⟨B, S, ρ, xs, S', items, eo, so, hm, hw, k⟩ := q
    refine tA.use eo so hm fun vs B1 H1 so1 st1 eo1 d1 => ?_
    unfold walkF at hw
    split at hw <;> try (cases hw)
    all_goals (rename_i heq; try (cases heq))
    rename_i j
    split at hw
    · rename_i hj
      have hj := rgB_iff.mp hj
      cases hw
      obtain ⟨v, rfl, d⟩ := d1.one
      exact ⟨j, by rw [show v = V.int j from d], hj.1, hj.2, k _ B1 H1 so1 st1 walks_range⟩
    · cases hw
theorem si_range2 {p : Pos} {e2 : Expr} {c2 : C} (hg : Gl X "range") (hmg : X.mg "range" = none) (h : SA fa cl X [e, e2] [c, c2]) (hs : starEach [e, e2] X.env = [(false, eval e X.env), (false, eval e2 X.env)]) (hs2 : starEach [e2] X.env = [(false, eval e2 X.env)]) :
    SI fa cl X tg (.Call (.Name "range" p) [e, e2] [] pos) .range2 [c, c2] :=
  (pi_range2 hg hmg h hs hs2).imp fun σ H R q => by
    obtain ⟨B, S, ρ, xs, S', items, eo, so, hm, hw, k⟩ := q
    refine tA.use eo so hm fun vs B1 H1 so1 st1 eo1 d1 => ?_
    unfold walkF at hw
    split at hw <;> try (cases hw)
    all_goals (rename_i heq; try (cases heq))
    rename_i i j
    split at hw
    · rename_i hj
      rw [Bool.and_eq_true] at hj
      have hj1 := rgB_iff.mp hj.1
      have hj2 := rgB_iff.mp hj.2
      have hj := And.intro hj1.1 (And.intro hj1.2 hj2)
      cases hw
      obtain ⟨v, w, rfl, d1, d2⟩ := d1.two
      exact ⟨i, j, by rw [show v = V.int i from d1, show w = V.int j from d2], hj, k _ B1 H1 so1 st1 walks_range⟩
    · cases hw
theorem si_zip {p tpos : Pos} {e2 : Expr} {c2 : C} {elts : List Expr} {kk : Nat} (hg : Gl X "zip") (hmg : X.mg "zip" = none) (h : SA fa cl X [e, e2] [c, c2]) (hs : starEach [e, e2] X.env = (false, eval e X.env) :: starEach [e2] X.env) (hpl : (backTo pos (starEach [e2] X.env)).any (·.1) = false) :
    SI fa cl X (.Tuple elts kk tpos) (.Call (.Name "zip" p) [e, e2] [] pos) .zip [c, c2] :=
  (RZ.pi_zipA hg hmg h hs hpl).imp fun σ H R q => by
    obtain ⟨B, S, ρ, xs, S', items, eo, so, hm, hw, k⟩ := q
    refine tA.use eo so hm fun vs B1 H1 so1 st1 eo1 d1 => ?_
    unfold walkF at hw
    split at hw <;> try (cases hw)
    all_goals (rename_i heq; try (cases heq))
    · obtain ⟨v, w, rfl, e1, e2⟩ := d1.two
      obtain ⟨a, vs, rfl, t1, n1, l1⟩ := id e1
      obtain ⟨b, ws, rfl, t2, n2, l2⟩ := id e2
      exact ⟨a, b, vs, ws, rfl, .inl ⟨SqL.of t1, SqL.of t2, k _ B1 H1 so1 st1 (walks_zip e1 e2)⟩⟩
    · obtain ⟨v, w, rfl, e1, e2⟩ := d1.two
      obtain ⟨a, vs, rfl, t1, l1⟩ := id e1
      obtain ⟨b, ws, rfl, t2, l2⟩ := id e2
      exact ⟨a, b, vs, ws, rfl, .inr ⟨t1, t2, k _ B1 H1 so1 st1 (walks_zipT e1 e2)⟩⟩
theorem si_enum {p tpos : Pos} {elts : List Expr} {kk : Nat} (hg : Gl X "enumerate") (hmg : X.mg "enumerate" = none) (h : SA fa cl X [e] [c]) (hs : starEach [e] X.env = [(false, eval e X.env)]) :
    SI fa cl X (.Tuple elts kk tpos) (.Call (.Name "enumerate" p) [e] [] pos) .enum [c] :=
  (pi_enum hg hmg h hs).imp fun σ H R q => by
    obtain ⟨B, S, ρ, xs, S', items, eo, so, hm, hw, k⟩ := q
    refine tA.use eo so hm fun vs B1 H1 so1 st1 eo1 d1 => ?_
    unfold walkF at hw
    split at hw <;> try (cases hw)
    all_goals (rename_i heq; try (cases heq))
    · obtain ⟨v, rfl, e1⟩ := d1.one
      obtain ⟨a, vs, rfl, t1, n1, l1⟩ := id e1
      exact ⟨a, vs, rfl, SqL.of t1, k _ B1 H1 so1 st1 (walks_enum e1)⟩
/-! ### comprehensions -/
theorem wipe_in {σ : L2.St} {i : Nat} : ∀ {vs : List Nat}, i ∈ vs → i < σ.length → (L2.wipe σ vs)[i]? = some none
  | v :: vs, h, hl => by
    show ((L2.wipe σ vs).set v none)[i]? = some none
    by_cases hv : v = i
    · subst hv
      rw [List.getElem?_set_self (by rw [wipe_length]; exact hl)]
    · rw [List.getElem?_set_ne hv]
      rcases List.mem_cons.mp h with h | h
      · exact absurd h.symm hv
      · exact wipe_in h hl
theorem Off.wipe {vs own : List Nat} {σ σ' : L2.St} (h : Off vs σ σ') (hs : ∀ i ∈ vs, i ∈ own) : L2.wipe σ' own = L2.wipe σ own := by
  apply List.ext_getElem?
  intro i
  by_cases hi : i ∈ own
  · by_cases hl : i < σ.length
    · rw [wipe_in hi hl, wipe_in hi (by rw [h.1]; exact hl)]
    · rw [List.getElem?_eq_none (by rw [wipe_length, h.1]; omega), List.getElem?_eq_none (by rw [wipe_length]; omega)]
  · rw [wipe_out hi, wipe_out hi, h.2 i fun z => hi (hs i z)]
theorem wipe_wipe {σ : L2.St} {own : List Nat} : L2.wipe (L2.wipe σ own) own = L2.wipe σ own := by
  apply List.ext_getElem?
  intro i
  by_cases hi : i ∈ own
  · by_cases hl : i < σ.length
    · rw [wipe_in hi (by rw [wipe_length]; exact hl), wipe_in hi hl]
    · rw [List.getElem?_eq_none (by rw [wipe_length, wipe_length]; omega), List.getElem?_eq_none (by rw [wipe_length]; omega)]
  · rw [wipe_out hi]
/-- the reading of a comprehension's turns -/
theorem lc_run {g : G} {wi : TI} {tt : TT} {te : TE} {t : Tg} {own : List Nat} {bnd : A → Option Env} {cond elt : Env → Store → Rz A} {ρ : Env} {σ : L2.St} {items : List A} {S1 S2 : Store} {ds : List D} {J : It} {B1 : Bk} {H1 : Hp} {Q : VK} {D0 : Addr}
    (hbnd : bnd = fun x => bindT t x (wipeE ρ own)) (hsl : ∀ i ∈ t.slots, i ∈ own)
    (ht : ∀ σ H Q, tT g cond σ H Q → tt σ H Q) (he : ∀ σ H Q, tE g elt σ H Q → te σ H Q)
    (eo : EnvOk g ⟨B1, S1, H1⟩ ρ σ) (so : StoreOk g ⟨B1, S1, H1⟩) (hw : Walks g J ⟨B1, S1, H1⟩ items) (hc : compL bnd cond elt items S1 = .ok ds S2) (hl : ds.length < LIM) (hD : H1 D0 = none)
    (k : ∀ B' H', StoreOk g ⟨B', S2, H'⟩ → Stab g ⟨B1, S1, H1⟩ ⟨B', S2, H'⟩ → Dat g ⟨B', S2, H'⟩ (.lst ds) (.ref D0) → Q (.ref D0) H') :
    ∃ W : Nat → Nat → Hp → Prop, (∃ m, W 0 m (upd H1 D0 (.lst []))) ∧ ∀ i m H, W i m H →
      (J.stop i H ∧ Q (.ref D0) H) ∨ (J.go i H ∧ ∃ Nx : Hp → Prop, (∀ H', Nx H' → ∃ m', m' < m ∧ W (i + 1) m' H') ∧ ∀ x H', J.yld i H x H' → gT g t x (L2.wipe σ own) H' fun σ2 H2 => L2.wipe σ2 own = L2.wipe σ own ∧ tt σ2 H2 fun b H3 =>
        if b = true then te σ2 H3 fun y H4 => ∃ acc, H4 D0 = some (.lst acc) ∧ acc.length < sizeLine ∧ Nx (upd H4 D0 (.lst (acc ++ [y]))) else Nx H3) := by
  let W : Nat → Nat → Hp → Prop := fun i m H => ∃ (B : Bk) (S : Store) (acc rest : List D) (vs : List V), i ≤ items.length ∧ m = items.length - i ∧ StoreOk g ⟨B.opn D0, S, H⟩ ∧ Sub g ⟨B1, S1, H1⟩ ⟨B.opn D0, S, H⟩ ∧ B.E = B1.E ∧ (∀ a ∈ B1.E, H a = H1 a) ∧
    H D0 = some (.lst vs) ∧ DatL g ⟨B.opn D0, S, H⟩ acc vs ∧ compL bnd cond elt (items.drop i) S = .ok rest S2 ∧ acc ++ rest = ds
  refine ⟨W, ⟨items.length, B1, S1, [], ds, [], Nat.zero_le _, by omega, so.open hD, Sub.open hD, rfl, fun a ha => upd_ne (so.exne hD a ha), upd_same, rfl, hc, rfl⟩, fun i m H hW => ?_⟩
  obtain ⟨B, S, acc, rest, vs, hi, hm, soW, sub, eE, kE, eD, dl, hr, ea⟩ := hW
  by_cases hlt : i < items.length
  · refine .inr ⟨hw.go i _ _ _ sub soW hlt, fun H' => ∃ m', m' < m ∧ W (i + 1) m' H', fun H' h => h, fun x H' hy => ?_⟩
    obtain ⟨soY, stY, dY⟩ := hw.yld i _ _ _ x H' items[i] sub soW (List.getElem?_eq_getElem hlt) hy
    rw [List.drop_eq_getElem_cons hlt] at hr
    rw [compL] at hr
    split at hr
    · cases hr
    · rename_i ρ1 hb
      have subY : Sub g ⟨B1, S1, H1⟩ ⟨B.opn D0, S, H'⟩ := sub.trans stY.sub
      have eoY : EnvOk g ⟨B.opn D0, S, H'⟩ (wipeE ρ own) (L2.wipe σ own) := (eo.wipe own).sub subY
      rw [hbnd] at hb
      refine ⟨B.opn D0, S, wipeE ρ own, items[i], ρ1, eoY, soY, dY, hb, fun σ2 eo2 off => ⟨by rw [off.wipe hsl, wipe_wipe], ?_⟩⟩
      obtain ⟨bv, S3, hcond, hr1⟩ := Rz.bind_ok hr
      split at hr1
      · refine ht _ _ _ (tT.use eo2 soY hcond fun B3 H3 so3 st3 eo3 => ?_)
        simp only [if_true]
        obtain ⟨y, S4, hy4, hr2⟩ := Rz.bind_ok hr1
        split at hr2
        · rename_i d
          obtain ⟨ds', S5, hrest, hr3⟩ := Rz.bind_ok hr2
          cases hr3
          refine he _ _ _ (tE.use eo3 so3 hy4 fun v4 B4 H4 so4 st4 eo4 d4 => ?_)
          have stA : Stab g ⟨B.opn D0, S, H⟩ ⟨B4, S4, H4⟩ := (stY.trans st3).trans st4
          have eB : B4 = (⟨B4.l, B.E⟩ : Bk).opn D0 := by
            have : B4.E = D0 :: B.E := stA.same
            show B4 = ⟨B4.l, D0 :: B.E⟩
            rw [← this]
          have e4 : H4 D0 = some (.lst vs) := (stA.keep D0 (List.mem_cons_self ..)).trans eD
          have lv : vs.length = acc.length := dl.len
          have la : acc.length < LIM := by
            have : (acc ++ d :: ds').length = ds.length := by rw [ea]
            rw [List.length_append, List.length_cons] at this
            omega
          refine ⟨vs, e4, by rw [lv]; exact Nat.lt_of_lt_of_le la lim_line, items.length - (i + 1), by omega, ⟨B4.l, B.E⟩, S4, acc ++ [d], ds', vs ++ [v4], hlt, rfl, ?_⟩
          rw [eB] at so4 d4 stA
          refine ⟨so4.push e4, (sub.trans stA.sub).trans (Sub.push so4 e4), eE, fun a ha => ?_, upd_same, ?_, hrest, by rw [List.append_assoc]; exact ea⟩
          · have na : a ≠ D0 := so.exne hD a ha
            rw [upd_ne na, ← kE a ha]
            exact stA.keep a (List.mem_cons_of_mem _ (by rw [eE]; exact ha))
          · exact (Sub.push so4 e4).datL ((stA.sub.datL dl).app ⟨v4, [], rfl, d4, rfl⟩)
        · cases hr2
      · refine ht _ _ _ (tT.use eo2 soY hcond fun B3 H3 so3 st3 eo3 => ?_)
        simp only [Bool.false_eq_true, if_false]
        have stA : Stab g ⟨B.opn D0, S, H⟩ ⟨B3, S3, H3⟩ := stY.trans st3
        have eB : B3 = (⟨B3.l, B.E⟩ : Bk).opn D0 := by
          have : B3.E = D0 :: B.E := stA.same
          show B3 = ⟨B3.l, D0 :: B.E⟩
          rw [← this]
        have e3 : H3 D0 = some (.lst vs) := (stA.keep D0 (List.mem_cons_self ..)).trans eD
        refine ⟨items.length - (i + 1), by omega, ⟨B3.l, B.E⟩, S3, acc, rest, vs, hlt, rfl, ?_⟩
        rw [eB] at so3 stA
        refine ⟨so3, sub.trans stA.sub, eE, fun a ha => ?_, e3, stA.sub.datL dl, hr1, ea⟩
        rw [← kE a ha]
        exact stA.keep a (List.mem_cons_of_mem _ (by rw [eE]; exact ha))
      · cases hr1
  · have ei : i = items.length := by omega
    subst ei
    refine .inl ⟨hw.stop _ _ _ sub soW, ?_⟩
    rw [List.drop_length, compL] at hr
    cases hr
    rw [List.append_nil] at ea
    subst ea
    have hB : B = ⟨B.l, B1.E⟩ := by rw [← eE]
    refine k B H soW.close ⟨fun d v h => Sub.close.dat d v (sub.dat d v h), fun i a h => sub.pre i a h, eE, kE⟩ ⟨D0, vs, rfl, eD, fun q => ?_, Sub.close.datL dl⟩
    rcases q with ⟨j, xs, h1, _⟩ | q
    · exact (soW.ex D0 (List.mem_cons_self ..)).2 (List.mem_of_getElem? h1)
    · rw [eE] at q
      exact so.exne hD D0 q rfl
/-- the tests of a comprehension -/
def tCond (g : G) (cl : Nat → List A → Store → Rz A) : Option C → TT
  | none => tYes
  | some cc => tT g (ev cl true cc)
theorem comp_rd {g : G} {kk : ItK} {its : List C} {t : Tg} {own : List Nat} {cond : Option C} (hsl : ∀ i ∈ t.slots, i ∈ own) (σ : L2.St) (H : Hp) (Q : VK) (q : tE g (ev cl false (.comp kk its t own cond c)) σ H Q) :
    tLc (iW g cl kk its) (gT g t) (tCond g cl cond) (tE g (ev cl false c)) own σ H Q := by
  obtain ⟨B, S, ρ, z, S', eo, so, hm, k⟩ := q
  cases cond with
  | none =>
    rw [ev] at hm
    obtain ⟨xs, S1, hxs, hm1⟩ := Rz.bind_ok hm
    obtain ⟨items, S2, hit, hm2⟩ := Rz.bind_ok hm1
    obtain ⟨git, rfl⟩ := Rz.of_ok hit
    obtain ⟨ds, S3, hcl, hm3⟩ := Rz.bind_ok hm2
    split at hm3
    · rename_i hl
      rw [tst_f] at hm3
      cases hm3
      refine ⟨B, S, ρ, xs, S2, items, eo, so, hxs, git, fun J B1 H1 so1 st1 hw D0 hD => ?_⟩
      refine lc_run (wi := iW g cl kk its) rfl hsl (fun σ H Q q => ?_) (fun σ H Q q => q) (eo.mono st1) so1 hw hcl hl hD fun B' H' so' st' dv => k _ B' H' so' (st1.trans st') dv
      obtain ⟨B, S, ρ, b, S', eo, so, hm, k⟩ := q
      cases hm
      exact k B H so Stab.refl
    · cases hm3
  | some cc =>
    rw [ev] at hm
    obtain ⟨xs, S1, hxs, hm1⟩ := Rz.bind_ok hm
    obtain ⟨items, S2, hit, hm2⟩ := Rz.bind_ok hm1
    obtain ⟨git, rfl⟩ := Rz.of_ok hit
    obtain ⟨ds, S3, hcl, hm3⟩ := Rz.bind_ok hm2
    split at hm3
    · rename_i hl
      rw [tst_f] at hm3
      cases hm3
      refine ⟨B, S, ρ, xs, S2, items, eo, so, hxs, git, fun J B1 H1 so1 st1 hw D0 hD => ?_⟩
      exact lc_run (wi := iW g cl kk its) rfl hsl (fun σ H Q q => q) (fun σ H Q q => q) (eo.mono st1) so1 hw hcl hl hD fun B' H' so' st' dv => k _ B' H' so' (st1.trans st') dv
    · cases hm3
def SCond (fa : Ad) (cl : Nat → List A → Store → Rz A) (X : Cx) (ifs : List Expr) (cond : Option C) : Prop := PTs X ifs (tCond (gx X fa) cl cond)
theorem sc_none : SCond fa cl X [] none := pts_nil
theorem sc_some (h : ST fa cl X e c) : SCond fa cl X [e] (some c) := pts_one h
section
variable {kk : ItK} {its : List C} {t : Tg} {own : List (Str × Nat)} {iter elt : Expr} {ifs : List Expr} {scope : Scope} {cond : Option C}
theorem se_comp (hc : X.calm = true) (hN : X.N.Nodup) (hi : SI fa cl X tg iter kk its) (ok : BlkOk X.N X.env.scope scope own)
    (hg : ∀ (s : Shared) (H : Hp) (C : Addr) (cls : List (Str × Addr)) (fp : List Addr), SG fa (X.blk s H scope (compEnvC scope cls C X.env) fp) tg t)
    (ht : ∀ (s : Shared) (H : Hp) (C : Addr) (cls : List (Str × Addr)) (fp : List Addr), SCond fa cl (X.blk s H scope (compEnvC scope cls C X.env) fp) ifs cond)
    (he : ∀ (s : Shared) (H : Hp) (C : Addr) (cls : List (Str × Addr)) (fp : List Addr), SE fa cl (X.blk s H scope (compEnvC scope cls C X.env) fp) elt c)
    (hsl : ∀ i ∈ t.slots, i ∈ own.map (·.2)) (hs : ∀ x, foldedSetIterable iter X.env x = pure x) : SE fa cl X (.ListComp elt [⟨tg, iter, ifs, 0⟩] scope pos) (.comp kk its t (own.map (·.2)) cond c) :=
  (pe_lc (g := gT (gx X fa) t) (tt := tCond (gx X fa) cl cond) (te := tE (gx X fa) (ev cl false c)) hc hN hi ok hg ht he hs).imp (comp_rd hsl)
theorem _root_.L2.PS.imp {X : Cx} {e : Stmt} {t t' : TS} (h : PS X e t) (f : ∀ D σ H, t' D σ H → t D σ H) : PS X e t' := ⟨fun pins s σ H D I q => h.run pins s σ H D I (f D σ H q)⟩
theorem _root_.L2.PSs.imp {X : Cx} {e : List Stmt} {t t' : TS} (h : PSs X e t) (f : ∀ D σ H, t' D σ H → t D σ H) : PSs X e t' := ⟨fun pins s σ H D I q => h.run pins s σ H D I (f D σ H q)⟩
/-- name = [..] on one line -/
theorem ss_setLc {i : Nat} {y : Str} {py spos : Pos} (hc : X.calm = true) (hN : X.N.Nodup) (hy : X.N[i]? = some y) (hyl : X.env.scope.names.lookup y = some .local)
    (hsw : swapsWith (.ListComp elt [⟨tg, iter, ifs, 0⟩] scope pos) (some (.Name y py)) spos.line X.env = pure true) (hi : SI fa cl X tg iter kk its) (ok : BlkOk X.N X.env.scope scope own)
    (hg : ∀ (s : Shared) (H : Hp) (C : Addr) (cls : List (Str × Addr)) (fp : List Addr), SG fa (X.blk s H scope (compEnvC scope cls C X.env) fp) tg t)
    (ht : ∀ (s : Shared) (H : Hp) (C : Addr) (cls : List (Str × Addr)) (fp : List Addr), SCond fa cl (X.blk s H scope (compEnvC scope cls C X.env) fp) ifs cond)
    (he : ∀ (s : Shared) (H : Hp) (C : Addr) (cls : List (Str × Addr)) (fp : List Addr), SE fa cl (X.blk s H scope (compEnvC scope cls C X.env) fp) elt c)
    (hsl : ∀ i ∈ t.slots, i ∈ own.map (·.2)) (hs : ∀ x, foldedSetIterable iter X.env x = pure x) :
    PS X (.Assign [.Name y py] (.ListComp elt [⟨tg, iter, ifs, 0⟩] scope pos) spos) (tAsg (tE (gx X fa) (ev cl false (.comp kk its t (own.map (·.2)) cond c))) (gName i)) :=
  (ps_setLc (g := gT (gx X fa) t) (tt := tCond (gx X fa) cl cond) (te := tE (gx X fa) (ev cl false c)) hc hN hy hyl hsw hi ok hg ht he hs).imp fun D σ H q => comp_rd hsl σ H _ q
end
/-! ### methods -/
theorem se_append {apos : Pos} {o : Expr} {co : C} (ho : SE fa cl X o co) (ha : SA fa cl X [e] [c]) (hbase : attributeBase o "append" X.env (eval o X.env) = eval o X.env)
    (hfew : ((backTo pos (starEach [e] X.env)).all (fun x => !x.1) && (backToKw pos (keywordEach [] X.env)).all (fun x => x.1.isSome) && decide (([e] : List Expr).length + ([] : List Keyword).length + (if ([] : List Keyword).isEmpty then 0 else 1) < 30)) = true)
    (hline : (apos.endLine == pos.line) = true) (hs : starEach [e] X.env = (false, eval e X.env) :: starEach [] X.env) (hplain : (backTo pos (starEach [] X.env)).any (·.1) = false) :
    SE fa cl X (.Call (.Attribute o "append" apos) [e] [] pos) (.mth .append co [c]) :=
  (pe_bm PySem.F.plainAttrs_list PySem.F.slot_list_append PySem.F.type_list_append mt_append ho ha hbase hfew hline hs hplain).imp fun σ H Q q => by
    obtain ⟨B, S, ρ, z, S', eo, so, hm, k⟩ := q
    rw [ev] at hm
    obtain ⟨x, S1, hx, hm1⟩ := Rz.bind_ok hm
    split at hm1
    · rename_i hty
      obtain ⟨xs, S2, hxs, hm2⟩ := Rz.bind_ok hm1
      obtain ⟨w, S3, hw, hm3⟩ := Rz.bind_ok hm2
      rw [tst_f] at hm3
      cases hm3
      cases x with
      | p d => simp [mthTy] at hty
      | m j =>
        unfold mthTy at hty
        dsimp only at hty
        split at hty
        · rename_i ys0 hj0
          refine tE.use eo so hx fun v1 B1 H1 so1 st1 eo1 d1 => ?_
          obtain ⟨a, hb, rfl⟩ := d1
          obtain ⟨vs0, e0, _⟩ := so1.ob j a ys0 hb hj0
          refine ⟨.inl ⟨rfl, _, SqL.of e0⟩, tA.use eo1 so1 hxs fun vs B2 H2 so2 st2 eo2 d2 => ?_⟩
          unfold mthF at hw
          split at hw
          · rename_i j' d heq1
            cases heq1
            split at hw
            · rename_i ys hj
              split at hw
              · rename_i hl
                cases hw
                obtain ⟨v, rfl, dv⟩ := d2.one
                have hb2 := st2.pre j a hb
                obtain ⟨ws, e2, l2⟩ := so2.ob j a ys hb2 hj
                refine ⟨a, ws, v, rfl, rfl, e2, by rw [l2.len]; exact Nat.lt_of_lt_of_le hl lim_line, ?_⟩
                exact k _ B2 _ (so2.put hb2 hj (l2.app ⟨v, [], rfl, dv, rfl⟩)) ((st1.trans st2).trans (Stab.put so2 hb2 hj)) rfl
              · cases hw
            · cases hw
          · rename_i heq1 _
            cases heq1
          · cases hw
        · cases hty
    · cases hm1
theorem join_inv {x y z : A} {S S' : Store} (h : mthF .join x [y] S = .ok z S') : ∃ a ds ys, x = .p (.str a) ∧ y = .p (.lst ds) ∧ D.strs ds = some ys ∧ (ys.map (·.length)).sum + ys.length * a.length ≤ LIM ∧ z = .p (.str (Txt.join a ys)) ∧ S' = S := by
  cases x with
  | m i => simp [mthF] at h
  | p x =>
    cases x with
    | str a =>
      cases y with
      | m i => simp [mthF] at h
      | p y =>
        cases y with
        | lst ds =>
          simp only [mthF] at h
          split at h
          · rename_i ys hys
            split at h
            · rename_i hl
              cases h
              exact ⟨a, ds, ys, rfl, rfl, hys, hl, rfl, rfl⟩
            · cases h
          · cases h
        | _ => simp [mthF] at h
    | _ => simp [mthF] at h
theorem se_join {apos : Pos} {o : Expr} {co : C} (ho : SE fa cl X o co) (ha : SE fa cl X e c) (hs : starEach [e] X.env = [(false, eval e X.env)]) (hbase : attributeBase o "join" X.env (eval o X.env) = eval o X.env)
    (hline : (apos.endLine == pos.line) = true) : SE fa cl X (.Call (.Attribute o "join" apos) [e] [] pos) (.mth .join co [c]) :=
  (pe_join ho ha hs hbase hline).imp fun σ H Q q => by
    obtain ⟨B, S, ρ, z, S', eo, so, hm, k⟩ := q
    rw [ev] at hm
    obtain ⟨x, S1, hx, hm1⟩ := Rz.bind_ok hm
    split at hm1
    · rename_i hty
      obtain ⟨xs, S2, hxs, hm2⟩ := Rz.bind_ok hm1
      obtain ⟨w, S3, hw, hm3⟩ := Rz.bind_ok hm2
      rw [tst_f] at hm3
      cases hm3
      rw [evs] at hxs
      obtain ⟨y, S4, hy, hxs1⟩ := Rz.bind_ok hxs
      rw [evs] at hxs1
      cases hxs1
      refine tE.use eo so hx fun v1 B1 H1 so1 st1 eo1 d1 => ?_
      obtain ⟨a, ds, ys, rfl, rfl, hys, hl, rfl, rfl⟩ := join_inv hw
      refine ⟨⟨a, d1⟩, tE.use eo1 so1 hy fun v2 B2 H2 so2 st2 eo2 d2 => ?_⟩
      obtain ⟨p, vs, rfl, t, n, l⟩ := d2
      refine ⟨a, p, ys, d1, rfl, .inl ?_, Nat.le_trans hl (by decide), k _ B2 H2 so2 (st1.trans st2) rfl⟩
      rw [← l.strs hys]
      exact SqL.of t
    · cases hm1
/-- isinstance(a, (T1, T2)) -/
inductive TyNames (X : Cx) : List Expr → List Ty → Prop where
  | nil : TyNames X [] []
  | cons {e : Expr} {t : Ty} {es : List Expr} {ts : List Ty} (h : PE X e (tC (.ty t.nm))) (hs : starEach (e :: es) X.env = (false, eval e X.env) :: starEach es X.env) (r : TyNames X es ts) : TyNames X (e :: es) (t :: ts)
theorem TyNames.pa : ∀ {es : List Expr} {ts : List Ty}, TyNames X es ts → PA X es (fun _ H Q => Q (ts.map fun t => V.ty t.nm) H)
  | _, _, .nil => pa_nil
  | _, _, .cons h hs r => pa_cons h r.pa hs
theorem tys_cls : ∀ ts : List Ty, Paired ClsV (ts.map fun t => V.ty t.nm) (ts.map fun t => Value.type t.nm)
  | [] => .nil
  | t :: ts => .cons (.ty _) (tys_cls ts)
theorem kitAny_tys {K : PySem.W.Frag} {t : Ty} : ∀ ts : List Ty, PySem.W.kitAny K (.type t.nm) (ts.map fun t => Value.type t.nm) = some (ts.any fun c => isaF t c)
  | [] => rfl
  | c :: ts => by
    refine kitAny_cons (b := isaF t c) (kit_ty (kit_isa t c)) (fun h => ?_) fun h => ?_
    · rw [kitAny_tys ts, List.any_cons, h]
      rfl
    · rw [List.any_cons, h]
      rfl
theorem se_isiT {p p2 : Pos} {kk : Nat} {ts : List Ty} (hg : Gl X "isinstance") (hmg : X.mg "isinstance" = none) (ha : SE fa cl X a ca) (ht : TyNames X es ts) (hl : ts.length ≤ LIM)
    (hs : starEach [a, .Tuple es kk p2] X.env = (false, eval a X.env) :: starEach [.Tuple es kk p2] X.env) : SE fa cl X (.Call (.Name "isinstance" p) [a, .Tuple es kk p2] [] pos) (.isiT ca ts) :=
  (pe_callB call_isiT hg hmg (by decide +kernel) (pa_cons ha (pa_cons (pe_tup ht.pa) pa_nil) hs) (by decide +kernel) (by decide +kernel) hs rfl).imp fun σ H Q q => by
    obtain ⟨B, S, ρ, z, S', eo, so, hm, k⟩ := q
    rw [ev] at hm
    obtain ⟨x, S1, hx, hm1⟩ := Rz.bind_ok hm
    split at hm1
    · rename_i t hty
      cases hm1
      refine tE.use eo so hx fun v1 B1 H1 so1 st1 eo1 d1 => ⟨by rw [List.length_map]; exact lim_le hl, fun q hq => ?_⟩
      exact ⟨v1, q, _, .type t.nm, _, _, rfl, upd_same, tys_cls ts, ty_ok (so1.new hq) hty ((Stab.new so1 hq).datA d1), kitAny_tys ts, k _ B1 _ (so1.new hq) (st1.trans (Stab.new so1 hq)) rfl⟩
    · cases hm1
end
end Fw

/-! Calls that may raise, instances. -/
namespace Fw
open PySem PySem.Spec PyProof.Rows L2
/-- what is known of an exception's class -/
structure XcK (K : PySem.W.Frag) (few mis : Value) (as : List Str) (C : Addr) : Prop where
  few : PySem.W.exmAny K (.ref C) [few, mis] = some true
  xf : XfC K C
  code : PySem.W.findIn K (.ref C) "code" = some none
  fld : ∀ y ∈ as, PySem.W.findIn K (.ref C) y = some none
/-- an exception in the air and what stands for it -/
def ExOk (g : G) (z : Z) (e : Exn) (cls : Value) (d : Option Addr) : Prop := cls = .ref (g.fa.c e.c) ∧ XcK g.K (.ref g.fa.few) (.ref g.fa.mis) fldNames (g.fa.c e.c) ∧
  ∃ (dd : Addr) (fs : List (Str × V)), d = some dd ∧ z.H dd = some (.xd fs) ∧ ∀ n x, e.at n = some x → ∃ v, fs.lookup n = some v ∧ Dat g z x v
/-- what is wanted behind an expression that ends by r -/
def AfZ (g : G) (z : Z) (Q : VK) (E : XK) : Rz A → Prop
  | .ok x S' => ∀ v B' H', StoreOk g ⟨B', S', H'⟩ → Stab g z ⟨B', S', H'⟩ → DatA g ⟨B', S', H'⟩ x v → Q v H'
  | .ex e S' => ∀ cls d B' H', StoreOk g ⟨B', S', H'⟩ → Stab g z ⟨B', S', H'⟩ → ExOk g ⟨B', S', H'⟩ e cls d → E cls d H'
  | .bad => False
theorem AfZ.mono {g : G} {z z' : Z} {Q : VK} {E : XK} {r : Rz A} (h : AfZ g z Q E r) (s : Stab g z z') : AfZ g z' Q E r := by
  cases r with
  | ok x S => exact fun v B' H' so st d => h v B' H' so (s.trans st) d
  | ex e S => exact fun c d B' H' so st x => h c d B' H' so (s.trans st) x
  | bad => exact h
theorem AfZ.np {α : Type} {g : G} {z : Z} {Q : VK} {E : XK} {r : Rz α} {f : α → Store → Rz A} (h : AfZ g z Q E (r.np.bind f)) : ∃ a S, r = .ok a S ∧ AfZ g z Q E (f a S) := by
  cases r with
  | ok a S => exact ⟨a, S, rfl, h⟩
  | ex e S => exact False.elim h
  | bad => exact False.elim h
def tX (g : G) (E : XK) (m : Env → Store → Rz A) : TE := fun σ H Q => ∃ B S ρ, EnvOk g ⟨B, S, H⟩ ρ σ ∧ StoreOk g ⟨B, S, H⟩ ∧ AfZ g ⟨B, S, H⟩ Q E (m ρ S)
def spX (g : G) (np : Nat) (m : List A → Store → Rz A) : Sp := fun vs H Q E => ∃ B S xs, StoreOk g ⟨B, S, H⟩ ∧ DatAL g ⟨B, S, H⟩ xs vs ∧ xs.length = np ∧ AfZ g ⟨B, S, H⟩ Q E (m xs S)
theorem spX_of {g : G} {np : Nat} {m : List A → Store → Rz A} {vs : List V} {H : Hp} {Q : VK} {E : XK} (h : spF g np m vs H Q E) : spX g np m vs H Q E := by
  obtain ⟨B, S, xs, x, S', so, d, hl, hm, k⟩ := h
  refine ⟨B, S, xs, so, d, hl, ?_⟩
  rw [hm]
  exact k
theorem ExOk.cut {g : G} {B : Bk} {S : Store} {H : Hp} {n : Nat} {e : Exn} {c : Value} {d : Option Addr} (h : ExOk g ⟨B, S, H⟩ e c d) : ExOk g ⟨B.take n, S.take n, H⟩ e c d := by
  obtain ⟨h1, h2, dd, fs, h3, h4, h5⟩ := h
  refine ⟨h1, h2, dd, fs, h3, h4, fun m x hx => ?_⟩
  obtain ⟨v, a, b⟩ := h5 m x hx
  exact ⟨v, a, Dat.cut b⟩
/-! ### attributes -/
theorem getN_dat {g : G} {z : Z} {n : Str} {d : D} : ∀ {ns : List Str} {ds : List D} {vs : List V}, DatL g z ds vs → getN n ns ds = some d → ∃ v, (ns.zip vs).lookup n = some v ∧ Dat g z d v
  | [], ds, vs, _, h => by
    unfold getN at h
    cases ds <;> simp at h
  | m :: ns, [], vs, _, h => by
    unfold getN at h
    simp at h
  | m :: ns, x :: ds, _, ⟨v, r, e, a, b⟩, h => by
    subst e
    unfold getN at h
    rw [List.zip_cons_cons, List.lookup_cons] at h ⊢
    split at h
    · cases h
      exact ⟨v, rfl, a⟩
    · exact getN_dat b h
theorem none_dat {n : Str} : ∀ {ns : List Str} {vs : List V}, (ns.any fun x => x == n) = false → (ns.zip vs).lookup n = none
  | [], vs, _ => by cases vs <;> rfl
  | m :: ns, [], _ => rfl
  | m :: ns, v :: vs, h => by
    rw [List.any_cons, Bool.or_eq_false_iff] at h
    rw [List.zip_cons_cons, List.lookup_cons]
    have : (n == m) = false := by
      have h1 := h.1
      rw [beq_eq_false_iff_ne] at h1 ⊢
      exact fun z => h1 z.symm
    rw [this]
    exact none_dat h.2
theorem insF_at {g : G} {B : Bk} {S : Store} {H : Hp} {x : A} {v : V} {c : Nat} {ns : List Str} {ds : List D} (so : StoreOk g ⟨B, S, H⟩) (d : DatA g ⟨B, S, H⟩ x v) (h : insF x S = some (c, ns, ds)) :
    ∃ a dx vs, v = .ref a ∧ H a = some (.ins (g.fa.c c) dx (ns.zip vs)) ∧ ns.length = ds.length ∧ DatL g ⟨B, S, H⟩ ds vs := by
  unfold insF at h
  split at h
  · cases h
    obtain ⟨a, dx, vs, e, t, _, l, q⟩ := d
    exact ⟨a, dx, vs, e, t, l, q⟩
  · split at h
    · rename_i hs
      cases h
      obtain ⟨a, hb, e⟩ := d
      obtain ⟨u, hu, dx, vs, eu, l, q⟩ := so.obj _ a _ hb hs
      subst eu
      exact ⟨a, dx, vs, e, hu, l, q⟩
    · cases h
  · cases h
/-- an attribute is set, in both -/
theorem putN_dat {g : G} {z : Z} {n : Str} {d : D} {y : V} (dy : Dat g z d y) : ∀ {ns : List Str} {ds : List D} {vs : List V}, ns.length = ds.length → DatL g z ds vs →
    ∃ ws, DatL g z (putN n d ns ds).2 ws ∧ (putN n d ns ds).1.zip ws = putF n y (ns.zip vs) ∧ (putN n d ns ds).1.length = (putN n d ns ds).2.length
  | [], [], vs, _, h => by
    rw [show vs = [] from h]
    exact ⟨[y], ⟨y, [], rfl, dy, rfl⟩, rfl, rfl⟩
  | m :: ns, x :: ds, _, hl, ⟨v, r, e, a, b⟩ => by
    subst e
    rw [List.zip_cons_cons, putN]
    show ∃ ws, _ ∧ _ = (if m = n then (m, y) :: ns.zip r else (m, v) :: putF n y (ns.zip r)) ∧ _
    by_cases hm : m = n
    · rw [if_pos hm, if_pos hm]
      exact ⟨y :: r, ⟨y, r, rfl, dy, b⟩, rfl, hl⟩
    · rw [if_neg hm, if_neg hm]
      obtain ⟨ws, h1, h2, h3⟩ := putN_dat dy (Nat.succ.inj hl) b
      exact ⟨v :: ws, ⟨v, ws, rfl, a, h1⟩, by rw [List.zip_cons_cons, h2], by rw [List.length_cons, List.length_cons, h3]⟩
  | [], _ :: _, _, hl, _ => by cases hl
  | _ :: _, [], _, hl, _ => by cases hl
section
variable {fa : Ad} {cl : Nat → List A → Store → Rz A} {X : Cx} {e a b tg o : Expr} {c ca cb co : C} {pos apos : Pos} {k : Nat} {es : List Expr} {cs : List C} {E : XK}
abbrev SX (fa : Ad) (cl : Nat → List A → Store → Rz A) (E : XK) (X : Cx) (e : Expr) (x : XC) : Prop := PE X e (tX (gx X fa) E (xcF cl x))
theorem SX.se {h : Hd} (s : SX fa cl E0 X e (.app h cs)) : SE fa cl X e (.app h cs) := s.imp fun σ H Q q => by
  obtain ⟨B, S, ρ, z, S', eo, so, hm, k⟩ := q
  rw [ev] at hm
  obtain ⟨y, S2, hy, hm2⟩ := Rz.bind_ok hm
  rw [tst_f] at hm2
  cases hm2
  refine ⟨B, S, ρ, eo, so, ?_⟩
  show AfZ _ _ _ _ ((evs cl cs ρ S).np.bind _)
  rw [hy]
  exact k
theorem SX.sem {ci fi : Nat} {m : Str} {ds : List D} (s : SX fa cl E0 X e (.meth ci fi m co cs ds)) : SE fa cl X e (.meth ci fi m co cs ds) := s.imp fun σ H Q q => by
  obtain ⟨B, S, ρ, z, S', eo, so, hm, k⟩ := q
  rw [ev] at hm
  obtain ⟨y, S2, hy, hm2⟩ := Rz.bind_ok hm
  rw [tst_f] at hm2
  cases hm2
  refine ⟨B, S, ρ, eo, so, ?_⟩
  show AfZ _ _ _ _ ((ev cl false co ρ S).np.bind _)
  rw [hy]
  exact k
theorem sx_fn {f : Addr} {fd : FuncData} {ps : List Str} {fi : Nat} {x : Str} {p : Pos} {dsV : List Value} {dvs : List V} {ds : List D} {np : Nat} (F : FnOk X.prog X.w X.K X.mg X.base (L2.CX X.prog X.w) k f fd ps (spX (gx X fa) np (cl fi))) (hr : Room k X.A) (hg : Gl X x) (hmg : X.mg x = some (.ref f))
    (hk : PySem.W.keepIn X.K (.ref f) = true) (hb : Binds X.K fd ps dsV) (hd : Vals dvs dsV) (hdd : ∀ z, DatL (gx X fa) z ds dvs) (hn : cs.length + ds.length + 1 = np) (hx : Passes (L2.CX X.prog X.w) X E) (ha : SA fa cl X (e :: es) (c :: cs))
    (hdb : (x == ("__debug__" : Str)) = false) (he : starEach (e :: es) X.env = (false, eval e X.env) :: starEach es X.env) (hpl : (backTo pos (starEach es X.env)).any (·.1) = false) : SX fa cl E X (.Call (.Name x p) (e :: es) [] pos) (.app (.fn fi ds) (c :: cs)) :=
  (pe_call F hr hg hmg hk hb hd hx ha hdb he hpl).imp fun σ H Q q => by
    obtain ⟨B, S, ρ, eo, so, h⟩ := q
    obtain ⟨xs, S1, hxs, h1⟩ := AfZ.np h
    refine tA.use eo so hxs fun vs B1 H1 so1 st1 eo1 d1 => ⟨B1, S1, xs ++ ds.map A.p, so1, d1.app (hdd _).ofP, ?_, h1.mono st1⟩
    rw [List.length_append, List.length_map, evs_len hxs, List.length_cons]
    omega
theorem sx_fn0 {f : Addr} {fd : FuncData} {ps : List Str} {fi : Nat} {x : Str} {p : Pos} {dsV : List Value} {dvs : List V} {ds : List D} {np : Nat} (F : FnOk X.prog X.w X.K X.mg X.base (L2.CX X.prog X.w) k f fd ps (spX (gx X fa) np (cl fi))) (hr : Room k X.A) (hg : Gl X x) (hmg : X.mg x = some (.ref f))
    (hk : PySem.W.keepIn X.K (.ref f) = true) (hb : Binds X.K fd ps dsV) (hd : Vals dvs dsV) (hdd : ∀ z, DatL (gx X fa) z ds dvs) (hn : ds.length = np) (hx : Passes (L2.CX X.prog X.w) X E)
    (hdb : (x == ("__debug__" : Str)) = false) : SX fa cl E X (.Call (.Name x p) [] [] pos) (.app (.fn fi ds) []) :=
  (pe_call0 F hr hg hmg hk hb hd hx hdb).imp fun σ H Q q => by
    obtain ⟨B, S, ρ, eo, so, h⟩ := q
    rw [xcF, evs] at h
    have h1 : AfZ (gx X fa) ⟨B, S, H⟩ Q E (cl fi ([] ++ ds.map A.p) S) := h
    exact ⟨B, S, [] ++ ds.map A.p, so, (hdd _).ofP, by rw [List.nil_append, List.length_map]; exact hn, h1⟩
/-- a new instance, from its __init__ -/
theorem mk_sp {ci fi np : Nat} {B : Bk} {S : Store} {H : Hp} {xs : List A} {vs : List V} {Q : VK} (so : StoreOk (gx X fa) ⟨B, S, H⟩) (d : DatAL (gx X fa) ⟨B, S, H⟩ xs vs) (hl : xs.length + 1 = np) (h : AfZ (gx X fa) ⟨B, S, H⟩ Q E (mkF cl ci fi xs S)) :
    ∀ x dx, H x = none → H dx = none → dx ≠ x → spX (gx X fa) np (cl fi) (.ref x :: vs) (upd (upd H dx (.own x)) x (.ins (fa.c ci) dx [])) (fun v H2 => v = .non ∧ Q (.ref x) H2) E := by
  intro x dx hx hdx hne
  have s1 := so.new (o := .own x) hdx
  have t1 := Stab.new (o := .own x) so hdx
  have hx1 : upd H dx (HO.own x) x = none := by
    rw [upd_ne (Ne.symm hne)]
    exact hx
  have ob : Ob (gx X fa) ⟨B, S, upd H dx (.own x)⟩ (.ins ci [] []) (.ins (fa.c ci) dx []) := ⟨dx, [], rfl, rfl, rfl⟩
  have s2 := s1.allocO hx1 ob
  have t2 : Stab (gx X fa) ⟨B, S, H⟩ ⟨B.add x, S ++ [.ins ci [] []], upd (upd H dx (.own x)) x (.ins (fa.c ci) dx [])⟩ := t1.trans (Stab.alloc s1 hx1)
  have lB : B.l.length = S.length := so.len
  have bx : (B.add x).l[S.length]? = some x := by
    show (B.l ++ [x])[S.length]? = some x
    rw [← lB, List.getElem?_append_right (Nat.le_refl _), Nat.sub_self]
    rfl
  refine ⟨B.add x, S ++ [.ins ci [] []], .m S.length :: xs, s2, ⟨.ref x, vs, rfl, ⟨x, bx, rfl⟩, t2.datAL d⟩, by rw [List.length_cons]; exact hl, ?_⟩
  unfold mkF at h
  cases hr : cl fi (.m S.length :: xs) (S ++ [.ins ci [] []]) with
  | bad =>
    rw [hr] at h
    exact h
  | ex e S' =>
    rw [hr] at h
    dsimp only at h
    intro cls dd B' H' so' st' xo
    exact h cls dd _ H' so'.cut ((t2.trans st').cut (by rw [show (Z.mk B S H).B.l.length = B.l.length from rfl, lB]; exact Nat.le_refl _)) xo.cut
  | ok y S' =>
    rw [hr] at h
    cases y with
    | m i => exact False.elim h
    | p d0 =>
      cases d0 with
      | non =>
        dsimp only at h
        intro v B' H' so' st' dv
        refine ⟨dv, ?_⟩
        split at h
        · rename_i c' ns ds hs
          split at h
          · rename_i hc
            subst hc
            have bx' := st'.pre _ _ bx
            obtain ⟨u, hu, dx', ws, eu, ln, dl⟩ := so'.obj _ _ _ bx' hs
            subst eu
            refine h (.ref x) _ H' so'.cut ((t2.trans st').cut (by rw [show (Z.mk B S H).B.l.length = B.l.length from rfl, lB]; exact Nat.le_refl _)) ⟨x, dx', ws, rfl, hu, fun q => ?_, ln, DatL.cutB dl⟩
            rcases q with ⟨j, o, h1, h2, _⟩ | q
            · have e1 := nodup_at so'.nd (at_take h1) bx'
              have := (List.getElem?_eq_some_iff.mp h2).1
              rw [List.length_take] at this
              omega
            · exact (so'.ex x q).2 (List.mem_of_getElem? bx')
          · exact False.elim h
        · exact False.elim h
      | _ => exact False.elim h
theorem sx_make {f : Addr} {fd : FuncData} {ps : List Str} {ci fi : Nat} {x : Str} {p : Pos} {dsV : List Value} {dvs : List V} {ds : List D} {np : Nat} (M : Mk X.K (fa.c ci) f) (F : FnOk X.prog X.w X.K X.mg X.base (L2.CX X.prog X.w) k f fd ps (spX (gx X fa) np (cl fi))) (hr : Room (k + 1) X.A) (hg : Gl X x) (hmg : X.mg x = some (.ref (fa.c ci)))
    (hb : Binds X.K fd ps dsV) (hd : Vals dvs dsV) (hdd : ∀ z, DatL (gx X fa) z ds dvs) (hn : cs.length + ds.length + 2 = np) (hx : Passes (L2.CX X.prog X.w) X E) (ha : SA fa cl X (e :: es) (c :: cs))
    (hdb : (x == ("__debug__" : Str)) = false) (he : starEach (e :: es) X.env = (false, eval e X.env) :: starEach es X.env) (hpl : (backTo pos (starEach es X.env)).any (·.1) = false) : SX fa cl E X (.Call (.Name x p) (e :: es) [] pos) (.app (.make ci fi ds) (c :: cs)) :=
  (pe_make M F hr hg hmg hb hd hx ha hdb he hpl).imp fun σ H Q q => by
    obtain ⟨B, S, ρ, eo, so, h⟩ := q
    obtain ⟨xs, S1, hxs, h1⟩ := AfZ.np h
    refine tA.use eo so hxs fun vs B1 H1 so1 st1 eo1 d1 => mk_sp so1 (d1.app (hdd _).ofP) ?_ (h1.mono st1)
    rw [List.length_append, List.length_map, evs_len hxs, List.length_cons]
    omega
theorem sx_meth {f : Addr} {fd : FuncData} {ps : List Str} {ci fi : Nat} {m : Str} {dsV : List Value} {dvs : List V} {ds : List D} {np : Nat} {pl : Sem Bool} (ho : SE fa cl X o co) (hc : Cls X.K (fa.c ci)) (hm : Meth X.K (fa.c ci) m f) (F : FnOk X.prog X.w X.K X.mg X.base (L2.CX X.prog X.w) k f fd ps (spX (gx X fa) np (cl fi))) (hr : Room k X.A)
    (hb : Binds X.K fd ps dsV) (hd : Vals dvs dsV) (hdd : ∀ z, DatL (gx X fa) z ds dvs) (hn : cs.length + ds.length + 2 = np) (hx : Passes (L2.CX X.prog X.w) X E) (ha : SA fa cl X (e :: es) (c :: cs))
    (he : starEach (e :: es) X.env = (false, eval e X.env) :: starEach es X.env) (hpl : (backTo pos (starEach es X.env)).any (·.1) = false)
    (ht : eval (.Call (.Attribute o m apos) (e :: es) [] pos) X.env = (do
      let ov ← eval o X.env
      standAt apos.atName
      let (f, first) ← holding [ov] (getMethod ov m pl)
      callWith pos f first (backTo pos (starEach (e :: es) X.env)) (backToKw pos (keywordEach [] X.env)))) : SX fa cl E X (.Call (.Attribute o m apos) (e :: es) [] pos) (.meth ci fi m co (c :: cs) ds) :=
  (pe_meth (pl := pl) ho hc hm F hr hb hd hx ha he hpl ht).imp fun σ H Q q => by
    obtain ⟨B, S, ρ, eo, so, h⟩ := q
    obtain ⟨x, S1, hx1, h1⟩ := AfZ.np h
    refine tE.use eo so hx1 fun v B1 H1 so1 st1 eo1 d1 => ?_
    split at h1
    · rename_i c' ns ds' hi
      split at h1
      · rename_i hc'
        rw [Bool.and_eq_true, decide_eq_true_eq, Bool.not_eq_true'] at hc'
        obtain ⟨rfl, hno⟩ := hc'
        obtain ⟨a, dx, vs, rfl, ha', ln, dl⟩ := insF_at so1 d1 hi
        obtain ⟨xs, S2, hxs, h2⟩ := AfZ.np h1
        refine ⟨a, dx, _, rfl, ha', none_dat hno, ?_⟩
        refine tA.use eo1 so1 hxs fun ws B2 H2 so2 st2 eo2 d2 => ⟨B2, S2, x :: (xs ++ ds.map A.p), so2, ⟨.ref a, _, rfl, st2.datA d1, d2.app (hdd _).ofP⟩, ?_, h2.mono (st1.trans st2)⟩
        rw [List.length_cons, List.length_append, List.length_map, evs_len hxs, List.length_cons]
        omega
      · exact False.elim h1
    · exact False.elim h1
theorem sx_meth0 {f : Addr} {fd : FuncData} {ps : List Str} {ci fi : Nat} {m : Str} {dsV : List Value} {dvs : List V} {ds : List D} {np : Nat} {pl : Sem Bool} (ho : SE fa cl X o co) (hc : Cls X.K (fa.c ci)) (hm : Meth X.K (fa.c ci) m f) (F : FnOk X.prog X.w X.K X.mg X.base (L2.CX X.prog X.w) k f fd ps (spX (gx X fa) np (cl fi))) (hr : Room k X.A)
    (hb : Binds X.K fd ps dsV) (hd : Vals dvs dsV) (hdd : ∀ z, DatL (gx X fa) z ds dvs) (hn : ds.length + 1 = np) (hx : Passes (L2.CX X.prog X.w) X E)
    (ht : eval (.Call (.Attribute o m apos) [] [] pos) X.env = (do
      let ov ← eval o X.env
      standAt apos.atName
      let (f, first) ← holding [ov] (getMethod ov m pl)
      callWith pos f first (backTo pos (starEach [] X.env)) (backToKw pos (keywordEach [] X.env)))) : SX fa cl E X (.Call (.Attribute o m apos) [] [] pos) (.meth ci fi m co [] ds) :=
  (pe_meth0 (pl := pl) ho hc hm F hr hb hd hx ht).imp fun σ H Q q => by
    obtain ⟨B, S, ρ, eo, so, h⟩ := q
    obtain ⟨x, S1, hx1, h1⟩ := AfZ.np h
    refine tE.use eo so hx1 fun v B1 H1 so1 st1 eo1 d1 => ?_
    split at h1
    · rename_i c' ns ds' hi
      split at h1
      · rename_i hc'
        rw [Bool.and_eq_true, decide_eq_true_eq, Bool.not_eq_true'] at hc'
        obtain ⟨rfl, hno⟩ := hc'
        obtain ⟨a, dx, vs, rfl, ha', ln, dl⟩ := insF_at so1 d1 hi
        obtain ⟨xs, S2, hxs, h2⟩ := AfZ.np h1
        rw [evs] at hxs
        cases hxs
        refine ⟨a, dx, _, rfl, ha', none_dat hno, ?_⟩
        exact ⟨B1, S1, x :: ([] ++ ds.map A.p), so1, ⟨.ref a, _, rfl, d1, (hdd _).ofP⟩, by rw [List.length_cons, List.nil_append, List.length_map]; exact hn, h2.mono st1⟩
      · exact False.elim h1
    · exact False.elim h1
theorem SX.semK {ci fi : Nat} {m : Str} {ks : List C} {asm : List (Nat ⊕ D)} (s : SX fa cl E0 X e (.methK ci fi m co ks asm)) : SE fa cl X e (.methK ci fi m co ks asm) := s.imp fun σ H Q q => by
  obtain ⟨B, S, ρ, z, S', eo, so, hm, k⟩ := q
  rw [ev] at hm
  obtain ⟨y, S2, hy, hm2⟩ := Rz.bind_ok hm
  rw [tst_f] at hm2
  cases hm2
  refine ⟨B, S, ρ, eo, so, ?_⟩
  show AfZ _ _ _ _ ((ev cl false co ρ S).np.bind _)
  rw [hy]
  exact k
/-- f(.., k = v) that may raise: run on values -/
theorem runKX {f : Addr} {fd : FuncData} {ps ks : List Str} {fi n : Nat} {asm : List (Nat ⊕ D)} {pins : List (Addr × Obj)} {σ : L2.St} {H : Hp} {s : Shared} {Q : VK} {us ws : List Value} {vs zs : List V} {xs ys : List A} {B : Bk} {S : Store} {qs : List A}
    (F : FnOk X.prog X.w X.K X.mg X.base (L2.CX X.prog X.w) k f fd ps (spX (gx X fa) ps.length (cl fi))) (hr : Room k X.A) (hb : KBA (gx X fa) fd ps n ks asm) (hx : Passes (L2.CX X.prog X.w) X E) (I : Inv X pins σ H s) (r : Vals vs us) (rz : Vals zs ws)
    (so : StoreOk (gx X fa) ⟨B, S, H⟩) (d1 : DatAL (gx X fa) ⟨B, S, H⟩ xs vs) (d2 : DatAL (gx X fa) ⟨B, S, H⟩ ys zs) (ha : asmF asm (xs ++ ys) = some qs) (l1 : us.length = n) (l2 : ws.length = ks.length) (hm : AfZ (gx X fa) ⟨B, S, H⟩ Q E (cl fi qs S)) : wpAny (model X.prog X.w) X.A (call (.ref f) us (ks.zip ws)) (EP X pins σ Q) X.xe s := by
  obtain ⟨os, rs, bt, vr, dr, lr⟩ := hb s us ws vs zs xs ys qs ⟨B, S, H⟩ I.kIn d1 d2 r rz ha l1 l2
  refine wpAny_call (codeAny_mono (F.run X.A X.stack s H ⟨us, ks.zip ws⟩ os rs Q E hr I.env0 bt vr ⟨B, S, qs, so, dr, by rw [← dr.len]; exact lr, hm⟩) fun r s' hq => ?_)
  cases r with
  | error e => exact hx pins σ H s e s' I hq
  | ok fl =>
    cases fl with
    | ret u => exact I.after hq
    | next => exact False.elim hq
    | brk => exact False.elim hq
    | cont => exact False.elim hq
/-- o.m(k = v, ..) -/
theorem sx_methK {f : Addr} {fd : FuncData} {ps ks : List Str} {ci fi : Nat} {m : Str} {asm : List (Nat ⊕ D)} {kws : List Keyword} {kcs : List C} {pl : Sem Bool} (ho : SE fa cl X o co) (hc : Cls X.K (fa.c ci)) (hm : Meth X.K (fa.c ci) m f) (F : FnOk X.prog X.w X.K X.mg X.base (L2.CX X.prog X.w) k f fd ps (spX (gx X fa) ps.length (cl fi))) (hr : Room k X.A)
    (hb : KBA (gx X fa) fd ps 1 ks asm) (hx : Passes (L2.CX X.prog X.w) X E) (hkw : SK fa cl X kws kcs) (hlk : kcs.length = ks.length) (hall : (backToKw pos (keywordEach kws X.env)).all (·.1.isSome) = true) (hks : (backToKw pos (keywordEach kws X.env)).filterMap (·.1) = ks)
    (hpl : ((backTo pos (starEach [] X.env)).any (·.1) || (backToKw pos (keywordEach kws X.env)).any (·.1.isNone)) = false)
    (ht : eval (.Call (.Attribute o m apos) [] kws pos) X.env = (do
      let ov ← eval o X.env
      standAt apos.atName
      let (f, first) ← holding [ov] (getMethod ov m pl)
      callWith pos f first (backTo pos (starEach [] X.env)) (backToKw pos (keywordEach kws X.env)))) : SX fa cl E X (.Call (.Attribute o m apos) [] kws pos) (.methK ci fi m co kcs asm) := by
  refine ⟨fun pins s σ H Q I q => ?_⟩
  obtain ⟨B, S, ρ, eo, so, h⟩ := q
  obtain ⟨x, S1, hx1, h1⟩ := AfZ.np h
  refine PySem.W.methodCall_KW (pl := pl) (thn (ho.run pins s σ H (fun v H1 => ∃ B1, StoreOk (gx X fa) ⟨B1, S1, H1⟩ ∧ Stab (gx X fa) ⟨B, S, H⟩ ⟨B1, S1, H1⟩ ∧ EnvOk (gx X fa) ⟨B1, S1, H1⟩ ρ σ ∧ DatA (gx X fa) ⟨B1, S1, H1⟩ x v) I
    (tE.use eo so hx1 fun v B1 H1 so1 st1 eo1 d1 => ⟨B1, so1, st1, eo1, d1⟩)) fun u s1 ⟨v, H1, I1, rx, B1, so1, st1, eo1, d1⟩ => ?_) ht
  split at h1
  · rename_i c' ns ds' hi
    split at h1
    · rename_i hc'
      rw [Bool.and_eq_true, decide_eq_true_eq, Bool.not_eq_true'] at hc'
      obtain ⟨rfl, hno⟩ := hc'
      obtain ⟨a, dx, vs, rfl, ha', ln, dl⟩ := insF_at so1 d1 hi
      obtain ⟨ys, S2, hys, h2⟩ := AfZ.np h1
      split at h2
      · rename_i qs hqs
        obtain rfl : u = Value.ref a := rx
        refine getmeth_ok I1 ha' hc hm (none_dat hno) ?_
        refine PySem.W.callWith_KW0 (first := [.ref a]) (h₀ := X.base) I.ok.mod.kin hm.kp hall (thn (hkw.pk.run pos pins s1 σ H1 (fun zs H2 => ∃ B2, StoreOk (gx X fa) ⟨B2, S2, H2⟩ ∧ Stab (gx X fa) ⟨B1, S1, H1⟩ ⟨B2, S2, H2⟩ ∧ DatAL (gx X fa) ⟨B2, S2, H2⟩ ys zs) I1
          (tA.use eo1 so1 hys fun vs B1 H1 so1 st1 eo1 d1 => ⟨B1, so1, st1, d1⟩)) fun ws s2 ⟨zs, H2, I2, rz, B2, so2, st2, d2⟩ => ⟨I2.kIn, ?_⟩) hpl
        rw [hks]
        refine runKX (us := [.ref a]) (vs := [.ref a]) (xs := [x]) F hr hb hx I2 (.cons rfl .nil) rz so2 ⟨.ref a, [], rfl, st2.datA d1, rfl⟩ d2 hqs rfl ?_ (h2.mono (st1.trans st2))
        rw [← rz.length, d2.len, evs_len hys, hlk]
      · exact False.elim h2
    · exact False.elim h1
  · exact False.elim h1
theorem se_fld {ci : Nat} {n : Str} (ho : SE fa cl X o co) (hc : Cls X.K (fa.c ci)) (hn : NoAttr X.K (fa.c ci) n) (hb : attributeBase o n X.env (eval o X.env) = eval o X.env) : SE fa cl X (.Attribute o n pos) (.fld ci co n) :=
  (pe_fld ho hb).imp fun σ H Q q => by
    obtain ⟨B, S, ρ, z, S', eo, so, hm, k⟩ := q
    rw [ev] at hm
    obtain ⟨x, S1, hx, hm1⟩ := Rz.bind_ok hm
    refine tE.use eo so hx fun v B1 H1 so1 st1 eo1 d1 => ?_
    split at hm1
    · rename_i c' ns ds hi
      split at hm1
      · rename_i hc'
        subst hc'
        obtain ⟨a, dx, vs, rfl, ha', ln, dl⟩ := insF_at so1 d1 hi
        obtain ⟨d, S2, hd, hm2⟩ := Rz.bind_ok hm1
        obtain ⟨hd', rfl⟩ := Rz.of_ok hd
        rw [tst_f] at hm2
        cases hm2
        obtain ⟨w, hw, dw⟩ := getN_dat dl hd'
        exact ⟨a, _, dx, _, w, rfl, ha', hc, hn, hw, k w B1 H1 so1 st1 dw⟩
      · cases hm1
    · cases hm1
theorem se_ccst {ci : Nat} {n : Str} {d : D} {mc : Value} {v : V} {u : Value} {p : Pos} {x : Str} (hg : Gl X x) (hmg : X.mg x = some (.ref (fa.c ci))) (hdb : (x == ("__debug__" : Str)) = false) (r : ClX.CRead X.K (fa.c ci) mc) (cv : ClX.CVal X.K (fa.c ci) mc n v u) (hd : ∀ z, Dat (gx X fa) z d v) :
    SE fa cl X (.Attribute (.Name x p) n pos) (.ccst ci n d) :=
  (ClX.pe_cval (pe_glob hg hmg (v := .ref (fa.c ci)) rfl hdb) rfl).imp fun σ H Q q => by
    obtain ⟨B, S, ρ, z, S', eo, so, hm, k⟩ := q
    rw [ev, tst_f] at hm
    cases hm
    exact ⟨_, mc, v, u, rfl, r, cv, k v B H so Stab.refl (hd _)⟩
end
end Fw

/-! A classmethod with a star parameter; a class that a local holds. -/
namespace Fw
open PySem PySem.Spec PyProof.Rows L2
/-- what a def with one parameter and a star parameter promises -/
def spStar (g : G) (m : List A → Store → Rz A) : Sp := fun vs H Q E => ∃ ws rest, vs = ws ++ rest ∧ ws.length = 1 ∧ rest.length ≤ sizeLine ∧ ∀ p, H p = Option.none → spX g 2 m (ws ++ [V.ref p]) (upd H p (.tup rest)) Q E
section
variable {fa : Ad} {cl : Nat → List A → Store → Rz A} {X : Cx} {e a b tg o : Expr} {c ca cb co : C} {pos apos : Pos} {k : Nat} {es : List Expr} {cs : List C} {E : XK}
theorem star_sp {ci fi : Nat} {m : Str} {ρ : Env} {B : Bk} {S : Store} {H : Hp} {xs : List A} {vs : List V} {Q : VK} (so : StoreOk (gx X fa) ⟨B, S, H⟩) (d : DatAL (gx X fa) ⟨B, S, H⟩ xs vs) (h : AfZ (gx X fa) ⟨B, S, H⟩ Q E (appF cl (.cmeth ci fi m) ρ xs S)) :
    spStar (gx X fa) (cl fi) (.ref (fa.c ci) :: vs) H Q E := by
  unfold appF at h
  dsimp only at h
  split at h
  · rename_i ds hds
    split at h
    · rename_i hl
      have dl := DatAL.datas hds d
      refine ⟨[.ref (fa.c ci)], vs, rfl, rfl, by rw [dl.len]; exact Nat.le_trans hl lim_line, fun p hp => ?_⟩
      refine ⟨B, S, [.p (.kl ci), .p (.tup ds)], so.new hp, ⟨_, _, rfl, rfl, _, _, rfl, new_tup so hp dl, rfl⟩, rfl, h.mono (Stab.new so hp)⟩
    · exact False.elim h
  · exact False.elim h
theorem sx_cmeth {g p : Addr} {mc : Value} {ci fi : Nat} {m x : Str} {xp : Pos} {pl : Sem Bool} (hg : Gl X x) (hmg : X.mg x = some (.ref (fa.c ci))) (hdb : (x == ("__debug__" : Str)) = false) (r : ClX.CRead X.K (fa.c ci) mc) (cm : ClX.CMet X.K (fa.c ci) mc m p g)
    (F : FnR X.prog X.w X.K X.mg X.base (L2.CX X.prog X.w) k g (spStar (gx X fa) (cl fi))) (hr : Room k X.A) (hx : Passes (L2.CX X.prog X.w) X E) (ha : SA fa cl X (e :: es) (c :: cs))
    (he : starEach (e :: es) X.env = (false, eval e X.env) :: starEach es X.env) (hpl : (backTo pos (starEach es X.env)).any (·.1) = false)
    (ht : eval (.Call (.Attribute (.Name x xp) m apos) (e :: es) [] pos) X.env = (do
      let ov ← eval (.Name x xp) X.env
      standAt apos.atName
      let (f, first) ← holding [ov] (getMethod ov m pl)
      callWith pos f first (backTo pos (starEach (e :: es) X.env)) (backToKw pos (keywordEach [] X.env)))) : SX fa cl E X (.Call (.Attribute (.Name x xp) m apos) (e :: es) [] pos) (.app (.cmeth ci fi m) (c :: cs)) :=
  (ClX.pe_cmeth (pl := pl) (pe_glob hg hmg (v := .ref (fa.c ci)) rfl hdb) r cm F hr hx ha he hpl ht).imp fun σ H Q q => by
    obtain ⟨B, S, ρ, eo, so, h⟩ := q
    obtain ⟨xs, S1, hxs, h1⟩ := AfZ.np h
    exact ⟨rfl, tA.use eo so hxs fun vs B1 H1 so1 st1 eo1 d1 => star_sp so1 d1 (h1.mono st1)⟩
theorem sx_cmeth0 {g p : Addr} {mc : Value} {ci fi : Nat} {m x : Str} {xp : Pos} {pl : Sem Bool} (hg : Gl X x) (hmg : X.mg x = some (.ref (fa.c ci))) (hdb : (x == ("__debug__" : Str)) = false) (r : ClX.CRead X.K (fa.c ci) mc) (cm : ClX.CMet X.K (fa.c ci) mc m p g)
    (F : FnR X.prog X.w X.K X.mg X.base (L2.CX X.prog X.w) k g (spStar (gx X fa) (cl fi))) (hr : Room k X.A) (hx : Passes (L2.CX X.prog X.w) X E)
    (ht : eval (.Call (.Attribute (.Name x xp) m apos) [] [] pos) X.env = (do
      let ov ← eval (.Name x xp) X.env
      standAt apos.atName
      let (f, first) ← holding [ov] (getMethod ov m pl)
      callWith pos f first (backTo pos (starEach [] X.env)) (backToKw pos (keywordEach [] X.env)))) : SX fa cl E X (.Call (.Attribute (.Name x xp) m apos) [] [] pos) (.app (.cmeth ci fi m) []) := by
  refine ⟨fun pins s σ H Q I q => ?_⟩
  obtain ⟨B, S, ρ, eo, so, h⟩ := q
  have h1 : AfZ (gx X fa) ⟨B, S, H⟩ Q E (appF cl (.cmeth ci fi m) ρ [] S) := by
    rw [xcF, evs] at h
    exact h
  refine PySem.W.methodCall_KW (pl := pl) (thn ((pe_glob (pos := xp) hg hmg (v := .ref (fa.c ci)) rfl hdb).run pins s σ H (fun v H1 => v = .ref (fa.c ci) ∧ H1 = H) I ⟨rfl, rfl⟩) fun u s1 ⟨v, H1, I1, r1, q1⟩ => ?_) ht
  obtain ⟨rfl, rfl⟩ := q1
  cases r1
  refine ClX.getmethcm_ok I1 r cm fun s2 I2 => ?_
  refine PySem.W.callWith_M0 (first := []) (show PySem.W.MethP X.K _ g (.ref (fa.c ci)) s2.heap from ⟨ClX.pin_at I2, I2.kIn⟩) cm.fi ?_
  exact ClX.run_cm (us := []) (vs := []) F hr hx I2 .nil (star_sp so (show DatAL (gx X fa) ⟨B, S, _⟩ [] [] from rfl) h1)
theorem sx_makeL {f : Addr} {fd : FuncData} {ps : List Str} {i ci fi : Nat} {x : Str} {p : Pos} {np : Nat} (M : Mk X.K (fa.c ci) f) (F : FnOk X.prog X.w X.K X.mg X.base (L2.CX X.prog X.w) k f fd ps (spX (gx X fa) np (cl fi))) (hr : Room (k + 1) X.A) (hN : X.N[i]? = some x) (hv : Vis X.env.scope x)
    (hb : Binds X.K fd ps []) (hn : cs.length + 2 = np) (hx : Passes (L2.CX X.prog X.w) X E) (ha : SA fa cl X (e :: es) (c :: cs))
    (hdb : (x == ("__debug__" : Str)) = false) (hcd : (x == ("__classdict__" : Str)) = false) (he : starEach (e :: es) X.env = (false, eval e X.env) :: starEach es X.env) (hpl : (backTo pos (starEach es X.env)).any (·.1) = false) :
    SX fa cl E X (.Call (.Name x p) (e :: es) [] pos) (.app (.makeL i ci fi) (c :: cs)) := by
  refine ⟨fun pins s σ H Q I q => ?_⟩
  obtain ⟨B, S, ρ, eo, so, h⟩ := q
  obtain ⟨xs, S1, hxs, h1⟩ := AfZ.np h
  unfold appF at h1
  dsimp only at h1
  split at h1
  · rename_i c' hi
    split at h1
    · rename_i hc
      subst hc
      obtain ⟨v0, hs, dv⟩ := eo.get i _ hi
      have hs : σ[i]? = some (some (V.ref (fa.c c'))) := by rw [hs, show v0 = V.ref (fa.c c') from dv]
      refine wpAny_Call_Name_kw (thn ((pe_var (pos := p) hN hv hdb hcd).run pins s σ H (fun v H1 => v = .ref (fa.c c') ∧ H1 = H) I ⟨_, hs, rfl, rfl⟩) fun u s1 ⟨v, H1, I1, r1, q1⟩ => ?_)
      obtain ⟨rfl, rfl⟩ := q1
      cases r1
      refine PySem.W.callWith_K (h₀ := X.base) I.ok.mod.kin M.kp (thn (ha.run pos pins s1 σ _ (fun vs H2 => ∀ x dx, H2 x = none → H2 dx = none → dx ≠ x → spX (gx X fa) np (cl fi) (.ref x :: (vs ++ [])) (upd (upd H2 dx (.own x)) x (.ins (fa.c c') dx [])) (fun v H3 => v = .non ∧ Q (.ref x) H3) E) I1
        (tA.use eo so hxs fun vs B1 H1 so1 st1 eo1 d1 => ?_)) fun us s2 ⟨vs, H2, I2, r, q⟩ => ⟨I2.kIn, ?_⟩) he hpl
      · rw [List.append_nil]
        exact mk_sp so1 d1 (by rw [evs_len hxs, List.length_cons]; omega) (h1.mono st1)
      · exact run_make M F hr hb .nil hx I2 r q
    · exact False.elim h1
  · exact False.elim h1
end
end Fw

/-! Expressions in which a call may raise; an instance that stays in the store. -/
namespace Fw
open PySem PySem.Spec PyProof.Rows L2
/-- what is wanted behind arguments that end by r -/
def AfL (g : G) (z : Z) (Q : List V → Hp → Prop) (E : XK) : Rz (List A) → Prop
  | .ok xs S' => ∀ vs B' H', StoreOk g ⟨B', S', H'⟩ → Stab g z ⟨B', S', H'⟩ → DatAL g ⟨B', S', H'⟩ xs vs → Q vs H'
  | .ex e S' => ∀ cls d B' H', StoreOk g ⟨B', S', H'⟩ → Stab g z ⟨B', S', H'⟩ → ExOk g ⟨B', S', H'⟩ e cls d → E cls d H'
  | .bad => False
theorem AfL.mono {g : G} {z z' : Z} {Q : List V → Hp → Prop} {E : XK} {r : Rz (List A)} (h : AfL g z Q E r) (s : Stab g z z') : AfL g z' Q E r := by
  cases r with
  | ok x S => exact fun v B' H' so st d => h v B' H' so (s.trans st) d
  | ex e S => exact fun c d B' H' so st x => h c d B' H' so (s.trans st) x
  | bad => exact h
def tXA (g : G) (E : XK) (m : Env → Store → Rz (List A)) : TA := fun σ H Q => ∃ B S ρ, EnvOk g ⟨B, S, H⟩ ρ σ ∧ StoreOk g ⟨B, S, H⟩ ∧ AfL g ⟨B, S, H⟩ Q E (m ρ S)
section
variable {g : G} {z : Z} {E : XK}
theorem AfZ.bind {Q Q' : VK} {r : Rz A} {f : A → Store → Rz A} (h : AfZ g z Q E (r.bind f)) (k : ∀ x S1, AfZ g z Q E (f x S1) → ∀ v B' H', StoreOk g ⟨B', S1, H'⟩ → Stab g z ⟨B', S1, H'⟩ → DatA g ⟨B', S1, H'⟩ x v → Q' v H') : AfZ g z Q' E r := by
  cases r with
  | ok a S => exact k a S h
  | ex e S => exact h
  | bad => exact h
theorem AfZ.bindL {Q : VK} {Q' : List V → Hp → Prop} {r : Rz (List A)} {f : List A → Store → Rz A} (h : AfZ g z Q E (r.bind f)) (k : ∀ x S1, AfZ g z Q E (f x S1) → ∀ v B' H', StoreOk g ⟨B', S1, H'⟩ → Stab g z ⟨B', S1, H'⟩ → DatAL g ⟨B', S1, H'⟩ x v → Q' v H') : AfL g z Q' E r := by
  cases r with
  | ok a S => exact k a S h
  | ex e S => exact h
  | bad => exact h
theorem AfL.bind {Q : List V → Hp → Prop} {Q' : VK} {r : Rz A} {f : A → Store → Rz (List A)} (h : AfL g z Q E (r.bind f)) (k : ∀ x S1, AfL g z Q E (f x S1) → ∀ v B' H', StoreOk g ⟨B', S1, H'⟩ → Stab g z ⟨B', S1, H'⟩ → DatA g ⟨B', S1, H'⟩ x v → Q' v H') : AfZ g z Q' E r := by
  cases r with
  | ok a S => exact k a S h
  | ex e S => exact h
  | bad => exact h
theorem AfL.bindL {Q Q' : List V → Hp → Prop} {r : Rz (List A)} {f : List A → Store → Rz (List A)} (h : AfL g z Q E (r.bind f)) (k : ∀ x S1, AfL g z Q E (f x S1) → ∀ v B' H', StoreOk g ⟨B', S1, H'⟩ → Stab g z ⟨B', S1, H'⟩ → DatAL g ⟨B', S1, H'⟩ x v → Q' v H') : AfL g z Q' E r := by
  cases r with
  | ok a S => exact k a S h
  | ex e S => exact h
  | bad => exact h
end
section
variable {fa : Ad} {cl : Nat → List A → Store → Rz A} {X : Cx} {e a b tg o : Expr} {c ca cb co : C} {pos apos : Pos} {k : Nat} {es : List Expr} {cs : List C} {E : XK} {x : CXx} {xs : List CXx}
abbrev SXE (fa : Ad) (cl : Nat → List A → Store → Rz A) (E : XK) (X : Cx) (e : Expr) (x : CXx) : Prop := PE X e (tX (gx X fa) E (evX cl x))
abbrev SXA (fa : Ad) (cl : Nat → List A → Store → Rz A) (E : XK) (X : Cx) (es : List Expr) (xs : List CXx) : Prop := PA X es (tXA (gx X fa) E (evXs cl xs))
theorem sxe_p (h : SE fa cl X e c) : SXE fa cl E X e (.p c) := h.imp fun σ H Q q => by
  obtain ⟨B, S, ρ, eo, so, h⟩ := q
  rw [evX] at h
  cases hr : ev cl false c ρ S with
  | ok y S1 =>
    rw [hr] at h
    exact ⟨B, S, ρ, y, S1, eo, so, hr, h⟩
  | ex e S1 =>
    rw [hr] at h
    exact False.elim h
  | bad =>
    rw [hr] at h
    exact False.elim h
theorem sxe_x {xc : XC} (h : SX fa cl E X e xc) : SXE fa cl E X e (.x xc) := h.imp fun σ H Q q => by
  obtain ⟨B, S, ρ, eo, so, h⟩ := q
  rw [evX] at h
  exact ⟨B, S, ρ, eo, so, h⟩
theorem sxs_nil : SXA fa cl E X [] [] := pa_nil.imp fun σ H Q q => by
  obtain ⟨B, S, ρ, eo, so, h⟩ := q
  rw [evXs] at h
  exact h [] B H so Stab.refl rfl
theorem sxs_cons (ha : SXE fa cl E X e x) (hr : SXA fa cl E X es xs) (hs : starEach (e :: es) X.env = (false, eval e X.env) :: starEach es X.env) : SXA fa cl E X (e :: es) (x :: xs) := (pa_cons ha hr hs).imp fun σ H Q q => by
  obtain ⟨B, S, ρ, eo, so, h⟩ := q
  rw [evXs] at h
  refine ⟨B, S, ρ, eo, so, AfL.bind h fun y S1 h1 v B1 H1 so1 st1 d1 => ⟨B1, S1, ρ, eo.mono st1, so1, AfL.bindL (h1.mono st1) fun ys S2 h2 vs B2 H2 so2 st2 d2 => ?_⟩⟩
  exact h2 (v :: vs) B2 H2 so2 st2 ⟨v, vs, rfl, st2.datA d1, d2⟩
theorem sxe_tup {x1 : Nat} (h : SXA fa cl E X es xs) : SXE fa cl E X (.Tuple es x1 pos) (.tup xs) := (pe_tup h).imp fun σ H Q q => by
  obtain ⟨B, S, ρ, eo, so, h⟩ := q
  rw [evX] at h
  refine ⟨B, S, ρ, eo, so, AfZ.bindL h fun ys S1 h1 vs B1 H1 so1 st1 d1 => ?_⟩
  split at h1
  · rename_i ds hd
    split at h1
    · rename_i hl
      have dl := DatAL.datas hd d1
      exact ⟨by rw [dl.len]; exact lim_le hl, fun p hp => h1 _ B1 _ (so1.new hp) (st1.trans (Stab.new so1 hp)) (new_tup so1 hp dl)⟩
    · exact False.elim h1
  · exact False.elim h1
theorem sxe_lst (h : SXA fa cl E X es xs) : SXE fa cl E X (.List es pos) (.lst xs) := (pe_lst h).imp fun σ H Q q => by
  obtain ⟨B, S, ρ, eo, so, h⟩ := q
  rw [evX] at h
  refine ⟨B, S, ρ, eo, so, AfZ.bindL h fun ys S1 h1 vs B1 H1 so1 st1 d1 => ?_⟩
  split at h1
  · rename_i ds hd
    split at h1
    · rename_i hl
      have dl := DatAL.datas hd d1
      exact ⟨by rw [dl.len]; exact lim_le hl, fun p hp => h1 _ B1 _ (so1.new hp) (st1.trans (Stab.new so1 hp)) (new_lst so1 hp dl)⟩
    · exact False.elim h1
  · exact False.elim h1
theorem sxe_lstM (h : SXA fa cl E X es xs) : SXE fa cl E X (.List es pos) (.lstM xs) := (pe_lst h).imp fun σ H Q q => by
  obtain ⟨B, S, ρ, eo, so, h⟩ := q
  rw [evX] at h
  refine ⟨B, S, ρ, eo, so, AfZ.bindL h fun ys S1 h1 vs B1 H1 so1 st1 d1 => ?_⟩
  split at h1
  · rename_i ds hd
    split at h1
    · rename_i hl
      have dl := DatAL.datas hd d1
      refine ⟨by rw [dl.len]; exact lim_le hl, fun p hp => h1 _ (B1.add p) _ (so1.alloc hp dl) (st1.trans (Stab.alloc so1 hp)) ⟨p, ?_, rfl⟩⟩
      show (B1.l ++ [p])[S1.length]? = some p
      rw [← show B1.l.length = S1.length from so1.len, List.getElem?_append_right (Nat.le_refl _), Nat.sub_self]
      rfl
    · exact False.elim h1
  · exact False.elim h1
theorem sxe_neg (ha : SXE fa cl E X a x) : SXE fa cl E X (.UnaryOp .USub a pos) (.neg x) := (pe_un un_neg ha).imp fun σ H Q q => by
  obtain ⟨B, S, ρ, eo, so, h⟩ := q
  rw [evX] at h
  refine ⟨B, S, ρ, eo, so, AfZ.bind h fun y S1 h1 v B1 H1 so1 st1 d1 => ?_⟩
  split at h1
  · rename_i i
    exact ⟨i, d1, h1 _ B1 H1 so1 st1 rfl⟩
  · exact False.elim h1
theorem sxe_int {p : Pos} (hc : X.calm = true) (hro : Room k X.A) (hg : Gl X (Blt.int).nm) (hmg : X.mg (Blt.int).nm = none) (h : SXA fa cl E X [e] [x]) (he : starEach [e] X.env = (false, eval e X.env) :: starEach [] X.env) (hpl : (backTo pos (starEach [] X.env)).any (·.1) = false) :
    SXE fa cl E X (.Call (.Name (Blt.int).nm p) [e] [] pos) (.int x) := by
  refine ⟨fun pins s σ H Q I q => ?_⟩
  obtain ⟨B, S, ρ, eo, so, h0⟩ := q
  rw [evX] at h0
  have hv : (Blt.int).val = .type "int" := rfl
  cases hr : evX cl x ρ S with
  | bad =>
    rw [hr] at h0
    exact False.elim h0
  | ex e1 S1 =>
    rw [hr] at h0
    refine (pe_callTy (call_int1 (X := X)) hg hmg ((Blt.int).boot.trans (by rw [hv])) h (Blt.int).nn (Blt.int).nd he hpl).run pins s σ H Q I ?_
    refine ⟨B, S, ρ, eo, so, ?_⟩
    rw [evXs, hr]
    exact h0
  | ok y S1 =>
    rw [hr] at h0
    cases hw : bltF .int [y] S1 with
    | none =>
      have h0 : AfZ (gx X fa) ⟨B, S, H⟩ Q E (Rz.of (bltF .int [y] S1) S1) := h0
      rw [hw] at h0
      exact False.elim h0
    | some w =>
      have h0 : AfZ (gx X fa) ⟨B, S, H⟩ Q E (Rz.of (bltF .int [y] S1) S1) := h0
      rw [hw] at h0
      obtain ⟨r, hr', ok⟩ := blt_ok (X := X) (fa := fa) hc hro hw
      rw [hv] at hr'
      refine (pe_callTy hr' hg hmg ((Blt.int).boot.trans (by rw [hv])) h (Blt.int).nn (Blt.int).nd he hpl).run pins s σ H Q I ?_
      refine ⟨B, S, ρ, eo, so, ?_⟩
      rw [evXs, hr]
      show AfL _ _ _ _ ((evXs cl [] ρ S1).bind fun xs S2 => .ok (y :: xs) S2)
      rw [evXs]
      intro vs B1 H1 so1 st1 d1
      exact ok vs B1 H1 Q so1 d1 fun u H' so' st' du => h0 u B1 H' so' (st1.trans st') du
theorem sxe_app {o : Expr} {co : C} (ho : SE fa cl X o co) (ha : SXA fa cl E X [e] [x]) (hbase : attributeBase o "append" X.env (eval o X.env) = eval o X.env)
    (hfew : ((backTo pos (starEach [e] X.env)).all (fun x => !x.1) && (backToKw pos (keywordEach [] X.env)).all (fun x => x.1.isSome) && decide (([e] : List Expr).length + ([] : List Keyword).length + (if ([] : List Keyword).isEmpty then 0 else 1) < 30)) = true)
    (hline : (apos.endLine == pos.line) = true) (hs : starEach [e] X.env = (false, eval e X.env) :: starEach [] X.env) (hplain : (backTo pos (starEach [] X.env)).any (·.1) = false) :
    SXE fa cl E X (.Call (.Attribute o "append" apos) [e] [] pos) (.app co x) :=
  (pe_bm PySem.F.plainAttrs_list PySem.F.slot_list_append PySem.F.type_list_append mt_append ho ha hbase hfew hline hs hplain).imp fun σ H Q q => by
    obtain ⟨B, S, ρ, eo, so, h⟩ := q
    rw [evX] at h
    obtain ⟨y, S1, hx, h1⟩ := AfZ.np h
    split at h1
    · rename_i hty
      cases y with
      | p d => simp [mthTy] at hty
      | m j =>
        unfold mthTy at hty
        dsimp only at hty
        split at hty
        · rename_i ys0 hj0
          refine tE.use eo so hx fun v1 B1 H1 so1 st1 eo1 d1 => ?_
          obtain ⟨a, hb, rfl⟩ := d1
          obtain ⟨vs0, e0, _⟩ := so1.ob j a ys0 hb hj0
          refine ⟨.inl ⟨rfl, _, SqL.of e0⟩, B1, S1, ρ, eo1, so1, ?_⟩
          rw [evXs]
          have h1 := h1.mono st1
          cases hr : evX cl x ρ S1 with
          | bad =>
            rw [hr] at h1
            exact False.elim h1
          | ex e1 S2 =>
            rw [hr] at h1
            exact h1
          | ok y S2 =>
            rw [hr] at h1
            show AfL _ _ _ _ ((evXs cl [] ρ S2).bind fun xs S3 => .ok (y :: xs) S3)
            rw [evXs]
            have h1 : AfZ (gx X fa) ⟨B1, S1, H1⟩ Q E (mthF .append (.m j) [y] S2) := h1
            intro vs B2 H2 so2 st2 d2
            cases y with
            | m i => exact False.elim h1
            | p d =>
              have h1 : AfZ (gx X fa) ⟨B1, S1, H1⟩ Q E (match S2[j]? with
                | some (.lst ys) => if ys.length < LIM then .ok (.p .non) (S2.set j (.lst (ys ++ [d]))) else .bad
                | _ => .bad) := h1
              split at h1
              · rename_i ys hj
                split at h1
                · rename_i hl
                  obtain ⟨v, rfl, dv⟩ := d2.one
                  have hb2 := st2.pre j a hb
                  obtain ⟨ws, e2, l2⟩ := so2.ob j a ys hb2 hj
                  refine ⟨a, ws, v, rfl, rfl, e2, by rw [l2.len]; exact Nat.lt_of_lt_of_le hl lim_line, ?_⟩
                  exact h1 _ B2 _ (so2.put hb2 hj (l2.app ⟨v, [], rfl, dv, rfl⟩)) (st2.trans (Stab.put so2 hb2 hj)) rfl
                · exact False.elim h1
              · exact False.elim h1
        · cases hty
    · exact False.elim h1
theorem mk_spM {ci fi np : Nat} {B : Bk} {S : Store} {H : Hp} {xs : List A} {vs : List V} {Q : VK} (so : StoreOk (gx X fa) ⟨B, S, H⟩) (d : DatAL (gx X fa) ⟨B, S, H⟩ xs vs) (hl : xs.length + 1 = np) (h : AfZ (gx X fa) ⟨B, S, H⟩ Q E (mkM cl ci fi xs S)) :
    ∀ x dx, H x = none → H dx = none → dx ≠ x → spX (gx X fa) np (cl fi) (.ref x :: vs) (upd (upd H dx (.own x)) x (.ins (fa.c ci) dx [])) (fun v H2 => v = .non ∧ Q (.ref x) H2) E := by
  intro x dx hx hdx hne
  have s1 := so.new (o := .own x) hdx
  have t1 := Stab.new (o := .own x) so hdx
  have hx1 : upd H dx (HO.own x) x = none := by
    rw [upd_ne (Ne.symm hne)]
    exact hx
  have ob : Ob (gx X fa) ⟨B, S, upd H dx (.own x)⟩ (.ins ci [] []) (.ins (fa.c ci) dx []) := ⟨dx, [], rfl, rfl, rfl⟩
  have s2 := s1.allocO hx1 ob
  have t2 : Stab (gx X fa) ⟨B, S, H⟩ ⟨B.add x, S ++ [.ins ci [] []], upd (upd H dx (.own x)) x (.ins (fa.c ci) dx [])⟩ := t1.trans (Stab.alloc s1 hx1)
  have lB : B.l.length = S.length := so.len
  have bx : (B.add x).l[S.length]? = some x := by
    show (B.l ++ [x])[S.length]? = some x
    rw [← lB, List.getElem?_append_right (Nat.le_refl _), Nat.sub_self]
    rfl
  refine ⟨B.add x, S ++ [.ins ci [] []], .m S.length :: xs, s2, ⟨.ref x, vs, rfl, ⟨x, bx, rfl⟩, t2.datAL d⟩, by rw [List.length_cons]; exact hl, ?_⟩
  unfold mkM at h
  cases hr : cl fi (.m S.length :: xs) (S ++ [.ins ci [] []]) with
  | bad =>
    rw [hr] at h
    exact h
  | ex e S' =>
    rw [hr] at h
    dsimp only at h
    intro cls dd B' H' so' st' xo
    exact h cls dd _ H' so'.cut ((t2.trans st').cut (by rw [show (Z.mk B S H).B.l.length = B.l.length from rfl, lB]; exact Nat.le_refl _)) xo.cut
  | ok y S' =>
    rw [hr] at h
    cases y with
    | m i => exact False.elim h
    | p d0 =>
      cases d0 with
      | non =>
        dsimp only at h
        intro v B' H' so' st' dv
        refine ⟨dv, ?_⟩
        split at h
        · rename_i c' ns ds hs
          split at h
          · exact h (.ref x) B' H' so' (t2.trans st') ⟨x, st'.pre _ _ bx, rfl⟩
          · exact False.elim h
        · exact False.elim h
      | _ => exact False.elim h
theorem sx_makeM {f : Addr} {fd : FuncData} {ps : List Str} {ci fi : Nat} {x : Str} {p : Pos} {dsV : List Value} {dvs : List V} {ds : List D} {np : Nat} (M : Mk X.K (fa.c ci) f) (F : FnOk X.prog X.w X.K X.mg X.base (L2.CX X.prog X.w) k f fd ps (spX (gx X fa) np (cl fi))) (hr : Room (k + 1) X.A) (hg : Gl X x) (hmg : X.mg x = some (.ref (fa.c ci)))
    (hb : Binds X.K fd ps dsV) (hd : Vals dvs dsV) (hdd : ∀ z, DatL (gx X fa) z ds dvs) (hn : cs.length + ds.length + 2 = np) (hx : Passes (L2.CX X.prog X.w) X E) (ha : SA fa cl X (e :: es) (c :: cs))
    (hdb : (x == ("__debug__" : Str)) = false) (he : starEach (e :: es) X.env = (false, eval e X.env) :: starEach es X.env) (hpl : (backTo pos (starEach es X.env)).any (·.1) = false) : SX fa cl E X (.Call (.Name x p) (e :: es) [] pos) (.app (.makeM ci fi ds) (c :: cs)) :=
  (pe_make M F hr hg hmg hb hd hx ha hdb he hpl).imp fun σ H Q q => by
    obtain ⟨B, S, ρ, eo, so, h⟩ := q
    obtain ⟨xs, S1, hxs, h1⟩ := AfZ.np h
    refine tA.use eo so hxs fun vs B1 H1 so1 st1 eo1 d1 => mk_spM so1 (d1.app (hdd _).ofP) ?_ (h1.mono st1)
    rw [List.length_append, List.length_map, evs_len hxs, List.length_cons]
    omega
end
end Fw

/-! Statements and defs. -/
namespace Fw
open PySem PySem.Spec PyProof.Rows L2
/-- what is wanted behind a statement that ends by r -/
def Aft (g : G) (z : Z) (E : XK) (Dn : Ends) : Rs → Prop
  | .nx ρ' S' => ∀ σ' B' H', StoreOk g ⟨B', S', H'⟩ → Stab g z ⟨B', S', H'⟩ → EnvOk g ⟨B', S', H'⟩ ρ' σ' → Dn.nx σ' H'
  | .rt x S' => ∀ v B' H', StoreOk g ⟨B', S', H'⟩ → Stab g z ⟨B', S', H'⟩ → DatA g ⟨B', S', H'⟩ x v → Dn.rt v H'
  | .bk ρ' S' => ∀ σ' B' H', StoreOk g ⟨B', S', H'⟩ → Stab g z ⟨B', S', H'⟩ → EnvOk g ⟨B', S', H'⟩ ρ' σ' → Dn.bk σ' H'
  | .ct ρ' S' => ∀ σ' B' H', StoreOk g ⟨B', S', H'⟩ → Stab g z ⟨B', S', H'⟩ → EnvOk g ⟨B', S', H'⟩ ρ' σ' → Dn.ct σ' H'
  | .ex e S' => ∀ cls d B' H', StoreOk g ⟨B', S', H'⟩ → Stab g z ⟨B', S', H'⟩ → ExOk g ⟨B', S', H'⟩ e cls d → E cls d H'
  | .bad => False
def tSt (g : G) (E : XK) (m : Env → Store → Rs) : TS := fun Dn σ H => ∃ B S ρ, EnvOk g ⟨B, S, H⟩ ρ σ ∧ StoreOk g ⟨B, S, H⟩ ∧ Aft g ⟨B, S, H⟩ E Dn (m ρ S)
theorem Aft.mono {g : G} {z z' : Z} {E : XK} {Dn : Ends} {r : Rs} (h : Aft g z E Dn r) (s : Stab g z z') : Aft g z' E Dn r := by
  cases r with
  | nx ρ S => exact fun σ' B' H' so st eo => h σ' B' H' so (s.trans st) eo
  | rt x S => exact fun v B' H' so st d => h v B' H' so (s.trans st) d
  | bk ρ S => exact fun σ' B' H' so st eo => h σ' B' H' so (s.trans st) eo
  | ct ρ S => exact fun σ' B' H' so st eo => h σ' B' H' so (s.trans st) eo
  | ex e S => exact fun c d B' H' so st x => h c d B' H' so (s.trans st) x
  | bad => exact h
theorem Rz.thenX_aft {g : G} {z : Z} {E : XK} {Dn : Ends} {r : Rz A} {f : A → Store → Rs} {Q : VK} (h : Aft g z E Dn (r.thenX f)) (k : ∀ x S1, Aft g z E Dn (f x S1) → ∀ v B' H', StoreOk g ⟨B', S1, H'⟩ → Stab g z ⟨B', S1, H'⟩ → DatA g ⟨B', S1, H'⟩ x v → Q v H') : AfZ g z Q E r := by
  cases r with
  | ok a S => exact k a S h
  | ex e S => exact h
  | bad => exact h
theorem Rz.then_aft {α : Type} {g : G} {z : Z} {E : XK} {Dn : Ends} {r : Rz α} {f : α → Store → Rs} (h : Aft g z E Dn (r.then f)) : ∃ a S, r = .ok a S ∧ Aft g z E Dn (f a S) := by
  cases r with
  | ok a S => exact ⟨a, S, rfl, h⟩
  | ex e S => exact False.elim h
  | bad => exact False.elim h
section
variable {fa : Ad} {cl : Nat → List A → Store → Rz A} {wf : Nat} {X : Cx} {e a b tg : Expr} {c ca cb : C} {pos : Pos} {k : Nat} {es : List Expr} {cs : List C} {st : Stmt} {sts : List Stmt} {sc : Sc} {scs : List Sc} {E : XK}
abbrev SS (fa : Ad) (cl : Nat → List A → Store → Rz A) (wf : Nat) (E : XK) (X : Cx) (st : Stmt) (c : Sc) : Prop := PS X st (tSt (gx X fa) E (run1 cl wf c))
abbrev SSs (fa : Ad) (cl : Nat → List A → Store → Rz A) (wf : Nat) (E : XK) (X : Cx) (st : List Stmt) (c : List Sc) : Prop := PSs X st (tSt (gx X fa) E (run cl wf c))
theorem sss_nil : SSs fa cl wf E X [] [] := pss_nil.imp fun D σ H q => by
  obtain ⟨B, S, ρ, eo, so, h⟩ := q
  exact h σ B H so Stab.refl eo
theorem sss_cons (h1 : SS fa cl wf E X st sc) (h2 : SSs fa cl wf E X sts scs) : SSs fa cl wf E X (st :: sts) (sc :: scs) := (pss_cons h1 h2).imp fun D σ H q => by
  obtain ⟨B, S, ρ, eo, so, h⟩ := q
  rw [run] at h
  refine ⟨B, S, ρ, eo, so, ?_⟩
  cases hr : run1 cl wf sc ρ S with
  | nx ρ1 S1 =>
    rw [hr] at h
    exact fun σ' B' H' so' st' eo' => ⟨B', S1, ρ1, eo', so', Aft.mono h st'⟩
  | rt x S1 =>
    rw [hr] at h
    exact h
  | bk ρ1 S1 =>
    rw [hr] at h
    exact h
  | ct ρ1 S1 =>
    rw [hr] at h
    exact h
  | ex e S1 =>
    rw [hr] at h
    exact h
  | bad =>
    rw [hr] at h
    exact h
/-- from now on the list is data -/
theorem sss_frz {i : Nat} (h2 : SSs fa cl wf E X sts scs) : SSs fa cl wf E X sts (.frz i :: scs) := h2.imp fun D σ H q => by
  obtain ⟨B, S, ρ, eo, so, h⟩ := q
  rw [run, run1] at h
  split at h
  · rename_i j hj
    split at h
    · rename_i ds hs
      obtain ⟨v, hv, a, hb, rfl⟩ := eo.get i _ hj
      have fz : Stab (gx X fa) ⟨B, S, H⟩ ⟨B, S.set j .dead, H⟩ := Stab.freeze
      refine ⟨B, S.set j .dead, ρ.set i (some (.p (.lst ds))), ?_, so.freeze, Aft.mono h fz⟩
      obtain ⟨vs, e, l⟩ := so.ob j a ds hb hs
      have d : Dat (gx X fa) ⟨B, S.set j .dead, H⟩ (.lst ds) (.ref a) := ⟨a, vs, rfl, e, freeze_dead so hb, fz.datL l⟩
      have := (eo.mono fz).set (i := i) (x := .p (.lst ds)) d
      have es : σ.set i (some (V.ref a)) = σ := by
        apply List.ext_getElem?
        intro m
        by_cases him : i = m
        · subst him
          rw [List.getElem?_set_self (List.getElem?_eq_some_iff.mp hv).1, hv]
        · rw [List.getElem?_set_ne him]
      rw [es] at this
      exact this
    · exact False.elim h
  · exact False.elim h
theorem ss_pass : SS fa cl wf E X (.Pass pos) .pass := ps_pass.imp fun D σ H q => by
  obtain ⟨B, S, ρ, eo, so, h⟩ := q
  exact h σ B H so Stab.refl eo
theorem ss_brk : SS fa cl wf E X (.Break pos) .brk := ps_break.imp fun D σ H q => by
  obtain ⟨B, S, ρ, eo, so, h⟩ := q
  exact h σ B H so Stab.refl eo
theorem ss_cnt : SS fa cl wf E X (.Continue pos) .cnt := ps_continue.imp fun D σ H q => by
  obtain ⟨B, S, ρ, eo, so, h⟩ := q
  exact h σ B H so Stab.refl eo
theorem ss_exp (he : SE fa cl X e c) (hs : swapsWith e none pos.line X.env = pure false) : SS fa cl wf E X (.Expr e pos) (.exp c) := (ps_expr he hs).imp fun D σ H q => by
  obtain ⟨B, S, ρ, eo, so, h⟩ := q
  rw [run1] at h
  obtain ⟨x, S1, hx, h1⟩ := Rz.then_aft h
  exact tE.use eo so hx fun v B' H' so' st' eo' d => h1 σ B' H' so' st' eo'
theorem ss_ret (he : SE fa cl X e c) : SS fa cl wf E X (.Return (some e) pos) (.ret c) := (ps_ret he).imp fun D σ H q => by
  obtain ⟨B, S, ρ, eo, so, h⟩ := q
  rw [run1] at h
  obtain ⟨x, S1, hx, h1⟩ := Rz.then_aft h
  exact tE.use eo so hx fun v B' H' so' st' eo' d => h1 v B' H' so' st' d
theorem ss_retN : SS fa cl wf E X (.Return none pos) .retN := ps_retN.imp fun D σ H q => by
  obtain ⟨B, S, ρ, eo, so, h⟩ := q
  exact h .non B H so Stab.refl rfl
theorem asg_rd {g : G} {t : Tg} {D : Ends} {σ : L2.St} {H : Hp} (q : tSt g E (run1 cl wf (.asg t c)) D σ H) : tAsg (tE g (ev cl false c)) (gT g t) D σ H := by
  obtain ⟨B, S, ρ, eo, so, h⟩ := q
  rw [run1] at h
  obtain ⟨x, S1, hx, h1⟩ := Rz.then_aft h
  refine tE.use eo so hx fun v B' H' so' st' eo' d => ?_
  split at h1
  · rename_i ρ1 hb
    exact ⟨B', S1, ρ, x, ρ1, eo', so', d, hb, fun σ' eo2 _ => h1 σ' B' H' so' st' eo2⟩
  · exact False.elim h1
theorem ss_asg {t : Tg} (he : SE fa cl X e c) (hg : SG fa X tg t) (hs : swapsWithSole [tg] e pos.line X.env = pure false) (hw : swappedStores [tg] e X.env = pure none) (h1 : (assignEach [tg] X.env).map (·.2) = [assign tg X.env]) : SS fa cl wf E X (.Assign [tg] e pos) (.asg t c) :=
  (ps_asg he hg hs hw h1).imp fun D σ H q => asg_rd q
theorem ss_asgLc {i : Nat} (h : PS X st (tAsg (tE (gx X fa) (ev cl false c)) (gName i))) : SS fa cl wf E X st (.asg (.nm i) c) := h.imp fun D σ H q => by
  obtain ⟨B, S, ρ, eo, so, h⟩ := q
  rw [run1] at h
  obtain ⟨x, S1, hx, h1⟩ := Rz.then_aft h
  refine tE.use eo so hx fun v B' H' so' st' eo' d => ?_
  rw [bindT] at h1
  exact h1 _ B' H' so' st' (eo'.set d)
theorem ss_par {i j : Nat} (h : ∀ ta, PA X [a, b] ta → PS X st (tPar i j ta)) (ha : SA fa cl X [a, b] [ca, cb]) : SS fa cl wf E X st (.par i j ca cb) := (h _ ha).imp fun D σ H q => by
  obtain ⟨B, S, ρ, eo, so, h⟩ := q
  rw [run1] at h
  obtain ⟨x, S1, hx, h1⟩ := Rz.then_aft h
  obtain ⟨y, S2, hy, h2⟩ := Rz.then_aft h1
  have hxy : evs cl [ca, cb] ρ S = .ok [x, y] S2 := by
    rw [evs, hx]
    show (evs cl [cb] ρ S1).bind _ = _
    rw [evs, hy]
    rfl
  refine tA.use eo so hxy fun vs B' H' so' st' eo' d => ?_
  obtain ⟨v, w, rfl, d1, d2⟩ := d.two
  exact ⟨v, w, rfl, h2 _ B' H' so' st' ((eo'.set d1).set d2)⟩
/-- through a tuple -/
theorem ss_parT {i j kt k2 : Nat} {x y : Str} {px py pt pt2 : Pos} (hc : X.calm = true) (hN : X.N.Nodup) (hi : X.N[i]? = some x) (hj : X.N[j]? = some y) (lx : Loc X.env.scope x) (ly : Loc X.env.scope y) (fx : X.fn x = true ∨ X.env.scope.names.lookup x = some .local) (fy : X.fn y = true ∨ X.env.scope.names.lookup y = some .local)
    (ha : SA fa cl X [a, b] [ca, cb]) (hw : swappedStores [.Tuple [.Name x px, .Name y py] kt pt] (.Tuple [a, b] k2 pt2) X.env = pure none) : SS fa cl wf E X (.Assign [.Tuple [.Name x px, .Name y py] kt pt] (.Tuple [a, b] k2 pt2) pos) (.parT i j ca cb) :=
  (ps_asg (pe_tup ha) (pg_tup hc (pgs_cons (pg_name (pos := px) hN hi lx fx) (pgs_cons (pg_name (pos := py) hN hj ly fy) pgs_nil rfl) rfl) rfl rfl) rfl hw rfl).imp fun D σ H q => by
    obtain ⟨B, S, ρ, eo, so, h⟩ := q
    rw [run1] at h
    obtain ⟨u, S1, hx, h1⟩ := Rz.then_aft h
    obtain ⟨w, S2, hy, h2⟩ := Rz.then_aft h1
    have hxy : evs cl [ca, cb] ρ S = .ok [u, w] S2 := by
      rw [evs, hx]
      show (evs cl [cb] ρ S1).bind _ = _
      rw [evs, hy]
      rfl
    refine tA.use eo so hxy fun vs B' H' so' st' eo' d => ?_
    obtain ⟨v1, v2, rfl, d1, d2⟩ := d.two
    refine ⟨show 2 ≤ sizeLine by decide, fun p hp => ⟨p, [v1, v2], rfl, .inl (.inl upd_same), rfl, v1, [v2], rfl, v2, [], rfl, rfl, ?_⟩⟩
    have st2 := Stab.new (o := .tup [v1, v2]) so' hp
    exact h2 _ B' _ (so'.new hp) (st'.trans st2) (((eo'.mono st2).set (st2.datA d1)).set (st2.datA d2))
theorem ss_setI {o i v : Expr} {co ci cv : C} {tp : Pos} (ho : SE fa cl X o co) (hi : SE fa cl X i ci) (hv : SE fa cl X v cv) (h : ∀ te to ti, PE X v te → PE X o to → PE X i ti → PS X st (tAsg te (gSub to ti rSetL))) : SS fa cl wf E X st (.setI co ci cv) :=
  (h _ _ _ hv ho hi).imp fun D σ H q => by
    obtain ⟨B, S, ρ, eo, so, h⟩ := q
    rw [run1] at h
    obtain ⟨x, S1, hx, h1⟩ := Rz.then_aft h
    obtain ⟨y, S2, hy, h2⟩ := Rz.then_aft h1
    obtain ⟨z, S3, hz, h3⟩ := Rz.then_aft h2
    refine tE.use eo so hx fun v1 B1 H1 so1 st1 eo1 d1 => tE.use eo1 so1 hy fun v2 B2 H2 so2 st2 eo2 d2 => tE.use eo2 so2 hz fun v3 B3 H3 so3 st3 eo3 d3 => ?_
    split at h3
    · rename_i j kk
      split at h3
      · rename_i ys x hs
        split at h3
        · rename_i n hn
          obtain ⟨ad, hb, rfl⟩ := st3.datA d2
          obtain ⟨ws, e3, l3⟩ := so3.ob j ad ys hb hs
          refine ⟨ad, ws, kk, n, rfl, d3, e3, by rw [l3.len]; exact hn, ?_⟩
          have dx : Dat (gx X fa) ⟨B3, S3, H3⟩ x v1 := st3.dat _ _ (st2.dat _ _ d1)
          have dl : DatL (gx X fa) ⟨B3, S3, H3⟩ (ys.set n x) (ws.set n v1) := by
            have : ∀ (ys : List Fw.D) (ws : List V) (n : Nat), DatL (gx X fa) ⟨B3, S3, H3⟩ ys ws → DatL (gx X fa) ⟨B3, S3, H3⟩ (ys.set n x) (ws.set n v1) := by
              intro ys
              induction ys with
              | nil =>
                intro ws n h
                rw [show ws = [] from h]
                rfl
              | cons y ys ih =>
                intro ws n h
                obtain ⟨w, r, rfl, a, b⟩ := h
                cases n with
                | zero => exact ⟨v1, r, rfl, dx, b⟩
                | succ n => exact ⟨w, r.set n v1, rfl, a, ih r n b⟩
            exact this ys ws n l3
          have stp := Stab.put (ys := ys.set n x) (vs := ws.set n v1) so3 hb hs
          exact h3 σ B3 _ (so3.put hb hs dl) (((st1.trans st2).trans st3).trans stp) (eo3.mono stp)
        · exact False.elim h3
      · exact False.elim h3
    · exact False.elim h3
theorem ss_ite {sa sb : List Stmt} {xa xb : List Sc} (hc : ST fa cl X e c) (ha : SSs fa cl wf E X sa xa) (hb : SSs fa cl wf E X sb xb) : SS fa cl wf E X (.If e sa sb pos) (.ite c xa xb) := (ps_if hc ha hb).imp fun D σ H q => by
  obtain ⟨B, S, ρ, eo, so, h⟩ := q
  rw [run1] at h
  obtain ⟨x, S1, hx, h1⟩ := Rz.then_aft h
  split at h1
  · refine tT.use eo so hx fun B' H' so' st' eo' => ?_
    simp only [if_true]
    exact ⟨B', S1, ρ, eo', so', Aft.mono h1 st'⟩
  · refine tT.use eo so hx fun B' H' so' st' eo' => ?_
    simp only [Bool.false_eq_true, if_false]
    exact ⟨B', S1, ρ, eo', so', Aft.mono h1 st'⟩
  · exact False.elim h1
theorem ss_for {t : Tg} {kk : ItK} {its : List C} {body : List Stmt} {xs : List Sc} {iter : Expr} (hp : PassesOwn (model X.prog X.w) X.A X.env X.xe) (hc : X.calm = true) (hi : SI fa cl X tg iter kk its) (hg : SG fa X tg t) (hb : SSs fa cl wf E X body xs)
    (hs : ∀ x, foldedSetIterable iter X.env x = pure x) : SS fa cl wf E X (.For tg iter body [] pos) (.for kk its t xs) := (ps_for hp hc hi hg hb hs).imp fun D σ H q => by
  obtain ⟨B, S, ρ, eo, so, h⟩ := q
  rw [run1] at h
  obtain ⟨vs, S1, hvs, h1⟩ := Rz.then_aft h
  obtain ⟨items, S2, hit, h2⟩ := Rz.then_aft h1
  obtain ⟨git, rfl⟩ := Rz.of_ok hit
  refine ⟨B, S, ρ, vs, S2, items, eo, so, hvs, git, fun J B1 H1 so1 st1 hw => ?_⟩
  have h3 : Aft (gx X fa) ⟨B1, S2, H1⟩ E D (forL (bindT t) (run cl wf xs) items ρ S2) := Aft.mono h2 st1
  let W : Nat → Nat → L2.St → Hp → Prop := fun i m σ H => ∃ (B : Bk) (S : Store) (ρ : Env), i ≤ items.length ∧ m = items.length - i ∧ StoreOk (gx X fa) ⟨B, S, H⟩ ∧ Stab (gx X fa) ⟨B1, S2, H1⟩ ⟨B, S, H⟩ ∧ EnvOk (gx X fa) ⟨B, S, H⟩ ρ σ ∧
    Aft (gx X fa) ⟨B1, S2, H1⟩ E D (forL (bindT t) (run cl wf xs) (items.drop i) ρ S)
  refine ⟨W, ⟨items.length, B1, S2, ρ, Nat.zero_le _, by omega, so1, Stab.refl, eo.mono st1, h3⟩, fun i m σ H hW => ?_⟩
  obtain ⟨B, S, ρ, hi, hm, soW, stW, eoW, hA⟩ := hW
  by_cases hlt : i < items.length
  · refine .inr ⟨hw.go i _ _ _ stW.sub soW hlt, fun σ' H' => ∃ m', m' < m ∧ W (i + 1) m' σ' H', fun σ' H' h => h, fun x H' hy => ?_⟩
    obtain ⟨soY, stY, dY⟩ := hw.yld i _ _ _ x H' items[i] stW.sub soW (List.getElem?_eq_getElem hlt) hy
    rw [List.drop_eq_getElem_cons hlt, forL] at hA
    split at hA
    · exact False.elim hA
    · rename_i ρ1 hb
      refine ⟨B, S, ρ, items[i], ρ1, eoW.mono stY, soY, dY, hb, fun σ2 eo2 _ => ⟨B, S, ρ1, eo2, soY, ?_⟩⟩
      have stZ : Stab (gx X fa) ⟨B1, S2, H1⟩ ⟨B, S, H'⟩ := stW.trans stY
      cases hr : run cl wf xs ρ1 S with
      | nx ρ2 S3 =>
        rw [hr] at hA
        exact fun σ' B' H2 so' st' eo' => ⟨items.length - (i + 1), by omega, B', S3, ρ2, hlt, rfl, so', stZ.trans st', eo', hA⟩
      | ct ρ2 S3 =>
        rw [hr] at hA
        exact fun σ' B' H2 so' st' eo' => ⟨items.length - (i + 1), by omega, B', S3, ρ2, hlt, rfl, so', stZ.trans st', eo', hA⟩
      | bk ρ2 S3 =>
        rw [hr] at hA
        exact fun σ' B' H2 so' st' eo' => hA σ' B' H2 so' (stZ.trans st') eo'
      | rt y S3 =>
        rw [hr] at hA
        exact fun v B' H2 so' st' d => hA v B' H2 so' (stZ.trans st') d
      | ex y S3 =>
        rw [hr] at hA
        exact fun c d B' H2 so' st' x => hA c d B' H2 so' (stZ.trans st') x
      | bad =>
        rw [hr] at hA
        exact hA
  · have ei : i = items.length := by omega
    subst ei
    rw [List.drop_length, forL] at hA
    exact .inl ⟨hw.stop _ _ _ stW.sub soW, hA σ B H soW stW eoW⟩
theorem ss_while {body : List Stmt} {xs : List Sc} (hp : PassesOwn (model X.prog X.w) X.A X.env X.xe) (hc : ST fa cl X e c) (hb : SSs fa cl wf E X body xs) : SS fa cl wf E X (.While e body [] pos) (.while c xs) := (ps_while hp hc hb).imp fun D σ H q => by
  obtain ⟨B1, S1, ρ, eo, so1, h⟩ := q
  rw [run1] at h
  let W : Nat → L2.St → Hp → Prop := fun m σ' H' => ∃ (B : Bk) (S : Store) (ρ : Env), StoreOk (gx X fa) ⟨B, S, H'⟩ ∧ Stab (gx X fa) ⟨B1, S1, H⟩ ⟨B, S, H'⟩ ∧ EnvOk (gx X fa) ⟨B, S, H'⟩ ρ σ' ∧ Aft (gx X fa) ⟨B1, S1, H⟩ E D (whileL (ev cl true c) (run cl wf xs) m ρ S)
  refine ⟨W, ⟨wf, B1, S1, ρ, so1, Stab.refl, eo, h⟩, fun m σ' H' hW => ?_⟩
  obtain ⟨B, S, ρ, soW, stW, eoW, hA⟩ := hW
  cases m with
  | zero => exact False.elim hA
  | succ n =>
    rw [whileL] at hA
    obtain ⟨x, S2, hx, hA1⟩ := Rz.then_aft hA
    split at hA1
    · refine tT.use eoW soW hx fun B2 H2 so2 st2 eo2 => ?_
      simp only [Bool.false_eq_true, if_false]
      exact hA1 σ' B2 H2 so2 (stW.trans st2) eo2
    · refine tT.use eoW soW hx fun B2 H2 so2 st2 eo2 => ?_
      simp only [if_true]
      refine ⟨fun σ' H' => ∃ m', m' < n + 1 ∧ W m' σ' H', fun _ _ h => h, B2, S2, ρ, eo2, so2, ?_⟩
      have stZ := stW.trans st2
      cases hr : run cl wf xs ρ S2 with
      | nx ρ2 S3 =>
        rw [hr] at hA1
        exact fun σ' B' H2 so' st' eo' => ⟨n, Nat.lt_succ_self n, B', S3, ρ2, so', stZ.trans st', eo', hA1⟩
      | ct ρ2 S3 =>
        rw [hr] at hA1
        exact fun σ' B' H2 so' st' eo' => ⟨n, Nat.lt_succ_self n, B', S3, ρ2, so', stZ.trans st', eo', hA1⟩
      | bk ρ2 S3 =>
        rw [hr] at hA1
        exact fun σ' B' H2 so' st' eo' => hA1 σ' B' H2 so' (stZ.trans st') eo'
      | rt y S3 =>
        rw [hr] at hA1
        exact fun v B' H2 so' st' d => hA1 v B' H2 so' (stZ.trans st') d
      | ex y S3 =>
        rw [hr] at hA1
        exact fun c d B' H2 so' st' x => hA1 c d B' H2 so' (stZ.trans st') x
      | bad =>
        rw [hr] at hA1
        exact hA1
    · exact False.elim hA1
theorem ss_expX {x : XC} (he : SX fa cl E X e x) (hs : swapsWith e none pos.line X.env = pure false) : SS fa cl wf E X (.Expr e pos) (.expX x) := (ps_expr he hs).imp fun D σ H q => by
  obtain ⟨B, S, ρ, eo, so, h⟩ := q
  rw [run1] at h
  exact ⟨B, S, ρ, eo, so, Rz.thenX_aft h fun x S1 h1 v B' H' so' st' d => h1 σ B' H' so' st' (eo.mono st')⟩
theorem ss_retX {x : XC} (he : SX fa cl E X e x) : SS fa cl wf E X (.Return (some e) pos) (.retX x) := (ps_ret he).imp fun D σ H q => by
  obtain ⟨B, S, ρ, eo, so, h⟩ := q
  rw [run1] at h
  exact ⟨B, S, ρ, eo, so, Rz.thenX_aft h fun x S1 h1 v B' H' so' st' d => h1 v B' H' so' st' d⟩
theorem ss_asgX {t : Tg} {x : XC} (he : SX fa cl E X e x) (hg : SG fa X tg t) (hs : swapsWithSole [tg] e pos.line X.env = pure false) (hw : swappedStores [tg] e X.env = pure none) (h1 : (assignEach [tg] X.env).map (·.2) = [assign tg X.env]) : SS fa cl wf E X (.Assign [tg] e pos) (.asgX t x) :=
  (ps_asg he hg hs hw h1).imp fun D σ H q => by
    obtain ⟨B, S, ρ, eo, so, h⟩ := q
    rw [run1] at h
    refine ⟨B, S, ρ, eo, so, Rz.thenX_aft h fun x S1 h1 v B' H' so' st' d => ?_⟩
    split at h1
    · rename_i ρ1 hb
      exact ⟨B', S1, ρ, x, ρ1, eo.mono st', so', d, hb, fun σ' eo2 _ => h1 σ' B' H' so' st' eo2⟩
    · exact False.elim h1
theorem ss_expE {x : CXx} (he : SXE fa cl E X e x) (hs : swapsWith e none pos.line X.env = pure false) : SS fa cl wf E X (.Expr e pos) (.expE x) := (ps_expr he hs).imp fun D σ H q => by
  obtain ⟨B, S, ρ, eo, so, h⟩ := q
  rw [run1] at h
  exact ⟨B, S, ρ, eo, so, Rz.thenX_aft h fun x S1 h1 v B' H' so' st' d => h1 σ B' H' so' st' (eo.mono st')⟩
theorem ss_retE {x : CXx} (he : SXE fa cl E X e x) : SS fa cl wf E X (.Return (some e) pos) (.retE x) := (ps_ret he).imp fun D σ H q => by
  obtain ⟨B, S, ρ, eo, so, h⟩ := q
  rw [run1] at h
  exact ⟨B, S, ρ, eo, so, Rz.thenX_aft h fun x S1 h1 v B' H' so' st' d => h1 v B' H' so' st' d⟩
theorem ss_asgE {t : Tg} {x : CXx} (he : SXE fa cl E X e x) (hg : SG fa X tg t) (hs : swapsWithSole [tg] e pos.line X.env = pure false) (hw : swappedStores [tg] e X.env = pure none) (h1 : (assignEach [tg] X.env).map (·.2) = [assign tg X.env]) : SS fa cl wf E X (.Assign [tg] e pos) (.asgE t x) :=
  (ps_asg he hg hs hw h1).imp fun D σ H q => by
    obtain ⟨B, S, ρ, eo, so, h⟩ := q
    rw [run1] at h
    refine ⟨B, S, ρ, eo, so, Rz.thenX_aft h fun x S1 h1 v B' H' so' st' d => ?_⟩
    split at h1
    · rename_i ρ1 hb
      exact ⟨B', S1, ρ, x, ρ1, eo.mono st', so', d, hb, fun σ' eo2 _ => h1 σ' B' H' so' st' eo2⟩
    · exact False.elim h1
theorem aug_fin {ci j : Nat} {n : Str} {ad : Addr} {B : Bk} {S : Store} {H : Hp} {c' : Nat} {ns : List Str} {ds : List D} {i : Int} {σ : L2.St} {ρ : Env} {z0 : Z} {D : Ends} (so : StoreOk (gx X fa) ⟨B, S, H⟩) (hb : B.l[j]? = some ad) (hs' : S[j]? = some (.ins c' ns ds)) (hl : ns.length < 900) (st : Stab (gx X fa) z0 ⟨B, S, H⟩) (eo : EnvOk (gx X fa) ⟨B, S, H⟩ ρ σ)
    (h : Aft (gx X fa) z0 E D (.nx ρ (S.set j (.ins c' (putN n (.int i) ns ds).1 (putN n (.int i) ns ds).2)))) : ∃ dx' fs', H ad = some (.ins (fa.c c') dx' fs') ∧ fs'.length < 1000 ∧ D.nx σ (upd H ad (.ins (fa.c c') dx' (putF n (.int i) fs'))) := by
  obtain ⟨u, hu, dx, vs, eu, ln, dl⟩ := so.obj j ad _ hb hs'
  subst eu
  have dd : Dat (gx X fa) ⟨B, S, H⟩ (.int i) (.int i) := rfl
  obtain ⟨ws, w1, w2, w3⟩ := putN_dat (n := n) dd ln dl
  have ne : MO.ins c' ns ds ≠ .dead := fun z => by cases z
  have stp := Stab.putO (o' := .ins c' (putN n (.int i) ns ds).1 (putN n (.int i) ns ds).2) (w := .ins (fa.c c') dx (putF n (.int i) (ns.zip vs))) so hb hs' ne
  have sop := so.putO hb hs' ne (o' := .ins c' (putN n (.int i) ns ds).1 (putN n (.int i) ns ds).2) (w := .ins (fa.c c') dx (putF n (.int i) (ns.zip vs))) ⟨dx, ws, by rw [w2], w3, w1⟩
  refine ⟨dx, _, hu, ?_, h σ B _ sop (st.trans stp) (eo.mono stp)⟩
  rw [List.length_zip]
  omega
theorem ss_augF {o v : Expr} {co cv : C} {ci : Nat} {n : Str} {sb : Bool} {tpos : Pos} (ho : SE fa cl X o co) (hv : SE fa cl X v cv) (hc : Cls X.K (fa.c ci)) (hn : NoAttr X.K (fa.c ci) n) :
    SS fa cl wf E X (.AugAssign (.Attribute o n tpos) (if sb then .Sub else .Add) v pos) (.augF ci co n sb cv) := by
  have key : ∀ D σ H, tSt (gx X fa) E (run1 cl wf (.augF ci co n sb cv)) D σ H → sFldAug X.K (tE (gx X fa) (ev cl false co)) (tE (gx X fa) (ev cl false cv)) (fun x y H Q => ∃ i j, x = V.int i ∧ y = V.int j ∧ Q (.int (if sb then i - j else i + j)) H) n D σ H := by
    intro D σ H q
    obtain ⟨B, S, ρ, eo, so, h⟩ := q
    rw [run1] at h
    obtain ⟨x, S1, hx, h1⟩ := Rz.then_aft h
    refine tE.use eo so hx fun v1 B1 H1 so1 st1 eo1 d1 => ?_
    split at h1
    · rename_i j
      obtain ⟨ad, hb, rfl⟩ := d1
      split at h1
      · rename_i c' ns ds hs1
        split at h1
        · rename_i hc1
          subst hc1
          obtain ⟨u, hu, dx, vs, eu, ln, dl⟩ := so1.obj j ad _ hb hs1
          subst eu
          split at h1
          · rename_i i hg
            obtain ⟨w, hw, dw⟩ := getN_dat dl hg
            have dw : w = V.int i := dw
            subst dw
            obtain ⟨y, S2, hy, h2⟩ := Rz.then_aft h1
            refine ⟨ad, _, dx, _, _, rfl, hu, hc, hn, hw, tE.use eo1 so1 hy fun v2 B2 H2 so2 st2 eo2 d2 => ?_⟩
            split at h2
            · rename_i m c2 ns2 ds2 hs2
              split at h2
              · rename_i hcl
                obtain ⟨hc2, hl⟩ := hcl
                have d2 : v2 = V.int m := d2
                subst d2
                have := aug_fin (ci := c') so2 (st2.pre _ _ hb) hs2 hl (st1.trans st2) eo2 h2
                rw [hc2] at this
                exact ⟨i, m, rfl, rfl, this⟩
              · exact False.elim h2
            · exact False.elim h2
          · exact False.elim h1
        · exact False.elim h1
      · exact False.elim h1
    · exact False.elim h1
  cases sb with
  | true => exact (ps_fldaug ho hv in_sub).imp key
  | false => exact (ps_fldaug ho hv in_add).imp key
theorem ss_setF {o v : Expr} {co cv : C} {ci : Nat} {n : Str} {pos' : Pos} (ho : SE fa cl X o co) (hv : SE fa cl X v cv) (hc : Cls X.K (fa.c ci)) (hn : NoAttr X.K (fa.c ci) n) (hs : swapsWith v (some (.Attribute o n pos')) pos.line X.env = pure false) :
    SS fa cl wf E X (.Assign [.Attribute o n pos'] v pos) (.setF ci co n cv) := (ps_fld ho hv hs).imp fun D σ H q => by
  obtain ⟨B, S, ρ, eo, so, h⟩ := q
  rw [run1] at h
  obtain ⟨x, S1, hx, h1⟩ := Rz.then_aft h
  obtain ⟨y, S2, hy, h2⟩ := Rz.then_aft h1
  refine tE.use eo so hx fun v1 B1 H1 so1 st1 eo1 d1 => tE.use eo1 so1 hy fun v2 B2 H2 so2 st2 eo2 d2 => ?_
  split at h2
  · rename_i j d
    split at h2
    · rename_i c' ns ds hs'
      split at h2
      · rename_i hc'
        obtain ⟨rfl, hl⟩ := hc'
        obtain ⟨ad, hb, rfl⟩ := d2
        obtain ⟨u, hu, dx, vs, eu, ln, dl⟩ := so2.obj j ad _ hb hs'
        subst eu
        have dd : Dat (gx X fa) ⟨B2, S2, H2⟩ d v1 := st2.dat _ _ d1
        obtain ⟨ws, w1, w2, w3⟩ := putN_dat (n := n) dd ln dl
        have ne : MO.ins c' ns ds ≠ .dead := fun z => by cases z
        have stp := Stab.putO (o' := .ins c' (putN n d ns ds).1 (putN n d ns ds).2) (w := .ins (fa.c c') dx (putF n v1 (ns.zip vs))) so2 hb hs' ne
        have sop := so2.putO hb hs' ne (o' := .ins c' (putN n d ns ds).1 (putN n d ns ds).2) (w := .ins (fa.c c') dx (putF n v1 (ns.zip vs))) ⟨dx, ws, by rw [w2], w3, w1⟩
        refine ⟨ad, _, dx, _, rfl, hu, hc, hn, ?_, h2 σ B2 _ sop ((st1.trans st2).trans stp) (eo2.mono stp)⟩
        rw [List.length_zip]
        omega
      · exact False.elim h2
    · exact False.elim h2
  · exact False.elim h2
end
/-! ### a def -/
theorem fin_ok {g : G} {z0 : Z} {x y : A} {B' : Bk} {S0 S' S'' : Store} {H' : Hp} {v : V} (hn : z0.B.l.length = S0.length) (h : fin S0.length x S' = .ok y S'') (so : StoreOk g ⟨B', S', H'⟩) (st : Stab g z0 ⟨B', S', H'⟩) (d : DatA g ⟨B', S', H'⟩ x v) :
    ∃ B'', StoreOk g ⟨B'', S'', H'⟩ ∧ Stab g z0 ⟨B'', S'', H'⟩ ∧ DatA g ⟨B'', S'', H'⟩ y v := by
  unfold fin at h
  split at h
  · cases h
    exact ⟨B', so, st, d⟩
  · split at h
    · rename_i hc
      cases h
      refine ⟨B'.take S0.length, so.cut, st.cut (by rw [hn]; exact Nat.le_refl _), ?_⟩
      cases x with
      | p d' => exact Dat.cut d
      | m i => exact absurd hc (by simp [isP])
    · cases h
      exact ⟨B', so, st, d⟩
theorem DatAL.start {g : G} {z : Z} : ∀ {xs : List A} {vs : List V} {m : Nat}, DatAL g z xs vs → EnvOk g z (xs.map some ++ List.replicate m none) (vs.map some ++ List.replicate m none) := fun {xs vs m} d => by
  refine ⟨by rw [List.length_append, List.length_append, List.length_map, List.length_map, d.len, List.length_replicate, List.length_replicate], fun i x h => ?_⟩
  by_cases hi : i < xs.length
  · rw [List.getElem?_append_left (by rw [List.length_map]; exact hi), List.getElem?_map] at h
    cases q : xs[i]? with
    | none => rw [q] at h; cases h
    | some y =>
      rw [q] at h
      cases h
      obtain ⟨v, hv, dv⟩ := d.get q
      exact ⟨v, by rw [List.getElem?_append_left (by rw [List.length_map, d.len]; exact hi), List.getElem?_map, hv]; rfl, dv⟩
  · rw [List.getElem?_append_right (by rw [List.length_map]; omega), List.getElem?_replicate] at h
    split at h <;> cases h
/-- a def keeps what the evaluator says of it -/
theorem body_rd {ft : List Fn} {wf k fi : Nat} {fa : Ad} {K : PySem.W.Frag} {N : List Str} {np : Nat} {i : Fn} {vs : List V} {H : Hp} {Q : VK} {E : XK} (hi : ft[fi]? = some i) (hnp : i.np = np) (hnn : i.nn = N.length) (h : spX ⟨K, fa⟩ np (callI ft wf (k + 1) fi) vs H Q E) :
    tSt ⟨K, fa⟩ E (run (callI ft wf k) wf i.code) { nx := fun _ H' => Q .non H', rt := Q } (L2.start N vs) H := by
  obtain ⟨B, S, xs, so, d, hl, hm⟩ := h
  rw [callI, hi] at hm
  dsimp only at hm
  rw [if_pos (by rw [hl, hnp])] at hm
  refine ⟨B, S, xs.map some ++ List.replicate (i.nn - i.np) none, ?_, so, ?_⟩
  · have := d.start (m := i.nn - i.np)
    unfold L2.start
    rw [d.len, hl, ← hnn, ← hnp]
    exact this
  · cases hr : run (callI ft wf k) wf i.code (xs.map some ++ List.replicate (i.nn - i.np) none) S with
    | nx ρ2 S3 =>
      rw [hr] at hm
      intro σ' B' H' so' st' eo'
      cases hf : fin S.length (.p .non) S3 with
      | ok y S4 =>
        dsimp only at hm
        rw [hf] at hm
        obtain ⟨B'', so'', st'', d''⟩ := fin_ok (v := V.non) so.len hf so' st' rfl
        exact hm _ B'' H' so'' st'' d''
      | ex e S4 =>
        unfold fin at hf
        split at hf
        · cases hf
        · split at hf <;> cases hf
      | bad =>
        dsimp only at hm
        rw [hf] at hm
        exact False.elim hm
    | rt y S3 =>
      rw [hr] at hm
      intro v B' H' so' st' d'
      cases hf : fin S.length y S3 with
      | ok y' S4 =>
        dsimp only at hm
        rw [hf] at hm
        obtain ⟨B'', so'', st'', d''⟩ := fin_ok so.len hf so' st' d'
        exact hm _ B'' H' so'' st'' d''
      | ex e S4 =>
        unfold fin at hf
        split at hf
        · cases hf
        · split at hf <;> cases hf
      | bad =>
        dsimp only at hm
        rw [hf] at hm
        exact False.elim hm
    | bk ρ2 S3 => rw [hr] at hm; exact False.elim hm
    | ct ρ2 S3 => rw [hr] at hm; exact False.elim hm
    | ex y S3 =>
      rw [hr] at hm
      intro cls dd B' H' so' st' x
      exact hm cls dd _ H' so'.cut (st'.cut (by rw [show (Z.mk B S H).B.l.length = B.l.length from rfl, show B.l.length = S.length from so.len]; exact Nat.le_refl _)) x.cut
    | bad => rw [hr] at hm; exact False.elim hm
theorem spX_len {g : G} {np : Nat} {m : List A → Store → Rz A} {vs : List V} {H : Hp} {Q : VK} {E : XK} (h : spX g np m vs H Q E) : vs.length = np := by
  obtain ⟨B, S, xs, so, d, hl, _⟩ := h
  rw [d.len, hl]
theorem fn_ok {ft : List Fn} {wf k fi : Nat} {fa : Ad} {P : Program} {w : World} {K : PySem.W.Frag} {mg : Str → Option Value} {base : Heap} {x qual : Str} {params : Arguments} {body : List Stmt} {scope : Scope} {dvs : List V} {kws : List (Str × V)} {f : Addr} {fd : FuncData} {N ps : List Str} {i : Fn}
    (F : FunD K x qual params body scope dvs kws f fd) (Sc : FnScope N ps scope) (hi : ft[fi]? = some i) (hnp : i.np = ps.length) (hnn : i.nn = N.length)
    (hbody : ∀ (cdv : Value) (A : Around) (outer : List PySem.Env) (s : Shared) (H : Hp) (E : XK), PySem.W.codeIn K cdv qual = true → (∃ oc od osl, K.lookup f = some ⟨oc, od, .func fd, osl⟩ ∧ fd.code = cdv) → Room (4 * k + 11) (A.deeper (envOfC qual scope s.heap.objs.size f cdv)) → SSs fa (callI ft wf k) wf E (cxOf (L2.CX P w) P w K mg base N qual scope f cdv A outer s H E) body i.code) :
    FnOk P w K mg base (L2.CX P w) (4 * k + 11 + 1) f fd ps (spX ⟨K, fa⟩ ps.length (callI ft wf (k + 1) fi)) := by
  obtain ⟨oc, od, dV, kV, doc, pm, an, cdv, ct, osl, rfl, lk, hcd, _, _⟩ := F.ex
  exact fn_of lk hcd Sc (fun vs H Q E h => spX_len h) fun A outer s H vs Q E hr h => ⟨_, hbody cdv A outer s H E hcd ⟨_, _, _, lk, rfl⟩ hr, body_rd hi hnp hnn h⟩
/-- a def with one parameter and a star parameter -/
theorem fn_okS {ft : List Fn} {wf k fi : Nat} {fa : Ad} {P : Program} {w : World} {K : PySem.W.Frag} {mg : Str → Option Value} {base : Heap} {x qual : Str} {params : Arguments} {body : List Stmt} {scope : Scope} {f : Addr} {fd : FuncData} {N : List Str} {p1 pv : Str} {i : Fn}
    (F : FunD K x qual params body scope [] [] f fd) (Sc : FnScope N [p1, pv] scope) (hi : ft[fi]? = some i) (hnp : i.np = 2) (hnn : i.nn = N.length)
    (hb : ∀ us rest : List Value, us.length = [p1].length → bindArgs fd ⟨us ++ rest, []⟩ = (newTuple rest >>= fun t => pure ([p1].zip us ++ [(pv, t)])))
    (hbody : ∀ (cdv : Value) (A : Around) (outer : List PySem.Env) (s : Shared) (H : Hp) (E : XK), PySem.W.codeIn K cdv qual = true → (∃ oc od osl, K.lookup f = some ⟨oc, od, .func fd, osl⟩ ∧ fd.code = cdv) → Room (4 * k + 11) (A.deeper (envOfC qual scope s.heap.objs.size f cdv)) → SSs fa (callI ft wf k) wf E (cxOf (L2.CX P w) P w K mg base N qual scope f cdv A outer s H E) body i.code) :
    FnR P w K mg base (L2.CX P w) (4 * k + 11 + 1) f (spStar ⟨K, fa⟩ (callI ft wf (k + 1) fi)) := by
  obtain ⟨oc, od, dV, kV, doc, pm, an, cdv, ct, osl, rfl, lk, hcd, _, _⟩ := F.ex
  exact StX.fn_star (ps := [p1]) lk hcd Sc StX.cxUp hb fun A outer s H vs Q E hr h => ⟨_, hbody cdv A outer s H E hcd ⟨_, _, _, lk, rfl⟩ hr, body_rd hi hnp hnn h⟩
end Fw

/-! Own exceptions over ValueError or LookupError. -/
namespace Fw
open PySem PySem.Spec PyProof.Rows L2
/-- a base that is built in -/
structure XBase (B newId initId : String) (bm : List Value) : Prop where
  ex : ExcBaseFacts B newId initId bm
  st : StoreFacts B bm "object.__setattr__" "object"
/-- what the text says of the class -/
structure OexG (K : PySem.W.Frag) (C : Addr) : Prop where
  cls : ∃ B newId initId bmB nm q N bs bm sn sub ab col dd k0 k1 k2 k3 k5, XBase B newId initId bmB ∧ K.lookup C = some (excClassObj nm q C N bs bm true sn sub ab col dd k0 k1 k2 k3 k5 newId) ∧ PySem.W.excTail bmB bm = true
  sa : PySem.W.findIn K (.ref C) "__setattr__" = some (some (.builtin "object.__setattr__"))
  exC : PySem.W.subIn K (.ref C) (.type "BaseException") = some true
  tyC : PySem.W.typeIn K (.ref C) = some (.type "type")
  kC : PySem.W.keepIn K (.ref C) = true
section
open Builtin Builtin.ObjectAttr
variable {prog : Program} {w : World} {A : Around} {E : Value → Shared → Prop} {R : Result → Shared → Prop} {hp : Heap} {g : Array GenState} {d : Drawn} {t : Nat} {os : OsState}
  {B newId initId : String} {bmB : List Value} {nm q : Str} {N C x : Addr} {bs bm sub : List Value} {sn : List Str} {ab : Bool} {col : Option Bool} {dd : Option Addr} {k0 k1 k2 k3 k5 : Option Value} {K : PySem.W.Frag} {name : Str} {tk : Tok} {v : Value} {fv : Array Value}
theorem cls_in (hC : K.lookup C = some (excClassObj nm q C N bs bm true sn sub ab col dd k0 k1 k2 k3 k5 newId)) : PySem.W.clsIn K C = some { name := nm, bases := bs, mro := .ref C :: bm, ns := N, qualname := q, hasDict := true, slotNames := sn, subclasses := sub, abstract := ab, collection := col, hasDel := false } := by
  unfold PySem.W.clsIn
  rw [hC] <;> rfl
theorem over_in (hC : K.lookup C = some (excClassObj nm q C N bs bm true sn sub ab col dd k0 k1 k2 k3 k5 newId)) (ht : PySem.W.excTail bmB bm = true) : PySem.W.excOver K C bmB = true := by
  unfold PySem.W.excOver
  rw [cls_in hC]
  show (C == C && PySem.W.excTail bmB bm) = true
  rw [ht, beq_self_eq_true]
  rfl
theorem taker_no (h : PySem.W.findIn K (.ref C) name = some none) : PySem.W.takerIn K C name = some none := by
  unfold PySem.W.takerIn
  rw [h]
  rfl
/-- the first attribute -/
theorem set_first (XB : XBase B newId initId bmB) (X : K.In hp) (hx : hp.get? x = some { cls := .ref C, data := .fields fv }) (hC : K.lookup C = some (excClassObj nm q C N bs bm true sn sub ab col dd k0 k1 k2 k3 k5 newId)) (ht : PySem.W.excTail bmB bm = true) (ha : PySem.W.findIn K (.ref C) name = some none)
    (hq : ∀ h' tk' dx, (∀ b o, b ≠ x → hp.get? b = some o → h'.get? b = some o) → hp.objs.size ≤ dx → dx ≠ x → h'.get? x = some { cls := .ref C, dict := some dx, data := .fields fv } →
      h'.Ns1 dx (fun y => if y = name then some v else none) → R (.ok (.ret .none)) ⟨h', g, d, tk', os⟩) :
    codeAny (model prog w) A (.call (.builtin "object.__setattr__") ⟨[.ref x, .str name tk, v], []⟩) R ⟨hp, g, d, t, os⟩ := by
  have I : PySem.W.InstAt hp x { cls := .ref C, data := .fields fv } C none := ⟨hx, rfl, rfl, trivial⟩
  have hxs : x ≠ hp.objs.size := Nat.ne_of_lt (Heap.lt_size hx)
  have hcls : PySem.W.Looks (model prog w) hp (classData C) _ := PySem.W.looks_clsIn X (cls_in hC)
  refine PySem.W.osa_openX (s := ⟨hp, g, d, t, os⟩) XB.st X I (over_in hC ht) (taker_no ha) fun b => ?_
  show wpAny _ _ (storeInOwnDict (.ref x) (.ref C) (.str name tk) name v b) _ _ _
  unfold storeInOwnDict ownDictForStores
  repeat (first | with_reducible refine PySem.HandSPX.store_in_new ?_ ?_ | with_reducible refine wpAny_loadPart_at hx ?_ | with_reducible refine hcls.at ?_ | wp_step)
  · exact ⟨_, #[], _, (Heap.get?_update_ne _ _ _ _ hxs.symm).trans (Heap.get?_push_at rfl rfl), rfl, fun e he => absurd he (by simp), fun _ => rfl⟩
  · intro h' tk' hn' hs
    have hx1 : (hp.push { cls := .type "dict", data := .dict #[] }).get? x = some { cls := .ref C, data := .fields fv } := Heap.get?_push_of_some _ hx
    refine hq h' tk' hp.objs.size (fun b o hb ho => ?_) (Nat.le_refl _) hxs.symm ?_ hn'
    · exact (hs.2 b (Nat.ne_of_lt (Heap.lt_size ho))).trans ((Heap.get?_update_ne _ _ _ _ hb).trans (Heap.get?_push_of_some _ ho))
    · exact (hs.2 x hxs).trans (Heap.get?_update_self _ hx1 rfl)
/-- a further one -/
theorem set_more {dx : Addr} {m0 : Str → Option Value} {nl : List Str} (XB : XBase B newId initId bmB) (X : K.In hp) (hx : hp.get? x = some { cls := .ref C, dict := some dx, data := .fields fv }) (hns : hp.Ns1 dx m0) (hw : Within m0 nl) (hz : nl.length ≤ 1000)
    (hC : K.lookup C = some (excClassObj nm q C N bs bm true sn sub ab col dd k0 k1 k2 k3 k5 newId)) (ht : PySem.W.excTail bmB bm = true) (ha : PySem.W.findIn K (.ref C) name = some none)
    (hq : ∀ h' tk', (∀ b o, b ≠ dx → hp.get? b = some o → h'.get? b = some o) → h'.Ns1 dx (fun y => if y = name then some v else m0 y) → R (.ok (.ret .none)) ⟨h', g, d, tk', os⟩) :
    codeAny (model prog w) A (.call (.builtin "object.__setattr__") ⟨[.ref x, .str name tk, v], []⟩) R ⟨hp, g, d, t, os⟩ := by
  obtain ⟨oD, esD, epD, hoD, hdD, _⟩ := hns.count hw
  have I : PySem.W.InstAt hp x { cls := .ref C, dict := some dx, data := .fields fv } C (some oD) := ⟨hx, rfl, rfl, hoD⟩
  have hcls : PySem.W.Looks (model prog w) hp (classData C) _ := PySem.W.looks_clsIn X (cls_in hC)
  refine PySem.W.osa_openX (s := ⟨hp, g, d, t, os⟩) XB.st X I (over_in hC ht) (taker_no ha) fun b => ?_
  show wpAny _ _ (storeInOwnDict (.ref x) (.ref C) (.str name tk) name v b) _ _ _
  unfold storeInOwnDict ownDictForStores
  repeat (first | with_reducible refine PySem.OEX.store_in_old hns hw hz ?_ | with_reducible refine wpAny_loadPart_at hx ?_ | with_reducible refine hcls.at ?_ | wp_step)
  intro h' tk' hn' hs
  exact hq h' tk' (fun b o hb ho => (hs.2 b hb).trans ho) hn'
end
/-! ### in the hand layer -/
section
variable {X : Cx} {pins : List (Addr × Obj)} {σ : L2.St} {H : Hp} {s : Shared} {a C dx : Addr} {f : Str} {y : V} {u : Value} {fs : List (Str × V)} {Q : Unit → Shared → Prop} {E : Value → Shared → Prop} {A : Around}
/-- self.f = y, the first one -/
theorem stG_new (T : OexG X.K C) (I : Inv X pins σ H s) (e : H a = some (exo a C none)) (hno : PySem.W.findIn X.K (.ref C) f = some none) (ry : RelV y u)
    (h : ∀ dx s', H dx = none → dx ≠ a → Inv X pins σ (upd (upd H dx (exd dx [(f, y)])) a (exo a C (some dx))) s' → Q () s') : wpAny (model X.prog X.w) A (setAttr (.ref a) f u) Q E s := by
  obtain ⟨B, newId, initId, bmB, nm, q, N, bs, bm, sn, sub, ab, col, dd, k0, k1, k2, k3, k5, XB, hC, ht⟩ := T.cls
  obtain ⟨t1, ho⟩ := exo_at I.hok e
  obtain ⟨hp, g, d, t, os⟩ := s
  refine PySem.W.set_plain I.kIn (ox := { cls := .ref C, dict := none, data := .fields #[.ref t1, .none, .none, .none, .bool false, .none] }) (od := none) ⟨ho, rfl, rfl, trivial⟩ T.sa ?_
  refine set_first XB I.kIn ho hC ht hno (fun h' tk' dx k dn dne hx hn => ?_)
  have hnd : H dx = none := I.hok.fresh dn
  have nd : ∀ {b : Addr} {o : Obj}, hp.get? b = some o → b ≠ dx := fun {b o} q => Nat.ne_of_lt (Nat.lt_of_lt_of_le (Heap.lt_size q) dn)
  have na : ∀ {b : Addr}, H b = none → b ≠ a := fun {b} n z => by
    rw [z, e] at n
    cases n
  have U : Un X.fs [] H (upd (upd H dx (exd dx [(f, y)])) a (exo a C (some dx))) hp h' := {
    keep := fun b o q n _ _ => k b o (na n) q
    slot := fun b o q n _ _ => ⟨o.slots, k b o (na n) q⟩
    free := fun b o q n _ => by rw [upd_ne (na n), upd_ne (nd q)]; exact n
    there := fun b o q _ => by
      by_cases hb : b = a
      · exact ⟨_, by rw [hb]; exact hx⟩
      · exact ⟨o, k b o hb q⟩
    tups := fun b xs q => by rw [upd_ne (at_ne e q exo_tup), upd_ne (ne_of_none q hnd)]; exact q
    frzs := fun b o v q => by rw [upd_ne (at_ne e q exo_frz), upd_ne (ne_of_none q hnd)]; exact q
    tbls := fun b ps q => ⟨#[], by rw [upd_ne (at_ne e q exo_tbl), upd_ne (ne_of_none q hnd), q]; simp⟩ }
  refine h dx _ hnd dne (I.un (t' := tk') U fun b o q => ?_)
  by_cases hb : b = a
  · subst hb
    rw [upd_same] at q
    cases q
    exact exo_ok hx
  · rw [upd_ne hb] at q
    by_cases hd : b = dx
    · subst hd
      rw [upd_same] at q
      cases q
      exact exd_ok hn (relO_put (fs := []) ry fun g => True.intro)
    · rw [upd_ne hd] at q
      exact (I.hok b o q).stay (fun c v hc z => k c v (by
          rcases hc with hc | hc
          · rw [hc]
            exact hb
          · exact at_ne e hc exo_own) z)
        (fun c hc => by rw [upd_ne (at_ne e hc exo_own), upd_ne (ne_of_none hc hnd)]; exact hc) (fun c xs hc => by rw [upd_ne (at_ne e hc exo_tup), upd_ne (ne_of_none hc hnd)]; exact hc)
/-- .. a further one -/
theorem stG_old (T : OexG X.K C) (I : Inv X pins σ H s) (e : H a = some (exo a C (some dx))) (ed : H dx = some (exd dx fs)) (hl : fs.length ≤ 900) (hno : PySem.W.findIn X.K (.ref C) f = some none) (ry : RelV y u)
    (h : ∀ s', Inv X pins σ (upd H dx (exd dx ((f, y) :: fs))) s' → Q () s') : wpAny (model X.prog X.w) A (setAttr (.ref a) f u) Q E s := by
  obtain ⟨B, newId, initId, bmB, nm, q, N, bs, bm, sn, sub, ab, col, dd, k0, k1, k2, k3, k5, XB, hC, ht⟩ := T.cls
  obtain ⟨t1, ho⟩ := exo_at I.hok e
  obtain ⟨mA, hns, rel⟩ := exd_at I.hok ed
  have hw := within_of rel
  obtain ⟨hp, g, d, t, os⟩ := s
  obtain ⟨oD, _, _, hoD, _, _⟩ := hns.count hw
  refine PySem.W.set_plain I.kIn (ox := { cls := .ref C, dict := some dx, data := .fields #[.ref t1, .none, .none, .none, .bool false, .none] }) (od := some oD) ⟨ho, rfl, rfl, hoD⟩ T.sa ?_
  refine set_more XB I.kIn ho hns hw (by rw [List.length_map]; omega) hC ht hno (fun h' tk' k hn => ?_)
  have hd : ∃ o, h'.get? dx = some o := by
    obtain ⟨o, _, _, e', _⟩ := hn
    exact ⟨o, e'⟩
  exact h _ (I.write (t' := tk') (x := dx) (e := dx) (o := exd dx ((f, y) :: fs)) (by rw [ed]; exact True.intro) (.inl rfl) k hd (exd_ok hn (relO_put ry rel)))
end
/-- self.f = e -/
def tGst (K : PySem.W.Frag) (f : Str) (to te : TE) : TS := fun D σ H => te σ H fun y H1 => to σ H1 fun x H2 => ∃ a C : Addr, x = .ref a ∧ OexG K C ∧ PySem.W.findIn K (.ref C) f = some none ∧
  ((H2 a = some (exo a C none) ∧ ∀ dx, H2 dx = none → dx ≠ a → D.nx σ (upd (upd H2 dx (exd dx [(f, y)])) a (exo a C (some dx)))) ∨
    ∃ (dx : Addr) (fs : List (Str × V)), H2 a = some (exo a C (some dx)) ∧ H2 dx = some (exd dx fs) ∧ fs.length ≤ 900 ∧ D.nx σ (upd H2 dx (exd dx ((f, y) :: fs))))
section
variable {X : Cx} {o e : Expr} {es : List Expr} {to te : TE} {ta : TA} {f : Str} {p p' p1 p2 pos : Pos}
theorem ps_gst (ho : PE X o to) (he : PE X e te) (hs : swapsWith e (some (.Attribute o f p')) pos.line X.env = pure false := by rfl) : PS X (.Assign [.Attribute o f p'] e pos) (tGst X.K f to te) := by
  refine ⟨fun pins s σ H D I h => ?_⟩
  refine plainObj_wpAny_Assign_Attribute (thn (he.run pins s σ H _ I h) fun v s1 ⟨y, H1, I1, r1, q1⟩ => thn (ho.run pins s1 σ H1 _ I1 q1) fun u s2 ⟨x, H2, I2, r2, a, C, ex, T, hno, q⟩ => ?_) hs
  subst ex
  obtain rfl : u = Value.ref a := r2
  rcases q with ⟨ea, q⟩ | ⟨dx, fs, ea, ed, hl, q⟩
  · exact stG_new T I2 ea hno r1 fun dx s' n ne J => ⟨σ, _, J, q dx n ne⟩
  · exact stG_old T I2 ea ed hl hno r1 fun s' J => ⟨σ, _, J, q⟩
theorem pmk_G {CX : CXT} {x : Str} {C fI : Addr} {k : Nat} {fd : FuncData} {ps : List Str} {sp : Sp} {ds : List Value} {dvs : List V} (T : OexG X.K C) (iC : PySem.W.findIn X.K (.ref C) "__init__" = some (some (.ref fI))) (tI : PySem.W.typeIn X.K (.ref fI) = some (.type "function"))
    (F1 : FnOk X.prog X.w X.K X.mg X.base CX k fI fd ps sp) (hr : Room (k + 1) X.A) (hb : Binds X.K fd ps ds) (hd : Vals dvs ds) (hx : Passes CX X (fun _ _ _ => False)) (hg : Gl X x) (hm : X.mg x = some (.ref C)) (ha : PA X (e :: es) ta)
    (hdb : (x == ("__debug__" : Str)) = false := by decide) (he : starEach (e :: es) X.env = (false, eval e X.env) :: starEach es X.env := by rfl) (hpl : (backTo pos (starEach es X.env)).any (·.1) = false := by rfl) :
    PMk X (.Call (.Name x p) (e :: es) [] pos) (tMkO C sp dvs ta) := by
  intro pins s σ H Q I h
  obtain ⟨B, newId, initId, bmB, nm, q, N, bs, bm, sn, sub, ab, col, dd, k0, k1, k2, k3, k5, XB, hC, ht⟩ := T.cls
  refine wpAny_Call_Name_kw (ld_glob I hg hm ?_ hdb)
  refine PySem.W.callWith_K (h₀ := X.base) I.ok.mod.kin T.kC (thn (ha.run pos pins s σ H _ I h) fun us s1 ⟨vs, H1, I1, r1, hz, q1⟩ => ⟨I1.kIn, ?_⟩) he hpl
  show wpAny _ _ (call (.ref C) us) _ _ _
  obtain ⟨hp, g, dr, tk, os⟩ := s1
  have hsz : hp.objs.size ≤ hp.objs.size + 1 := Nat.le_succ _
  have hn : H1 (hp.objs.size + 1) = none := I1.hok.fresh hsz
  have hq := q1 (hp.objs.size + 1) hn
  have kk : ∀ b o, hp.get? b = some o → ((hp.push (PySem.W.kdv_tup us)).push (PySem.HandSPX.excO C hp.objs.size)).get? b = some o := fun b o e => Heap.get?_push_of_some _ (Heap.get?_push_of_some _ e)
  have hget : ((hp.push (PySem.W.kdv_tup us)).push (PySem.HandSPX.excO C hp.objs.size)).get? (hp.objs.size + 1) = some (PySem.HandSPX.excO C hp.objs.size) := by heap_get
  have I2 : Inv X pins σ (upd H1 (hp.objs.size + 1) (exo (hp.objs.size + 1) C none)) ⟨(hp.push (PySem.W.kdv_tup us)).push (PySem.HandSPX.excO C hp.objs.size), g, dr, tk, os⟩ :=
    I1.laid (t' := tk) (a := hp.objs.size + 1) (o := exo (hp.objs.size + 1) C none) (h' := (hp.push (PySem.W.kdv_tup us)).push (PySem.HandSPX.excO C hp.objs.size)) kk hsz (exo_ok hget)
  have r2 : Vals (V.ref (hp.objs.size + 1) :: (vs ++ dvs)) (Value.ref (hp.objs.size + 1) :: (us ++ ds)) := .cons rfl (r1.append hd)
  have hl : (Value.ref (hp.objs.size + 1) :: us ++ ds).length = ps.length := by
    have e := r2.length
    rw [F1.len _ _ _ _ hq] at e
    exact e.symm
  have hus : us.length ≤ sizeLine := by
    rw [← Paired.length r1, sizeLine_eq]
    omega
  refine wpAny_call (PySem.HandSPX.call_own XB.ex (fun Y => PySem.W.excTail_contains Y bm ht) (I1.kIn _ _ hC) (PySem.W.looks_findIn I1.kIn iC) (fun self => PySem.W.bind_fn I1.kIn self tI) hus
    (codeAny_mono (F1.run _ X.stack _ _ ⟨Value.ref (hp.objs.size + 1) :: us, []⟩ (Value.ref (hp.objs.size + 1) :: (us ++ ds)) _ _ (fun _ _ _ => False) (hr.make C us []) (I2.env0.make C us []) (hb _ (Value.ref (hp.objs.size + 1) :: us) I2.kIn hl) r2 hq) fun r s' hq' => ?_))
  cases r with
  | error er => exact hx pins σ _ _ er s' I2 hq'
  | ok fl =>
    cases fl with
    | ret u =>
      obtain ⟨v, H2, os2, bare2, un2, hok2, rv, ev, d, fs, ea, ed, hd1, q2⟩ := hq'
      subst ev
      obtain ⟨h2, g2, d2, t2, os'⟩ := s'
      exact ⟨rv, mk_end (raises_own T.exC T.tyC) I1 hsz kk un2 hok2 os2 bare2 ea ed hd1 q2⟩
    | next => exact False.elim hq'
    | brk => exact False.elim hq'
    | cont => exact False.elim hq'
end
theorem xb_VE : XBase "ValueError" "ValueError.__new__" "ValueError.__init__" [.type "ValueError", .type "Exception", .type "BaseException", .type "object"] := ⟨PySem.F.excBase_ValueError, PySem.F.store_ValueError⟩
theorem xb_LE : XBase "LookupError" "LookupError.__new__" "LookupError.__init__" [.type "LookupError", .type "Exception", .type "BaseException", .type "object"] := ⟨PySem.F.excBase_LookupError, PySem.F.store_LookupError⟩
end Fw

/-! Own exceptions are raised. -/
namespace Fw
open PySem PySem.Spec PyProof.Rows L2
/-- what the __init__ of an own exception promises -/
def spExc (C : Addr) (code attr : Str) : Sp := fun vs H Q _ => ∃ (a : Addr) (y : V), vs = [.ref a, y] ∧ H a = some (exo a C none) ∧ ∀ dx, H dx = none → dx ≠ a →
  Q .non (upd (upd (upd H dx (exd dx [("code", .str code)])) a (exo a C (some dx))) dx (exd dx [(attr, y), ("code", .str code)]))
/-- its two statements -/
def ExcBody (me par code attr : Str) (body : List Stmt) : Prop := ∃ p1 p2 j p3 p4 p5 p6 p7 p8, body = [.Assign [.Attribute (.Name me p1) "code" p2] (.Constant (.str code) j p3) p4, .Assign [.Attribute (.Name me p5) attr p6] (.Name par p7) p8]
theorem exc_fn {P : Program} {w : World} {K : PySem.W.Frag} {mg : Str → Option Value} {base : Heap} {x qual me par code attr : Str} {params : Arguments} {body : List Stmt} {scope : Scope} {dvs : List V} {kws : List (Str × V)} {f C : Addr} {fd : FuncData} {k : Nat}
    (F : FunD K x qual params body scope dvs kws f fd) (Sc : FnScope [me, par] [me, par] scope) (hB : ExcBody me par code attr body) (T : OexG K C) (n1 : PySem.W.findIn K (.ref C) "code" = some none) (n2 : PySem.W.findIn K (.ref C) attr = some none)
    (d1 : (me == ("__debug__" : Str)) = false) (d2 : (me == ("__classdict__" : Str)) = false) (d3 : (par == ("__debug__" : Str)) = false) (d4 : (par == ("__classdict__" : Str)) = false) :
    FnOk P w K mg base (L2.CX P w) (k + 1) f fd [me, par] (spExc C code attr) := by
  obtain ⟨p1, p2, j, p3, p4, p5, p6, p7, p8, rfl⟩ := hB
  refine F.ok Sc (fun vs H Q E ⟨a, y, e, _⟩ => by rw [e] <;> rfl) fun cdv A outer s H vs Q E hr h => ?_
  obtain ⟨a, y, rfl, ha, hq⟩ := h
  have v1 : Vis (cxOf (L2.CX P w) P w K mg base [me, par] qual scope f cdv A outer s H E).env.scope me := (Sc.par me (List.mem_cons_self ..)).elim .inl fun z => .inr (.inl z)
  have v2 : Vis (cxOf (L2.CX P w) P w K mg base [me, par] qual scope f cdv A outer s H E).env.scope par := (Sc.par par (List.mem_cons_of_mem _ (List.mem_cons_self ..))).elim .inl fun z => .inr (.inl z)
  refine ⟨_, pss_cons (ps_gst (pe_var (i := 0) rfl v1 d1 d2) pe_str) (pss_cons (ps_gst (pe_var (i := 0) rfl v1 d1 d2) (pe_var (i := 1) rfl v2 d3 d4)) pss_nil), ?_⟩
  refine ⟨.ref a, rfl, a, C, rfl, T, n1, .inl ⟨ha, fun dx hdx hne => ?_⟩⟩
  refine ⟨y, rfl, .ref a, rfl, a, C, rfl, T, n2, .inr ⟨dx, _, upd_same, by rw [upd_ne hne, upd_same], by simp, ?_⟩⟩
  exact hq dx hdx hne
section
variable {fa : Ad} {cl : Nat → List A → Store → Rz A} {wf : Nat} {X : Cx} {e : Expr} {c : C} {pos pos' : Pos} {k : Nat} {E : XK}
theorem ss_raise {f : Addr} {fd : FuncData} {xi : Xi} {x attr : Str} {p : Pos} {ps : List Str} (hc : X.calm = true) (tk : Takes X (fun cls d _ H => E cls d H)) (T : OexG X.K (fa.c xi.c)) (iC : PySem.W.findIn X.K (.ref (fa.c xi.c)) "__init__" = some (some (.ref f))) (tI : PySem.W.typeIn X.K (.ref f) = some (.type "function"))
    (F : FnOk X.prog X.w X.K X.mg X.base (L2.CX X.prog X.w) k f fd ps (spExc (fa.c xi.c) xi.code attr)) (hr : Room (k + 1) X.A) (hb : Binds X.K fd ps []) (hg : Gl X x) (hm : X.mg x = some (.ref (fa.c xi.c))) (hat : xi.attr = some attr) (hne : attr ≠ "code")
    (hfew : XcK X.K (.ref fa.few) (.ref fa.mis) fldNames (fa.c xi.c)) (ha : SA fa cl X [e] [c]) (hdb : (x == ("__debug__" : Str)) = false) (he : starEach [e] X.env = (false, eval e X.env) :: starEach [] X.env) :
    SS fa cl wf E X (.Raise (some (.Call (.Name x p) [e] [] pos')) none pos) (.raise xi [c]) :=
  (ps_raise hc tk (pmk_G (dvs := []) (ds := []) T iC tI F hr hb .nil passN hg hm ha hdb he rfl)).imp fun D σ H q => by
    obtain ⟨B, S, ρ, eo, so, h⟩ := q
    rw [run1] at h
    obtain ⟨xs, S1, hxs, h1⟩ := Rz.then_aft h
    refine tA.use eo so hxs fun vs B1 H1 so1 st1 eo1 d1 => ?_
    unfold exnF at h1
    rw [hat] at h1
    have hl := evs_len hxs
    match xs, hl, h1, d1 with
    | [x0], _, h1, d1 =>
      cases x0 with
      | m i => exact False.elim h1
      | p d =>
        obtain ⟨y, rfl, dy⟩ := d1.one
        dsimp only at h1
        refine ⟨by simp, fun a hna => ⟨a, y, rfl, upd_same, fun dx hdx hdne => ⟨rfl, dx, [(attr, y), ("code", .str xi.code)], by rw [upd_ne (Ne.symm hdne), upd_same], upd_same, ?_, ?_⟩⟩⟩
        · rw [upd_ne hdne] at hdx
          exact hdx
        · have hdx' : H1 dx = none := by
            rw [upd_ne hdne] at hdx
            exact hdx
          have eH : upd (del (upd (upd (upd (upd H1 a (exo a (fa.c xi.c) none)) dx (exd dx [("code", .str xi.code)])) a (exo a (fa.c xi.c) (some dx))) dx (exd dx [(attr, y), ("code", .str xi.code)])) a) dx (.xd [(attr, y), ("code", .str xi.code)]) = upd H1 dx (.xd [(attr, y), ("code", .str xi.code)]) := by
            funext b
            by_cases hb : b = dx
            · rw [hb, upd_same, upd_same]
            · rw [upd_ne hb, upd_ne hb]
              by_cases hba : b = a
              · rw [hba, del_same, hna]
              · rw [del_ne hba, upd_ne hb, upd_ne hba, upd_ne hb, upd_ne hba]
          show E _ _ _
          rw [eH]
          have st2 := Stab.new (o := .xd [(attr, y), ("code", .str xi.code)]) so1 hdx'
          refine h1 _ _ B1 _ (so1.new hdx') (st1.trans st2) ⟨rfl, hfew, dx, _, rfl, upd_same, fun n x hx => ?_⟩
          unfold Exn.at getN at hx
          simp only [List.zip_cons_cons, List.zip_nil_right, List.lookup_cons, List.lookup_nil] at hx
          rw [List.lookup_cons, List.lookup_cons, List.lookup_nil]
          split at hx
          · rename_i hn
            have hn := eq_of_beq hn
            subst hn
            cases hx
            have : ((("code" : Str)) == attr) = false := by
              rw [beq_eq_false_iff_ne]
              exact fun z => hne z.symm
            rw [this]
            exact ⟨_, rfl, rfl⟩
          · split at hx
            · rename_i hn
              have hn := eq_of_beq hn
              subst hn
              cases hx
              exact ⟨y, rfl, st2.dat _ _ dy⟩
            · cases hx
end
end Fw

/-! try: body, except (x1, x2) as n: suite, and further clauses that are not reached. -/
namespace Fw
open PySem PySem.Spec PyProof.Rows L2
/-- behind the suite the clause's name is gone -/
def goneD (i : Nat) (D : Ends) : Ends := { nx := fun σ' H' => D.nx (σ'.set i none) H', rt := D.rt, bk := fun σ' H' => D.bk (σ'.set i none) H', ct := fun σ' H' => D.ct (σ'.set i none) H' }
/-- what the clause wishes of an exception of the body -/
def wTup (K : PySem.W.Frag) (ln : Nat) (c1 c2 : Value) (i : Nat) (ts : Addr → Value → Option Addr → TS) (D : Ends) : WX := fun cls d σ H =>
  PySem.W.exmAny K cls [c1, c2] = some true ∧ ∀ a, H a = none → σ.length = ln → ts a cls d (goneD i D) (σ.set i (some (.ref a))) H
theorem fly_push {base : Heap} {l : List PySem.Env} {e : Addr} {Zp : Obj → Prop} {h : Heap} (f : PySem.HandSPX.FlyingZ base l e Zp h) (o : Obj) : PySem.HandSPX.FlyingZ base l e Zp (h.push o) := by
  obtain ⟨k1, k2, k3, oe, vs, T, oT, ts, q1, q2, q3, q4, q5, q6, q7, q8, q9⟩ := f
  exact ⟨fun b u z => Heap.get?_push_of_some _ (k1 b u z), k2, k3.of_keeps fun b u z _ => ⟨u, Heap.get?_push_of_some _ z, rfl⟩, oe, vs, T, oT, ts, Heap.get?_push_of_some _ q1, q2, q3, q4, q5, q6, Heap.get?_push_of_some _ q7, q8, q9⟩
section
variable {X : Cx} {x1 x2 n : Str} {c1 c2 : Value} {i kk : Nat} {body suite : List Stmt} {b0 : Stmt} {np1 np2 tp pos pos' : Pos} {rest : List ExceptHandler} {tb : WX → TS} {ts : Addr → Value → Option Addr → TS}
theorem try_tup2 (hs : X.stack = X.env :: X.outer) (hf : X.env.frame = some X.env.locals) (hN : X.N.Nodup) (hi : X.N[i]? = some n) (hln : X.env.kindOf n = some .local) (g1 : Gl X x1) (m1 : X.mg x1 = some c1) (d1 : (x1 == ("__debug__" : Str)) = false) (g2 : Gl X x2) (m2 : X.mg x2 = some c2) (d2 : (x2 == ("__debug__" : Str)) = false)
    (hb : ∀ (W : WX) (pn : List (Addr × Obj)) (xe : Value → Shared → Prop), Takes (X.tr pn xe) W → PSs (X.tr pn xe) body (tb W))
    (hsu : ∀ (a : Addr) (oe : Obj) (cls : Value) (d : Option Addr) (pn : List (Addr × Obj)), Zc cls d oe → (∃ vs, oe.data = .fields vs) → PSs (X.suite a ((a, oe) :: pn)) (b0 :: suite) (ts a cls d)) :
    PS X (.Try body (.ExceptHandler (some (.Tuple [.Name x1 np1, .Name x2 np2] kk tp)) (some n) (b0 :: suite) pos' :: rest) [] [] pos) (fun D σ H => tb (wTup X.K X.N.length c1 c2 i ts D) D σ H) := by
  refine ⟨fun pins s σ H D I h => ?_⟩
  have ok := I.ok
  have hfr : X.A.frames = some (X.env :: X.outer) := by
    rw [ok.frames, hs]
  refine wpAny_Try_except ?_
  refine wpAny_mono ((hb (wTup X.K X.N.length c1 c2 i ts D) (X.pn ++ pins) (fun e t1 => wpAny (model X.prog X.w) X.A (noteFrame e X.env) (fun _ t2 => wpAny (model X.prog X.w) X.A (setFlight e none) (fun _ t3 =>
    wpAny (model X.prog X.w) X.A (handleBy e X.env (.ExceptHandler (some (.Tuple [.Name x1 np1, .Name x2 np2] kk tp)) (some n) (b0 :: suite) pos' :: rest)) (SP X pins D) X.xe t3) X.xe t2) X.xe t1) (fun u s' xx => ?_)).run [] s σ H D (I.toTry _) h) (fun fl s1 hsp => ?_) (fun e s1 he => he)
  · obtain ⟨a, B, sI, pins', σ', H', cls, d, rfl, J', nb, up, sky, na, os, ag, hyes, hgo⟩ := xx
    have J : Inv X pins σ' H' sI := J'.ofTry ok
    have sky2 : Sky B (X.env :: X.outer) a (Zc cls d) X.env.locals s'.heap := by
      rw [← hs]
      exact sky
    show wpAny (model X.prog X.w) X.A (noteFrame (.ref a) X.env) _ _ _
    refine Sky.land Zc.steady hfr hf sky2 fun h3 fl3 up3 => ?_
    have J3 : Inv X pins σ' H' { s' with heap := h3 } := J.landed nb fl3.1 (up.trans up3) os ag
    obtain ⟨oe3, vs3, he3, hz3, hd3⟩ := fl3.there
    have off : ∀ {h : Heap} {o : Obj} {vs : Array Value}, h.FunFrames B (X.env :: X.outer) → h.get? a = some o → o.data = .fields vs → a ∉ frs (X.env :: X.outer) := fun {h o vs} ff e dd hm => by
      obtain ⟨_, o', e', hnf⟩ := ff.mem hm
      rw [e] at e'
      cases e'
      exact hnf _ dd
    have nfr := off fl3.2.2.1 he3 hd3
    have nL : a ≠ X.env.locals := fun z => nfr (List.mem_filterMap.mpr ⟨X.env, List.mem_cons_self, by rw [hf, z]⟩)
    have nF : a ∉ X.fs := fun hm => by
      obtain ⟨e, he, q⟩ := List.mem_filterMap.mp hm
      exact nfr (List.mem_filterMap.mpr ⟨e, List.mem_cons_of_mem _ he, q⟩)
    have S3 := J3.suite he3 hd3 na nL nF
    refine wpAny_handleBy_cons (codeAny_handlers_test ?_) (by intro q; cases q)
    refine wpAny_Tuple_spliced (spliced_more (ld_glob (X := X.suite a ((a, oe3) :: (X.pn ++ pins))) S3 g1 m1 ?_ d1))
    refine spliced_more (ld_glob (X := X.suite a ((a, oe3) :: (X.pn ++ pins))) S3 g2 m2 ?_ d2)
    refine spliced_none ⟨show 2 ≤ sizeLine by decide, ?_⟩
    let ot : Obj := { cls := .type "tuple", data := .seq [c1, c2].toArray }
    have LT : PySem.W.Looks (model X.prog X.w) (h3.push ot) (typeOf (.ref a)) cls := fun A Q E s k q => wpAny_typeOf_ref (k _ _ (Heap.get?_push_of_some _ he3)) (by rw [hz3.1]; exact q)
    have kin : X.K.In (h3.push ot) := fun b o z => Heap.get?_push_of_some _ (J3.kIn b o z)
    have LM := PySem.W.exm_tup2 (M := model X.prog X.w) kin LT (Heap.get?_push_size h3 rfl) hyes
    refine LM.here ?_
    refine codeAny_handlers_suite_as ?_
    have fl3' := fly_push fl3 ot
    refine HandSPX.lands_againZ fl3' fun h4 fl4 up4 => ?_
    have J4 : Inv X pins σ' H' { s' with heap := h4 } := J.landed nb fl4.1 (((up.trans up3).trans (Heap.UpToSlots.of_keeps fun b o z => Heap.get?_push_of_some _ z)).trans up4) os ag
    obtain ⟨oe4, vs4, he4, hz4, hd4⟩ := fl4.there
    have S4 := J4.suite he4 hd4 na nL nF
    refine store_ok (X := X.suite a ((a, oe4) :: (X.pn ++ pins))) (v := .ref a) S4 hN hi (.inl hln) rfl (fun s5 S5 => ?_) (.inr hln)
    refine wpAny_mono ((hsu a oe4 cls d (X.pn ++ pins) hz4 ⟨_, hd4⟩).run [] s5 _ H' _ S5 (hgo a na J.len)) (fun fl s6 hsp => ?_) (fun _ _ z => False.elim z)
    have out : ∀ {σ6 : L2.St} {H6 : Hp} {Q : Shared → Prop}, Inv (X.suite a ((a, oe4) :: (X.pn ++ pins))) [] σ6 H6 s6 → (∀ s7, Inv X pins (σ6.set i none) H6 s7 → Q s7) →
        wpAny (model X.prog X.w) X.A (do bindName X.env n .none; unbindBehindTheSuite X.env n pos') (fun _ s7 => Q s7) X.xe s6 := fun {σ6 H6 Q} S6 hq => gone_ok (S6.unsuite ok) hN hi hln hq
    cases fl with
    | next =>
      obtain ⟨σ6, H6, S6, q6⟩ := hsp
      exact out S6 fun s7 J7 => ⟨_, _, J7, q6⟩
    | brk =>
      obtain ⟨σ6, H6, S6, q6⟩ := hsp
      exact out S6 fun s7 J7 => ⟨_, _, J7, q6⟩
    | cont =>
      obtain ⟨σ6, H6, S6, q6⟩ := hsp
      exact out S6 fun s7 J7 => ⟨_, _, J7, q6⟩
    | ret u =>
      obtain ⟨v6, σ6, H6, S6, r6, q6⟩ := hsp
      exact out S6 fun s7 J7 => ⟨_, _, _, J7, r6, q6⟩
  · cases fl with
    | next =>
      obtain ⟨σ', H', J', q⟩ := hsp
      exact wpAny_execs_nil ⟨σ', H', J'.ofTry ok, q⟩
    | brk =>
      obtain ⟨σ', H', J', q⟩ := hsp
      exact ⟨σ', H', J'.ofTry ok, q⟩
    | cont =>
      obtain ⟨σ', H', J', q⟩ := hsp
      exact ⟨σ', H', J'.ofTry ok, q⟩
    | ret u =>
      obtain ⟨v, σ', H', J', r, q⟩ := hsp
      exact ⟨v, σ', H', J'.ofTry ok, r, q⟩
end
end Fw

/-! What the law's own helpers tell of an exception: its code and its field. -/
namespace Fw
open PySem PySem.Spec PyProof.Rows L2
def ExtH (H H' : Hp) : Prop := ∀ b o, H b = some o → H' b = some o
theorem ExtH.refl {H : Hp} : ExtH H H := fun _ _ h => h
theorem ExtH.trans {H H1 H2 : Hp} (a : ExtH H H1) (b : ExtH H1 H2) : ExtH H H2 := fun c o h => b c o (a c o h)
theorem ExtH.new {H : Hp} {p : Addr} {o : HO} (hp : H p = none) : ExtH H (upd H p o) := fun b u e => at_upd hp e
/-- an attribute of an exception that is pinned -/
def tXg (a : Addr) (d : Option Addr) (f : Str) (te : TE) : TE := fun σ H Q => te σ H fun x H1 => x = .ref a ∧ ∃ (dd : Addr) (fs : List (Str × V)) (v : V), d = some dd ∧ H1 dd = some (.xd fs) ∧ fs.lookup f = some v ∧ Q v H1
theorem pe_xg {X : Cx} {a C : Addr} {oe : Obj} {d : Option Addr} {e : Expr} {te : TE} {pos : Pos} {n : Str} (T : XfC X.K C) (hno : PySem.W.findIn X.K (.ref C) n = some none) (hp : (a, oe) ∈ X.pn)
    (hz : Zc (.ref C) d oe) (hf : ∃ vs, oe.data = .fields vs) (he : PE X e te) (hb : attributeBase e n X.env (eval e X.env) = eval e X.env := by rfl) : PE X (.Attribute e n pos) (tXg a d n te) := by
  refine ⟨fun pins s σ H Q I h => ?_⟩
  refine attr_of hb (thn (he.run pins s σ H _ I h) fun u s1 hh => ?_)
  obtain ⟨x, H1, I1, rx, rfl, dd, fs, v, rfl, ea, l, q⟩ := hh
  obtain rfl : u = Value.ref a := rx
  have ha := (I1.pin (a, oe) (List.mem_append_left _ hp)).1
  obtain ⟨vs, hd⟩ := hf
  obtain ⟨mA, hns, hr⟩ := (show ObjOk X.prog X.w H1 s1.heap dd (.xd fs) from I1.hok dd _ ea)
  obtain ⟨od, ho, hl⟩ := lookIn_ns hns
  obtain ⟨u, hu, ru⟩ := RelO.some_of (v := v) (o := mA n) (by rw [← l]; exact hr n)
  have J : PySem.W.InstAt s1.heap a oe C (some od) := ⟨ha, hz.1, by unfold PySem.W.notCls; rw [hd] <;> rfl, by rw [hz.2]; exact ho⟩
  exact HandSPX.exc_get I1.kIn J T.ga T.gg T.exC (PySem.W.findObj_own T.hdC hno rfl (by rw [hl, hu])) (handed_of ru) ⟨v, H1, I1.tok _, ru, q⟩
/-! ### the helper that tells the field -/
inductive Consts : List Expr → List Str → Prop where
  | nil : Consts [] []
  | cons {x : Str} {j : Nat} {p : Pos} {es : List Expr} {cs : List Str} (r : Consts es cs) : Consts (.Constant (.str x) j p :: es) (x :: cs)
/-- its body: which attribute is told of which code; as: the attributes -/
inductive FieldB (n : Str) : List Stmt → (Str → Option Str) → List Str → Prop where
  | inn {es : List Expr} {cs : List Str} {attr : Str} {p1 p2 p3 p4 p5 p6 p7 p8 : Pos} {r : List Stmt} {m : Str → Option Str} {as : List Str} (h : Consts es cs) (hl : cs.length ≤ 100) (t : FieldB n r m as) :
    FieldB n (.If (.Compare (.Attribute (.Name n p1) "code" p2) [.In] [.List es p3] p4) [.Return (some (.Attribute (.Name n p5) attr p6)) p7] [] p8 :: r) (fun k => if k ∈ cs then some attr else m k) (attr :: as)
  | eq {c attr : Str} {j : Nat} {p1 p2 p3 p4 p5 p6 p7 p8 : Pos} {r : List Stmt} {m : Str → Option Str} {as : List Str} (t : FieldB n r m as) :
    FieldB n (.If (.Compare (.Attribute (.Name n p1) "code" p2) [.Eq] [.Constant (.str c) j p3] p4) [.Return (some (.Attribute (.Name n p5) attr p6)) p7] [] p8 :: r) (fun k => if k = c then some attr else m k) (attr :: as)
  | last {c attr : Str} {j j2 : Nat} {p1 p2 p3 p4 p5 p6 p7 p8 p9 : Pos} :
    FieldB n [.Return (some (.IfExp (.Compare (.Attribute (.Name n p1) "code" p2) [.Eq] [.Constant (.str c) j p3] p4) (.Attribute (.Name n p5) attr p6) (.Constant .none j2 p7) p8)) p9] (fun k => if k = c then some attr else none) [attr]
/-- what is told -/
def fldV (fs : List (Str × V)) (m : Str → Option Str) (k : Str) : Option V := match m k with
  | some attr => fs.lookup attr
  | none => some .non
/-- what its body does -/
def tField (a : Addr) (d : Option Addr) (m : Str → Option Str) : TS := fun D σ H => σ[0]? = some (some (.ref a)) ∧ ∃ (dd : Addr) (fs : List (Str × V)) (k : Str) (v : V), d = some dd ∧ H dd = some (.xd fs) ∧ fs.lookup ("code" : Str) = some (V.str k) ∧ fldV fs m k = some v ∧ ∀ H', ExtH H H' → D.rt v H'
section
variable {X : Cx} {a C : Addr} {oe : Obj} {d : Option Addr} {n : Str}
theorem consts_pa : ∀ {es : List Expr} {cs : List Str}, Consts es cs → ∃ t, PA X es t ∧ ∀ σ H Q, Q (cs.map V.str) H → t σ H Q
  | _, _, .nil => ⟨_, pa_nil, fun σ H Q q => q⟩
  | _, _, .cons r => by
    obtain ⟨t, h1, h2⟩ := consts_pa r
    exact ⟨_, pa_cons pe_str h1, fun σ H Q q => h2 σ H _ q⟩
theorem inV_strs {k : Str} {cs : List Str} : inV (.str k) (cs.map V.str) = decide (k ∈ cs) := by
  unfold inV
  rw [any_eqv]
  induction cs with
  | nil => rfl
  | cons c cs ih =>
    rw [List.any_cons, ih]
    by_cases h : c = k
    · subst h
      simp
    · have : (c == k) = false := by simpa using h
      rw [this, Bool.false_or]
      by_cases hm : k ∈ cs
      · simp [hm]
      · simp [hm, Ne.symm h]
theorem field_body (T : XfC X.K C) (hp : (a, oe) ∈ X.pn) (hz : Zc (.ref C) d oe) (hf : ∃ vs, oe.data = .fields vs)
    (hN : X.N[0]? = some n) (hv : Vis X.env.scope n) (d1 : (n == ("__debug__" : Str)) = false) (d2 : (n == ("__classdict__" : Str)) = false) (hco : PySem.W.findIn X.K (.ref C) "code" = some none) :
    ∀ {body : List Stmt} {m : Str → Option Str} {as : List Str}, FieldB n body m as → (∀ y ∈ as, PySem.W.findIn X.K (.ref C) y = some none) → PSs X body (tField a d m) := by
  have at_ : ∀ {y : Str} {p q : Pos}, PySem.W.findIn X.K (.ref C) y = some none → PE X (.Attribute (.Name n p) y q) (tXg a d y (tVar 0)) := fun {y p q} hy => pe_xg T hy hp hz hf (pe_var hN hv d1 d2)
  intro body m as hB
  induction hB with
  | @inn es cs attr p1 p2 p3 p4 p5 p6 p7 p8 r m as h hl t ih =>
    intro hm
    obtain ⟨tl, h1, h2⟩ := consts_pa (X := X) h
    refine (pss_cons (ps_if (pt_cmpR op_in_seq (at_ hco) (pe_lst h1) rfl) (pss_one (ps_ret (at_ (hm attr (List.mem_cons_self ..))))) pss_nil) (ih fun y hy => hm y (List.mem_cons_of_mem _ hy))).imp fun D σ H q => ?_
    obtain ⟨hs, dd, fs, k, v, e1, e2, e3, e4, e5⟩ := q
    refine ⟨.ref a, hs, rfl, dd, fs, .str k, e1, e2, e3, h2 σ H _ ⟨?_, fun p hp' => ⟨p, _, rfl, .inl (SqL.of upd_same), rfl, flat_strs _, _, rfl, ?_⟩⟩⟩
    · rw [List.length_map]
      exact Nat.le_trans hl (by decide)
    · have x1 : ExtH H (upd H p (.lst (cs.map V.str))) := ExtH.new hp'
      simp only [Bool.false_eq_true, if_false]
      rw [inV_strs]
      unfold fldV at e4
      dsimp only at e4
      by_cases hk : k ∈ cs
      · rw [if_pos hk] at e4
        rw [if_pos (decide_eq_true hk)]
        exact ⟨.ref a, hs, rfl, dd, fs, v, e1, x1 _ _ e2, e4, e5 _ x1⟩
      · rw [if_neg hk] at e4
        rw [if_neg (by rw [decide_eq_true_eq]; exact hk)]
        exact ⟨hs, dd, fs, k, v, e1, x1 _ _ e2, e3, e4, fun H' x2 => e5 H' (x1.trans x2)⟩
  | @eq c attr j p1 p2 p3 p4 p5 p6 p7 p8 r m as t ih =>
    intro hm
    refine (pss_cons (ps_if (pt_cmpR op_eq (at_ hco) pe_str rfl) (pss_one (ps_ret (at_ (hm attr (List.mem_cons_self ..))))) pss_nil) (ih fun y hy => hm y (List.mem_cons_of_mem _ hy))).imp fun D σ H q => ?_
    obtain ⟨hs, dd, fs, k, v, e1, e2, e3, e4, e5⟩ := q
    refine ⟨.ref a, hs, rfl, dd, fs, .str k, e1, e2, e3, rfl, _, rfl, ?_⟩
    unfold fldV at e4
    dsimp only at e4
    by_cases hk : k = c
    · rw [if_pos hk] at e4
      rw [if_pos (by rw [decide_eq_true_eq, hk])]
      exact ⟨.ref a, hs, rfl, dd, fs, v, e1, e2, e4, e5 _ ExtH.refl⟩
    · rw [if_neg hk] at e4
      rw [if_neg (by rw [decide_eq_true_eq]; intro z; cases z; exact hk rfl)]
      exact ⟨hs, dd, fs, k, v, e1, e2, e3, e4, e5⟩
  | @last c attr j j2 p1 p2 p3 p4 p5 p6 p7 p8 p9 =>
    intro hm
    refine (pss_one (ps_ret (pe_ifExp (pt_cmpR op_eq (at_ hco) pe_str rfl) (at_ (hm attr (List.mem_cons_self ..))) pe_non))).imp fun D σ H q => ?_
    obtain ⟨hs, dd, fs, k, v, e1, e2, e3, e4, e5⟩ := q
    refine ⟨.ref a, hs, rfl, dd, fs, .str k, e1, e2, e3, rfl, _, rfl, ?_⟩
    unfold fldV at e4
    dsimp only at e4
    by_cases hk : k = c
    · rw [if_pos hk] at e4
      rw [if_pos (by rw [decide_eq_true_eq, hk])]
      exact ⟨.ref a, hs, rfl, dd, fs, v, e1, e2, e4, e5 _ ExtH.refl⟩
    · rw [if_neg hk] at e4
      rw [if_neg (by rw [decide_eq_true_eq]; intro z; cases z; exact hk rfl)]
      cases e4
      exact e5 _ ExtH.refl
/-- a def called where an exception is handled -/
theorem run_hot {k : Nat} {f : Addr} {name qual : Str} {params : Arguments} {body : List Stmt} {scope : Scope} {dV kV doc pm cdv ct oc : Value} {an od : Option Addr} {osl : Array (Option Value)} {N ps : List Str} {pins : List (Addr × Obj)} {σ : L2.St} {H : Hp} {s : Shared} {us : List Value} {vs : List V} {Q : VK} {p : Addr × Obj}
    (lk : X.K.lookup f = some ⟨oc, od, .func (PySem.W.fnOf name qual params body scope dV kV doc pm an cdv ct), osl⟩) (hcd : PySem.W.codeIn X.K cdv qual = true) (S : FnScope N ps scope) (hr : L2H.RoomH (k + 1) X.A) (hp : p ∈ X.pn)
    (hb : Binds X.K (PySem.W.fnOf name qual params body scope dV kV doc pm an cdv ct) ps []) (I : Inv X pins σ H s) (r : Vals vs us) (hl : vs.length = ps.length)
    (hbody : ∃ t, PSs (L2H.cxH (fun _ _ _ _ _ _ => False) X.prog X.w X.K X.mg X.base N qual scope f cdv X.A X.stack s H E0 p).nox body t ∧ t { nx := fun _ H' => Q .non H', rt := Q } (L2.start N vs) H) :
    wpAny (model X.prog X.w) X.A (call (.ref f) us) (EP X pins σ Q) X.xe s := by
  have hl' : us.length = ps.length := by
    rw [← r.length]
    exact hl
  have b := hb s us I.kIn (by rw [List.append_nil]; exact hl')
  rw [List.append_nil] at b
  have P1 := I.pin p (List.mem_append_left _ hp)
  have hpin : L2H.PinOk X.stack H s p := ⟨P1.1, P1.2.1, fun hm => (List.mem_cons.mp (I.stkSub p.1 hm)).elim P1.2.2.1 P1.2.2.2.1, P1.2.2.2.2⟩
  have e0 := I.env0
  have KX := I.kIn
  have lim : s.heap.NoLimit := e0.mod.nolimit.keeps fun b o e => (e0.bs b o e).1
  have hkind : ∀ y ∈ ps.zip us, scope.names.lookup y.1 = some .local ∨ (scope.names.lookup y.1 = some .cell ∧ ((cellsFrom (s.heap.objs.size + 1) scope.names []).lookup y.1).isSome = true) := fun y hy => by
    rcases S.par y.1 (List.of_mem_zip hy).1 with q | q
    · exact .inl q
    · exact .inr ⟨q, PySem.W.cellsFrom_some _ _ _ (.inl q)⟩
  have rc : codeAny (model X.prog X.w) X.A (.call (.ref f) ⟨us, []⟩) (CR (fun _ _ _ _ _ _ => False) X.stack X.prog X.w H s Q E0) s := by
    refine codeAny_call_function hr.depth (KX _ _ lk) rfl S.co S.gen rfl (PySem.W.codeRec_of KX hcd) (b _ _ _ _ ?_)
    refine wpAny_newFunctionEnv_cells S.kind hkind fun env he s1 x => ?_
    subst he
    refine ⟨lim.keeps x.toInCall.keep, codeAny_func ?_⟩
    obtain ⟨t, ht, hq⟩ := hbody
    have J : Inv (L2H.cxH (fun _ _ _ _ _ _ => False) X.prog X.w X.K X.mg X.base N qual scope f cdv X.A X.stack s H E0 p) [] (L2.start N vs) H s1 := L2H.inv_startH S hpin e0 hl r x
    refine wpAny_mono (ht.nox.run [] s1 (L2.start N vs) H _ J hq) (fun fl s' hs => ?_) fun e s' hs => hs
    have done : ∀ {σ' : L2.St} {H' : Hp} {v : V} {u : Value}, Inv (L2H.cxH (fun _ _ _ _ _ _ => False) X.prog X.w X.K X.mg X.base N qual scope f cdv X.A X.stack s H E0 p) [] σ' H' s' → L2.RelV v u → Q v H' → CE X.stack X.prog X.w H s Q u s' :=
      fun {σ' H' v u} J rv q => ⟨v, H', J.os, J.bare, J.base, J.hok, rv, q⟩
    cases fl with
    | ret u =>
      obtain ⟨v, σ', H', J', rv, q⟩ := hs
      exact done J' rv q
    | next =>
      obtain ⟨σ', H', J', q⟩ := hs
      exact done (v := V.non) (u := Value.none) J' rfl q
    | brk =>
      obtain ⟨_, _, _, q⟩ := hs
      exact False.elim q
    | cont =>
      obtain ⟨_, _, _, q⟩ := hs
      exact False.elim q
  refine wpAny_call (codeAny_mono rc fun r s2 hq => ?_)
  cases r with
  | error e => exact (show False from hq).elim
  | ok fl =>
    cases fl with
    | ret u => exact I.after hq
    | next => exact False.elim hq
    | brk => exact False.elim hq
    | cont => exact False.elim hq
end
end Fw

/-! The law's own helper that calls what it got and tells how that ended. -/
namespace Fw
open PySem PySem.Spec PyProof.Rows L2
/-- its body -/
def WhyB (a told e few mis fld : Str) (body : List Stmt) : Prop := ∃ (p1 p2 p3 p4 p5 p6 p7 p8 p9 q1 q2 q3 q4 q5 q6 q7 q8 q9 r1 r2 r3 r4 r5 : Pos) (j1 j2 k1 k2 k3 : Nat) (rest : List ExceptHandler),
  body = [.Assign [.Name told p1] (.Tuple [.Constant (.str "value") j1 p2, .Constant .none j2 p3] k1 p4) p5,
    .Try [.Expr (.Call (.Name a p6) [] [] p7) p8] (.ExceptHandler (some (.Tuple [.Name few p9, .Name mis q1] k2 q2)) (some e) [.Assign [.Name told q3] (.Tuple [.Attribute (.Name e q4) "code" q5, .Call (.Name fld q6) [.Name e q7] [] q8] k3 q9) r1] r2 :: rest) [] [] r3,
    .Return (some (.Name told r5)) r4]
/-- what is wanted of an exception -/
def whyE (K : PySem.W.Frag) (few mis : Value) (as : List Str) (m : Str → Option Str) (Q : VK) : XK := fun cls d H' => ∃ (C dd : Addr) (fs : List (Str × V)) (k : Str) (v : V), cls = .ref C ∧ XcK K few mis as C ∧ d = some dd ∧ H' dd = some (.xd fs) ∧ fs.lookup ("code" : Str) = some (V.str k) ∧ fldV fs m k = some v ∧
  ∀ H2 T2, ExtH H' H2 → H2 T2 = some (.tup [.str k, v]) → Q (.ref T2) H2
def TTwhy (K : PySem.W.Frag) (few mis : Value) (as : List Str) (m : Str → Option Str) : (XK → Hp → VK → Prop) → Hp → VK → Prop := fun tl H Q =>
  ∀ T, H T = none → tl (whyE K few mis as m Q) (upd H T (.tup [.str "value", .non])) fun _ H' => Q (.ref T) H'
section
variable {X : Cx}
/-- what is known of the helper that tells the field -/
structure FldK (K : PySem.W.Frag) (mg : Str → Option Value) (fld n : Str) (m : Str → Option Str) (as : List Str) : Prop where
  ex : ∃ (f : Addr) (params : Arguments) (body : List Stmt) (scope : Scope) (dV kV doc pm cdv ct oc : Value) (an od : Option Addr) (osl : Array (Option Value)), K.lookup f = some ⟨oc, od, .func (PySem.W.fnOf fld fld params body scope dV kV doc pm an cdv ct), osl⟩ ∧ PySem.W.codeIn K cdv fld = true ∧ FnScope [n] [n] scope ∧
    Binds K (PySem.W.fnOf fld fld params body scope dV kV doc pm an cdv ct) [n] [] ∧ mg fld = some (.ref f) ∧ PySem.W.keepIn K (.ref f) = true ∧ FieldB n body m as
  d1 : (n == ("__debug__" : Str)) = false
  d2 : (n == ("__classdict__" : Str)) = false
  d3 : (fld == ("__debug__" : Str)) = false
theorem why_gives {x a told e few mis fld n q : Str} {sg : Scope} {g : Addr} {cdg : Value} {bg : List Stmt} {cf cm : Value} {m : Str → Option Str} {as : List Str} (hB : WhyB a told e few mis fld bg) (F : FldK X.K X.mg fld n m as) (hr : Room 4 X.A)
    (Sg : FnScope [a, told, e] [a] sg) (l1 : sg.names.lookup told = some .local) (l2 : sg.names.lookup e = some .local) (g1 : sg.names.lookup few = some .globalImplicit) (g2 : sg.names.lookup mis = some .globalImplicit) (g3 : sg.names.lookup fld = some .globalImplicit)
    (m1 : X.mg few = some cf) (m2 : X.mg mis = some cm) (d1 : (few == ("__debug__" : Str)) = false) (d2 : (mis == ("__debug__" : Str)) = false) (d3 : (told == ("__debug__" : Str)) = false) (d4 : (told == ("__classdict__" : Str)) = false) (d5 : (e == ("__debug__" : Str)) = false) (d6 : (e == ("__classdict__" : Str)) = false) :
    LamX.GivesTo X [a, told, e] x sg g cdg bg a q (TTwhy X.K cf cm as m) := by
  obtain ⟨p1, p2, p3, p4, p5, p6, p7, p8, p9, q1, q2, q3, q4, q5, q6, q7, q8, q9, r1, r2, r3, r4, r5, j1, j2, k1, k2, k3, rest, rfl⟩ := hB
  intro f c' s H Q tl act hc h
  let X0 : Cx := (cxOf C8.CX0 X.prog X.w X.K X.mg X.base [a, told, e] x sg g cdg X.A X.stack s H C8.E0).nox
  have nd : X0.N.Nodup := Sg.nd
  have pgt : ∀ {pos : Pos} {pn : List (Addr × Obj)} {ad : Addr}, PG (X0.suite ad pn) (.Name told pos) (gName 1) := fun {pos pn ad} => pg_name nd rfl (.inl l1) (.inr l1)
  have hr3 := hr.deeper (envOfC x sg s.heap.objs.size g cdg)
  have hroom : ∀ (ad : Addr) (pn : List (Addr × Obj)), L2H.RoomH 3 (X0.suite ad pn).A := fun ad pn => ⟨hr3.dp, hr3.un⟩
  -- the suite
  let ts : Addr → Value → Option Addr → TS := fun ad cls d D σ H => ∃ (C dd : Addr) (fs : List (Str × V)) (k : Str) (v : V), cls = .ref C ∧ XcK X.K cf cm as C ∧ d = some dd ∧ H dd = some (.xd fs) ∧ fs.lookup ("code" : Str) = some (V.str k) ∧ fldV fs m k = some v ∧ σ[2]? = some (some (.ref ad)) ∧
    ∀ H2 T2, ExtH H H2 → H2 T2 = some (.tup [.str k, v]) → D.nx (σ.set 1 (some (.ref T2))) H2
  have hsu : ∀ (ad : Addr) (oe : Obj) (cls : Value) (d : Option Addr) (pn : List (Addr × Obj)), Zc cls d oe → (∃ vs, oe.data = .fields vs) → PSs (X0.suite ad ((ad, oe) :: pn)) [.Assign [.Name told q3] (.Tuple [.Attribute (.Name e q4) "code" q5, .Call (.Name fld q6) [.Name e q7] [] q8] k3 q9) r1] (ts ad cls d) := by
    intro ad oe cls d pn hz hfd
    refine ⟨fun pins s1 σ1 H1 D I hh => ?_⟩
    obtain ⟨C, dd, fs, k, v, rfl, xc, rfl, e1, e2, e3, e4, kont⟩ := hh
    obtain ⟨ff, params, body, scope, dV, kV, doc, pm, cdv, ct, oc, an, od, osl, lk, hcd, Sf, hb, hmf, hkf, fb⟩ := F.ex
    have pv : ∀ {pos : Pos}, PE (X0.suite ad ((ad, oe) :: pn)) (.Name e pos) (tVar 2) := fun {pos} => pe_var rfl (.inl l2) d5 d6
    have pc : PE (X0.suite ad ((ad, oe) :: pn)) (.Attribute (.Name e q4) "code" q5) (tXg ad (some dd) "code" (tVar 2)) := pe_xg (C := C) (oe := oe) xc.xf xc.code (List.mem_cons_self ..) hz hfd pv
    have pf : PE (X0.suite ad ((ad, oe) :: pn)) (.Call (.Name fld q6) [.Name e q7] [] q8) (fun σ H Q => σ[2]? = some (some (.ref ad)) ∧ H dd = some (.xd fs) ∧ ∀ H', ExtH H H' → Q v H') := by
      refine ⟨fun pins s σ H Q I hq => ?_⟩
      obtain ⟨h1, h2, h3⟩ := hq
      refine wpAny_Call_Name_kw (ld_glob I g3 hmf ?_ F.d3)
      refine PySem.W.callWith_K (h₀ := X.base) I.ok.mod.kin hkf (thn ((pa_cons (pv (pos := q7)) pa_nil).run q8 pins s σ H (fun vs H1 => vs = [.ref ad] ∧ H1 = H) I ⟨_, h1, rfl, rfl⟩) fun us s2 ⟨vs, H2, I2, r, q⟩ => ⟨I2.kIn, ?_⟩) rfl rfl
      obtain ⟨rfl, rfl⟩ := q
      refine run_hot (k := 2) (p := (ad, oe)) lk hcd Sf (hroom _ _) (List.mem_cons_self ..) hb I2 r rfl ?_
      have vis : Vis scope n := (Sf.par n (List.mem_cons_self ..)).elim .inl fun z => .inr (.inl z)
      refine ⟨_, field_body (X := (L2H.cxH (fun _ _ _ _ _ _ => False) X.prog X.w X.K X.mg X.base [n] fld scope ff cdv _ _ s2 _ E0 (ad, oe)).nox) (C := C) (oe := oe) (d := some dd) xc.xf (List.mem_cons_self ..) hz hfd rfl vis F.d1 F.d2 xc.code fb xc.fld, ?_⟩
      exact ⟨rfl, dd, fs, k, v, rfl, h2, e2, e3, h3⟩
    refine (pss_one (ps_asg (pe_tup (pa_cons pc (pa_cons pf pa_nil))) pgt rfl rfl rfl)).run pins s1 σ1 H1 D I ?_
    refine ⟨_, e4, rfl, dd, fs, .str k, rfl, e1, e2, e4, e1, fun H' x1 => ⟨show 2 ≤ sizeLine by decide, fun p hp => ?_⟩⟩
    exact kont _ p (x1.trans (ExtH.new hp)) upd_same
  refine ⟨_, pss_cons (ps_asg (X := X0) (pe_tup (pa_cons pe_str (pa_cons pe_non pa_nil))) (pg_name (X := X0) (i := 1) nd rfl (.inl l1) (.inr l1)) rfl rfl rfl) (pss_cons (try_tup2 (X := X0) (c1 := cf) (c2 := cm) (i := 2) (ts := ts)
      (tb := fun W D σ H => ∃ Ech : XK, (∀ cls d σ' H', Ech cls d H' → W cls d σ' H') ∧ σ[0]? = some (some (.ref f)) ∧ H c' = some (LamX.CodeO c' q) ∧ tl Ech H fun _ H' => D.nx σ H')
      rfl rfl nd rfl l2 g1 m1 d1 g2 m2 d2 (fun W pn xe tk => ?_) hsu) (pss_one (ps_ret (pe_var (X := X0) (i := 1) rfl (.inl l1) d3 d4)))), ?_⟩
  · refine ⟨fun pins s' σ H' D I h' => ?_⟩
    obtain ⟨Ech, hW, h1, h2, h3⟩ := h'
    have hp := act W pn xe Ech p6 p7 tk hW
    exact (pss_one (ps_expr (pos := p8) hp rfl)).run pins s' σ H' D I ⟨h1, h2, h3⟩
  · refine ⟨show 2 ≤ sizeLine by decide, fun T hT => ?_⟩
    refine ⟨whyE X.K cf cm as m Q, fun cls d σ' H' hw => ?_, rfl, at_upd hT hc, ?_⟩
    · obtain ⟨C, dd, fs, k, v, rfl, xc, rfl, e1, e2, e3, kont⟩ := hw
      refine ⟨xc.few, fun ad had hlen => ⟨C, dd, fs, k, v, rfl, xc, rfl, e1, e2, e3, ?_, fun H2 T2 x1 x2 => ?_⟩⟩
      · rw [List.getElem?_set_self (by rw [hlen]; show 2 < 3; decide)]
      · have hlen : σ'.length = 3 := hlen
        refine ⟨.ref T2, ?_, kont H2 T2 x1 x2⟩
        rw [List.getElem?_set_ne (by decide), List.getElem?_set_self (by rw [List.length_set, hlen]; decide)]
    · refine (congrArg (tl (whyE X.K cf cm as m Q) (upd H T (.tup [.str "value", .non]))) ?_).mpr (h T hT)
      funext _ H'
      refine propext ⟨fun ⟨v, e1, e2⟩ => ?_, fun z => ⟨.ref T, rfl, z⟩⟩
      cases e1
      exact e2
end
end Fw

/-! The call of that helper with a lambda. -/
namespace Fw
open PySem PySem.Spec PyProof.Rows L2
theorem why_dat {g : G} {z : Z} {e : Exn} {fs : List (Str × V)} {d : D} (hl : ∀ n x, e.at n = some x → ∃ v, fs.lookup n = some v ∧ Dat g z x v) (h : whyF e = some d) :
    ∃ k x v, d = .tup [.str k, x] ∧ fs.lookup ("code" : Str) = some (V.str k) ∧ fldV fs fldM k = some v ∧ Dat g z x v := by
  unfold whyF at h
  split at h
  · rename_i k hk
    obtain ⟨v0, h1, h2⟩ := hl _ _ hk
    rw [show v0 = V.str k from h2] at h1
    unfold fldV
    cases hm : fldM k with
    | none =>
      rw [hm] at h
      cases h
      exact ⟨k, .non, .non, rfl, h1, by rw [hm], rfl⟩
    | some attr =>
      rw [hm] at h
      dsimp only at h
      cases hx : e.at attr with
      | none =>
        rw [hx] at h
        cases h
      | some x =>
        rw [hx] at h
        cases h
        obtain ⟨v, h3, h4⟩ := hl _ _ hx
        exact ⟨k, x, v, rfl, h1, by rw [hm]; exact h3, h4⟩
  · cases h
/-- what is known of the helper -/
structure WhyK (fa : Ad) (K : PySem.W.Frag) (mg : Str → Option Value) (x : Str) : Prop where
  ex : ∃ (g : Addr) (pg : Arguments) (bg : List Stmt) (sg : Scope) (dV kV doc pm cdv ct oc : Value) (an od : Option Addr) (osl : Array (Option Value)) (a told e few mis fld n : Str),
    mg x = some (.ref g) ∧ PySem.W.keepIn K (.ref g) = true ∧ K.lookup g = some ⟨oc, od, .func (PySem.W.fnOf x x pg bg sg dV kV doc pm an cdv ct), osl⟩ ∧ PySem.W.codeIn K cdv x = true ∧ Binds K (PySem.W.fnOf x x pg bg sg dV kV doc pm an cdv ct) [a] [] ∧ FnScope [a, told, e] [a] sg ∧
    WhyB a told e few mis fld bg ∧ FldK K mg fld n fldM fldNames ∧ sg.names.lookup a = some .local ∧ sg.names.lookup told = some .local ∧ sg.names.lookup e = some .local ∧ sg.names.lookup few = some .globalImplicit ∧ sg.names.lookup mis = some .globalImplicit ∧ sg.names.lookup fld = some .globalImplicit ∧
    mg few = some (.ref fa.few) ∧ mg mis = some (.ref fa.mis) ∧ ∀ y ∈ [a, told, e, few, mis], (y == ("__debug__" : Str)) = false ∧ (y == ("__classdict__" : Str)) = false
/-- what is known of the def that holds the lambdas -/
structure LamK (fa : Ad) (X : Cx) : Prop where
  ex : ∃ c P, LamX.TabB X.base X.mg c P ∧ X.env.code = .ref c ∧ (P, X.env.qual ++ "<lambda>") ∈ fa.T ∧ ∀ p ∈ fa.T, p.1 = P → p.2 = X.env.qual ++ "<lambda>"
section
variable {fa : Ad} {cl : Nat → List A → Store → Rz A} {X : Cx} {e : Expr} {c : C} {pos : Pos} {k : Nat}
theorem pe_why {x : Str} {p lpos : Pos} {params : Arguments} {body : Expr} {scope : Scope} {xc : XC} (hg : Gl X x) (W : WhyK fa X.K X.mg x) (Lk : LamK fa X) (hr : Room (k + 4) X.A) (L : LamX.LamS X.env.scope scope) (hdef : defaultsOf params X.env = ([], []))
    (hbind : ∀ (q : Str) (cl : List (Str × Addr)) (pm cv ctv : Value), bindArgs (PySem.W.kla_fn "<lambda>" q params body scope cl pm cv ctv) ⟨[], []⟩ = pure [])
    (hbody : ∀ (A : Around) (outer : List PySem.Env) (s : Shared) (H : Hp) (E : XK) (f c' : Addr), Room (k + 2) (A.deeper (LamX.lamEnv X scope s.heap.objs.size f c')) → SX fa cl E (LamX.lamCx X A outer s H E scope f c') body xc) (hdb : (x == ("__debug__" : Str)) = false) :
    PE X (.Call (.Name x p) [.Lambda params body scope lpos] [] pos) (tE (gx X fa) fun ρ S => whyR (xcF cl xc ρ S)) := by
  obtain ⟨g, pg, bg, sg, dV, kV, doc, pm, cdv, ct, oc, an, od, osl, a, told, er, few, mis, fld, n, h1, h2, h3, h4, h5, h6, h7, h8, h9, l1, l2, g1, g2, g3, m1, m2, hd⟩ := W.ex
  obtain ⟨cc, P, t1, t2, t3, t4⟩ := Lk.ex
  have da := hd a (by simp)
  have dt := hd told (by simp)
  have de := hd er (by simp)
  refine (LamX.pe_lamcall (k := k + 2) (a := a) (Ng := [a, told, er]) hg h1 h2 h3 h4 h5 h6 rfl (.inl h9) (why_gives h7 h8 (hr.mono (by omega)) h6 l1 l2 g1 g2 g3 m1 m2 (hd few (by simp)).1 (hd mis (by simp)).1 dt.1 dt.2 de.1 de.2) t1 t2 t3 t4 hr L hdef hbind
    (t := fun E => tX (gx X fa) E (xcF cl xc)) hbody hdb da.1 da.2).imp fun σ H Q q => ?_
  obtain ⟨B, S, ρ, y, S', eo, so, hm, kq⟩ := q
  have hm : whyR (xcF cl xc ρ S) = .ok y S' := hm
  refine ⟨so.iv, fun H1 x1 tb T hT => ?_⟩
  have st1 := Stab.ext so x1
  have so1 := so.ext x1 tb
  have st2 := Stab.new (o := .tup [.str "value", .non]) so1 hT
  have so2 := so1.new (o := .tup [.str "value", .non]) hT
  have dT : Dat (gx X fa) ⟨B, S, upd H1 T (.tup [.str "value", .non])⟩ (.tup [.str "value", .non]) (.ref T) := new_tup so1 hT ⟨_, _, rfl, rfl, _, _, rfl, rfl, rfl⟩
  refine ⟨B, S, ρ, (eo.mono st1).mono st2, so2, ?_⟩
  cases hx : xcF cl xc ρ S with
  | bad =>
    rw [hx] at hm
    cases hm
  | ok w S1 =>
    rw [hx] at hm
    cases hm
    exact fun v B' H' so' st' dv => kq _ B' H' so' ((st1.trans st2).trans st') (st'.dat _ _ dT)
  | ex ex S1 =>
    rw [hx] at hm
    have hm : Rz.of ((whyF ex).map A.p) S1 = .ok y S' := hm
    cases hw : whyF ex with
    | none =>
      rw [hw] at hm
      cases hm
    | some d =>
      rw [hw] at hm
      cases hm
      intro cls dd B' H' so' st' xo
      obtain ⟨rfl, xk, dx, fs, rfl, e2, e3⟩ := xo
      obtain ⟨kc, xd, v, rfl, w1, w2, w3⟩ := why_dat e3 hw
      refine ⟨_, dx, fs, kc, v, rfl, xk, rfl, e2, w1, w2, fun H2 T2 y1 y2 => ?_⟩
      have z1 := LamX.ExtN.of y1
      have st3 := Stab.ext so' z1
      have so3 := so'.ext z1 (LamX.Tabs.ext so'.iv y1)
      exact kq _ B' H2 so3 (((st1.trans st2).trans st').trans st3) ⟨T2, [.str kc, v], rfl, .inl (.inl y2), _, _, rfl, rfl, _, _, rfl, st3.dat _ _ w3, rfl⟩
theorem se_whyA {h : Hd} {cs : List C} (s : PE X e (tE (gx X fa) fun ρ S => whyR (xcF cl (.app h cs) ρ S))) : SE fa cl X e (.whyA h cs) := s.imp fun σ H Q q => by
  obtain ⟨B, S, ρ, z, S', eo, so, hm, k⟩ := q
  rw [ev] at hm
  obtain ⟨y, S2, hy, hm2⟩ := Rz.bind_ok hm
  rw [tst_f] at hm2
  cases hm2
  exact ⟨B, S, ρ, _, _, eo, so, hy, k⟩
theorem se_whyK {ci fi : Nat} {m : Str} {o : C} {ks : List C} {asm : List (Nat ⊕ D)} (s : PE X e (tE (gx X fa) fun ρ S => whyR (xcF cl (.methK ci fi m o ks asm) ρ S))) : SE fa cl X e (.whyK ci fi m o ks asm) := s.imp fun σ H Q q => by
  obtain ⟨B, S, ρ, z, S', eo, so, hm, k⟩ := q
  rw [ev] at hm
  obtain ⟨y, S2, hy, hm2⟩ := Rz.bind_ok hm
  rw [tst_f] at hm2
  cases hm2
  exact ⟨B, S, ρ, _, _, eo, so, hy, k⟩
theorem se_whyS {ci fi : Nat} {m : Str} {o : C} {cs : List C} {ds : List D} (s : PE X e (tE (gx X fa) fun ρ S => whyR (xcF cl (.meth ci fi m o cs ds) ρ S))) : SE fa cl X e (.whyS ci fi m o cs ds) := s.imp fun σ H Q q => by
  obtain ⟨B, S, ρ, z, S', eo, so, hm, k⟩ := q
  rw [ev] at hm
  obtain ⟨y, S2, hy, hm2⟩ := Rz.bind_ok hm
  rw [tst_f] at hm2
  cases hm2
  exact ⟨B, S, ρ, _, _, eo, so, hy, k⟩
end
end Fw

/-! The checker: a code is that of a piece of the program's syntax. -/
namespace Fw
open PySem PySem.Spec PyProof.Rows L2
mutual
def D.eqb : D → D → Bool
  | .non, .non => true
  | .bl a, .bl b => a == b
  | .int a, .int b => decide (a = b)
  | .str a, .str b => decide (a = b)
  | .tup a, .tup b => D.eqbL a b
  | .lst a, .lst b => D.eqbL a b
  | .scr a, .scr b => decide (a = b)
  | .fn a, .fn b => decide (a = b)
  | .ty a, .ty b => decide (a = b)
  | .kl a, .kl b => decide (a = b)
  | _, _ => false
def D.eqbL : List D → List D → Bool
  | [], [] => true
  | a :: as, b :: bs => D.eqb a b && D.eqbL as bs
  | _, _ => false
end
mutual
theorem D.eqb_eq : ∀ {a b : D}, D.eqb a b = true → a = b
  | .non, b, h => by cases b <;> simp_all [D.eqb]
  | .bl a, b, h => by cases b <;> simp_all [D.eqb]
  | .int a, b, h => by cases b <;> simp_all [D.eqb]
  | .str a, b, h => by cases b <;> simp_all [D.eqb]
  | .tup a, b, h => by
    cases b with
    | tup b => rw [D.eqbL_eq (show D.eqbL a b = true by simpa [D.eqb] using h)]
    | _ => simp [D.eqb] at h
  | .lst a, b, h => by
    cases b with
    | lst b => rw [D.eqbL_eq (show D.eqbL a b = true by simpa [D.eqb] using h)]
    | _ => simp [D.eqb] at h
  | .scr a, b, h => by cases b <;> simp_all [D.eqb]
  | .fn a, b, h => by cases b <;> simp_all [D.eqb]
  | .ty a, b, h => by cases b <;> simp_all [D.eqb]
  | .kl a, b, h => by cases b <;> simp_all [D.eqb]
theorem D.eqbL_eq : ∀ {a b : List D}, D.eqbL a b = true → a = b
  | [], b, h => by cases b <;> simp_all [D.eqbL]
  | a :: as, b, h => by
    cases b with
    | nil => simp [D.eqbL] at h
    | cons b bs =>
      rw [D.eqbL, Bool.and_eq_true] at h
      rw [D.eqb_eq h.1, D.eqbL_eq h.2]
end
def asmEq : List (Nat ⊕ D) → List (Nat ⊕ D) → Bool
  | [], [] => true
  | .inl a :: as, .inl b :: bs => decide (a = b) && asmEq as bs
  | .inr a :: as, .inr b :: bs => D.eqb a b && asmEq as bs
  | _, _ => false
theorem asmEq_eq : ∀ {a b : List (Nat ⊕ D)}, asmEq a b = true → a = b
  | [], [], _ => rfl
  | .inl a :: as, .inl b :: bs, h => by
    rw [asmEq, Bool.and_eq_true] at h
    rw [of_decide_eq_true h.1, asmEq_eq h.2]
  | .inr a :: as, .inr b :: bs, h => by
    rw [asmEq, Bool.and_eq_true] at h
    rw [D.eqb_eq h.1, asmEq_eq h.2]
  | [], _ :: _, h => by simp [asmEq] at h
  | .inl _ :: _, [], h => by simp [asmEq] at h
  | .inr _ :: _, [], h => by simp [asmEq] at h
  | .inl _ :: _, .inr _ :: _, h => by simp [asmEq] at h
  | .inr _ :: _, .inl _ :: _, h => by simp [asmEq] at h

/-- a def of the module; a def of a class; such a def with a star parameter -/
inductive FK where
  | glob | meth | star
  deriving DecidableEq
structure FI where
  name : Str
  qual : Str
  kind : FK
  ps : List Str
  dfl : List (Nat × List D)
  kwl : List (Nat × List Str × List (Nat ⊕ D))
/-- a class: its name, its __init__, its methods, its instances' attributes, its constants, its classmethods -/
structure CI where
  name : Str
  init : Option Nat
  meths : List (Str × Nat)
  flds : List Str
  csts : List (Str × D)
  cms : List (Str × Nat)
/-- an own exception -/
structure EI where
  name : Str
  x : Xi
structure Tb where
  fns : List FI
  blts : List Str
  csts : List (Str × D)
  cls : List CI
  excs : List EI
  why : Option Str
structure Cc where
  T : Tb
  N : List Str
  sc : Scope
  fs : Option Scope
  lam : Bool
def kd (K : Cc) (x : Str) : Option NameKind := K.sc.names.lookup x
def visB (K : Cc) (x : Str) : Bool := match kd K x with
  | some .local => true
  | some .cell => true
  | some .free => true
  | _ => false
def ownB (K : Cc) (x : Str) : Bool := match kd K x with
  | some .local => true
  | some .cell => (match K.fs with
    | none => true
    | some s => (match s.names.lookup x with
      | some .cell => true
      | _ => false))
  | _ => false
def glB (K : Cc) (x : Str) : Bool := match kd K x with
  | some .globalImplicit => true
  | _ => false
def bltB (K : Cc) (x : Str) : Bool := glB K x && K.T.blts.any fun y => decide (y = x)
def slotB (K : Cc) (i : Nat) (x : Str) : Bool := decide (K.N[i]? = some x)
def plainNm (x : Str) : Bool := !decide (x = "__debug__") && !decide (x = "__classdict__") && !decide (x = "__name__")
def starB : Expr → Bool
  | .Starred _ _ => true
  | _ => false
def setB : Expr → Bool
  | .Set _ _ _ => true
  | _ => false
def slcB' : Expr → Bool
  | .Slice _ _ _ _ => true
  | _ => false
def compB : Expr → Bool
  | .ListComp _ _ _ _ => true
  | .SetComp _ _ _ _ => true
  | .DictComp _ _ _ _ _ => true
  | _ => false
def superB : Expr → Bool
  | .Call _ _ _ _ => true
  | _ => false
def Ty.nmS : Ty → Str
  | .tNone => "NoneType" | .tBool => "bool" | .tInt => "int" | .tStr => "str" | .tTup => "tuple" | .tLst => "list"
def tyB (K : Cc) (e : Expr) (t : Ty) : Bool := match e with
  | .Name x _ => decide (x = t.nmS) && bltB K x && !decide (t = .tNone)
  | _ => false
def tysB (K : Cc) : List Expr → List Ty → Bool
  | [], [] => true
  | e :: es, t :: ts => tyB K e t && tysB K es ts
  | _, _ => false
def fiB (K : Cc) (fi : Nat) (x : Str) (p : FI → Bool) : Bool := match K.T.fns[fi]? with
  | some I => decide (I.name = x) && glB K x && plainNm x && (decide (I.kind = .glob) && p I)
  | none => false
/-- a def that takes n values, the rest by these defaults -/
def dflB (K : Cc) (fi n : Nat) (ds : List D) : Bool := match K.T.fns[fi]? with
  | some I => !decide (I.kind = .star) && I.dfl.any fun q => decide (q.1 = n) && D.eqbL q.2 ds
  | none => false
/-- a def that takes n values and these by name -/
def kwlB (K : Cc) (fi n : Nat) (nm : Option (List Str)) (asm : List (Nat ⊕ D)) : Bool := match K.T.fns[fi]?, nm with
  | some I, some nm => !decide (I.kind = .star) && I.kwl.any fun q => decide (q.1 = n) && decide (q.2.1 = nm) && asmEq q.2.2 asm
  | _, _ => false
def clB (K : Cc) (ci : Nat) (p : CI → Bool) : Bool := match K.T.cls[ci]? with
  | some c => p c
  | none => false
def noPar : Arguments → Bool
  | ⟨[], [], none, [], [], none, []⟩ => true
  | _ => false
def xiEq (a b : Xi) : Bool := decide (a.c = b.c) && decide (a.code = b.code) && decide (a.attr = b.attr)
def kwNames : List Keyword → Option (List Str)
  | [] => some []
  | ⟨some n, _, _⟩ :: r => (kwNames r).map (n :: ·)
  | ⟨none, _, _⟩ :: _ => none
def ownS (K : Cc) : List Nat → Option (List (Str × Nat))
  | [] => some []
  | i :: r => match K.N[i]?, ownS K r with
    | some x, some l => some ((x, i) :: l)
    | _, _ => none
mutual
def chkG (K : Cc) : Expr → Tg → Bool
  | .Name x _, .nm i => slotB K i x && ownB K x
  | .Tuple es _ _, .tp ts => chkGs K es ts
  | _, _ => false
def chkGs (K : Cc) : List Expr → List Tg → Bool
  | [], [] => true
  | e :: es, t :: ts => !starB e && chkG K e t && chkGs K es ts
  | _, _ => false
end
mutual
def chkE : Nat → Cc → Expr → C → Bool
  | 0, _, _, _ => false
  | n + 1, K, e, c => match c with
    | .var i => (match e with
      | .Name x _ => slotB K i x && visB K x && plainNm x
      | _ => false)
    | .cst d => (match e with
      | .Constant (.int i) _ _ => D.eqb d (.int i)
      | .Constant (.str i) _ _ => D.eqb d (.str i)
      | .Constant (.bool i) _ _ => D.eqb d (.bl i)
      | .Constant .none _ _ => D.eqb d .non
      | .Name x p => (match d with
        | .ty t => tyB K (.Name x p) t
        | .fn fi => fiB K fi x fun _ => true
        | _ => glB K x && plainNm x && K.T.csts.any fun q => decide (q.1 = x) && D.eqb q.2 d)
      | _ => false)
    | .bin op ca cb => (match e with
      | .BinOp a o b _ => decide (o = op) && chkE n K a ca && chkE n K b cb
      | _ => false)
    | .neg ca => (match e with
      | .UnaryOp .USub a _ => chkE n K a ca
      | _ => false)
    | .cmp op ca cb => (match e with
      | .Compare a [o] [b] _ => decide (o = op) && !setB b && chkE n K a ca && chkE n K b cb
      | _ => false)
    | .chain op op' ca cb cd => (match e with
      | .Compare a [o, o'] [b, d] _ => decide (o = op) && decide (o' = op') && !setB d && chkE n K a ca && chkE n K b cb && chkE n K d cd
      | _ => false)
    | .and ca cb => (match e with
      | .BoolOp .And [a, b] _ => chkE n K a ca && chkE n K b cb
      | .BoolOp .And (a :: b :: d :: r) p => chkE n K a ca && chkE n K (.BoolOp .And (b :: d :: r) p) cb
      | _ => false)
    | .or ca cb => (match e with
      | .BoolOp .Or [a, b] _ => chkE n K a ca && chkE n K b cb
      | .BoolOp .Or (a :: b :: d :: r) p => chkE n K a ca && chkE n K (.BoolOp .Or (b :: d :: r) p) cb
      | _ => false)
    | .not ca => (match e with
      | .UnaryOp .Not a _ => chkE n K a ca
      | _ => false)
    | .ite ct ca cb => (match e with
      | .IfExp t a b _ => chkT n K t ct && chkE n K a ca && chkE n K b cb
      | _ => false)
    | .tup cs => (match e with
      | .Tuple es _ _ => chkEs n K es cs
      | _ => false)
    | .lst cs => (match e with
      | .List es _ => chkEs n K es cs
      | _ => false)
    | .lstM cs => (match e with
      | .List es _ => chkEs n K es cs
      | _ => false)
    | .tupS fl cs => (match e with
      | .Tuple es _ _ => chkSt n K es fl cs
      | _ => false)
    | .lstS fl cs => (match e with
      | .List es _ => chkSt n K es fl cs
      | _ => false)
    | .sub ca cb => (match e with
      | .Subscript a b _ => !slcB' b && chkE n K a ca && chkE n K b cb
      | _ => false)
    | .slcL ca cb => (match e with
      | .Subscript a (.Slice (some b) none none _) _ => chkE n K a ca && chkE n K b cb
      | _ => false)
    | .slcH ca cb => (match e with
      | .Subscript a (.Slice none (some b) none _) _ => chkE n K a ca && chkE n K b cb
      | _ => false)
    | .slcB ca cb cd => (match e with
      | .Subscript a (.Slice (some b) (some d) none _) _ => chkE n K a ca && chkE n K b cb && chkE n K d cd
      | _ => false)
    | .call fi cs ds => (match e with
      | .Call (.Name x _) es [] _ => fiB K fi x (fun I => I.dfl.any fun q => decide (q.1 = cs.length) && D.eqbL q.2 ds) && chkEs n K es cs
      | _ => false)
    | .callK fi cs ks asm => (match e with
      | .Call (.Name x _) es kws _ => (match kwNames kws with
        | some nm => fiB K fi x (fun I => I.kwl.any fun q => decide (q.1 = cs.length) && decide (q.2.1 = nm) && asmEq q.2.2 asm) && chkEs n K es cs && chkKs n K kws ks && !nm.isEmpty
        | none => false)
      | _ => false)
    | .blt b cs => (match e with
      | .Call (.Name x _) es [] _ => decide (x = b.nm) && bltB K x && !cs.isEmpty && chkEs n K es cs
      | _ => false)
    | .mth .append co cs => (match e, cs with
      | .Call (.Attribute o m ap) [a] [] p, [ca] => decide (m = "append") && (ap.endLine == p.line) && !superB o && !starB a && chkE n K o co && chkE n K a ca
      | _, _ => false)
    | .mth .join co cs => (match e, cs with
      | .Call (.Attribute o m ap) [a] [] p, [ca] => decide (m = "join") && (ap.endLine == p.line) && !superB o && !starB a && chkE n K o co && chkE n K a ca
      | _, _ => false)
    | .comp k its t own cond ce => (match e with
      | .ListComp elt [⟨tg, iter, ifs, 0⟩] scope _ => (match ownS K own with
        | some ow => blkC K.N K.sc scope ow && chkI n K tg iter k its && chkG ⟨K.T, K.N, relS scope K.sc, some scope, K.lam⟩ tg t && (t.slots.all fun i => decide (i ∈ own)) && !setB iter &&
          chkC n ⟨K.T, K.N, relS scope K.sc, some scope, K.lam⟩ ifs cond && chkE n ⟨K.T, K.N, relS scope K.sc, some scope, K.lam⟩ elt ce
        | none => false)
      | _ => false)
    | .fstr cs => (match e with
      | .JoinedStr (a :: b :: r) _ => chkJ n K (a :: b :: r) cs
      | _ => false)
    | .fmt ca => (match e with
      | .FormattedValue a cv none _ => decide (cv = -1) && chkE n K a ca
      | .JoinedStr [.FormattedValue a cv none _] _ => decide (cv = -1) && chkE n K a ca
      | _ => false)
    | .isiT ca ts => (match e with
      | .Call (.Name x _) [a, .Tuple es _ _] [] _ => decide (x = "isinstance") && bltB K x && !starB a && chkE n K a ca && tysB K es ts && decide (ts.length ≤ LIM)
      | _ => false)
    | .maxD ca cd => (match e with
      | .Call (.Name x _) [a] [⟨some nm, d, _⟩] _ => decide (x = "max") && decide (nm = "default") && bltB K x && chkEs n K [a] [ca] && chkE n K d cd
      | _ => false)
    | .fld ci co m => (match e with
      | .Attribute o m' _ => decide (m' = m) && !superB o && clB K ci (fun c => c.flds.any fun y => decide (y = m)) && chkE n K o co
      | _ => false)
    | .ccst ci m d => (match e with
      | .Attribute (.Name x _) m' _ => decide (m' = m) && glB K x && plainNm x && clB K ci (fun c => decide (c.name = x) && c.csts.any fun q => decide (q.1 = m) && D.eqb q.2 d)
      | _ => false)
    | .app h cs => chkX n K e (.app h cs)
    | .meth ci fi m co cs ds => chkX n K e (.meth ci fi m co cs ds)
    | .whyA h cs => (match e with
      | .Call (.Name x _) [.Lambda params body scope _] [] _ => K.lam && decide (K.T.why = some x) && glB K x && plainNm x && LamX.lamSB K.sc scope && noPar params && chkX n ⟨K.T, K.N, scope, some scope, false⟩ body (.app h cs)
      | _ => false)
    | .whyS ci fi m co cs ds => (match e with
      | .Call (.Name x _) [.Lambda params body scope _] [] _ => K.lam && decide (K.T.why = some x) && glB K x && plainNm x && LamX.lamSB K.sc scope && noPar params && chkX n ⟨K.T, K.N, scope, some scope, false⟩ body (.meth ci fi m co cs ds)
      | _ => false)
    | .methK ci fi m co ks asm => chkX n K e (.methK ci fi m co ks asm)
    | .whyK ci fi m co ks asm => (match e with
      | .Call (.Name x _) [.Lambda params body scope _] [] _ => K.lam && decide (K.T.why = some x) && glB K x && plainNm x && LamX.lamSB K.sc scope && noPar params && chkX n ⟨K.T, K.N, scope, some scope, false⟩ body (.methK ci fi m co ks asm)
      | _ => false)
    | .callV i nf cs => (match e with
      | .Call (.Name x _) es [] _ => slotB K i x && visB K x && plainNm x && decide (nf ≤ K.T.fns.length) && ((K.T.fns.take nf).all fun I => !decide (I.kind = .star)) && !cs.isEmpty && chkEs n K es cs
      | _ => false)
def chkX : Nat → Cc → Expr → XC → Bool
  | 0, _, _, _ => false
  | n + 1, K, e, x => match x with
    | .app (.fn fi ds) cs => (match e with
      | .Call (.Name x _) es [] _ => fiB K fi x (fun I => I.dfl.any fun q => decide (q.1 = cs.length) && D.eqbL q.2 ds) && chkEs n K es cs
      | _ => false)
    | .app (.make ci fi ds) cs => (match e with
      | .Call (.Name x _) es [] _ => clB K ci (fun c => decide (c.name = x) && decide (c.init = some fi)) && glB K x && plainNm x && !cs.isEmpty && dflB K fi (cs.length + 1) ds && chkEs n K es cs
      | _ => false)
    | .app (.makeM ci fi ds) cs => (match e with
      | .Call (.Name x _) es [] _ => clB K ci (fun c => decide (c.name = x) && decide (c.init = some fi)) && glB K x && plainNm x && !cs.isEmpty && dflB K fi (cs.length + 1) ds && chkEs n K es cs
      | _ => false)
    | .app (.makeL i ci fi) cs => (match e with
      | .Call (.Name x _) es [] _ => clB K ci (fun c => decide (c.init = some fi)) && slotB K i x && visB K x && plainNm x && !cs.isEmpty && dflB K fi (cs.length + 1) [] && chkEs n K es cs
      | _ => false)
    | .app (.cmeth ci fi m) cs => (match e with
      | .Call (.Attribute (.Name x _) m' ap) es [] p => decide (m' = m) && (ap.endLine == p.line) && clB K ci (fun c => decide (c.name = x) && c.cms.any fun q => decide (q.1 = m) && decide (q.2 = fi)) && glB K x && plainNm x && decide (es.length < 30) && (match K.T.fns[fi]? with
        | some I => decide (I.kind = .star)
        | none => false) && chkEs n K es cs
      | _ => false)
    | .meth ci fi m co cs ds => (match e with
      | .Call (.Attribute o m' ap) es [] p => decide (m' = m) && (ap.endLine == p.line) && !superB o && clB K ci (fun c => c.meths.any fun q => decide (q.1 = m) && decide (q.2 = fi)) && dflB K fi (cs.length + 1) ds && decide (es.length < 30) && chkE n K o co && chkEs n K es cs
      | _ => false)
    | .methK ci fi m co ks asm => (match e with
      | .Call (.Attribute o m' ap) [] kws p => decide (m' = m) && (ap.endLine == p.line) && !superB o && clB K ci (fun c => c.meths.any fun q => decide (q.1 = m) && decide (q.2 = fi)) && kwlB K fi 1 (kwNames kws) asm && decide (kws.length < 29) && chkE n K o co && chkKs n K kws ks
      | _ => false)
def chkT : Nat → Cc → Expr → C → Bool
  | 0, _, _, _ => false
  | n + 1, K, e, c => match e with
    | .UnaryOp .Not a _ => (match c with
      | .not ca => chkT n K a ca
      | _ => false)
    | .BoolOp .And vs p => (match c, vs with
      | .and ca cb, [a, b] => chkT n K a ca && chkT n K b cb
      | .and ca cb, a :: b :: d :: r => chkT n K a ca && chkT n K (.BoolOp .And (b :: d :: r) p) cb
      | _, _ => false)
    | .BoolOp .Or vs p => (match c, vs with
      | .or ca cb, [a, b] => chkT n K a ca && chkT n K b cb
      | .or ca cb, a :: b :: d :: r => chkT n K a ca && chkT n K (.BoolOp .Or (b :: d :: r) p) cb
      | _, _ => false)
    | .Compare a ops bs p => (match c, ops, bs with
      | .cmp op ca cb, [o], [b] => decide (o = op) && !setB b && chkE n K a ca && chkE n K b cb
      | .chain op op' ca cb cd, [o, o'], [b, d] => decide (o = op) && decide (o' = op') && !setB d && chkE n K a ca && chkE n K b cb && chkE n K d cd
      | _, _, _ => false)
    | .UnaryOp .USub _ _ => false
    | .UnaryOp .UAdd _ _ => false
    | .UnaryOp .Invert _ _ => false
    | .IfExp _ _ _ _ => false
    | e => chkE n K e c
def chkEs : Nat → Cc → List Expr → List C → Bool
  | 0, _, _, _ => false
  | _ + 1, _, [], [] => true
  | n + 1, K, e :: es, c :: cs => !starB e && chkE n K e c && chkEs n K es cs
  | _ + 1, _, _, _ => false
def chkSt : Nat → Cc → List Expr → List Bool → List C → Bool
  | 0, _, _, _, _ => false
  | _ + 1, _, [], [], [] => true
  | n + 1, K, e :: es, f :: fl, c :: cs => (if f then (match e with
      | .Starred a _ => chkE n K a c
      | _ => false) else !starB e && chkE n K e c) && chkSt n K es fl cs
  | _ + 1, _, _, _, _ => false
def chkJ : Nat → Cc → List Expr → List C → Bool
  | 0, _, _, _ => false
  | _ + 1, _, [], [] => true
  | n + 1, K, e :: es, c :: cs => chkE n K e c && chkJ n K es cs
  | _ + 1, _, _, _ => false
def chkKs : Nat → Cc → List Keyword → List C → Bool
  | 0, _, _, _ => false
  | _ + 1, _, [], [] => true
  | n + 1, K, ⟨_, e, _⟩ :: es, c :: cs => chkE n K e c && chkKs n K es cs
  | _ + 1, _, _, _ => false
def chkC : Nat → Cc → List Expr → Option C → Bool
  | 0, _, _, _ => false
  | _ + 1, _, [], none => true
  | n + 1, K, [e], some c => chkT n K e c
  | _ + 1, _, _, _ => false
def chkI : Nat → Cc → Expr → Expr → ItK → List C → Bool
  | 0, _, _, _, _, _ => false
  | n + 1, K, tg, e, k, its => match k with
    | .seq => (match its with
      | [c] => chkE n K e c
      | _ => false)
    | .range1 => (match e, its with
      | .Call (.Name x _) [a] [] _, [c] => decide (x = "range") && bltB K x && chkEs n K [a] [c]
      | _, _ => false)
    | .range2 => (match e, its with
      | .Call (.Name x _) [a, b] [] _, [c, d] => decide (x = "range") && bltB K x && chkEs n K [a, b] [c, d]
      | _, _ => false)
    | .zip => (match tg, e, its with
      | .Tuple _ _ _, .Call (.Name x _) [a, b] [] _, [c, d] => decide (x = "zip") && bltB K x && chkEs n K [a, b] [c, d]
      | _, _, _ => false)
    | .enum => (match tg, e, its with
      | .Tuple _ _ _, .Call (.Name x _) [a] [] _, [c] => decide (x = "enumerate") && bltB K x && chkEs n K [a] [c]
      | _, _, _ => false)
end
mutual
def chkCX : Nat → Cc → Expr → CXx → Bool
  | 0, _, _, _ => false
  | n + 1, K, e, x => match x with
    | .p c => chkE n K e c
    | .x xc => chkX n K e xc
    | .tup cs => (match e with
      | .Tuple es _ _ => chkCXs n K es cs
      | _ => false)
    | .lst cs => (match e with
      | .List es _ => chkCXs n K es cs
      | _ => false)
    | .lstM cs => (match e with
      | .List es _ => chkCXs n K es cs
      | _ => false)
    | .neg c => (match e with
      | .UnaryOp .USub a _ => chkCX n K a c
      | _ => false)
    | .int c => (match e with
      | .Call (.Name x _) [a] [] _ => decide (x = (Blt.int).nm) && bltB K x && !starB a && chkCX n K a c
      | _ => false)
    | .app co c => (match e with
      | .Call (.Attribute o m ap) [a] [] p => decide (m = "append") && (ap.endLine == p.line) && !superB o && !starB a && chkE n K o co && chkCX n K a c
      | _ => false)
def chkCXs : Nat → Cc → List Expr → List CXx → Bool
  | 0, _, _, _ => false
  | _ + 1, _, [], [] => true
  | n + 1, K, e :: es, c :: cs => !starB e && chkCX n K e c && chkCXs n K es cs
  | _ + 1, _, _, _ => false
end
/-! ### statements -/
/-- a list comprehension is stored from within -/
def swB (K : Cc) (tg e : Expr) : Bool := match tg, e with
  | .Name t p, .ListComp _ _ scope pos => (match kd K t with
    | some .local => true
    | _ => false) && (p.line == pos.line) && !(scope.names.any fun (n, k) => n == t && (k == .local || k == .cell))
  | _, _ => false
def locNm (K : Cc) (l : Nat) : Expr → Bool
  | .Name x p => (match kd K x with
    | some .local => true
    | _ => false) && p.line == l
  | _ => false
/-- no stores are exchanged -/
def noSwap (K : Cc) (tg e : Expr) : Bool := match tg, e with
  | .Tuple ts _ _, .Tuple _ _ _ => ts.any fun t => !locNm K ((ts.head?.map (·.pos.line)).getD 0) t
  | .List _ _, _ => false
  | _, _ => true
mutual
def chkS : Nat → Cc → Stmt → Sc → Bool
  | 0, _, _, _ => false
  | n + 1, K, s, c => match c with
    | .asg t ce => (match s with
      | .Assign [tg] e _ => chkE n K e ce && chkG K tg t && (if swB K tg e then (match t with
          | .nm _ => true
          | _ => false) else noSwap K tg e && !starB tg && (match e with
          | .SetComp _ _ _ _ => false
          | .DictComp _ _ _ _ _ => false
          | _ => true))
      | _ => false)
    | .par i j ca cb => (match s with
      | .Assign [.Tuple [.Name x px, .Name y py] _ _] (.Tuple [a, b] _ _) _ => slotB K i x && slotB K j y && !decide (i = j) && !decide (x = y) && locNm K px.line (.Name x px) && locNm K px.line (.Name y py) &&
          !([a, b].all (foldedForSure 8)) && !([a, b].all (constantsAlone 8)) && chkEs n K [a, b] [ca, cb]
      | _ => false)
    | .parT i j ca cb => (match s with
      | .Assign [.Tuple [.Name x px, .Name y py] kt pt] (.Tuple [a, b] k2 pt2) _ => slotB K i x && slotB K j y && ownB K x && ownB K y && noSwap K (.Tuple [.Name x px, .Name y py] kt pt) (.Tuple [a, b] k2 pt2) && chkEs n K [a, b] [ca, cb]
      | _ => false)
    | .setI co ci cv => (match s with
      | .Assign [.Subscript o i _] v _ => !compB v && chkE n K o co && chkE n K i ci && chkE n K v cv && !slcB' i
      | _ => false)
    | .exp ce => (match s with
      | .Expr e _ => !compB e && chkE n K e ce
      | _ => false)
    | .ret ce => (match s with
      | .Return (some e) _ => chkE n K e ce
      | _ => false)
    | .retN => (match s with
      | .Return none _ => true
      | _ => false)
    | .ite ce xa xb => (match s with
      | .If e a b _ => chkT n K e ce && chkSs n K a xa && chkSs n K b xb
      | _ => false)
    | .for k its t xs => (match s with
      | .For tg iter body [] _ => chkI n K tg iter k its && chkG K tg t && !setB iter && chkSs n K body xs
      | _ => false)
    | .while ce xs => (match s with
      | .While e body [] _ => chkT n K e ce && chkSs n K body xs
      | _ => false)
    | .frz _ => false
    | .asgX t x => (match s with
      | .Assign [tg] e _ => chkX n K e x && chkG K tg t && noSwap K tg e && !starB tg && !compB e
      | _ => false)
    | .expX x => (match s with
      | .Expr e _ => !compB e && chkX n K e x
      | _ => false)
    | .retX x => (match s with
      | .Return (some e) _ => chkX n K e x
      | _ => false)
    | .raise xi cs => (match s, cs with
      | .Raise (some (.Call (.Name x _) [a] [] _)) none _, [c] => glB K x && plainNm x && !starB a && (K.T.excs.any fun q => decide (q.name = x) && xiEq q.x xi) && xi.attr.isSome && !decide (xi.attr = some ("code" : Str)) && chkE n K a c
      | _, _ => false)
    | .setF ci co m cv => (match s with
      | .Assign [.Attribute o m' _] v _ => decide (m' = m) && (match v with
          | .SetComp _ _ _ _ => false
          | .DictComp _ _ _ _ _ => false
          | _ => true) && clB K ci (fun c => c.flds.any fun y => decide (y = m)) && chkE n K o co && chkE n K v cv
      | _ => false)
    | .asgE t x => (match s with
      | .Assign [tg] e _ => chkCX n K e x && chkG K tg t && noSwap K tg e && !starB tg && !compB e
      | _ => false)
    | .expE x => (match s with
      | .Expr e _ => !compB e && chkCX n K e x
      | _ => false)
    | .retE x => (match s with
      | .Return (some e) _ => chkCX n K e x
      | _ => false)
    | .augF ci co m sb cv => (match s with
      | .AugAssign (.Attribute o m' _) op v _ => decide (m' = m) && decide (op = if sb then .Sub else .Add) && clB K ci (fun c => c.flds.any fun y => decide (y = m)) && chkE n K o co && chkE n K v cv
      | _ => false)
    | .pass => (match s with
      | .Pass _ => true
      | _ => false)
    | .brk => (match s with
      | .Break _ => true
      | _ => false)
    | .cnt => (match s with
      | .Continue _ => true
      | _ => false)
def chkSs : Nat → Cc → List Stmt → List Sc → Bool
  | 0, _, _, _ => false
  | n + 1, K, ss, cs => match cs with
    | [] => ss.isEmpty
    | .frz _ :: cs => chkSs n K ss cs
    | c :: cs => (match ss with
      | s :: ss => chkS n K s c && chkSs n K ss cs
      | [] => false)
end
end Fw

/-! What is checked is sound. -/
namespace Fw
open PySem PySem.Spec PyProof.Rows L2
/-- what is known of a class -/
structure ClK (fa : Ad) (K : PySem.W.Frag) (mg : Str → Option Value) (ci : Nat) (c : CI) : Prop where
  mgC : mg c.name = some (.ref (fa.c ci))
  cls : Cls K (fa.c ci)
  init : ∀ fi, c.init = some fi → Mk K (fa.c ci) (fa.f fi)
  meths : ∀ m fi, (m, fi) ∈ c.meths → Meth K (fa.c ci) m (fa.f fi)
  flds : ∀ n ∈ c.flds, NoAttr K (fa.c ci) n
  csts : ∀ n d, (n, d) ∈ c.csts → ∃ mc v u, ClX.CRead K (fa.c ci) mc ∧ ClX.CVal K (fa.c ci) mc n v u ∧ ∀ z, Dat ⟨K, fa⟩ z d v
  cms : ∀ m fi, (m, fi) ∈ c.cms → ∃ mc p, ClX.CRead K (fa.c ci) mc ∧ ClX.CMet K (fa.c ci) mc m p (fa.f fi)
/-- what is known of an own exception -/
structure ExK (fa : Ad) (P : Program) (w : World) (K : PySem.W.Frag) (mg : Str → Option Value) (base : Heap) (e : EI) : Prop where
  mgE : mg e.name = some (.ref (fa.c e.x.c))
  oex : OexG K (fa.c e.x.c)
  xc : XcK K (.ref fa.few) (.ref fa.mis) fldNames (fa.c e.x.c)
  fn : ∀ attr, e.x.attr = some attr → ∃ f fd ps, PySem.W.findIn K (.ref (fa.c e.x.c)) "__init__" = some (some (.ref f)) ∧ PySem.W.typeIn K (.ref f) = some (.type "function") ∧ FnOk P w K mg base (L2.CX P w) 5 f fd ps (spExc (fa.c e.x.c) e.x.code attr) ∧ Binds K fd ps []
/-- what is known of the whole table -/
structure TabK (T : Tb) (fa : Ad) (cl : Nat → List A → Store → Rz A) (k : Nat) (P : Program) (w : World) (K : PySem.W.Frag) (mg : Str → Option Value) (base : Heap) : Prop where
  fn : ∀ fi I, T.fns[fi]? = some I → I.kind ≠ .star → ∃ fd, FnOk P w K mg base (L2.CX P w) (4 * k + 8) (fa.f fi) fd I.ps (spX ⟨K, fa⟩ I.ps.length (cl fi)) ∧ (I.kind = .glob → mg I.name = some (.ref (fa.f fi))) ∧ PySem.W.keepIn K (.ref (fa.f fi)) = true ∧
    (∀ n ds, (n, ds) ∈ I.dfl → ∃ dsV dvs, Binds K fd I.ps dsV ∧ Vals dvs dsV ∧ (∀ z, DatL ⟨K, fa⟩ z ds dvs) ∧ n + ds.length = I.ps.length) ∧
    (∀ n ks asm, (n, ks, asm) ∈ I.kwl → KBA ⟨K, fa⟩ fd I.ps n ks asm) ∧ Binds K fd I.ps [] ∧ ∀ xs S z S', cl fi xs S = .ok z S' → xs.length = I.ps.length
  star : ∀ fi I, T.fns[fi]? = some I → I.kind = .star → FnR P w K mg base (L2.CX P w) (4 * k + 8) (fa.f fi) (spStar ⟨K, fa⟩ (cl fi)) ∧ ∀ xs S z S', cl fi xs S = .ok z S' → xs.length = 2
  blt : ∀ x ∈ T.blts, mg x = none
  cst : ∀ x d, (x, d) ∈ T.csts → ∃ u v, mg x = some u ∧ RelV v u ∧ ∀ z, Dat ⟨K, fa⟩ z d v
  cls : ∀ ci c, T.cls[ci]? = some c → ClK fa K mg ci c
  exc : ∀ e ∈ T.excs, ExK fa P w K mg base e
  why : ∀ x, T.why = some x → WhyK fa K mg x
structure CxOk (K : Cc) (fa : Ad) (cl : Nat → List A → Store → Rz A) (k : Nat) (X : Cx) : Prop where
  hN : X.N = K.N
  nd : X.N.Nodup
  sce : X.env.scope = K.sc
  kind : K.sc.kind = .function
  calm : X.calm = true
  room : Room (4 * k + 9) X.A
  fne : ∀ x, (match K.fs with
    | none => true
    | some s => (match s.names.lookup x with
      | some .cell => true
      | _ => false)) = true → X.fn x = true
  tb : TabK K.T fa cl k X.prog X.w X.K X.mg X.base
  lamk : K.lam = true → LamK fa X ∧ Room (4 * k + 11) X.A
theorem CxOk.room8 {K : Cc} {fa : Ad} {cl : Nat → List A → Store → Rz A} {k : Nat} {X : Cx} (h : CxOk K fa cl k X) : Room (4 * k + 8) X.A := h.room.mono (by omega)
theorem CxOk.tab {K : Cc} {fa : Ad} {cl : Nat → List A → Store → Rz A} {k : Nat} {X : Cx} (h : CxOk K fa cl k X) : ∀ fi I, K.T.fns[fi]? = some I → I.kind ≠ .star → ∃ fd, FnOk X.prog X.w X.K X.mg X.base (L2.CX X.prog X.w) (4 * k + 8) (fa.f fi) fd I.ps (spF (gx X fa) I.ps.length (cl fi)) ∧ (I.kind = .glob → X.mg I.name = some (.ref (fa.f fi))) ∧ PySem.W.keepIn X.K (.ref (fa.f fi)) = true ∧
    (∀ n ds, (n, ds) ∈ I.dfl → ∃ dsV dvs, Binds X.K fd I.ps dsV ∧ Vals dvs dsV ∧ (∀ z, DatL (gx X fa) z ds dvs) ∧ n + ds.length = I.ps.length) ∧
    (∀ n ks asm, (n, ks, asm) ∈ I.kwl → KBA (gx X fa) fd I.ps n ks asm) ∧ Binds X.K fd I.ps [] ∧ ∀ xs S z S', cl fi xs S = .ok z S' → xs.length = I.ps.length := fun fi I hI hk => by
  obtain ⟨fd, F, r⟩ := h.tb.fn fi I hI hk
  exact ⟨fd, F.imp fun vs H Q E q => spX_of q, r⟩
section
variable {K : Cc} {fa : Ad} {cl : Nat → List A → Store → Rz A} {k wf : Nat} {X : Cx}
theorem CxOk.blk (h : CxOk K fa cl k X) (s : Shared) (H : Hp) (scope : Scope) (cls : List (Str × Addr)) (C : Addr) (fp : List Addr) (hk : scope.kind = .function) :
    CxOk ⟨K.T, K.N, relS scope K.sc, some scope, K.lam⟩ fa cl k (X.blk s H scope (compEnvC scope cls C X.env) fp) where
  hN := h.hN
  nd := h.nd
  sce := by
    show relabel scope X.env = relS scope K.sc
    rw [← h.sce]
    rfl
  kind := hk
  calm := h.calm
  room := h.room
  fne := fun x hx => by
    show (scope.names.lookup x == some NameKind.cell) = true
    dsimp only at hx
    split at hx
    · rename_i e
      rw [e]
      rfl
    · cases hx
  tb := h.tb
  lamk := fun hl => by
    obtain ⟨⟨h1⟩, h2⟩ := h.lamk hl
    exact ⟨⟨h1⟩, h2⟩
theorem kd_eq (h : CxOk K fa cl k X) (x : Str) : X.env.scope.names.lookup x = kd K x := by
  rw [h.sce]
  rfl
theorem vis_of (h : CxOk K fa cl k X) {x : Str} (hv : visB K x = true) : Vis X.env.scope x := by
  unfold Vis
  rw [kd_eq h]
  unfold visB at hv
  split at hv
  · rename_i e; exact .inl e
  · rename_i e; exact .inr (.inl e)
  · rename_i e; exact .inr (.inr e)
  · cases hv
theorem gl_of (h : CxOk K fa cl k X) {x : Str} (hv : glB K x = true) : Gl X x := by
  show X.env.scope.names.lookup x = _
  rw [kd_eq h]
  unfold glB at hv
  split at hv
  · rename_i e; exact e
  · cases hv
theorem own_of (h : CxOk K fa cl k X) {x : Str} (hv : ownB K x = true) : Loc X.env.scope x ∧ (X.fn x = true ∨ X.env.scope.names.lookup x = some .local) := by
  unfold L2.Loc
  rw [kd_eq h]
  unfold ownB at hv
  split at hv
  · rename_i e; exact ⟨.inl e, .inr e⟩
  · rename_i e; exact ⟨.inr e, .inl (h.fne x hv)⟩
  · cases hv
theorem slot_of (h : CxOk K fa cl k X) {x : Str} {i : Nat} (hs : slotB K i x = true) : X.N[i]? = some x := by
  rw [h.hN]
  exact of_decide_eq_true hs
theorem blt_of (h : CxOk K fa cl k X) {x : Str} (hv : bltB K x = true) : Gl X x ∧ X.mg x = none := by
  unfold bltB at hv
  rw [Bool.and_eq_true, List.any_eq_true] at hv
  obtain ⟨h1, y, hy, e⟩ := hv
  have e := of_decide_eq_true e
  subst e
  exact ⟨gl_of h h1, h.tb.blt y hy⟩
theorem nm_of {x : Str} (h : plainNm x = true) : (x == ("__debug__" : Str)) = false ∧ (x == ("__classdict__" : Str)) = false ∧ x ≠ "__name__" := by
  unfold plainNm at h
  rw [Bool.and_eq_true, Bool.and_eq_true] at h
  obtain ⟨⟨h1, h2⟩, h3⟩ := h
  have q : ∀ {y : Str}, (!decide (x = y)) = true → x ≠ y := fun {y} z e => by
    rw [decide_eq_true e] at z
    cases z
  exact ⟨by rw [beq_eq_false_iff_ne]; exact q h1, by rw [beq_eq_false_iff_ne]; exact q h2, q h3⟩
theorem star_cons {e : Expr} {es : List Expr} {env : PySem.Env} (h : (!starB e) = true) : starEach (e :: es) env = (false, eval e env) :: starEach es env := by
  cases e <;> first | rfl | (simp [starB] at h)
theorem star_any {pos : Pos} {env : PySem.Env} : ∀ {es : List Expr}, (∀ e ∈ es, (!starB e) = true) → (backTo pos (starEach es env)).any (·.1) = false
  | [], _ => rfl
  | e :: es, h => by
    rw [star_cons (h e (List.mem_cons_self ..))]
    show (false || (backTo pos (starEach es env)).any (·.1)) = false
    rw [star_any fun e he => h e (List.mem_cons_of_mem _ he)]
    rfl
theorem star_all {pos : Pos} {env : PySem.Env} : ∀ {es : List Expr}, (∀ e ∈ es, (!starB e) = true) → (backTo pos (starEach es env)).all (fun x => !x.1) = true
  | [], _ => rfl
  | e :: es, h => by
    rw [star_cons (h e (List.mem_cons_self ..))]
    show (!false && (backTo pos (starEach es env)).all (fun x => !x.1)) = true
    rw [star_all fun e he => h e (List.mem_cons_of_mem _ he)]
    rfl
theorem notset_of {e : Expr} (h : (!setB e) = true) : ∀ es k p, e ≠ .Set es k p := fun es k p z => by
  rw [z] at h
  simp [setB] at h
theorem folded_of {e : Expr} {env : PySem.Env} (h : (!setB e) = true) : ∀ x, foldedSetIterable e env x = pure x := fun x => by
  cases e <;> first | rfl | (simp [setB] at h)
theorem base_of {o : Expr} {nm : Str} {env : PySem.Env} (h : (!superB o) = true) : attributeBase o nm env (eval o env) = eval o env := by
  cases o <;> first | rfl | (simp [superB] at h)
theorem ix_of {b : Expr} (h : (!slcB' b) = true) : PlainIx b := fun o i => by
  cases b <;> first | rfl | (simp [slcB'] at h)
theorem swap_no {e : Expr} {t : Option Expr} {l : Nat} {env : PySem.Env} (h : (!compB e) = true) : swapsWith e t l env = pure false := by
  cases e <;> first | rfl | (simp [compB] at h)
theorem kw_of {pos : Pos} {env : PySem.Env} : ∀ {kws : List Keyword} {nm : List Str}, kwNames kws = some nm → (backToKw pos (keywordEach kws env)).all (·.1.isSome) = true ∧ (backToKw pos (keywordEach kws env)).filterMap (·.1) = nm ∧ (backToKw pos (keywordEach kws env)).any (·.1.isNone) = false ∧ kws.length = nm.length
  | [], nm, h => by
    cases h
    exact ⟨rfl, rfl, rfl, rfl⟩
  | ⟨some n, v, p⟩ :: r, nm, h => by
    rw [kwNames] at h
    cases q : kwNames r with
    | none => rw [q] at h; cases h
    | some ns =>
      rw [q] at h
      cases h
      obtain ⟨h1, h2, h3, h4⟩ := kw_of (pos := pos) (env := env) q
      refine ⟨?_, ?_, ?_, by rw [List.length_cons, List.length_cons, h4]⟩
      · show (true && (backToKw pos (keywordEach r env)).all (·.1.isSome)) = true
        rw [h1]
        rfl
      · show n :: (backToKw pos (keywordEach r env)).filterMap (·.1) = n :: ns
        rw [h2]
      · show (false || (backToKw pos (keywordEach r env)).any (·.1.isNone)) = false
        rw [h3]
        rfl
  | ⟨none, v, p⟩ :: r, nm, h => by cases h
theorem ownS_map : ∀ {own : List Nat} {ow : List (Str × Nat)}, ownS K own = some ow → ow.map (·.2) = own
  | [], ow, h => by
    cases h
    rfl
  | i :: r, ow, h => by
    rw [ownS] at h
    split at h
    · rename_i x l h1 h2
      cases h
      rw [List.map_cons, ownS_map h2]
    · cases h
theorem ty_pe (h : CxOk K fa cl k X) {e : Expr} {t : Ty} (hv : tyB K e t = true) : PE X e (tC (.ty t.nm)) := by
  unfold tyB at hv
  split at hv
  · rename_i x p
    rw [Bool.and_eq_true, Bool.and_eq_true] at hv
    obtain ⟨⟨h1, h2⟩, h3⟩ := hv
    have h1 := of_decide_eq_true h1
    subst h1
    obtain ⟨hg, hm⟩ := blt_of h h2
    have hb : bootBuiltins t.nmS = some (.type t.nm) := by cases t <;> first | (decide +kernel) | (simp at h3)
    have hn : t.nmS ≠ "__name__" := by cases t <;> decide +kernel
    have hd : (t.nmS == ("__debug__" : Str)) = false := by cases t <;> decide +kernel
    exact pe_bltn hg hm hb rfl hn hd
  · cases hv
theorem tys_pe (h : CxOk K fa cl k X) : ∀ {es : List Expr} {ts : List Ty}, tysB K es ts = true → TyNames X es ts
  | [], [], _ => .nil
  | e :: es, t :: ts, hv => by
    rw [tysB, Bool.and_eq_true] at hv
    refine .cons (ty_pe h hv.1) (star_cons ?_) (tys_pe h hv.2)
    have := hv.1
    unfold tyB at this
    split at this
    · rfl
    · cases this
  | [], _ :: _, hv => by cases hv
  | _ :: _, [], hv => by cases hv
theorem fi_of (h : CxOk K fa cl k X) {fi : Nat} {x : Str} {p : FI → Bool} (hv : fiB K fi x p = true) : ∃ I, K.T.fns[fi]? = some I ∧ I.name = x ∧ Gl X x ∧ plainNm x = true ∧ p I = true ∧ I.kind = .glob := by
  unfold fiB at hv
  split at hv
  · rename_i I hI
    rw [Bool.and_eq_true, Bool.and_eq_true, Bool.and_eq_true] at hv
    obtain ⟨⟨⟨h1, h2⟩, h3⟩, h4⟩ := hv
    rw [Bool.and_eq_true] at h4
    exact ⟨I, hI, of_decide_eq_true h1, gl_of h h2, h3, h4.2, of_decide_eq_true h4.1⟩
  · cases hv
theorem pass_of : Passes (L2.CX X.prog X.w) X E0 := passN
mutual
theorem sg_of (h : CxOk K fa cl k X) : ∀ (e : Expr) (t : Tg), chkG K e t = true → SG fa X e t
  | .Name x p, .nm i, hv => by
    rw [chkG, Bool.and_eq_true] at hv
    obtain ⟨h1, h2⟩ := own_of h hv.2
    exact sg_name h.nd (slot_of h hv.1) h1 h2
  | .Tuple es kk p, .tp ts, hv => by
    rw [chkG] at hv
    obtain ⟨h1, h2, h3⟩ := sgs_of h es ts hv
    exact sg_tup h.calm h1 h2 h3
  | .Name _ _, .tp _, hv => by simp [chkG] at hv
  | .Tuple _ _ _, .nm _, hv => by simp [chkG] at hv
  | .BoolOp .., t, hv => by simp [chkG] at hv
  | .NamedExpr .., t, hv => by simp [chkG] at hv
  | .BinOp .., t, hv => by simp [chkG] at hv
  | .UnaryOp .., t, hv => by simp [chkG] at hv
  | .Lambda .., t, hv => by simp [chkG] at hv
  | .IfExp .., t, hv => by simp [chkG] at hv
  | .Dict .., t, hv => by simp [chkG] at hv
  | .Set .., t, hv => by simp [chkG] at hv
  | .ListComp .., t, hv => by simp [chkG] at hv
  | .SetComp .., t, hv => by simp [chkG] at hv
  | .DictComp .., t, hv => by simp [chkG] at hv
  | .GeneratorExp .., t, hv => by simp [chkG] at hv
  | .Await .., t, hv => by simp [chkG] at hv
  | .Yield .., t, hv => by simp [chkG] at hv
  | .YieldFrom .., t, hv => by simp [chkG] at hv
  | .Compare .., t, hv => by simp [chkG] at hv
  | .Call .., t, hv => by simp [chkG] at hv
  | .FormattedValue .., t, hv => by simp [chkG] at hv
  | .JoinedStr .., t, hv => by simp [chkG] at hv
  | .Constant .., t, hv => by simp [chkG] at hv
  | .Attribute .., t, hv => by simp [chkG] at hv
  | .Subscript .., t, hv => by simp [chkG] at hv
  | .Starred .., t, hv => by simp [chkG] at hv
  | .List .., t, hv => by simp [chkG] at hv
  | .Slice .., t, hv => by simp [chkG] at hv
theorem sgs_of (h : CxOk K fa cl k X) : ∀ (es : List Expr) (ts : List Tg), chkGs K es ts = true → SGs fa X es ts ∧ (assignEach es X.env).length = ts.length ∧ (assignEach es X.env).findIdx? (·.1) = none
  | [], [], _ => ⟨sgs_nil, rfl, rfl⟩
  | e :: es, t :: ts, hv => by
    rw [chkGs, Bool.and_eq_true, Bool.and_eq_true] at hv
    obtain ⟨⟨h1, h2⟩, h3⟩ := hv
    obtain ⟨a, b, c⟩ := sgs_of h es ts h3
    have e1 : assignEach (e :: es) X.env = (false, assign e X.env) :: assignEach es X.env := by
      cases e <;> first | rfl | (simp [starB] at h1)
    refine ⟨sgs_cons (sg_of h e t h2) a (by rw [e1]; rfl), by rw [e1, List.length_cons, List.length_cons, b], ?_⟩
    rw [e1, List.findIdx?_cons]
    simp only [Bool.false_eq_true, if_false]
    rw [c]
    rfl
  | [], _ :: _, hv => by simp [chkGs] at hv
  | _ :: _, [], hv => by simp [chkGs] at hv
end
end
end Fw

/-! What is checked is sound: the expressions. -/
namespace Fw
open PySem PySem.Spec PyProof.Rows L2
/-- what the checker's answers are worth at n -/
structure Snd (fa : Ad) (cl : Nat → List A → Store → Rz A) (k n : Nat) : Prop where
  e : ∀ K X, CxOk K fa cl k X → ∀ e c, chkE n K e c = true → SE fa cl X e c
  t : ∀ K X, CxOk K fa cl k X → ∀ e c, chkT n K e c = true → ST fa cl X e c ∧ ∀ op vs p, e = .BoolOp op vs p → SW fa cl X e c
  es : ∀ K X, CxOk K fa cl k X → ∀ e c, chkEs n K e c = true → SA fa cl X e c ∧ e.length = c.length ∧ ∀ x ∈ e, (!starB x) = true
  st : ∀ K X, CxOk K fa cl k X → ∀ e fl c, chkSt n K e fl c = true → SAS fa cl X e fl c
  j : ∀ K X, CxOk K fa cl k X → ∀ e c, chkJ n K e c = true → SJ fa cl X e c
  ks : ∀ K X, CxOk K fa cl k X → ∀ e c, chkKs n K e c = true → SK fa cl X e c ∧ e.length = c.length
  c : ∀ K X, CxOk K fa cl k X → ∀ e c, chkC n K e c = true → SCond fa cl X e c
  i : ∀ K X, CxOk K fa cl k X → ∀ tg e kk its, chkI n K tg e kk its = true → SI fa cl X tg e kk its
  x : ∀ K X, CxOk K fa cl k X → ∀ E, Passes (L2.CX X.prog X.w) X E → ∀ e x, chkX n K e x = true → SX fa cl E X e x
theorem bt {a b : Bool} (h : (a && b) = true) : a = true ∧ b = true := by
  rw [Bool.and_eq_true] at h
  exact h
section
variable {K : Cc} {fa : Ad} {cl : Nat → List A → Store → Rz A} {k n : Nat} {X : Cx}
theorem cl_of {K : Cc} {ci : Nat} {p : CI → Bool} (h : clB K ci p = true) : ∃ c, K.T.cls[ci]? = some c ∧ p c = true := by
  unfold clB at h
  split at h
  · rename_i c hc
    exact ⟨c, hc, h⟩
  · cases h
theorem dfl_of {K : Cc} {fi m : Nat} {ds : List D} (h : dflB K fi m ds = true) : ∃ I, K.T.fns[fi]? = some I ∧ I.kind ≠ .star ∧ (m, ds) ∈ I.dfl := by
  unfold dflB at h
  split at h
  · rename_i I hI
    obtain ⟨h1, h2⟩ := bt h
    rw [List.any_eq_true] at h2
    obtain ⟨⟨m', ds'⟩, hm, hq⟩ := h2
    obtain ⟨q1, q2⟩ := bt hq
    have q1 : m' = m := of_decide_eq_true q1
    have q2 : ds' = ds := D.eqbL_eq q2
    refine ⟨I, hI, fun z => ?_, by rw [← q1, ← q2]; exact hm⟩
    rw [z] at h1
    cases h1
  · cases h
theorem kwl_of {K : Cc} {fi m : Nat} {nm : Option (List Str)} {asm : List (Nat ⊕ D)} (h : kwlB K fi m nm asm = true) : ∃ I ks, K.T.fns[fi]? = some I ∧ nm = some ks ∧ I.kind ≠ .star ∧ (m, ks, asm) ∈ I.kwl := by
  unfold kwlB at h
  split at h
  · rename_i I ks hI
    obtain ⟨h1, h2⟩ := bt h
    rw [List.any_eq_true] at h2
    obtain ⟨⟨m', ks', asm'⟩, hm, hq⟩ := h2
    obtain ⟨hq, q3⟩ := bt hq
    obtain ⟨q1, q2⟩ := bt hq
    have q1 : m' = m := of_decide_eq_true q1
    have q2 : ks' = ks := of_decide_eq_true q2
    have q3 : asm' = asm := asmEq_eq q3
    refine ⟨I, ks, hI, rfl, fun z => ?_, by rw [← q1, ← q2, ← q3]; exact hm⟩
    rw [z] at h1
    cases h1
  · cases h
theorem meth_htK {o : Expr} {m : Str} {apos pos : Pos} {kws : List Keyword} {env : PySem.Env} (hb : attributeBase o m env (eval o env) = eval o env) (hall : (backToKw pos (keywordEach kws env)).all (·.1.isSome) = true) (hlen : kws.length < 29) (hl : (apos.endLine == pos.line) = true) :
    eval (.Call (.Attribute o m apos) [] kws pos) env = (do
      let ov ← eval o env
      standAt apos.atName
      let (f, first) ← holding [ov] (getMethod ov m (do return (← importBound o env).getD true))
      callWith pos f first (backTo pos (starEach [] env)) (backToKw pos (keywordEach kws env))) := by
  have hf : methodCallForm (([] : List Expr).length + kws.length) (backTo pos (starEach [] env)) (backToKw pos (keywordEach kws env)) = true := by
    unfold methodCallForm
    rw [hall]
    show (true && true && decide (0 + kws.length + _ < 30)) = true
    rw [Bool.true_and, Bool.true_and, decide_eq_true_eq]
    split <;> omega
  rw [arm_eval_Call, hb]
  unfold methodCall calleeOf methodCallPos
  rw [hf, hl]
  rfl
theorem par_of {params : Arguments} (h : noPar params = true) : params = ⟨[], [], none, [], [], none, []⟩ := by
  unfold noPar at h
  split at h
  · rfl
  · cases h
theorem meth_ht {o : Expr} {m : Str} {apos pos : Pos} {es : List Expr} {env : PySem.Env} (hb : attributeBase o m env (eval o env) = eval o env) (hall : (backTo pos (starEach es env)).all (fun x => !x.1) = true) (hlen : es.length < 30) (hl : (apos.endLine == pos.line) = true) :
    eval (.Call (.Attribute o m apos) es [] pos) env = (do
      let ov ← eval o env
      standAt apos.atName
      let (f, first) ← holding [ov] (getMethod ov m (do return (← importBound o env).getD true))
      callWith pos f first (backTo pos (starEach es env)) (backToKw pos (keywordEach [] env))) := by
  have hf : methodCallForm (es.length + ([] : List Keyword).length) (backTo pos (starEach es env)) (backToKw pos (keywordEach [] env)) = true := by
    unfold methodCallForm
    rw [hall]
    show (true && true && decide (es.length + 0 + 0 < 30)) = true
    rw [Bool.true_and, Bool.true_and, decide_eq_true_eq]
    omega
  rw [arm_eval_Call, hb]
  unfold methodCall calleeOf methodCallPos
  rw [hf, hl]
  rfl
theorem lam_ok (h : CxOk K fa cl k X) {A : Around} {outer : List PySem.Env} {s : Shared} {H : Hp} {E : XK} {scope : Scope} {f c' : Addr} (L : LamX.LamS X.env.scope scope) (hr : Room (4 * k + 9) (A.deeper (LamX.lamEnv X scope s.heap.objs.size f c'))) :
    CxOk ⟨K.T, K.N, scope, some scope, false⟩ fa cl k (LamX.lamCx X A outer s H E scope f c') where
  hN := h.hN
  nd := h.nd
  sce := rfl
  kind := L.kind
  calm := rfl
  room := hr
  fne := fun x hx => by
    dsimp only at hx
    split at hx
    · rename_i e
      exact absurd rfl (L.own _ (PySem.mem_of_lookup e)).2
    · cases hx
  tb := h.tb
  lamk := fun z => by cases z
theorem why_of (S : Snd fa cl k n) (h : CxOk K fa cl k X) {x : Str} {p lpos pos : Pos} {params : Arguments} {body : Expr} {scope : Scope} {xc : XC} (hc : (K.lam && decide (K.T.why = some x) && glB K x && plainNm x && LamX.lamSB K.sc scope && noPar params && chkX n ⟨K.T, K.N, scope, some scope, false⟩ body xc) = true) :
    PE X (.Call (.Name x p) [.Lambda params body scope lpos] [] pos) (tE (gx X fa) fun ρ S => whyR (xcF cl xc ρ S)) := by
  obtain ⟨hc, h7⟩ := bt hc
  obtain ⟨hc, h6⟩ := bt hc
  obtain ⟨hc, h5⟩ := bt hc
  obtain ⟨hc, h4⟩ := bt hc
  obtain ⟨hc, h3⟩ := bt hc
  obtain ⟨h1, h2⟩ := bt hc
  obtain ⟨lk, hr⟩ := h.lamk h1
  have L : LamX.LamS X.env.scope scope := by
    rw [h.sce]
    exact LamX.lamS_by h5
  have hp := par_of h6
  subst hp
  refine pe_why (k := 4 * k + 7) (gl_of h h3) (h.tb.why _ (of_decide_eq_true h2)) lk hr L rfl (fun _ _ _ _ _ => rfl) (fun A outer s H E f c' hr' => ?_) (nm_of h4).1
  have tk : Takes (LamX.lamCx X A outer s H E scope f c') (fun cls d _ H => E cls d H) := takes_of rfl rfl rfl (E₁ := fun e' s'' => L2.CX X.prog X.w outer H s E e' s'') rfl
  exact S.x _ _ (lam_ok h L hr') E (passes_call tk fun _ _ _ _ q => q) _ _ h7
theorem sndX (S : Snd fa cl k n) (h : CxOk K fa cl k X) {E : XK} (hE : Passes (L2.CX X.prog X.w) X E) (e : Expr) (x : XC) (hc : chkX (n + 1) K e x = true) : SX fa cl E X e x := by
  rw [chkX.eq_def] at hc
  dsimp only at hc
  split at hc
  · -- fn
    rename_i fi ds cs
    split at hc
    · rename_i x p es pos
      obtain ⟨h1, h2⟩ := bt hc
      obtain ⟨I, hI, rfl, hg, hn, hp, hgl⟩ := fi_of h h1
      rw [List.any_eq_true] at hp
      obtain ⟨⟨n', ds'⟩, hm, hq⟩ := hp
      obtain ⟨q1, q2⟩ := bt hq
      have r1 : n' = cs.length := of_decide_eq_true q1
      have r2 : ds' = ds := D.eqbL_eq q2
      clear hq q1 q2
      subst r1
      subst r2
      obtain ⟨fd, F, hmg, hk, hd, _⟩ := h.tb.fn fi I hI (by rw [hgl]; decide)
      obtain ⟨dsV, dvs, hb, hv, hdd, hl⟩ := hd _ _ hm
      obtain ⟨a1, a2, a3⟩ := S.es K X h _ _ h2
      cases cs with
      | nil =>
        cases es with
        | nil => exact sx_fn0 F h.room8 hg (hmg hgl) hk hb hv hdd (by rw [← hl, List.length_nil, Nat.zero_add]) hE (nm_of hn).1
        | cons e es => simp at a2
      | cons c cs =>
        cases es with
        | nil => simp at a2
        | cons e es => exact sx_fn F h.room8 hg (hmg hgl) hk hb hv hdd (by rw [← hl, List.length_cons]; omega) hE a1 (nm_of hn).1 (star_cons (a3 _ (List.mem_cons_self ..))) (star_any fun x hx => a3 x (List.mem_cons_of_mem _ hx))
    · cases hc
  · -- make
    rename_i ci fi ds cs
    split at hc
    · rename_i x p es pos
      obtain ⟨hc, h6⟩ := bt hc
      obtain ⟨hc, h5⟩ := bt hc
      obtain ⟨hc, h4⟩ := bt hc
      obtain ⟨hc, h3⟩ := bt hc
      obtain ⟨h1, h2⟩ := bt hc
      obtain ⟨c0, hc0, h1⟩ := cl_of h1
      obtain ⟨e1, e2⟩ := bt h1
      have e1 := of_decide_eq_true e1
      have e2 := of_decide_eq_true e2
      subst e1
      have ck := h.tb.cls _ _ hc0
      obtain ⟨I, hI, hns, hm⟩ := dfl_of h5
      obtain ⟨fd, F, _, hk, hd, _⟩ := h.tb.fn fi I hI hns
      obtain ⟨dsV, dvs, hb, hv, hdd, hl⟩ := hd _ _ hm
      obtain ⟨a1, a2, a3⟩ := S.es K X h _ _ h6
      cases cs with
      | nil => simp at h4
      | cons c cs =>
        cases es with
        | nil => simp at a2
        | cons e es => exact sx_make (ck.init _ e2) F h.room (gl_of h h2) ck.mgC hb hv hdd (by rw [← hl, List.length_cons]; omega) hE a1 (nm_of h3).1 (star_cons (a3 _ (List.mem_cons_self ..))) (star_any fun x hx => a3 x (List.mem_cons_of_mem _ hx))
    · cases hc
  · -- makeM
    rename_i ci fi ds cs
    split at hc
    · rename_i x p es pos
      obtain ⟨hc, h6⟩ := bt hc
      obtain ⟨hc, h5⟩ := bt hc
      obtain ⟨hc, h4⟩ := bt hc
      obtain ⟨hc, h3⟩ := bt hc
      obtain ⟨h1, h2⟩ := bt hc
      obtain ⟨c0, hc0, h1⟩ := cl_of h1
      obtain ⟨e1, e2⟩ := bt h1
      have e1 := of_decide_eq_true e1
      have e2 := of_decide_eq_true e2
      subst e1
      have ck := h.tb.cls _ _ hc0
      obtain ⟨I, hI, hns, hm⟩ := dfl_of h5
      obtain ⟨fd, F, _, hk, hd, _⟩ := h.tb.fn fi I hI hns
      obtain ⟨dsV, dvs, hb, hv, hdd, hl⟩ := hd _ _ hm
      obtain ⟨a1, a2, a3⟩ := S.es K X h _ _ h6
      cases cs with
      | nil => simp at h4
      | cons c cs =>
        cases es with
        | nil => simp at a2
        | cons e es => exact sx_makeM (ck.init _ e2) F h.room (gl_of h h2) ck.mgC hb hv hdd (by rw [← hl, List.length_cons]; omega) hE a1 (nm_of h3).1 (star_cons (a3 _ (List.mem_cons_self ..))) (star_any fun x hx => a3 x (List.mem_cons_of_mem _ hx))
    · cases hc
  · -- makeL
    rename_i i ci fi cs
    split at hc
    · rename_i x p es pos
      obtain ⟨hc, h7⟩ := bt hc
      obtain ⟨hc, h6⟩ := bt hc
      obtain ⟨hc, h5⟩ := bt hc
      obtain ⟨hc, h4⟩ := bt hc
      obtain ⟨hc, h3⟩ := bt hc
      obtain ⟨h1, h2⟩ := bt hc
      obtain ⟨c0, hc0, h1⟩ := cl_of h1
      have e2 := of_decide_eq_true h1
      have ck := h.tb.cls _ _ hc0
      obtain ⟨I, hI, hns, hm⟩ := dfl_of h6
      obtain ⟨fd, F, _, hk, hd, _, hb, _⟩ := h.tb.fn fi I hI hns
      obtain ⟨_, _, _, _, _, hl⟩ := hd _ _ hm
      obtain ⟨a1, a2, a3⟩ := S.es K X h _ _ h7
      cases cs with
      | nil => simp at h5
      | cons c cs =>
        cases es with
        | nil => simp at a2
        | cons e es => exact sx_makeL (ck.init _ e2) F h.room (slot_of h h2) (vis_of h h3) hb (by rw [← hl, List.length_cons, List.length_nil]) hE a1 (nm_of h4).1 (nm_of h4).2.1 (star_cons (a3 _ (List.mem_cons_self ..))) (star_any fun x hx => a3 x (List.mem_cons_of_mem _ hx))
    · cases hc
  · -- cmeth
    rename_i ci fi m cs
    split at hc
    · rename_i x xp m' ap es pos
      obtain ⟨hc, h8⟩ := bt hc
      obtain ⟨hc, h7⟩ := bt hc
      obtain ⟨hc, h6⟩ := bt hc
      obtain ⟨hc, h5⟩ := bt hc
      obtain ⟨hc, h4⟩ := bt hc
      obtain ⟨hc, h3⟩ := bt hc
      obtain ⟨h1, h2⟩ := bt hc
      have h1 := of_decide_eq_true h1
      subst h1
      obtain ⟨c0, hc0, h3⟩ := cl_of h3
      obtain ⟨e1, e2⟩ := bt h3
      have e1 := of_decide_eq_true e1
      subst e1
      rw [List.any_eq_true] at e2
      obtain ⟨⟨y, fi'⟩, hy, e⟩ := e2
      obtain ⟨q1, q2⟩ := bt e
      have q1 := of_decide_eq_true q1
      have q2 := of_decide_eq_true q2
      dsimp only at q1 q2
      subst q1
      subst q2
      have ck := h.tb.cls _ _ hc0
      obtain ⟨mc, pp, r1, r2⟩ := ck.cms _ _ hy
      split at h7
      · rename_i I hI
        obtain ⟨F, _⟩ := h.tb.star _ I hI (of_decide_eq_true h7)
        obtain ⟨a1, a2, a3⟩ := S.es K X h _ _ h8
        have ht := meth_ht (o := .Name c0.name xp) (m := y) (apos := ap) (pos := pos) (es := es) (env := X.env) rfl (star_all fun x hx => a3 x hx) (of_decide_eq_true h6) h2
        cases cs with
        | nil =>
          cases es with
          | nil => exact sx_cmeth0 (gl_of h h4) ck.mgC (nm_of h5).1 r1 r2 F h.room8 hE ht
          | cons e es => simp at a2
        | cons c cs =>
          cases es with
          | nil => simp at a2
          | cons e es => exact sx_cmeth (gl_of h h4) ck.mgC (nm_of h5).1 r1 r2 F h.room8 hE a1 (star_cons (a3 _ (List.mem_cons_self ..))) (star_any fun x hx => a3 x (List.mem_cons_of_mem _ hx)) ht
      · cases h7
    · cases hc
  · -- meth
    rename_i ci fi m co cs ds
    split at hc
    · rename_i o m' ap es pos
      obtain ⟨hc, h8⟩ := bt hc
      obtain ⟨hc, h7⟩ := bt hc
      obtain ⟨hc, h6⟩ := bt hc
      obtain ⟨hc, h5⟩ := bt hc
      obtain ⟨hc, h4⟩ := bt hc
      obtain ⟨hc, h3⟩ := bt hc
      obtain ⟨h1, h2⟩ := bt hc
      have h1 := of_decide_eq_true h1
      subst h1
      obtain ⟨c0, hc0, h4⟩ := cl_of h4
      rw [List.any_eq_true] at h4
      obtain ⟨⟨y, fi'⟩, hy, e⟩ := h4
      obtain ⟨q1, q2⟩ := bt e
      have q1 := of_decide_eq_true q1
      have q2 := of_decide_eq_true q2
      dsimp only at q1 q2
      subst q1
      subst q2
      have ck := h.tb.cls _ _ hc0
      obtain ⟨I, hI, hns, hm⟩ := dfl_of h5
      obtain ⟨fd, F, _, hk, hd, _⟩ := h.tb.fn _ I hI hns
      obtain ⟨dsV, dvs, hb, hv, hdd, hl⟩ := hd _ _ hm
      obtain ⟨a1, a2, a3⟩ := S.es K X h _ _ h8
      have ht := meth_ht (o := o) (m := y) (apos := ap) (pos := pos) (es := es) (env := X.env) (base_of h3) (star_all fun x hx => a3 x hx) (of_decide_eq_true h6) h2
      have so := S.e K X h _ _ h7
      cases cs with
      | nil =>
        cases es with
        | nil => exact sx_meth0 so ck.cls (ck.meths _ _ hy) F h.room8 hb hv hdd (by rw [← hl, List.length_nil]; omega) hE ht
        | cons e es => simp at a2
      | cons c cs =>
        cases es with
        | nil => simp at a2
        | cons e es => exact sx_meth so ck.cls (ck.meths _ _ hy) F h.room8 hb hv hdd (by rw [← hl, List.length_cons]; omega) hE a1 (star_cons (a3 _ (List.mem_cons_self ..))) (star_any fun x hx => a3 x (List.mem_cons_of_mem _ hx)) ht
    · cases hc
  · -- methK
    rename_i ci fi m co ks asm
    split at hc
    · rename_i o m' ap kws pos
      obtain ⟨hc, h8⟩ := bt hc
      obtain ⟨hc, h7⟩ := bt hc
      obtain ⟨hc, h6⟩ := bt hc
      obtain ⟨hc, h5⟩ := bt hc
      obtain ⟨hc, h4⟩ := bt hc
      obtain ⟨hc, h3⟩ := bt hc
      obtain ⟨h1, h2⟩ := bt hc
      have h1 := of_decide_eq_true h1
      subst h1
      obtain ⟨c0, hc0, h4⟩ := cl_of h4
      rw [List.any_eq_true] at h4
      obtain ⟨⟨y, fi'⟩, hy, e⟩ := h4
      obtain ⟨q1, q2⟩ := bt e
      have q1 := of_decide_eq_true q1
      have q2 := of_decide_eq_true q2
      dsimp only at q1 q2
      subst q1
      subst q2
      have ck := h.tb.cls _ _ hc0
      obtain ⟨I, nms, hI, hnm, hns, hm⟩ := kwl_of h5
      obtain ⟨fd, F, _, hk, _, hkb, _⟩ := h.tb.fn _ I hI hns
      obtain ⟨b1, b2⟩ := S.ks K X h _ _ h8
      obtain ⟨k1, k2, k3, k4⟩ := kw_of (pos := pos) (env := X.env) hnm
      have ht := meth_htK (o := o) (m := y) (apos := ap) (pos := pos) (kws := kws) (env := X.env) (base_of h3) k1 (of_decide_eq_true h6) h2
      exact sx_methK (S.e K X h _ _ h7) ck.cls (ck.meths _ _ hy) F h.room8 (hkb _ _ _ hm) hE b1 (by rw [← b2, k4]) k1 k2 (by rw [k3]; rfl) ht
    · cases hc
theorem sndE (S : Snd fa cl k n) (h : CxOk K fa cl k X) (e : Expr) (c : C) (hc : chkE (n + 1) K e c = true) : SE fa cl X e c := by
  rw [chkE.eq_def] at hc
  dsimp only at hc
  split at hc
  · -- var
    split at hc
    · obtain ⟨hc, h3⟩ := bt hc
      obtain ⟨h1, h2⟩ := bt hc
      exact se_var (slot_of h h1) (vis_of h h2) (nm_of h3).1 (nm_of h3).2.1
    · cases hc
  · -- cst
    split at hc
    · rw [D.eqb_eq hc]
      exact se_cst pe_int fun _ => rfl
    · rw [D.eqb_eq hc]
      exact se_cst pe_str fun _ => rfl
    · rw [D.eqb_eq hc]
      exact se_cst pe_bl fun _ => rfl
    · rw [D.eqb_eq hc]
      exact se_cst pe_non fun _ => rfl
    · split at hc
      · exact se_cst (ty_pe h hc) fun _ => rfl
      · unfold fiB at hc
        split at hc
        · rename_i fi I hI
          obtain ⟨hc, h4⟩ := bt hc
          obtain ⟨hc, h3⟩ := bt hc
          obtain ⟨h1, h2⟩ := bt hc
          have h1 := of_decide_eq_true h1
          subst h1
          have h4 := of_decide_eq_true (bt h4).1
          obtain ⟨fd, _, hmg, _⟩ := h.tab _ I hI (by rw [h4]; decide)
          exact se_cst (pe_glob (v := .ref (fa.f _)) (gl_of h h2) (hmg h4) rfl (nm_of h3).1) fun _ => rfl
        · cases hc
      · obtain ⟨hc, h3⟩ := bt hc
        obtain ⟨h1, h2⟩ := bt hc
        rw [List.any_eq_true] at h3
        obtain ⟨⟨x', d'⟩, hm, hq⟩ := h3
        obtain ⟨q1, q2⟩ := bt hq
        have q1 := of_decide_eq_true q1
        dsimp only at q1 q2
        subst q1
        have q2 := D.eqb_eq q2
        subst q2
        obtain ⟨u, v, hu, hv, hd⟩ := h.tb.cst _ _ hm
        exact se_cst (pe_glob (gl_of h h1) hu hv (nm_of h2).1) hd
    · cases hc
  · -- bin
    split at hc
    · obtain ⟨hc, h3⟩ := bt hc
      obtain ⟨h1, h2⟩ := bt hc
      have h1 := of_decide_eq_true h1
      subst h1
      exact se_bin (S.e K X h _ _ h2) (S.e K X h _ _ h3)
    · cases hc
  · -- neg
    split at hc
    · exact se_neg (S.e K X h _ _ hc)
    · cases hc
  · -- cmp
    split at hc
    · obtain ⟨hc, h4⟩ := bt hc
      obtain ⟨hc, h3⟩ := bt hc
      obtain ⟨h1, h2⟩ := bt hc
      have h1 := of_decide_eq_true h1
      subst h1
      exact se_cmp h.room8 (S.e K X h _ _ h3) (S.e K X h _ _ h4) (notset_of h2)
    · cases hc
  · -- chain
    split at hc
    · obtain ⟨hc, h6⟩ := bt hc
      obtain ⟨hc, h5⟩ := bt hc
      obtain ⟨hc, h4⟩ := bt hc
      obtain ⟨hc, h3⟩ := bt hc
      obtain ⟨h1, h2⟩ := bt hc
      have h1 := of_decide_eq_true h1
      have h2 := of_decide_eq_true h2
      subst h1
      subst h2
      exact se_chain h.room8 (S.e K X h _ _ h4) (S.e K X h _ _ h5) (S.e K X h _ _ h6) (notset_of h3)
    · cases hc
  · -- and
    split at hc
    · obtain ⟨h1, h2⟩ := bt hc
      exact se_andC (S.e K X h _ _ h1) (se_one (S.e K X h _ _ h2))
    · obtain ⟨h1, h2⟩ := bt hc
      exact se_andC (S.e K X h _ _ h1) (S.e K X h _ _ h2)
    · cases hc
  · -- or
    split at hc
    · obtain ⟨h1, h2⟩ := bt hc
      exact se_orC (S.e K X h _ _ h1) (se_one (S.e K X h _ _ h2))
    · obtain ⟨h1, h2⟩ := bt hc
      exact se_orC (S.e K X h _ _ h1) (S.e K X h _ _ h2)
    · cases hc
  · -- not
    split at hc
    · exact se_not (S.e K X h _ _ hc)
    · cases hc
  · -- ite
    split at hc
    · obtain ⟨hc, h3⟩ := bt hc
      obtain ⟨h1, h2⟩ := bt hc
      exact se_ite (S.t K X h _ _ h1).1 (S.e K X h _ _ h2) (S.e K X h _ _ h3)
    · cases hc
  · -- tup
    split at hc
    · exact se_tup (S.es K X h _ _ hc).1
    · cases hc
  · -- lst
    split at hc
    · exact se_lst (S.es K X h _ _ hc).1
    · cases hc
  · -- lstM
    split at hc
    · exact se_lstM (S.es K X h _ _ hc).1
    · cases hc
  · -- tupS
    split at hc
    · exact se_tupS (S.st K X h _ _ _ hc)
    · cases hc
  · -- lstS
    split at hc
    · exact se_lstS (S.st K X h _ _ _ hc)
    · cases hc
  · -- sub
    split at hc
    · obtain ⟨hc, h3⟩ := bt hc
      obtain ⟨h1, h2⟩ := bt hc
      exact se_sub (S.e K X h _ _ h2) (S.e K X h _ _ h3) (ix_of h1)
    · cases hc
  · -- slcL
    split at hc
    · obtain ⟨h1, h2⟩ := bt hc
      exact se_slcL (S.e K X h _ _ h1) (S.e K X h _ _ h2)
    · cases hc
  · -- slcH
    split at hc
    · obtain ⟨h1, h2⟩ := bt hc
      exact se_slcH (S.e K X h _ _ h1) (S.e K X h _ _ h2)
    · cases hc
  · -- slcB
    split at hc
    · obtain ⟨hc, h3⟩ := bt hc
      obtain ⟨h1, h2⟩ := bt hc
      exact se_slcB (S.e K X h _ _ h1) (S.e K X h _ _ h2) (S.e K X h _ _ h3)
    · cases hc
  · -- call
    rename_i fi cs ds
    split at hc
    · rename_i x p es pos
      obtain ⟨h1, h2⟩ := bt hc
      obtain ⟨I, hI, rfl, hg, hn, hp, hgl⟩ := fi_of h h1
      rw [List.any_eq_true] at hp
      obtain ⟨⟨n', ds'⟩, hm, hq⟩ := hp
      obtain ⟨q1, q2⟩ := bt hq
      have r1 : n' = cs.length := of_decide_eq_true q1
      have r2 : ds' = ds := D.eqbL_eq q2
      clear hq q1 q2
      subst r1
      subst r2
      obtain ⟨fd, F, hmg, hk, hd, _⟩ := h.tab fi I hI (by rw [hgl]; decide)
      have hmg := hmg hgl
      obtain ⟨dsV, dvs, hb, hv, hdd, hl⟩ := hd _ _ hm
      obtain ⟨a1, a2, a3⟩ := S.es K X h _ _ h2
      cases cs with
      | nil =>
        cases es with
        | nil => exact se_call0 F h.room8 hg hmg hk hb hv hdd (by rw [← hl, List.length_nil, Nat.zero_add]) pass_of (nm_of hn).1
        | cons e es => simp at a2
      | cons c cs =>
        cases es with
        | nil => simp at a2
        | cons e es => exact se_call F h.room8 hg hmg hk hb hv hdd (by rw [← hl, List.length_cons]; omega) pass_of a1 (nm_of hn).1 (star_cons (a3 _ (List.mem_cons_self ..))) (star_any fun x hx => a3 x (List.mem_cons_of_mem _ hx))
    · cases hc
  · -- callK
    rename_i fi cs ks asm
    split at hc
    · rename_i x p es kws pos
      split at hc
      · rename_i nm hnm
        obtain ⟨hc, h4⟩ := bt hc
        obtain ⟨hc, h3⟩ := bt hc
        obtain ⟨h1, h2⟩ := bt hc
        obtain ⟨I, hI, rfl, hg, hn, hp, hgl⟩ := fi_of h h1
        rw [List.any_eq_true] at hp
        obtain ⟨⟨n', nm', asm'⟩, hm, hq⟩ := hp
        obtain ⟨hq, q3⟩ := bt hq
        obtain ⟨q1, q2⟩ := bt hq
        have r1 : n' = cs.length := of_decide_eq_true q1
        have r2 : nm' = nm := of_decide_eq_true q2
        have r3 : asm' = asm := asmEq_eq q3
        clear hq q1 q2 q3
        subst r1
        subst r2
        subst r3
        obtain ⟨fd, F, hmg, hk, _, hkb, _⟩ := h.tab fi I hI (by rw [hgl]; decide)
        have hmg := hmg hgl
        have hb := hkb _ _ _ hm
        obtain ⟨a1, a2, a3⟩ := S.es K X h _ _ h2
        obtain ⟨b1, b2⟩ := S.ks K X h _ _ h3
        obtain ⟨k1, k2, k3, k4⟩ := kw_of (pos := pos) (env := X.env) hnm
        have hlk : ks.length = nm'.length := by rw [← b2, k4]
        cases cs with
        | nil =>
          cases es with
          | nil => exact se_callK0 F h.room8 hg hmg hk hb pass_of b1 hlk k1 k2 (nm_of hn).1 (by rw [k3]; rfl)
          | cons e es => simp at a2
        | cons c cs =>
          cases es with
          | nil => simp at a2
          | cons e es => exact se_callK F h.room8 hg hmg hk hb pass_of a1 b1 hlk k1 k2 (nm_of hn).1 (star_cons (a3 _ (List.mem_cons_self ..))) (by rw [k3, star_any a3]; rfl)
      · cases hc
    · cases hc
  · -- blt
    rename_i b cs
    split at hc
    · rename_i x p es pos
      obtain ⟨hc, h4⟩ := bt hc
      obtain ⟨hc, h3⟩ := bt hc
      obtain ⟨h1, h2⟩ := bt hc
      have h1 := of_decide_eq_true h1
      subst h1
      obtain ⟨hg, hmg⟩ := blt_of h h2
      obtain ⟨a1, a2, a3⟩ := S.es K X h _ _ h4
      cases cs with
      | nil => simp at h3
      | cons c cs =>
        cases es with
        | nil => simp at a2
        | cons e es => exact se_blt h.calm h.room8 hg hmg a1 (star_cons (a3 _ (List.mem_cons_self ..))) (star_any fun x hx => a3 x (List.mem_cons_of_mem _ hx))
    · cases hc
  · -- append
    split at hc
    · obtain ⟨hc, h6⟩ := bt hc
      obtain ⟨hc, h5⟩ := bt hc
      obtain ⟨hc, h4⟩ := bt hc
      obtain ⟨hc, h3⟩ := bt hc
      obtain ⟨h1, h2⟩ := bt hc
      have h1 := of_decide_eq_true h1
      subst h1
      have hst := star_cons (es := []) (env := X.env) h4
      refine se_append (S.e K X h _ _ h5) (sa_cons (S.e K X h _ _ h6) sa_nil hst) (base_of h3) ?_ h2 hst rfl
      rw [star_all (by intro x hx; rw [List.mem_singleton.mp hx]; exact h4)]
      rfl
    · cases hc
  · -- join
    split at hc
    · obtain ⟨hc, h6⟩ := bt hc
      obtain ⟨hc, h5⟩ := bt hc
      obtain ⟨hc, h4⟩ := bt hc
      obtain ⟨hc, h3⟩ := bt hc
      obtain ⟨h1, h2⟩ := bt hc
      have h1 := of_decide_eq_true h1
      subst h1
      exact se_join (S.e K X h _ _ h5) (S.e K X h _ _ h6) (star_cons (es := []) h4) (base_of h3) h2
    · cases hc
  · -- comp
    rename_i kk its t own cond ce
    split at hc
    · rename_i elt tg iter ifs scope pos
      split at hc
      · rename_i ow how
        obtain ⟨hc, h7⟩ := bt hc
        obtain ⟨hc, h6⟩ := bt hc
        obtain ⟨hc, h5⟩ := bt hc
        obtain ⟨hc, h4⟩ := bt hc
        obtain ⟨hc, h3⟩ := bt hc
        obtain ⟨h1, h2⟩ := bt hc
        have em := ownS_map how
        have ok : BlkOk X.N X.env.scope scope ow := by
          rw [h.hN, h.sce]
          exact blkOk_by h1
        rw [← em]
        rw [List.all_eq_true] at h4
        refine se_comp h.calm h.nd (S.i K X h _ _ _ _ h2) ok (fun s H C cls fp => sg_of (h.blk s H scope cls C fp ok.kind) _ _ h3) (fun s H C cls fp => S.c _ _ (h.blk s H scope cls C fp ok.kind) _ _ h6) (fun s H C cls fp => S.e _ _ (h.blk s H scope cls C fp ok.kind) _ _ h7) (fun i hi => ?_) (folded_of h5)
        rw [em]
        exact of_decide_eq_true (h4 i hi)
      · cases hc
    · cases hc
  · -- fstr
    split at hc
    · exact se_fstr (S.j K X h _ _ hc)
    · cases hc
  · -- fmt
    split at hc
    · obtain ⟨h1, h2⟩ := bt hc
      have h1 := of_decide_eq_true h1
      subst h1
      exact se_fmt (S.e K X h _ _ h2)
    · obtain ⟨h1, h2⟩ := bt hc
      have h1 := of_decide_eq_true h1
      subst h1
      exact pe_joined1 (se_fmt (S.e K X h _ _ h2))
    · cases hc
  · -- isiT
    split at hc
    · obtain ⟨hc, h6⟩ := bt hc
      obtain ⟨hc, h5⟩ := bt hc
      obtain ⟨hc, h4⟩ := bt hc
      obtain ⟨hc, h3⟩ := bt hc
      obtain ⟨h1, h2⟩ := bt hc
      have h1 := of_decide_eq_true h1
      subst h1
      obtain ⟨hg, hmg⟩ := blt_of h h2
      exact se_isiT hg hmg (S.e K X h _ _ h4) (tys_pe h h5) (of_decide_eq_true h6) (star_cons h3)
    · cases hc
  · -- maxD
    split at hc
    · obtain ⟨hc, h5⟩ := bt hc
      obtain ⟨hc, h4⟩ := bt hc
      obtain ⟨hc, h3⟩ := bt hc
      obtain ⟨h1, h2⟩ := bt hc
      have h1 := of_decide_eq_true h1
      subst h1
      have h2 := of_decide_eq_true h2
      subst h2
      obtain ⟨hg, hmg⟩ := blt_of h h3
      obtain ⟨a1, a2, a3⟩ := S.es K X h _ _ h4
      exact se_maxD h.calm h.room8 hg hmg (star_cons (a3 _ (List.mem_cons_self ..))) a1 (S.e K X h _ _ h5)
    · cases hc
  · -- fld
    split at hc
    · rename_i o m' pos
      obtain ⟨hc, h4⟩ := bt hc
      obtain ⟨hc, h3⟩ := bt hc
      obtain ⟨h1, h2⟩ := bt hc
      have h1 := of_decide_eq_true h1
      subst h1
      obtain ⟨c, hcc, h3⟩ := cl_of h3
      rw [List.any_eq_true] at h3
      obtain ⟨y, hy, e⟩ := h3
      have e := of_decide_eq_true e
      subst e
      have ck := h.tb.cls _ c hcc
      exact se_fld (S.e K X h _ _ h4) ck.cls (ck.flds _ hy) (base_of h2)
    · cases hc
  · -- ccst
    split at hc
    · rename_i x p m' pos
      obtain ⟨hc, h4⟩ := bt hc
      obtain ⟨hc, h3⟩ := bt hc
      obtain ⟨h1, h2⟩ := bt hc
      have h1 := of_decide_eq_true h1
      subst h1
      obtain ⟨c, hcc, h4⟩ := cl_of h4
      obtain ⟨h4, h5⟩ := bt h4
      have h4 := of_decide_eq_true h4
      subst h4
      rw [List.any_eq_true] at h5
      obtain ⟨⟨y, d'⟩, hy, e⟩ := h5
      obtain ⟨e1, e2⟩ := bt e
      have e1 := of_decide_eq_true e1
      have e2 := D.eqb_eq e2
      dsimp only at e1 e2
      subst e1
      subst e2
      have ck := h.tb.cls _ c hcc
      obtain ⟨mc, v, u, r1, r2, r3⟩ := ck.csts _ _ hy
      exact se_ccst (gl_of h h2) ck.mgC (nm_of h3).1 r1 r2 r3
    · cases hc
  · -- app
    exact SX.se (S.x K X h E0 passN _ _ hc)
  · -- meth
    exact SX.sem (S.x K X h E0 passN _ _ hc)
  · -- whyA
    split at hc
    · exact se_whyA (why_of S h hc)
    · cases hc
  · -- whyS
    split at hc
    · exact se_whyS (why_of S h hc)
    · cases hc
  · -- methK
    exact SX.semK (S.x K X h E0 passN _ _ hc)
  · -- whyK
    split at hc
    · exact se_whyK (why_of S h hc)
    · cases hc
  · -- callV
    rename_i i nf cs
    split at hc
    · rename_i x p es pos
      obtain ⟨hc, h6⟩ := bt hc
      obtain ⟨hc, h5⟩ := bt hc
      obtain ⟨hc, h7⟩ := bt hc
      obtain ⟨hc, h4⟩ := bt hc
      obtain ⟨hc, h3⟩ := bt hc
      obtain ⟨h1, h2⟩ := bt hc
      have h4 := of_decide_eq_true h4
      obtain ⟨a1, a2, a3⟩ := S.es K X h _ _ h6
      cases cs with
      | nil => simp at h5
      | cons c cs =>
        cases es with
        | nil => simp at a2
        | cons e es =>
          refine se_callV (fun f hf => ?_) h.room8 (slot_of h h1) (vis_of h h2) pass_of a1 (nm_of h3).1 (nm_of h3).2.1 (star_cons (a3 _ (List.mem_cons_self ..))) (star_any fun x hx => a3 x (List.mem_cons_of_mem _ hx))
          have hk0 : (K.T.fns[f]).kind ≠ .star := by
            have := List.all_eq_true.mp h7 _ (List.getElem_mem (show f < (K.T.fns.take nf).length by rw [List.length_take]; omega))
            rw [List.getElem_take] at this
            intro z
            rw [z] at this
            cases this
          obtain ⟨fd, F, _, hk, _, _, hb, hl⟩ := h.tab f _ (List.getElem?_eq_getElem (by omega)) hk0
          exact ⟨fd, _, F, hk, hb, hl⟩
    · cases hc
theorem sndT (S : Snd fa cl k n) (h : CxOk K fa cl k X) (e : Expr) (c : C) (hc : chkT (n + 1) K e c = true) : ST fa cl X e c ∧ ∀ op vs p, e = .BoolOp op vs p → SW fa cl X e c := by
  cases e with
  | UnaryOp op a p =>
    cases op with
    | Not =>
      rw [chkT.eq_def] at hc
      dsimp only at hc
      split at hc
      · exact ⟨st_not (S.t K X h _ _ hc).1, fun _ _ _ z => by cases z⟩
      · cases hc
    | _ => simp [chkT] at hc
  | BoolOp op vs p =>
    cases op with
    | And =>
      rw [chkT.eq_def] at hc
      dsimp only at hc
      split at hc
      · obtain ⟨h1, h2⟩ := bt hc
        have := sw_andC (pos := p) (S.t K X h _ _ h1).1 (sw_and1 (S.t K X h _ _ h2).1)
        exact ⟨this.pt, fun _ _ _ _ => this⟩
      · obtain ⟨h1, h2⟩ := bt hc
        have := sw_andC (S.t K X h _ _ h1).1 ((S.t K X h _ _ h2).2 _ _ _ rfl)
        exact ⟨this.pt, fun _ _ _ _ => this⟩
      · cases hc
    | Or =>
      rw [chkT.eq_def] at hc
      dsimp only at hc
      split at hc
      · obtain ⟨h1, h2⟩ := bt hc
        have := sw_orC (pos := p) (S.t K X h _ _ h1).1 (sw_or1 (S.t K X h _ _ h2).1)
        exact ⟨this.pt, fun _ _ _ _ => this⟩
      · obtain ⟨h1, h2⟩ := bt hc
        have := sw_orC (S.t K X h _ _ h1).1 ((S.t K X h _ _ h2).2 _ _ _ rfl)
        exact ⟨this.pt, fun _ _ _ _ => this⟩
      · cases hc
  | Compare a ops bs p =>
    rw [chkT.eq_def] at hc
    dsimp only at hc
    split at hc
    · obtain ⟨hc, h4⟩ := bt hc
      obtain ⟨hc, h3⟩ := bt hc
      obtain ⟨h1, h2⟩ := bt hc
      have h1 := of_decide_eq_true h1
      subst h1
      exact ⟨st_cmp h.room8 (S.e K X h _ _ h3) (S.e K X h _ _ h4) (notset_of h2), fun _ _ _ z => by cases z⟩
    · obtain ⟨hc, h6⟩ := bt hc
      obtain ⟨hc, h5⟩ := bt hc
      obtain ⟨hc, h4⟩ := bt hc
      obtain ⟨hc, h3⟩ := bt hc
      obtain ⟨h1, h2⟩ := bt hc
      have h1 := of_decide_eq_true h1
      have h2 := of_decide_eq_true h2
      subst h1
      subst h2
      exact ⟨st_chain h.room8 (S.e K X h _ _ h4) (S.e K X h _ _ h5) (S.e K X h _ _ h6) (notset_of h3), fun _ _ _ z => by cases z⟩
    · cases hc
  | IfExp _ _ _ _ => simp [chkT] at hc
  | _ =>
    rw [chkT.eq_def] at hc
    dsimp only at hc
    exact ⟨st_of (S.e K X h _ _ hc) (ev_tst c) fun _ => rfl, fun _ _ _ z => by cases z⟩
theorem sndI (S : Snd fa cl k n) (h : CxOk K fa cl k X) (tg e : Expr) (kk : ItK) (its : List C) (hc : chkI (n + 1) K tg e kk its = true) : SI fa cl X tg e kk its := by
  rw [chkI.eq_def] at hc
  dsimp only at hc
  split at hc
  · split at hc
    · exact si_seq (S.e K X h _ _ hc)
    · cases hc
  · split at hc
    · obtain ⟨hc, h3⟩ := bt hc
      obtain ⟨h1, h2⟩ := bt hc
      have h1 := of_decide_eq_true h1
      subst h1
      obtain ⟨hg, hmg⟩ := blt_of h h2
      obtain ⟨a1, a2, a3⟩ := S.es K X h _ _ h3
      exact si_range1 hg hmg a1 (star_cons (a3 _ (List.mem_cons_self ..)))
    · cases hc
  · split at hc
    · obtain ⟨hc, h3⟩ := bt hc
      obtain ⟨h1, h2⟩ := bt hc
      have h1 := of_decide_eq_true h1
      subst h1
      obtain ⟨hg, hmg⟩ := blt_of h h2
      obtain ⟨a1, a2, a3⟩ := S.es K X h _ _ h3
      have e2 := star_cons (es := []) (env := X.env) (a3 _ (List.mem_cons_of_mem _ (List.mem_singleton.mpr rfl)))
      exact si_range2 hg hmg a1 (by rw [star_cons (a3 _ (List.mem_cons_self ..)), e2]; rfl) e2
    · cases hc
  · split at hc
    · obtain ⟨hc, h3⟩ := bt hc
      obtain ⟨h1, h2⟩ := bt hc
      have h1 := of_decide_eq_true h1
      subst h1
      obtain ⟨hg, hmg⟩ := blt_of h h2
      obtain ⟨a1, a2, a3⟩ := S.es K X h _ _ h3
      exact si_zip hg hmg a1 (star_cons (a3 _ (List.mem_cons_self ..))) (star_any fun x hx => a3 x (List.mem_cons_of_mem _ hx))
    · cases hc
  · split at hc
    · obtain ⟨hc, h3⟩ := bt hc
      obtain ⟨h1, h2⟩ := bt hc
      have h1 := of_decide_eq_true h1
      subst h1
      obtain ⟨hg, hmg⟩ := blt_of h h2
      obtain ⟨a1, a2, a3⟩ := S.es K X h _ _ h3
      exact si_enum hg hmg a1 (star_cons (a3 _ (List.mem_cons_self ..)))
    · cases hc
end
theorem snd_all {fa : Ad} {cl : Nat → List A → Store → Rz A} {k : Nat} : ∀ n, Snd fa cl k n
  | 0 => ⟨fun _ _ _ _ _ h => by simp [chkE] at h, fun _ _ _ _ _ h => by simp [chkT] at h, fun _ _ _ _ _ h => by simp [chkEs] at h, fun _ _ _ _ _ _ h => by simp [chkSt] at h, fun _ _ _ _ _ h => by simp [chkJ] at h, fun _ _ _ _ _ h => by simp [chkKs] at h, fun _ _ _ _ _ h => by simp [chkC] at h, fun _ _ _ _ _ _ _ h => by simp [chkI] at h, fun _ _ _ _ _ _ _ h => by simp [chkX] at h⟩
  | n + 1 => by
    have S : Snd fa cl k n := snd_all n
    refine ⟨fun K X h e c hc => sndE S h e c hc, fun K X h e c hc => sndT S h e c hc, fun K X h e c hc => ?_, fun K X h e fl c hc => ?_, fun K X h e c hc => ?_, fun K X h e c hc => ?_, fun K X h e c hc => ?_, fun K X h tg e kk its hc => sndI S h tg e kk its hc, fun K X h E hE e x hc => sndX S h hE e x hc⟩
    · cases e with
      | nil =>
        cases c with
        | nil => exact ⟨sa_nil, rfl, fun x hx => by cases hx⟩
        | cons c cs => simp [chkEs] at hc
      | cons e es =>
        cases c with
        | nil => simp [chkEs] at hc
        | cons c cs =>
          rw [chkEs] at hc
          obtain ⟨hc, h3⟩ := bt hc
          obtain ⟨h1, h2⟩ := bt hc
          obtain ⟨a1, a2, a3⟩ := S.es K X h _ _ h3
          refine ⟨sa_cons (S.e K X h _ _ h2) a1 (star_cons h1), by rw [List.length_cons, List.length_cons, a2], fun x hx => ?_⟩
          rcases List.mem_cons.mp hx with rfl | hx
          · exact h1
          · exact a3 x hx
    · cases e with
      | nil =>
        cases fl with
        | nil =>
          cases c with
          | nil => exact sas_nil
          | cons c cs => simp [chkSt] at hc
        | cons f fl => simp [chkSt] at hc
      | cons e es =>
        cases fl with
        | nil => simp [chkSt] at hc
        | cons f fl =>
          cases c with
          | nil => simp [chkSt] at hc
          | cons c cs =>
            rw [chkSt.eq_def] at hc
            dsimp only at hc
            obtain ⟨h1, h2⟩ := bt hc
            have a1 := S.st K X h _ _ _ h2
            cases f with
            | true =>
              simp only [if_true] at h1
              split at h1
              · exact sas_star (S.e K X h _ _ h1) a1 rfl
              · cases h1
            | false =>
              simp only [Bool.false_eq_true, if_false] at h1
              obtain ⟨h1, h3⟩ := bt h1
              exact sas_cons (S.e K X h _ _ h3) a1 (star_cons h1)
    · cases e with
      | nil =>
        cases c with
        | nil => exact .nil
        | cons c cs => simp [chkJ] at hc
      | cons e es =>
        cases c with
        | nil => simp [chkJ] at hc
        | cons c cs =>
          rw [chkJ] at hc
          obtain ⟨h1, h2⟩ := bt hc
          exact .cons (S.e K X h _ _ h1) (S.j K X h _ _ h2)
    · cases e with
      | nil =>
        cases c with
        | nil => exact ⟨.nil, rfl⟩
        | cons c cs => simp [chkKs] at hc
      | cons e es =>
        cases c with
        | nil => simp [chkKs] at hc
        | cons c cs =>
          obtain ⟨nm, v, p⟩ := e
          rw [chkKs] at hc
          obtain ⟨h1, h2⟩ := bt hc
          obtain ⟨b1, b2⟩ := S.ks K X h _ _ h2
          exact ⟨.cons (S.e K X h _ _ h1) b1, by rw [List.length_cons, List.length_cons, b2]⟩
    · cases e with
      | nil =>
        cases c with
        | none => exact sc_none
        | some c => simp [chkC] at hc
      | cons e es =>
        cases es with
        | nil =>
          cases c with
          | none => simp [chkC] at hc
          | some c =>
            rw [chkC] at hc
            exact sc_some (S.t K X h _ _ hc).1
        | cons e2 es => simp [chkC] at hc
section
variable {K : Cc} {fa : Ad} {cl : Nat → List A → Store → Rz A} {k : Nat} {X : Cx} {E : XK}
/-- the expressions in which a call may raise -/
theorem snd_cx (h : CxOk K fa cl k X) (hE : Passes (L2.CX X.prog X.w) X E) : ∀ n, (∀ e x, chkCX n K e x = true → SXE fa cl E X e x) ∧ ∀ es xs, chkCXs n K es xs = true → SXA fa cl E X es xs
  | 0 => ⟨fun e x hc => by simp [chkCX] at hc, fun es xs hc => by simp [chkCXs] at hc⟩
  | n + 1 => by
    obtain ⟨ih, ihs⟩ := snd_cx h hE n
    have S : Snd fa cl k n := snd_all n
    refine ⟨fun e x hc => ?_, fun es xs hc => ?_⟩
    · rw [chkCX.eq_def] at hc
      dsimp only at hc
      split at hc
      · exact sxe_p (S.e K X h _ _ hc)
      · exact sxe_x (S.x K X h E hE _ _ hc)
      · split at hc
        · exact sxe_tup (ihs _ _ hc)
        · cases hc
      · split at hc
        · exact sxe_lst (ihs _ _ hc)
        · cases hc
      · split at hc
        · exact sxe_lstM (ihs _ _ hc)
        · cases hc
      · split at hc
        · exact sxe_neg (ih _ _ hc)
        · cases hc
      · split at hc
        · obtain ⟨hc, h4⟩ := bt hc
          obtain ⟨hc, h3⟩ := bt hc
          obtain ⟨h1, h2⟩ := bt hc
          have h1 := of_decide_eq_true h1
          subst h1
          obtain ⟨hg, hmg⟩ := blt_of h h2
          have hst := star_cons (es := []) (env := X.env) h3
          exact sxe_int h.calm h.room8 hg hmg (sxs_cons (ih _ _ h4) sxs_nil hst) hst rfl
        · cases hc
      · split at hc
        · obtain ⟨hc, h6⟩ := bt hc
          obtain ⟨hc, h5⟩ := bt hc
          obtain ⟨hc, h4⟩ := bt hc
          obtain ⟨hc, h3⟩ := bt hc
          obtain ⟨h1, h2⟩ := bt hc
          have h1 := of_decide_eq_true h1
          subst h1
          have hst := star_cons (es := []) (env := X.env) h4
          refine sxe_app (S.e K X h _ _ h5) (sxs_cons (ih _ _ h6) sxs_nil hst) (base_of h3) ?_ h2 hst rfl
          rw [star_all (by intro x hx; rw [List.mem_singleton.mp hx]; exact h4)]
          rfl
        · cases hc
    · cases es with
      | nil =>
        cases xs with
        | nil => exact sxs_nil
        | cons c cs => simp [chkCXs] at hc
      | cons e es =>
        cases xs with
        | nil => simp [chkCXs] at hc
        | cons c cs =>
          rw [chkCXs] at hc
          obtain ⟨hc, h3⟩ := bt hc
          obtain ⟨h1, h2⟩ := bt hc
          exact sxs_cons (ih _ _ h2) (ihs _ _ h3) (star_cons h1)
end
end Fw

/-! What is checked is sound: statements, defs, the whole table. -/
namespace Fw
open PySem PySem.Spec PyProof.Rows L2
section
variable {K : Cc} {fa : Ad} {cl : Nat → List A → Store → Rz A} {k n wf : Nat} {X : Cx} {E : XK}
theorem blk_fn (h : CxOk K fa cl k X) : X.env.blockKind = .function := by
  unfold Env.blockKind
  rw [h.sce, h.kind]
  rfl
theorem swap_lc (h : CxOk K fa cl k X) {tg elt : Expr} {gs : List Comprehension} {scope : Scope} {pos : Pos} {l : Nat} (hs : swB K tg (.ListComp elt gs scope pos) = false) : swapsWith (.ListComp elt gs scope pos) (some tg) l X.env = pure false := by
  cases tg with
  | Name t p =>
    have kk : X.env.kindOf t = kd K t := kd_eq h t
    unfold swapsWith
    dsimp only
    rw [blk_fn h, kk]
    unfold swB at hs
    dsimp only at hs
    cases hk : kd K t with
    | none => rfl
    | some q =>
      rw [hk] at hs
      cases q with
      | «local» =>
        simp only [Bool.true_and] at hs
        have : (ScopeKind.function == ScopeKind.function && some NameKind.local == some NameKind.local && p.line == (Expr.ListComp elt gs scope pos).pos.line && !(scope.names.any fun (n, k) => n == t && (k == NameKind.local || k == NameKind.cell))) = false := by
          show (true && true && p.line == pos.line && !(scope.names.any fun (n, k) => n == t && (k == NameKind.local || k == NameKind.cell))) = false
          simp only [Bool.true_and]
          exact hs
        rw [this]
      | _ => rfl
  | _ => rfl
def locF (env : PySem.Env) (l : Nat) : Expr → Option Str := fun
  | .Name id pos => if env.kindOf id == some .local && pos.line == l then some id else none
  | _ => none
theorem loc_some (h : CxOk K fa cl k X) {l : Nat} {t : Expr} {x : Str} (hx : locF X.env l t = some x) : locNm K l t = true := by
  cases t with
  | Name id pos =>
    unfold locF at hx
    dsimp only at hx
    split at hx
    · rename_i hc
      obtain ⟨h1, h2⟩ := bt hc
      have e : kd K id = some .local := by
        rw [← kd_eq h id]
        exact eq_of_beq h1
      unfold locNm
      dsimp only
      rw [e, h2]
      rfl
    · cases hx
  | _ => simp [locF] at hx
theorem loc_all (h : CxOk K fa cl k X) (l : Nat) : ∀ (ts : List Expr), ((ts.filterMap (locF X.env l)).length = ts.length) → ∀ t ∈ ts, locNm K l t = true
  | [], _, t, ht => by cases ht
  | a :: as, hl, t, ht => by
    rw [List.filterMap_cons] at hl
    split at hl
    · have := List.length_filterMap_le (locF X.env l) as
      rw [List.length_cons] at hl
      omega
    · rename_i x hx
      rw [List.length_cons, List.length_cons] at hl
      rcases List.mem_cons.mp ht with rfl | ht
      · exact loc_some h hx
      · exact loc_all h l as (by omega) t ht
theorem noswap_ok (h : CxOk K fa cl k X) {tg e : Expr} (hs : noSwap K tg e = true) : swappedStores [tg] e X.env = pure none := by
  cases tg with
  | Tuple ts kt pt =>
    cases e with
    | Tuple vs kv pv =>
      unfold noSwap at hs
      dsimp only at hs
      rw [List.any_eq_true] at hs
      obtain ⟨t, ht, hn⟩ := hs
      unfold swappedStores
      dsimp only
      split
      · rfl
      · split
        · rfl
        · split
          · rfl
          · exfalso
            rename_i h3
            apply h3
            rw [Bool.or_eq_true]
            left
            rw [bne_iff_ne]
            intro hl
            have key := loc_all h
            have := key _ _ hl t ht
            rw [this] at hn
            cases hn
    | _ => rfl
  | List _ _ => simp [noSwap] at hs
  | _ => cases e <;> rfl
theorem loc_name (h : CxOk K fa cl k X) {l : Nat} {x : Str} {p : Pos} (hx : locNm K l (.Name x p) = true) : X.env.scope.names.lookup x = some .local ∧ (X.env.kindOf x == some .local) = true ∧ (p.line == l) = true := by
  unfold locNm at hx
  dsimp only at hx
  obtain ⟨h1, h2⟩ := bt hx
  have e : kd K x = some .local := by
    split at h1
    · rename_i e; exact e
    · cases h1
  have e2 : X.env.scope.names.lookup x = some .local := (kd_eq h x).trans e
  refine ⟨e2, ?_, h2⟩
  show (X.env.scope.names.lookup x == some .local) = true
  rw [e2]
  rfl
theorem swap_par (h : CxOk K fa cl k X) {x y : Str} {px py pt pt2 : Pos} {kt k2 : Nat} {a b : Expr} (hx : locNm K px.line (.Name x px) = true) (hy : locNm K px.line (.Name y py) = true) (hxy : x ≠ y)
    (hf : ([a, b].all (foldedForSure 8)) = false) (hc : ([a, b].all (constantsAlone 8)) = false) (sa : (!starB a) = true) (sb : (!starB b) = true) :
    swappedStores [.Tuple [.Name x px, .Name y py] kt pt] (.Tuple [a, b] k2 pt2) X.env = pure (some [x, y]) := by
  obtain ⟨_, x1, x2⟩ := loc_name h hx
  obtain ⟨_, y1, y2⟩ := loc_name h hy
  have nms : ([Expr.Name x px, .Name y py].filterMap (locF X.env px.line)) = [x, y] := by
    have e1 : locF X.env px.line (.Name x px) = some x := by
      unfold locF
      dsimp only
      rw [x1, x2]
      rfl
    have e2 : locF X.env px.line (.Name y py) = some y := by
      unfold locF
      dsimp only
      rw [y1, y2]
      rfl
    rw [List.filterMap_cons, e1]
    dsimp only
    rw [List.filterMap_cons, e2]
    rfl
  have dup : ([x, y].eraseDups.length != [x, y].length) = false := by
    have hb : (y == x) = false := by
      rw [beq_eq_false_iff_ne]
      exact fun z => hxy z.symm
    have hb2 : (x == y) = false := by
      rw [beq_eq_false_iff_ne]
      exact hxy
    simp [List.eraseDups_cons, hb, hb2]
  unfold swappedStores
  dsimp only
  split
  · rename_i hb
    exfalso
    rw [blk_fn h] at hb
    simp at hb
  · split
    · rename_i hb
      exfalso
      rw [List.any_eq_true] at hb
      obtain ⟨e, he, hs⟩ := hb
      have hse : (!starB e) = true := by
        rcases List.mem_cons.mp he with rfl | he
        · exact sa
        · rw [List.mem_singleton.mp he]
          exact sb
      cases e <;> first | (simp [starB] at hse; done) | (cases hs)
    · split
      · rename_i hb
        exfalso
        have hb' : (([Expr.Name x px, .Name y py].filterMap (locF X.env px.line)).length != 2 || ([Expr.Name x px, .Name y py].filterMap (locF X.env px.line)).eraseDups.length != ([Expr.Name x px, .Name y py].filterMap (locF X.env px.line)).length) = true := hb
        rw [nms] at hb'
        rw [dup] at hb'
        cases hb'
      · split
        · rename_i hb
          rw [hf] at hb
          cases hb
        · split
          · rename_i hb
            rw [hc] at hb
            cases hb
          · exact congrArg (fun l => (pure (some l) : Sem (Option (List Str)))) nms
theorem comp_inv {elt : Expr} {gs : List Comprehension} {scope : Scope} {pos : Pos} {c : C} (hc : chkE n K (.ListComp elt gs scope pos) c = true) : ∃ m kk its t own cond ce tg iter ifs ow, n = m + 1 ∧ gs = [⟨tg, iter, ifs, 0⟩] ∧ c = .comp kk its t own cond ce ∧ ownS K own = some ow ∧
    blkC K.N K.sc scope ow = true ∧ chkI m K tg iter kk its = true ∧ chkG ⟨K.T, K.N, relS scope K.sc, some scope, K.lam⟩ tg t = true ∧ (t.slots.all fun i => decide (i ∈ own)) = true ∧ (!setB iter) = true ∧
    chkC m ⟨K.T, K.N, relS scope K.sc, some scope, K.lam⟩ ifs cond = true ∧ chkE m ⟨K.T, K.N, relS scope K.sc, some scope, K.lam⟩ elt ce = true := by
  cases n with
  | zero => simp [chkE] at hc
  | succ m =>
    cases c with
    | comp kk its t own cond ce =>
      rw [chkE.eq_def] at hc
      dsimp only at hc
      split at hc
      · rename_i elt' tg iter ifs scope' pos' heq
        cases heq
        split at hc
        · rename_i ow how
          obtain ⟨hc, h7⟩ := bt hc
          obtain ⟨hc, h6⟩ := bt hc
          obtain ⟨hc, h5⟩ := bt hc
          obtain ⟨hc, h4⟩ := bt hc
          obtain ⟨hc, h3⟩ := bt hc
          obtain ⟨h1, h2⟩ := bt hc
          exact ⟨m, kk, its, t, own, cond, ce, tg, iter, ifs, ow, rfl, rfl, rfl, how, h1, h2, h3, h4, h5, h6, h7⟩
        · cases hc
      · cases hc
    | mth m o cs => cases m <;> simp [chkE] at hc
    | app h cs =>
      rw [chkE.eq_def] at hc
      cases m with
      | zero => simp [chkX] at hc
      | succ m => cases h <;> simp [chkX] at hc
    | meth ci fi nm o cs ds =>
      rw [chkE.eq_def] at hc
      cases m with
      | zero => simp [chkX] at hc
      | succ m => simp [chkX] at hc
    | methK ci fi nm o cs ds =>
      rw [chkE.eq_def] at hc
      cases m with
      | zero => simp [chkX] at hc
      | succ m => simp [chkX] at hc
    | _ => simp [chkE] at hc
/-- what becomes of an exception -/
structure StK (E : XK) (X : Cx) : Prop where
  tk : Takes X (fun cls d _ H => E cls d H)
  po : PassesOwn (model X.prog X.w) X.A X.env X.xe
theorem StK.pass {E : XK} (s : StK E X) : Passes (L2.CX X.prog X.w) X E := passes_call s.tk fun _ _ _ _ q => q
theorem assign_one {tg : Expr} {env : PySem.Env} (h : (!starB tg) = true) : (assignEach [tg] env).map (·.2) = [assign tg env] := by
  cases tg <;> first | rfl | (simp [starB] at h)
theorem swap_sole {t e : Expr} {l : Nat} {env : PySem.Env} (h : (!compB e) = true) : swapsWithSole [t] e l env = pure false := by
  show swapsWith e (some t) l env = pure false
  exact swap_no h
theorem sub_noswap (o i v : Expr) (env : PySem.Env) {p : Pos} : swappedStores [.Subscript o i p] v env = pure none := by cases v <;> rfl
theorem sub_assign {o i : Expr} {p : Pos} {env : PySem.Env} (h : (!slcB' i) = true) : ∀ v, assign (.Subscript o i p) env v = (do
    let ov ← holding [v] (eval o env)
    let iv ← holding [v, ov] (eval i env)
    standAt p
    holding [v, ov, iv] (setItem ov iv v)
    release [v, ov, iv] []) := fun v => by
  cases i <;> first | rfl | (simp [slcB'] at h)
theorem sndS (hcx : CxOk K fa cl k X) (stk : StK E X) (IH : ∀ ss cs, chkSs n K ss cs = true → SSs fa cl wf E X ss cs) (s : Stmt) (c : Sc) (hc : chkS (n + 1) K s c = true) : SS fa cl wf E X s c := by
  have S : Snd fa cl k n := snd_all n
  rw [chkS.eq_def] at hc
  dsimp only at hc
  split at hc
  · -- asg
    rename_i t ce
    split at hc
    · rename_i tg e pos
      obtain ⟨hc, h3⟩ := bt hc
      obtain ⟨h1, h2⟩ := bt hc
      split at h3
      · rename_i hsw
        split at h3
        · rename_i i
          -- tg is a name, e a list comprehension
          cases tg with
          | Name y py =>
            cases e with
            | ListComp elt gs scope lpos =>
              obtain ⟨m, kk, its, t, own, cond, ce', tg', iter, ifs, ow, rfl, rfl, rfl, how, b1, b2, b3, b4, b5, b6, b7⟩ := comp_inv h1
              have em := ownS_map how
              have ok : BlkOk X.N X.env.scope scope ow := by
                rw [hcx.hN, hcx.sce]
                exact blkOk_by b1
              rw [← em]
              rw [List.all_eq_true] at b4
              have Sm : Snd fa cl k m := snd_all m
              unfold swB at hsw
              dsimp only at hsw
              obtain ⟨hsw, s3⟩ := bt hsw
              obtain ⟨s1, s2⟩ := bt hsw
              have hl : X.env.scope.names.lookup y = some .local := by
                rw [kd_eq hcx]
                split at s1
                · rename_i e; exact e
                · cases s1
              rw [chkG] at h2
              obtain ⟨g1, g2⟩ := bt h2
              refine ss_asgLc (ss_setLc hcx.calm hcx.nd (slot_of hcx g1) hl (sw_true (by rw [hcx.sce]; exact hcx.kind) hl s2 ?_) (Sm.i K X hcx _ _ _ _ b2) ok (fun s H C cls fp => sg_of (hcx.blk s H scope cls C fp ok.kind) _ _ b3)
                (fun s H C cls fp => Sm.c _ _ (hcx.blk s H scope cls C fp ok.kind) _ _ b6) (fun s H C cls fp => Sm.e _ _ (hcx.blk s H scope cls C fp ok.kind) _ _ b7) (fun i hi => ?_) (folded_of b5))
              · cases hq : (scope.names.any fun (n, k) => n == y && (k == NameKind.local || k == NameKind.cell)) with
                | false => rfl
                | true => rw [hq] at s3; cases s3
              · rw [em]
                exact of_decide_eq_true (b4 i hi)
            | _ => simp [swB] at hsw
          | _ => simp [swB] at hsw
        · cases h3
      · rename_i hsw
        have hsw : swB K tg e = false := by
          cases q : swB K tg e with
          | false => rfl
          | true => exact absurd q hsw
        obtain ⟨h3, h5⟩ := bt h3
        obtain ⟨h3, h4⟩ := bt h3
        refine ss_asg (S.e K X hcx _ _ h1) (sg_of hcx _ _ h2) ?_ (noswap_ok hcx h3) (assign_one h4)
        show swapsWith e (some tg) pos.line X.env = pure false
        cases e with
        | ListComp elt gs scope lpos => exact swap_lc hcx hsw
        | SetComp _ _ _ _ => cases h5
        | DictComp _ _ _ _ _ => cases h5
        | _ => rfl
    · cases hc
  · -- par
    rename_i i j ca cb
    split at hc
    · rename_i x px y py kt pt a b k2 pt2 pos
      obtain ⟨hc, h9⟩ := bt hc
      obtain ⟨hc, h8⟩ := bt hc
      obtain ⟨hc, h7⟩ := bt hc
      obtain ⟨hc, h6⟩ := bt hc
      obtain ⟨hc, h5⟩ := bt hc
      obtain ⟨hc, h4⟩ := bt hc
      obtain ⟨hc, h3⟩ := bt hc
      obtain ⟨h1, h2⟩ := bt hc
      have nq : ∀ {p : Prop} [Decidable p], (!decide p) = true → ¬ p := fun {p} _ z q => by
        rw [decide_eq_true q] at z
        cases z
      have nb : ∀ {p : Bool}, (!p) = true → p = false := fun {p} z => by cases p <;> first | rfl | cases z
      obtain ⟨a1, a2, a3⟩ := S.es K X hcx _ _ h9
      have sa := a3 a (List.mem_cons_self ..)
      have sb := a3 b (List.mem_cons_of_mem _ (List.mem_singleton.mpr rfl))
      exact ss_par (fun ta ha => ps_par hcx.calm hcx.nd (slot_of hcx h1) (slot_of hcx h2) (nq h3) (loc_name hcx h5).1 (loc_name hcx h6).1 ha (swap_par hcx h5 h6 (nq h4) (nb h7) (nb h8) sa sb) rfl) a1
    · cases hc
  · -- parT
    split at hc
    · obtain ⟨hc, h6⟩ := bt hc
      obtain ⟨hc, h5⟩ := bt hc
      obtain ⟨hc, h4⟩ := bt hc
      obtain ⟨hc, h3⟩ := bt hc
      obtain ⟨h1, h2⟩ := bt hc
      obtain ⟨l1, f1⟩ := own_of hcx h3
      obtain ⟨l2, f2⟩ := own_of hcx h4
      exact ss_parT hcx.calm hcx.nd (slot_of hcx h1) (slot_of hcx h2) l1 l2 f1 f2 (S.es K X hcx _ _ h6).1 (noswap_ok hcx h5)
    · cases hc
  · -- setI
    split at hc
    · obtain ⟨hc, h5⟩ := bt hc
      obtain ⟨hc, h4⟩ := bt hc
      obtain ⟨hc, h3⟩ := bt hc
      obtain ⟨h1, h2⟩ := bt hc
      refine ss_setI (tp := ⟨0, 0, 0, 0⟩) (S.e K X hcx _ _ h2) (S.e K X hcx _ _ h3) (S.e K X hcx _ _ h4) fun te to ti hv ho hi => ps_asg hv (pg_sub ho hi set_list (sub_assign h5)) (swap_sole h1) (sub_noswap _ _ _ _) rfl
    · cases hc
  · -- exp
    split at hc
    · obtain ⟨h1, h2⟩ := bt hc
      exact ss_exp (S.e K X hcx _ _ h2) (swap_no h1)
    · cases hc
  · -- ret
    split at hc
    · exact ss_ret (S.e K X hcx _ _ hc)
    · cases hc
  · -- retN
    split at hc
    · exact ss_retN
    · cases hc
  · -- ite
    split at hc
    · obtain ⟨hc, h3⟩ := bt hc
      obtain ⟨h1, h2⟩ := bt hc
      exact ss_ite (S.t K X hcx _ _ h1).1 (IH _ _ h2) (IH _ _ h3)
    · cases hc
  · -- for
    split at hc
    · obtain ⟨hc, h4⟩ := bt hc
      obtain ⟨hc, h3⟩ := bt hc
      obtain ⟨h1, h2⟩ := bt hc
      exact ss_for stk.po hcx.calm (S.i K X hcx _ _ _ _ h1) (sg_of hcx _ _ h2) (IH _ _ h4) (folded_of h3)
    · cases hc
  · -- while
    split at hc
    · obtain ⟨h1, h2⟩ := bt hc
      exact ss_while stk.po (S.t K X hcx _ _ h1).1 (IH _ _ h2)
    · cases hc
  · cases hc
  · -- asgX
    split at hc
    · obtain ⟨hc, h5⟩ := bt hc
      obtain ⟨hc, h4⟩ := bt hc
      obtain ⟨hc, h3⟩ := bt hc
      obtain ⟨h1, h2⟩ := bt hc
      exact ss_asgX (S.x K X hcx E stk.pass _ _ h1) (sg_of hcx _ _ h2) (swap_sole h5) (noswap_ok hcx h3) (assign_one h4)
    · cases hc
  · -- expX
    split at hc
    · obtain ⟨h1, h2⟩ := bt hc
      exact ss_expX (S.x K X hcx E stk.pass _ _ h2) (swap_no h1)
    · cases hc
  · -- retX
    split at hc
    · exact ss_retX (S.x K X hcx E stk.pass _ _ hc)
    · cases hc
  · -- raise
    rename_i xi cs
    split at hc
    · rename_i x p a pos' pos c
      obtain ⟨hc, h7⟩ := bt hc
      obtain ⟨hc, h6⟩ := bt hc
      obtain ⟨hc, h5⟩ := bt hc
      obtain ⟨hc, h4⟩ := bt hc
      obtain ⟨hc, h3⟩ := bt hc
      obtain ⟨h1, h2⟩ := bt hc
      rw [List.any_eq_true] at h4
      obtain ⟨ei, hei, hq⟩ := h4
      obtain ⟨q1, q2⟩ := bt hq
      have q1 := of_decide_eq_true q1
      subst q1
      unfold xiEq at q2
      obtain ⟨q2, q5'⟩ := bt q2
      obtain ⟨q3', q4'⟩ := bt q2
      obtain ⟨xc, xcode, xattr⟩ := xi
      have q3 : ei.x.c = xc := of_decide_eq_true q3'
      have q4 : ei.x.code = xcode := of_decide_eq_true q4'
      have q5 : ei.x.attr = xattr := of_decide_eq_true q5'
      clear q2 q3' q4' q5'
      subst q3
      subst q4
      subst q5
      have ek := hcx.tb.exc _ hei
      obtain ⟨attr, hat⟩ := Option.isSome_iff_exists.mp h5
      have hat : ei.x.attr = some attr := hat
      obtain ⟨f, fd, ps, f1, f2, f3, f4⟩ := ek.fn attr hat
      have hst := star_cons (es := []) (env := X.env) h3
      refine ss_raise (k := 5) (f := f) hcx.calm stk.tk ek.oex f1 f2 f3 (hcx.room.mono (by omega)) f4 (gl_of hcx h1) ek.mgE hat (fun z => ?_) ek.xc (sa_cons (S.e K X hcx _ _ h7) sa_nil hst) (nm_of h2).1 hst
      have h6 : (!decide (ei.x.attr = some ("code" : Str))) = true := h6
      rw [hat, z, decide_eq_true rfl] at h6
      cases h6
    · cases hc
  · -- setF
    split at hc
    · rename_i o m' pos' v pos
      obtain ⟨hc, h5⟩ := bt hc
      obtain ⟨hc, h4⟩ := bt hc
      obtain ⟨hc, h3⟩ := bt hc
      obtain ⟨h1, h2⟩ := bt hc
      have h1 := of_decide_eq_true h1
      subst h1
      obtain ⟨c, hcc, h3⟩ := cl_of h3
      rw [List.any_eq_true] at h3
      obtain ⟨y, hy, e⟩ := h3
      have e := of_decide_eq_true e
      subst e
      have ck := hcx.tb.cls _ c hcc
      refine ss_setF (S.e K X hcx _ _ h4) (S.e K X hcx _ _ h5) ck.cls (ck.flds _ hy) ?_
      cases v with
      | ListComp elt gs scope lpos => exact swap_lc hcx rfl
      | SetComp _ _ _ _ => cases h2
      | DictComp _ _ _ _ _ => cases h2
      | _ => rfl
    · cases hc
  · -- asgE
    split at hc
    · obtain ⟨hc, h5⟩ := bt hc
      obtain ⟨hc, h4⟩ := bt hc
      obtain ⟨hc, h3⟩ := bt hc
      obtain ⟨h1, h2⟩ := bt hc
      exact ss_asgE ((snd_cx hcx stk.pass n).1 _ _ h1) (sg_of hcx _ _ h2) (swap_sole h5) (noswap_ok hcx h3) (assign_one h4)
    · cases hc
  · -- expE
    split at hc
    · obtain ⟨h1, h2⟩ := bt hc
      exact ss_expE ((snd_cx hcx stk.pass n).1 _ _ h2) (swap_no h1)
    · cases hc
  · -- retE
    split at hc
    · exact ss_retE ((snd_cx hcx stk.pass n).1 _ _ hc)
    · cases hc
  · -- augF
    split at hc
    · rename_i o m' pos' op v pos
      obtain ⟨hc, h5⟩ := bt hc
      obtain ⟨hc, h4⟩ := bt hc
      obtain ⟨hc, h3⟩ := bt hc
      obtain ⟨h1, h2⟩ := bt hc
      have h1 := of_decide_eq_true h1
      have h2 := of_decide_eq_true h2
      subst h1
      subst h2
      obtain ⟨c, hcc, h3⟩ := cl_of h3
      rw [List.any_eq_true] at h3
      obtain ⟨y, hy, e⟩ := h3
      have e := of_decide_eq_true e
      subst e
      have ck := hcx.tb.cls _ c hcc
      exact ss_augF (S.e K X hcx _ _ h4) (S.e K X hcx _ _ h5) ck.cls (ck.flds _ hy)
    · cases hc
  · split at hc
    · exact ss_pass
    · cases hc
  · split at hc
    · exact ss_brk
    · cases hc
  · split at hc
    · exact ss_cnt
    · cases hc
theorem sndSs (hcx : CxOk K fa cl k X) (stk : StK E X) : ∀ (n : Nat) (ss : List Stmt) (cs : List Sc), chkSs n K ss cs = true → SSs fa cl wf E X ss cs ∧ ∀ s c, chkS n K s c = true → SS fa cl wf E X s c := by
  intro n
  have main : ∀ n, (∀ ss cs, chkSs n K ss cs = true → SSs fa cl wf E X ss cs) ∧ ∀ s c, chkS n K s c = true → SS fa cl wf E X s c := by
    intro n
    induction n with
    | zero => exact ⟨fun ss cs h => by simp [chkSs] at h, fun s c h => by simp [chkS] at h⟩
    | succ n ih =>
      refine ⟨fun ss cs h => ?_, fun s c h => sndS hcx stk ih.1 s c h⟩
      cases cs with
      | nil =>
        cases ss with
        | nil => exact sss_nil
        | cons s ss => simp [chkSs] at h
      | cons c cs =>
        cases c with
        | frz i =>
          rw [chkSs.eq_def] at h
          exact sss_frz (ih.1 _ _ h)
        | _ =>
          cases ss with
          | nil => simp [chkSs] at h
          | cons s ss =>
            rw [chkSs.eq_def] at h
            dsimp only at h
            obtain ⟨h1, h2⟩ := bt h
            exact sss_cons (ih.2 _ _ h1) (ih.1 _ _ h2)
  exact fun ss cs h => ⟨(main n).1 ss cs h, (main n).2⟩
theorem body_ok (hcx : CxOk K fa cl k X) (stk : StK E X) {ss : List Stmt} {cs : List Sc} (h : chkSs n K ss cs = true) : SSs fa cl wf E X ss cs := (sndSs hcx stk n ss cs h).1
end
end Fw

/-! The whole table of defs, and the law. -/
namespace Fw
open PySem PySem.Spec PyProof.Rows L2
/-- what is known of a def of the text -/
structure Fact (T : Tb) (ft : List Fn) (fa : Ad) (K : PySem.W.Frag) (mg : Str → Option Value) (lam : Bool) (fi : Nat) (I : FI) (fd : FuncData) (st : Stmt) (N : List Str) (i : Fn) : Prop where
  fun_ : ∃ dvs kws, FunD K I.name I.qual (defArgs st) (defBody st) (defScope st) dvs kws (fa.f fi) fd
  sc : FnScope N I.ps (defScope st)
  hi : ft[fi]? = some i
  np : i.np = I.ps.length
  nn : i.nn = N.length
  chk : chkSs 200 ⟨T, N, defScope st, none, lam⟩ (defBody st) i.code = true
  mg : I.kind = .glob → mg I.name = some (.ref (fa.f fi))
  dfl : I.kind ≠ .star → ∀ n ds, (n, ds) ∈ I.dfl → ∃ dsV dvs, Binds K fd I.ps dsV ∧ Vals dvs dsV ∧ (∀ z, DatL ⟨K, fa⟩ z ds dvs) ∧ n + ds.length = I.ps.length
  kwl : ∀ n ks asm, (n, ks, asm) ∈ I.kwl → KBA ⟨K, fa⟩ fd I.ps n ks asm
  pos : I.kind ≠ .star → Binds K fd I.ps []
  star : I.kind = .star → ∃ p1 pv, I.ps = [p1, pv] ∧ FunD K I.name I.qual (defArgs st) (defBody st) (defScope st) [] [] (fa.f fi) fd ∧ ∀ us rest : List Value, us.length = [p1].length → bindArgs fd ⟨us ++ rest, []⟩ = (newTuple rest >>= fun t => pure ([p1].zip us ++ [(pv, t)]))
/-- what is known of an own exception, from the text -/
structure ExF (fa : Ad) (K : PySem.W.Frag) (mg : Str → Option Value) (e : EI) : Prop where
  mgE : mg e.name = some (.ref (fa.c e.x.c))
  oex : OexG K (fa.c e.x.c)
  xc : XcK K (.ref fa.few) (.ref fa.mis) fldNames (fa.c e.x.c)
  fn : ∀ attr, e.x.attr = some attr → ∃ f fd st me par x qual, PySem.W.findIn K (.ref (fa.c e.x.c)) "__init__" = some (some (.ref f)) ∧ PySem.W.typeIn K (.ref f) = some (.type "function") ∧ FunD K x qual (defArgs st) (defBody st) (defScope st) [] [] f fd ∧ FnScope [me, par] [me, par] (defScope st) ∧
    ExcBody me par e.x.code attr (defBody st) ∧ PySem.W.findIn K (.ref (fa.c e.x.c)) attr = some none ∧ Binds K fd [me, par] [] ∧ ∀ y ∈ [me, par], (y == ("__debug__" : Str)) = false ∧ (y == ("__classdict__" : Str)) = false
/-- lam: the def that holds lambdas, if there is one -/
structure Facts (T : Tb) (ft : List Fn) (fa : Ad) (K : PySem.W.Frag) (mg : Str → Option Value) (li : Nat) : Prop where
  fns : ∀ fi I, T.fns[fi]? = some I → ∃ fd st N i, Fact T ft fa K mg (decide (fi = li)) fi I fd st N i
  blt : ∀ x ∈ T.blts, mg x = none
  cst : ∀ x d, (x, d) ∈ T.csts → ∃ u v, mg x = some u ∧ RelV v u ∧ ∀ z, Dat ⟨K, fa⟩ z d v
  cls : ∀ ci c, T.cls[ci]? = some c → ClK fa K mg ci c
  exc : ∀ e ∈ T.excs, ExF fa K mg e
  why : ∀ x, T.why = some x → WhyK fa K mg x
/-- what the def that holds lambdas wants of the base -/
def LamB (fa : Ad) (K : PySem.W.Frag) (mg : Str → Option Value) (base : Heap) (li : Nat) (qual : Str) : Prop := ∀ (oc : Value) (od : Option Addr) (fd : FuncData) (osl : Array (Option Value)), K.lookup (fa.f li) = some ⟨oc, od, .func fd, osl⟩ →
  ∃ c P, fd.code = .ref c ∧ LamX.TabB base mg c P ∧ fa.T = [(P, (qual ++ ".<locals>." : Str) ++ "<lambda>")]
theorem ExF.exk {fa : Ad} {P : Program} {w : World} {K : PySem.W.Frag} {mg : Str → Option Value} {base : Heap} {e : EI} (h : ExF fa K mg e) : ExK fa P w K mg base e := by
  refine ⟨h.mgE, h.oex, h.xc, fun attr ha => ?_⟩
  obtain ⟨f, fd, st, me, par, x, qual, h1, h2, h3, h4, h5, h6, h7, h8⟩ := h.fn attr ha
  exact ⟨f, fd, [me, par], h1, h2, exc_fn h3 h4 h5 h.oex h.xc.code h6 (h8 me (by simp)).1 (h8 me (by simp)).2 (h8 par (by simp)).1 (h8 par (by simp)).2, h7⟩
theorem fact_body {T : Tb} {ft : List Fn} {wf k li fi : Nat} {fa : Ad} {P : Program} {w : World} {K : PySem.W.Frag} {mg : Str → Option Value} {base : Heap} {I I' : FI} {fd : FuncData} {st : Stmt} {N : List Str} {i : Fn} (f : Fact T ft fa K mg (decide (fi = li)) fi I fd st N i)
    (hL : T.fns[li]? = some I') (hI : T.fns[fi]? = some I) (LB : LamB fa K mg base li I'.qual) (tb : TabK T fa (callI ft wf k) k P w K mg base) (cdv : Value) (A : Around) (outer : List PySem.Env) (s : Shared) (H : Hp) (E : XK)
    (hcd : ∃ oc od osl, K.lookup (fa.f fi) = some ⟨oc, od, .func fd, osl⟩ ∧ fd.code = cdv) (hr : Room (4 * k + 11) (A.deeper (envOfC I.qual (defScope st) s.heap.objs.size (fa.f fi) cdv))) :
    SSs fa (callI ft wf k) wf E (cxOf (L2.CX P w) P w K mg base N I.qual (defScope st) (fa.f fi) cdv A outer s H E) (defBody st) i.code := by
  refine body_ok (K := ⟨T, N, defScope st, none, decide (fi = li)⟩) (k := k) ⟨rfl, f.sc.nd, rfl, f.sc.kind, rfl, hr.mono (by omega), fun _ _ => rfl, tb, fun hl => ⟨?_, hr⟩⟩ ⟨takes_of rfl rfl rfl (E₁ := fun e' s'' => L2.CX P w outer H s E e' s'') rfl, L2.passes_of (E₁ := fun e' s'' => L2.CX P w outer H s E e' s'') rfl⟩ f.chk
  have hl : fi = li := of_decide_eq_true hl
  subst hl
  rw [hI] at hL
  cases hL
  obtain ⟨oc, od, osl, lk, rfl⟩ := hcd
  obtain ⟨c, Pt, h1, h2, h3⟩ := LB _ _ _ _ lk
  refine ⟨c, Pt, h2, h1, ?_, ?_⟩
  · rw [h3]
    exact List.mem_singleton.mpr rfl
  · intro p hp _
    rw [h3] at hp
    rw [List.mem_singleton.mp hp]
    rfl
theorem table {T : Tb} {ft : List Fn} {wf li : Nat} {fa : Ad} {P : Program} {w : World} {K : PySem.W.Frag} {mg : Str → Option Value} {base : Heap} {I' : FI} (F : Facts T ft fa K mg li) (hL : T.fns[li]? = some I') (LB : LamB fa K mg base li I'.qual) : ∀ k, TabK T fa (callI ft wf k) k P w K mg base
  | 0 => by
    refine ⟨fun fi I h hk => ?_, fun fi I h hk => ⟨fun A outer s H us vs Q E _ _ _ q => ?_, fun xs S z S' hm => by rw [callI] at hm; cases hm⟩, F.blt, F.cst, F.cls, fun e he => (F.exc e he).exk, F.why⟩
    · obtain ⟨fd, st, N, i, f⟩ := F.fns fi I h
      obtain ⟨dvs, kws, fu⟩ := f.fun_
      refine ⟨fd, ⟨fun vs H Q E q => ?_, fun A outer s H args us vs Q E _ _ _ _ q => ?_⟩, f.mg, fu.kp, f.dfl hk, f.kwl, f.pos hk, fun xs S z S' hm => by rw [callI] at hm; cases hm⟩
      · obtain ⟨_, _, _, _, _, _, hm⟩ := q
        rw [callI] at hm
        exact False.elim hm
      · obtain ⟨_, _, _, _, _, _, hm⟩ := q
        rw [callI] at hm
        exact False.elim hm
    · obtain ⟨ws, rest, _, _, _, hq⟩ := q
      have e0 := ‹Env0 P w K mg base A outer s H›
      obtain ⟨_, _, _, _, _, _, hm⟩ := hq s.heap.objs.size (e0.hok.fresh (Nat.le_refl _))
      rw [callI] at hm
      exact False.elim hm
  | k + 1 => by
    have tb := table (P := P) (w := w) (wf := wf) F hL LB k
    have ar : ∀ fi I, T.fns[fi]? = some I → ∀ xs S z S', callI ft wf (k + 1) fi xs S = .ok z S' → xs.length = I.ps.length := fun fi I h xs S z S' hm => by
      obtain ⟨fd, st, N, i, f⟩ := F.fns fi I h
      rw [callI, f.hi] at hm
      dsimp only at hm
      split at hm
      · rename_i hl
        rw [hl, f.np]
      · cases hm
    refine ⟨fun fi I h hk => ?_, fun fi I h hk => ?_, F.blt, F.cst, F.cls, fun e he => (F.exc e he).exk, F.why⟩
    · obtain ⟨fd, st, N, i, f⟩ := F.fns fi I h
      obtain ⟨dvs, kws, fu⟩ := f.fun_
      exact ⟨fd, fn_ok fu f.sc f.hi f.np f.nn fun cdv A outer s H E _ hcd hr => fact_body f hL h LB tb cdv A outer s H E hcd hr, f.mg, fu.kp, f.dfl hk, f.kwl, f.pos hk, ar fi I h⟩
    · obtain ⟨fd, st, N, i, f⟩ := F.fns fi I h
      obtain ⟨p1, pv, hps, fu, hb⟩ := f.star hk
      have sc := f.sc
      rw [hps] at sc
      have np := f.np
      rw [hps] at np
      refine ⟨fn_okS fu sc f.hi np f.nn hb fun cdv A outer s H E _ hcd hr => fact_body f hL h LB tb cdv A outer s H E hcd hr, fun xs S z S' hm => ?_⟩
      rw [ar fi I h xs S z S' hm, hps]
      rfl
/-- the law's promise -/
def spLaw (K : PySem.W.Frag) (fa : Ad) : Sp := fun vs H Q _ => ∃ (a : Addr) (ns : List Int), vs = [.ref a] ∧ ns.length ≤ 63 ∧ fa.iv H ∧ SqL K H a (ns.map V.int) ∧ ∀ H', Q (.bl true) H'
theorem law_fn {T : Tb} {ft : List Fn} {wf : Nat} {fa : Ad} {P : Program} {w : World} {K : PySem.W.Frag} {mg : Str → Option Value} {base : Heap} {k li : Nat} {I : FI} {fd : FuncData} {st : Stmt} {N : List Str} {i : Fn} (F : Facts T ft fa K mg li) (f : Fact T ft fa K mg (decide (li = li)) li I fd st N i) (hI : T.fns[li]? = some I) (LB : LamB fa K mg base li I.qual) (hp : I.ps.length = 1)
    (hlaw : ∀ ns : List Int, ns.length ≤ 63 → ∃ S', callI ft wf (k + 1) li [.p (.scr ns)] [] = .ok (.p (.bl true)) S') : FnOk P w K mg base (L2.CX P w) (4 * k + 11 + 1) (fa.f li) fd I.ps (spLaw K fa) := by
  obtain ⟨dvs, kws, fu⟩ := f.fun_
  have G := fn_ok (P := P) (w := w) (mg := mg) (base := base) (wf := wf) (k := k) fu f.sc f.hi f.np f.nn fun cdv A outer s H E _ hcd hr => fact_body f hI hI LB (table F hI LB k) cdv A outer s H E hcd hr
  refine G.imp fun vs H Q E h => ?_
  obtain ⟨a, ns, rfl, hl, hiv, hs, q⟩ := h
  obtain ⟨S', hc⟩ := hlaw ns hl
  refine ⟨⟨[], []⟩, [], [.p (.scr ns)], ⟨rfl, List.nodup_nil, fun i a xs h _ => by simp at h, fun a h => by simp at h, hiv⟩, ⟨.ref a, [], rfl, ⟨a, rfl, ?_⟩, rfl⟩, by rw [hp]; rfl, ?_⟩
  · rcases hs with (h | ⟨o, h⟩) | h
    · exact .inr (.inr ⟨h, fun z => by
        rcases z with ⟨j, _, z, _⟩ | z
        · simp at z
        · cases z⟩)
    · exact .inl ⟨o, h⟩
    · exact .inr (.inl h)
  rw [hc]
  intro v B' H' _ _ d
  rw [show v = V.bl true from d]
  exact q H'
/-- what is known of the def that holds the lambdas, from the text: its code object at c, the table at P -/
structure LamF (fa : Ad) (K : PySem.W.Frag) (li : Nat) (qual : Str) (c P : Addr) : Prop where
  code : ∃ oc od fd osl e dd vs sl, K.lookup (fa.f li) = some ⟨oc, od, .func fd, osl⟩ ∧ fd.code = .ref c ∧ K.lookup c = some ⟨e, dd, .fields vs, sl⟩ ∧ vs[11]? = some (.ref P)
  hd : PySem.W.codeHdIn K c P = true
  no : K.lookup P = none
  tab : fa.T = [(P, (qual ++ ".<locals>." : Str) ++ "<lambda>")]
/-- the goal that the head leaves -/
theorem walk {l : PySem.W.OpenLaw} {q : Program} {loose : List Str} {XP : (Str → Option Value) → Heap → Prop} {YP : World → Heap → Prop} {d : DefRec} {K : Params → PySem.W.Frag} {x : Str} {T : Tb} {ft : List Fn} {wf k li : Nat} {I : FI} (hn : l.most = some 63) (hdf : d.params.defaults = []) (hr : Room (4 * k + 11 + 1) callerA) (hrec : ((recsOf q).any fun e => e.name == d.name) = true)
    (hY : ∀ (w : World) (h : Heap), YP w h → (K w.params).In h) (hI : T.fns[li]? = some I) (hp : I.ps = [x]) (hdn : d.name = I.name) (hgl : I.kind = .glob)
    (hlaw : ∀ ns : List Int, ns.length ≤ 63 → ∃ S', callI ft wf (k + 1) li [.p (.scr ns)] [] = .ok (.p (.bl true)) S')
    (F : ∀ (w : World) (mg : Str → Option Value) (h : Heap), (K w.params).In h → h.Ns mainGlobals mg → ∃ fa c P, Facts T ft fa (K w.params) mg li ∧ LamF fa (K w.params) li I.qual c P ∧ ∀ fd st N i, Fact T ft fa (K w.params) mg (decide (li = li)) li I fd st N i → ∀ (s : Shared) (u : Value), BindsTo s fd ⟨[u], []⟩ [(x, u)]) :
    PySem.W.WalkO q loose XP YP l.row.toRowW d [] (fun f vs => PySem.call f vs) := by
  refine LamX.walk_ofOwn (n := 63) (k := 4 * k + 11 + 1) (x := x) (CX := fun w => L2.CX l.prog w) hn (by decide) hdf hr hrec hY (fun w mg fa' h Y KX G hmg own => ?_) fun w H s e s' z => L2.CX.no z
  obtain ⟨fa, c, P, Fa, L, bd⟩ := F w mg h KX G
  obtain ⟨fd, st, N, i, f⟩ := Fa.fns li I hI
  have e : fa' = fa.f li := by
    have := f.mg hgl
    rw [← hdn, hmg] at this
    cases this
    rfl
  subst e
  obtain ⟨oc, od, fd', osl, e, dd, vs, sl, l1, l2, l3, l4⟩ := L.code
  have hT := own c P _ fd' e dd vs sl l1 rfl l2 l3 l4
  have hCd := PySem.W.codeHd_of_K KX L.hd
  have one : ∀ {p : Addr × Addr}, p ∈ [(c, P)] → p = (c, P) := fun hp => List.mem_singleton.mp hp
  refine ⟨fd, [(c, P)], spLaw (K w.params) fa, fun p hp => ?_, fun p hp => ?_, fun p hp => ?_, bd fd st N i f, fun H a ns hl _ hH hS => ?_, fun base KB GB TB => ?_⟩
  · rw [one hp]
    exact hT
  · rw [one hp]
    exact L.no
  · rw [one hp]
    exact hCd
  · refine ⟨a, ns, rfl, hl, fun p hp => ?_, hS, fun _ => rfl⟩
    rw [L.tab] at hp
    rw [List.mem_singleton.mp hp]
    exact LamX.TabS.nil (hH (c, P) (List.mem_singleton.mpr rfl))
  · have LB : LamB fa (K w.params) mg base li I.qual := fun oc2 od2 fd2 osl2 lk => by
      rw [l1] at lk
      cases lk
      exact ⟨c, P, l2, TB (c, P) (List.mem_singleton.mpr rfl), L.tab⟩
    rw [← hp]
    exact law_fn (k := k) Fa f hI LB (by rw [hp]; rfl) hlaw
end Fw

/-! What the head's facts say of the table. -/
namespace Fw
open PySem PySem.Spec PyProof.Rows L2
section
variable {K : PySem.W.Frag} {x qual : Str} {st : Stmt} {f : Addr} {oc kV doc pm cdv ct : Value} {od an : Option Addr} {osl : Array (Option Value)}
theorem fd_mk (l : K.lookup f = some ⟨oc, od, .func (PySem.W.fnOf x qual (defArgs st) (defBody st) (defScope st) .none kV doc pm an cdv ct), osl⟩) (c : PySem.W.codeIn K cdv qual = true) (k : PySem.W.keepIn K (.ref f) = true) :
    FunD K x qual (defArgs st) (defBody st) (defScope st) [] [] f (PySem.W.fnOf x qual (defArgs st) (defBody st) (defScope st) .none kV doc pm an cdv ct) :=
  ⟨⟨oc, od, .none, kV, doc, pm, an, cdv, ct, osl, rfl, l, c, .inl ⟨rfl, rfl⟩, .inl rfl⟩, k⟩
theorem fd_mkD {D : Addr} {oD : Value} {dD : Option Addr} {its : List Value} {n : Nat} {sD : Array (Option Value)} {dvs : List V} (l : K.lookup f = some ⟨oc, od, .func (PySem.W.fnOf x qual (defArgs st) (defBody st) (defScope st) (.ref D) kV doc pm an cdv ct), osl⟩) (c : PySem.W.codeIn K cdv qual = true) (k : PySem.W.keepIn K (.ref f) = true)
    (lD : K.lookup D = some ⟨oD, dD, .seq its.toArray n, sD⟩) (hd : dvs ≠ []) (r : Vals dvs its) :
    FunD K x qual (defArgs st) (defBody st) (defScope st) dvs [] f (PySem.W.fnOf x qual (defArgs st) (defBody st) (defScope st) (.ref D) kV doc pm an cdv ct) :=
  ⟨⟨oc, od, .ref D, kV, doc, pm, an, cdv, ct, osl, rfl, l, c, .inr ⟨hd, D, _, its, n, rfl, lD, rfl, r⟩, .inl rfl⟩, k⟩
end
/-- the values at these places -/
def pick {α : Type} : List Nat → List α → Option (List α)
  | [], _ => some []
  | i :: is, xs => match xs[i]?, pick is xs with
    | some x, some ys => some (x :: ys)
    | _, _ => none
theorem pick_rel {g : G} {z : Z} {xs : List A} {vs : List V} {us : List Value} (d : DatAL g z xs vs) (r : Vals vs us) : ∀ (is : List Nat) (qs : List A) (os : List Value), asmF (is.map .inl) xs = some qs → pick is us = some os → ∃ rs, Vals rs os ∧ DatAL g z qs rs ∧ rs.length = is.length
  | [], qs, os, h, h' => by
    cases h
    cases h'
    exact ⟨[], .nil, rfl, rfl⟩
  | i :: is, qs, os, h, h' => by
    rw [List.map_cons, asmF] at h
    rw [pick] at h'
    split at h
    · rename_i x ys hx hy
      cases h
      obtain ⟨v, hv, dv⟩ := d.get hx
      obtain ⟨u, hu, rv⟩ := r.get hv
      rw [hu] at h'
      cases hp : pick is us with
      | none => rw [hp] at h'; cases h'
      | some os' =>
        rw [hp] at h'
        cases h'
        obtain ⟨rs, r1, r2, r3⟩ := pick_rel d r is ys os' hy hp
        exact ⟨v :: rs, .cons rv r1, ⟨v, rs, rfl, dv, r2⟩, by rw [List.length_cons, List.length_cons, r3]⟩
    · cases h
theorem kba_in {g : G} {fd : FuncData} {ps : List Str} {n : Nat} {ks : List Str} (is : List Nat) (hl : is.length = ps.length) (hb : ∀ (s : Shared) (us ws : List Value), g.K.In s.heap → us.length = n → ws.length = ks.length → ∃ os, pick is (us ++ ws) = some os ∧ BindsTo s fd ⟨us, ks.zip ws⟩ (ps.zip os)) :
    KBA g fd ps n ks (is.map .inl) := by
  intro s us ws vs zs xs ys qs z X d1 d2 r1 r2 ha l1 l2
  obtain ⟨os, h1, h2⟩ := hb s us ws X l1 l2
  obtain ⟨rs, q1, q2, q3⟩ := pick_rel (d1.app d2) (r1.append r2) is qs os ha h1
  exact ⟨os, rs, h2, q1, q2, by rw [q3, hl]⟩
section
variable {K : PySem.W.Frag} {x qual : Str} {params : Arguments} {body : List Stmt} {scope : Scope} {dvs : List V} {kws : List (Str × V)} {f : Addr} {fd : FuncData} {ps ks : List Str} {n : Nat}
/-- keywords, the defaults' tuple is looked at -/
theorem kb_dfl (F : FunD K x qual params body scope dvs kws f fd) (hd : dvs ≠ []) (is : List Nat)
    (h : ∀ (T : Addr) (kV doc pm : Value) (an : Option Addr) (cdv ct : Value) (us ws its : List Value), us.length = n → ws.length = ks.length → its.length = dvs.length →
      ∃ os, pick is (us ++ ws) = some os ∧ ∃ k, bindArgs (PySem.W.fnOf x qual params body scope (.ref T) kV doc pm an cdv ct) ⟨us, ks.zip ws⟩ = seqItems? (.ref T) >>= k ∧ k (some its.toArray) = pure (ps.zip os)) :
    ∀ (s : Shared) (us ws : List Value), K.In s.heap → us.length = n → ws.length = ks.length → ∃ os, pick is (us ++ ws) = some os ∧ BindsTo s fd ⟨us, ks.zip ws⟩ (ps.zip os) := by
  obtain ⟨oc, od, dV, kV, doc, pm, an, cdv, ct, osl, rfl, lk, hcd, hD, hK⟩ := F.ex
  rcases hD with ⟨e, _⟩ | ⟨_, T, o, its, m, rfl, lT, oT, rT⟩
  · exact absurd e hd
  · intro s us ws X l1 l2
    obtain ⟨os, e0, k, e1, e2⟩ := h T kV doc pm an cdv ct us ws its l1 l2 rT.length.symm
    refine ⟨os, e0, BindsTo.of_looks fun M => ?_⟩
    rw [e1]
    exact looks_items X lT oT (.of_pure e2)
/-- keywords, no defaults -/
theorem kb_none (F : FunD K x qual params body scope [] kws f fd) (is : List Nat)
    (h : ∀ (kV doc pm : Value) (an : Option Addr) (cdv ct : Value) (us ws : List Value), us.length = n → ws.length = ks.length →
      ∃ os, pick is (us ++ ws) = some os ∧ bindArgs (PySem.W.fnOf x qual params body scope .none kV doc pm an cdv ct) ⟨us, ks.zip ws⟩ = pure (ps.zip os)) :
    ∀ (s : Shared) (us ws : List Value), K.In s.heap → us.length = n → ws.length = ks.length → ∃ os, pick is (us ++ ws) = some os ∧ BindsTo s fd ⟨us, ks.zip ws⟩ (ps.zip os) := by
  obtain ⟨oc, od, dV, kV, doc, pm, an, cdv, ct, osl, rfl, lk, hcd, hD, hK⟩ := F.ex
  rcases hD with ⟨_, rfl⟩ | ⟨e, _⟩
  · intro s us ws X l1 l2
    obtain ⟨os, e0, e1⟩ := h kV doc pm an cdv ct us ws l1 l2
    exact ⟨os, e0, .of_eq e1⟩
  · exact absurd rfl e
end
/-- every parameter by its place -/
theorem dfl0 {K : PySem.W.Frag} {fa : Ad} {fd : FuncData} {ps : List Str} (hb : Binds K fd ps []) : ∃ dsV dvs, Binds K fd ps dsV ∧ Vals dvs dsV ∧ (∀ z, DatL ⟨K, fa⟩ z [] dvs) ∧ ps.length + ([] : List D).length = ps.length := ⟨[], [], hb, .nil, fun _ => rfl, rfl⟩
/-- the law's own def is bound so in every heap -/
theorem bd_of {T : Tb} {ft : List Fn} {K : PySem.W.Frag} {mg : Str → Option Value} {h : Heap} {I : FI} {li : Nat} {f : Addr} {st : Stmt} {oc kV doc pm cdv ct : Value} {od an : Option Addr} {osl : Array (Option Value)} {x : Str} (X : K.In h) (G : h.Ns mainGlobals mg) (a : PySem.W.nsIn K mainGlobals I.name = some (some (.ref f)))
    (l : K.lookup f = some ⟨oc, od, .func (PySem.W.fnOf I.name I.qual (defArgs st) (defBody st) (defScope st) .none kV doc pm an cdv ct), osl⟩)
    (hb : ∀ v : Value, bindArgs (PySem.W.fnOf I.name I.qual (defArgs st) (defBody st) (defScope st) .none kV doc pm an cdv ct) ⟨[v], []⟩ = pure [(x, v)]) (fa : Ad) (fd : FuncData) (hk : I.kind = .glob) (F : ∃ st N i, Fact T ft fa K mg (decide (li = li)) li I fd st N i) (s : Shared) (u : Value) : BindsTo s fd ⟨[u], []⟩ [(x, u)] := by
  obtain ⟨st', N, i, F⟩ := F
  obtain ⟨dvs, kws, Fu⟩ := F.fun_
  have e := (F.mg hk).symm.trans (PySem.W.mg_of X G a)
  obtain ⟨_, _, _, _, _, _, _, _, _, _, e1, lk, _, _, _⟩ := Fu.ex
  have e2 : fa.f li = f := by
    injection e with e
    injection e
  rw [e2, l] at lk
  injection lk with lk
  injection lk with _ _ lk _
  injection lk with lk
  rw [← lk]
  exact .of_eq (hb u)
end Fw

/-! Plain lemmas about the evaluator. -/
namespace Fw
open PySem PySem.Spec PyProof.Rows L2
theorem call_eq {ft : List Fn} {wf k f : Nat} {xs : List A} {S : Store} {i : Fn} (h : ft[f]? = some i) (hl : xs.length = i.np) : callI ft wf (k + 1) f xs S =
    match Fw.run (callI ft wf k) wf i.code (xs.map some ++ List.replicate (i.nn - i.np) none) S with
      | .rt x S' => fin S.length x S'
      | .nx _ S' => fin S.length (.p .non) S'
      | .ex e S' => .ex e (S'.take S.length)
      | _ => .bad := by
  rw [callI, h]
  dsimp only
  rw [if_pos hl] <;>
    (generalize Fw.run (callI ft wf k) wf i.code (xs.map some ++ List.replicate (i.nn - i.np) none) S = r
     cases r <;> rfl)
/-- a def that returns -/
theorem call_rt {ft : List Fn} {wf k f : Nat} {xs : List A} {S S' : Store} {x : A} {i : Fn} (h : ft[f]? = some i) (hl : xs.length = i.np) (hr : Fw.run (callI ft wf k) wf i.code (xs.map some ++ List.replicate (i.nn - i.np) none) S = .rt x S') (hs : S'.length = S.length) :
    callI ft wf (k + 1) f xs S = .ok x S' := by
  rw [call_eq h hl, hr]
  dsimp only
  unfold fin
  rw [if_pos hs]
theorem shaped_int {i : Int} : SeqAt.shaped (.int i) = true := by simp [SeqAt.shaped, PyData.canLay0, PyData.depth]
theorem shaped_bl {i : Bool} : SeqAt.shaped (.bool i) = true := by simp [SeqAt.shaped, PyData.canLay0, PyData.depth]
theorem shaped_non : SeqAt.shaped .none = true := by simp [SeqAt.shaped, PyData.canLay0, PyData.depth]
theorem shaped_str {x : Str} (h : PyData.strOk x = true) : SeqAt.shaped (.str x) = true := by simp [SeqAt.shaped, PyData.canLay0, PyData.depth, h]
@[simp] theorem eqF_int {i j : Int} : eqF (.int i) (.int j) = some (i == j) := by simp [eqF, D.py, shaped_int, PyData.eqv]
@[simp] theorem eqF_bl {i j : Bool} : eqF (.bl i) (.bl j) = some (i == j) := by simp [eqF, D.py, shaped_bl, PyData.eqv]
theorem eqF_str {x y : Str} (h : PyData.strOk x = true) (h' : PyData.strOk y = true) : eqF (.str x) (.str y) = some (x == y) := by simp [eqF, D.py, shaped_str h, shaped_str h', PyData.eqv]
theorem mul_ok {i j : Int} {a b : Nat} (ha : i.natAbs < 2 ^ a) (hb : j.natAbs < 2 ^ b) (h : a + b ≤ 1000000) (h0 : 0 < a) (h1 : 0 < b) : mulOk i j = true := by
  have := wide_mul ha hb h0 h1 h
  unfold CMulW at this
  exact decide_eq_true (.inr (.inr this))
theorem div_ok {j : Int} {b : Nat} (h : j ≠ 0) (hb : j.natAbs < 2 ^ b) (h0 : 0 < b) (h9 : b ≤ 9000) : divOk j = true :=
  decide_eq_true ⟨h, Nat.lt_of_lt_of_le (PySem.Flt.log2_lt_of h0 hb) h9⟩

/-! ### evaluation by simp: a value first, then what follows -/
@[simp] theorem Rz.bind_s {α β : Type} (a : α) (S : Store) (f : α → Store → Rz β) : (Rz.ok a S).bind f = f a S := rfl
@[simp] theorem Rz.bind_b {α β : Type} (f : α → Store → Rz β) : (Rz.bad : Rz α).bind f = .bad := rfl
@[simp] theorem Rz.then_s {α : Type} (a : α) (S : Store) (f : α → Store → Rs) : (Rz.ok a S).then f = f a S := rfl
@[simp] theorem Rz.then_b {α : Type} (f : α → Store → Rs) : (Rz.bad : Rz α).then f = .bad := rfl
@[simp] theorem Rs.then_n (ρ : Env) (S : Store) (f : Env → Store → Rs) : (Rs.nx ρ S).then f = f ρ S := rfl
@[simp] theorem Rs.then_r (x : A) (S : Store) (f : Env → Store → Rs) : (Rs.rt x S).then f = .rt x S := rfl
@[simp] theorem Rs.then_b (f : Env → Store → Rs) : Rs.bad.then f = .bad := rfl
@[simp] theorem tst_fS {x : A} {S : Store} : tst false x S = .ok x S := rfl
@[simp] theorem tst_blS {b : Bool} {S : Store} : tst true (.p (.bl b)) S = .ok (.p (.bl b)) S := rfl
@[simp] theorem bin_add {i j : Int} : binF .Add (.int i) (.int j) = some (.int (i + j)) := rfl
@[simp] theorem bin_sub {i j : Int} : binF .Sub (.int i) (.int j) = some (.int (i - j)) := rfl
theorem bin_mul {i j : Int} (h : mulOk i j = true) : binF .Mult (.int i) (.int j) = some (.int (i * j)) := by simp [binF, h]
theorem bin_div {i j : Int} (h : divOk j = true) : binF .FloorDiv (.int i) (.int j) = some (.int (i.fdiv j)) := by simp [binF, h]
theorem bin_mod {i j : Int} (h : j ≠ 0) : binF .Mod (.int i) (.int j) = some (.int (i.fmod j)) := by simp [binF, h]
theorem mul_small {i j : Int} (h : -(2 ^ 64) < j ∧ j < 2 ^ 64) : mulOk i j = true := decide_eq_true (.inr (.inl h))
theorem mul_smallL {i j : Int} (h : -(2 ^ 64) < i ∧ i < 2 ^ 64) : mulOk i j = true := decide_eq_true (.inl h)
@[simp] theorem cmp_lt {i j : Int} : cmpF .Lt (.int i) (.int j) = some (decide (i < j)) := rfl
@[simp] theorem cmp_le {i j : Int} : cmpF .LtE (.int i) (.int j) = some (decide (i ≤ j)) := rfl
@[simp] theorem cmp_gt {i j : Int} : cmpF .Gt (.int i) (.int j) = some (decide (j < i)) := rfl
@[simp] theorem cmp_ge {i j : Int} : cmpF .GtE (.int i) (.int j) = some (decide (j ≤ i)) := rfl
@[simp] theorem cmp_eq {x y : D} : cmpF .Eq x y = eqF x y := rfl
@[simp] theorem cmp_ne {x y : D} : cmpF .NotEq x y = (eqF x y).map (! ·) := rfl
@[simp] theorem at0 {α : Type} {a : α} {l : List α} : atI (a :: l) 0 = some a := atI_nat (j := 0) rfl
@[simp] theorem at1 {α : Type} {a b : α} {l : List α} : atI (a :: b :: l) 1 = some b := atI_nat (j := 1) rfl
@[simp] theorem at2 {α : Type} {a b c : α} {l : List α} : atI (a :: b :: c :: l) 2 = some c := atI_nat (j := 2) rfl
@[simp] theorem at3 {α : Type} {a b c d : α} {l : List α} : atI (a :: b :: c :: d :: l) 3 = some d := atI_nat (j := 3) rfl
@[simp] theorem at4 {α : Type} {a b c d e : α} {l : List α} : atI (a :: b :: c :: d :: e :: l) 4 = some e := atI_nat (j := 4) rfl
/-! ### what an end must satisfy -/
def Rz.sat {α : Type} (r : Rz α) (P : α → Store → Prop) : Prop := ∃ a S, r = .ok a S ∧ P a S
theorem Rz.sat_ok {α : Type} {a : α} {S : Store} {P : α → Store → Prop} (h : P a S) : (Rz.ok a S).sat P := ⟨a, S, rfl, h⟩
theorem Rz.sat_eq {α : Type} {r : Rz α} {a : α} {S : Store} {P : α → Store → Prop} (e : r = .ok a S) (h : P a S) : r.sat P := ⟨a, S, e, h⟩
theorem Rz.sat_bind {α β : Type} {r : Rz α} {f : α → Store → Rz β} {P : β → Store → Prop} (h : r.sat fun a S => (f a S).sat P) : (r.bind f).sat P := by
  obtain ⟨a, S, rfl, h⟩ := h
  exact h
theorem Rz.sat_mono {α : Type} {r : Rz α} {P Q : α → Store → Prop} (h : r.sat P) (k : ∀ a S, P a S → Q a S) : r.sat Q := by
  obtain ⟨a, S, e, h⟩ := h
  exact ⟨a, S, e, k a S h⟩
/-- the end of statements: what follows, or what is returned -/
def Rs.sat (r : Rs) (P : Env → Store → Prop) (R : A → Store → Prop) : Prop := match r with
  | .nx ρ S => P ρ S
  | .rt x S => R x S
  | _ => False
theorem Rs.sat_mono {r : Rs} {P P' : Env → Store → Prop} {R R' : A → Store → Prop} (h : r.sat P R) (k : ∀ ρ S, P ρ S → P' ρ S) (k' : ∀ x S, R x S → R' x S) : r.sat P' R' := by
  cases r with
  | nx ρ S => exact k _ _ h
  | rt x S => exact k' _ _ h
  | bk ρ S => exact h
  | ct ρ S => exact h
  | ex e S => exact h
  | bad => exact h
theorem Rz.sat_then {α : Type} {r : Rz α} {f : α → Store → Rs} {P : Env → Store → Prop} {R : A → Store → Prop} (h : r.sat fun a S => (f a S).sat P R) : (r.then f).sat P R := by
  obtain ⟨a, S, rfl, h⟩ := h
  exact h
theorem Rs.sat_then {r : Rs} {f : Env → Store → Rs} {P : Env → Store → Prop} {R : A → Store → Prop} (h : r.sat (fun ρ S => (f ρ S).sat P R) R) : (r.then f).sat P R := by
  cases r with
  | nx ρ S => exact h
  | rt x S => exact h
  | bk ρ S => exact h
  | ct ρ S => exact h
  | ex e S => exact h
  | bad => exact h
theorem sat_cons {cl : Nat → List A → Store → Rz A} {wf : Nat} {c : Sc} {cs : List Sc} {ρ : Env} {S : Store} {P : Env → Store → Prop} {R : A → Store → Prop} (h : (run1 cl wf c ρ S).sat (fun ρ1 S1 => (Fw.run cl wf cs ρ1 S1).sat P R) R) : (Fw.run cl wf (c :: cs) ρ S).sat P R := by
  rw [Fw.run]
  exact Rs.sat_then h
theorem sat_nil {cl : Nat → List A → Store → Rz A} {wf : Nat} {ρ : Env} {S : Store} {P : Env → Store → Prop} {R : A → Store → Prop} (h : P ρ S) : (Fw.run cl wf [] ρ S).sat P R := by
  rw [Fw.run]
  exact h
/-- a for by an invariant -/
theorem sat_for {bnd : A → Env → Option Env} {body : Env → Store → Rs} {R : A → Store → Prop} (I : Nat → Env → Store → Prop) : ∀ (items : List A) (i : Nat) (ρ : Env) (S : Store), I i ρ S →
    (∀ j x ρ S, items[j]? = some x → I (i + j) ρ S → ∃ ρ1, bnd x ρ = some ρ1 ∧ (body ρ1 S).sat (fun ρ2 S2 => I (i + j + 1) ρ2 S2) R) → (forL bnd body items ρ S).sat (fun ρ' S' => I (i + items.length) ρ' S') R
  | [], i, ρ, S, h, _ => h
  | x :: xs, i, ρ, S, h, hs => by
    obtain ⟨ρ1, h1, h2⟩ := hs 0 x ρ S rfl h
    rw [forL, h1]
    dsimp only
    cases hb : body ρ1 S with
    | nx ρ2 S2 =>
      rw [hb] at h2
      have ih := sat_for (R := R) (bnd := bnd) (body := body) I xs (i + 1) ρ2 S2 h2 fun j x ρ S hx hI => by
        have := hs (j + 1) x ρ S hx (by rw [show i + (j + 1) = i + 1 + j by omega]; exact hI)
        rw [show i + (j + 1) + 1 = i + 1 + j + 1 by omega] at this
        exact this
      rw [show i + 1 + xs.length = i + (x :: xs).length by rw [List.length_cons]; omega] at ih
      exact ih
    | rt y S2 => rw [hb] at h2; exact h2
    | bk ρ2 S2 => rw [hb] at h2; exact False.elim h2
    | ct ρ2 S2 => rw [hb] at h2; exact False.elim h2
    | ex e S2 => rw [hb] at h2; exact False.elim h2
    | bad => rw [hb] at h2; exact False.elim h2
/-- a def that returns, by what is to hold -/
theorem sat_call {ft : List Fn} {wf k f : Nat} {xs : List A} {S : Store} {i : Fn} {P : A → Store → Prop} (h : ft[f]? = some i) (hl : xs.length = i.np) (hr : (Fw.run (callI ft wf k) wf i.code (xs.map some ++ List.replicate (i.nn - i.np) none) S).sat (fun _ _ => False) fun x S' => S'.length = S.length ∧ P x S') :
    (callI ft wf (k + 1) f xs S).sat P := by
  rw [call_eq h hl]
  cases hq : Fw.run (callI ft wf k) wf i.code (xs.map some ++ List.replicate (i.nn - i.np) none) S with
  | nx ρ2 S2 => rw [hq] at hr; exact False.elim hr
  | rt y S2 =>
    rw [hq] at hr
    obtain ⟨h1, h2⟩ := hr
    refine ⟨y, S2, ?_, h2⟩
    dsimp only
    unfold fin
    rw [if_pos h1]
  | bk ρ2 S2 => rw [hq] at hr; exact False.elim hr
  | ct ρ2 S2 => rw [hq] at hr; exact False.elim hr
  | ex e S2 => rw [hq] at hr; exact False.elim hr
  | bad => rw [hq] at hr; exact False.elim hr
/-- a def that returns, its store as it ends -/
theorem sat_callG {ft : List Fn} {wf k f : Nat} {xs : List A} {S : Store} {i : Fn} {P : A → Store → Prop} (h : ft[f]? = some i) (hl : xs.length = i.np) (hr : (Fw.run (callI ft wf k) wf i.code (xs.map some ++ List.replicate (i.nn - i.np) none) S).sat (fun _ _ => False) fun x S' => isP x = false ∧ P x S') :
    (callI ft wf (k + 1) f xs S).sat P := by
  rw [call_eq h hl]
  cases hq : Fw.run (callI ft wf k) wf i.code (xs.map some ++ List.replicate (i.nn - i.np) none) S with
  | nx ρ2 S2 => rw [hq] at hr; exact False.elim hr
  | rt y S2 =>
    rw [hq] at hr
    obtain ⟨h1, h2⟩ := hr
    refine ⟨y, S2, ?_, h2⟩
    dsimp only
    unfold fin
    rw [h1]
    split <;> rfl
  | bk ρ2 S2 => rw [hq] at hr; exact False.elim hr
  | ct ρ2 S2 => rw [hq] at hr; exact False.elim hr
  | ex e S2 => rw [hq] at hr; exact False.elim hr
  | bad => rw [hq] at hr; exact False.elim hr
/-- a def that returns data: what it made besides is gone -/
theorem sat_callP {ft : List Fn} {wf k f : Nat} {xs : List A} {S : Store} {i : Fn} {P : A → Store → Prop} (h : ft[f]? = some i) (hl : xs.length = i.np) (hr : (Fw.run (callI ft wf k) wf i.code (xs.map some ++ List.replicate (i.nn - i.np) none) S).sat (fun _ _ => False) fun x S' => isP x = true ∧ S.length ≤ S'.length ∧ P x (S'.take S.length)) :
    (callI ft wf (k + 1) f xs S).sat P := by
  rw [call_eq h hl]
  cases hq : Fw.run (callI ft wf k) wf i.code (xs.map some ++ List.replicate (i.nn - i.np) none) S with
  | nx ρ2 S2 => rw [hq] at hr; exact False.elim hr
  | rt y S2 =>
    rw [hq] at hr
    obtain ⟨h1, h3, h2⟩ := hr
    refine ⟨y, S2.take S.length, ?_, h2⟩
    dsimp only
    unfold fin
    split
    · rename_i hlen
      rw [List.take_of_length_le (by omega)]
    · first | rfl | (rw [if_pos h1])
  | bk ρ2 S2 => rw [hq] at hr; exact False.elim hr
  | ct ρ2 S2 => rw [hq] at hr; exact False.elim hr
  | ex e S2 => rw [hq] at hr; exact False.elim hr
  | bad => rw [hq] at hr; exact False.elim hr
theorem ofStr_ok (s : String) : PyData.strOk (Str.ofString s) = true := by
  unfold PyData.strOk
  rw [Str.ofString_eq_toList, Array.all_eq_true_iff_forall_mem]
  intro x hx
  rw [List.mem_toArray, List.mem_map] at hx
  obtain ⟨c, _, rfl⟩ := hx
  refine decide_eq_true ?_
  have := c.valid
  unfold Char.toNat
  rcases this with h | ⟨_, h⟩
  · omega
  · exact h
end Fw

/-! What is to be shown of a code's end, piece by piece. -/
namespace Fw
open PySem PySem.Spec PyProof.Rows L2
section
variable {cl : Nat → List A → Store → Rz A} {wf : Nat} {t : Bool} {a b c : C} {ρ : Env} {S : Store} {P : A → Store → Prop} {cs : List C}
theorem v_var {i : Nat} {x : A} (h : ρ[i]? = some (some x)) (k : P x S) : (ev cl false (.var i) ρ S).sat P := by
  rw [ev, h]
  exact Rz.sat_ok k
theorem v_cst {d : D} (k : P (.p d) S) : (ev cl false (.cst d) ρ S).sat P := by
  rw [ev]
  exact Rz.sat_ok k
def SubV (x y : A) (S : Store) (P : A → Store → Prop) : Prop := ∃ z, subF x y S = some z ∧ P z S
def SlcV (x : A) (lo hi : Option A) (S : Store) (P : A → Store → Prop) : Prop := ∃ u l h z, x = .p u ∧ (lo = l.map fun i => .p (.int i)) ∧ (hi = h.map fun i => .p (.int i)) ∧ slcF u l h = some z ∧ P (.p z) S
def BltV (f : Blt) (xs : List A) (S : Store) (P : A → Store → Prop) : Prop := ∃ z, bltF f xs S = some z ∧ P z S
def DspV (xs : List A) (S : Store) (P : List D → Store → Prop) : Prop := ∃ ds, datas xs = some ds ∧ ds.length ≤ LIM ∧ P ds S
def NotV (x : A) (S : Store) (P : A → Store → Prop) : Prop := ∃ b, x = .p (.bl b) ∧ P (.p (.bl (!b))) S
def NegV (x : A) (S : Store) (P : A → Store → Prop) : Prop := ∃ i, x = .p (.int i) ∧ P (.p (.int (-i))) S
def TstV (x : A) (S : Store) (P : A → Store → Prop) : Prop := ∃ d b, x = .p d ∧ truF d = some b ∧ P (.p (.bl b)) S
def IsiV (x : A) (ts : List Ty) (S : Store) (P : A → Store → Prop) : Prop := ∃ ty, tyF x S = some ty ∧ P (.p (.bl (ts.any fun c => isaF ty c))) S
def CatV (xs : List A) (S : Store) (P : A → Store → Prop) : Prop := ∃ z, catF Str.empty xs = some z ∧ P (.p (.str z)) S
def FmtV (x : A) (S : Store) (P : A → Store → Prop) : Prop := ∃ z, fmtF x = some z ∧ P z S
def WlkV (kk : ItK) (xs : List A) (P : List A → Prop) : Prop := ∃ items, walkF kk xs = some items ∧ P items
def AsmV (asm : List (Nat ⊕ D)) (xs : List A) (P : List A → Prop) : Prop := ∃ zs, asmF asm xs = some zs ∧ P zs
def SetV (x y z : A) (S : Store) (P : Store → Prop) : Prop := ∃ d j n ys m, x = .p d ∧ y = .m j ∧ z = .p (.int n) ∧ S[j]? = some (.lst ys) ∧ ixN ys.length n = some m ∧ P (S.set j (.lst (ys.set m d)))
def BndV (tg : Tg) (x : A) (ρ : Env) (P : Env → Prop) : Prop := ∃ ρ1, bindT tg x ρ = some ρ1 ∧ P ρ1
theorem s_sub {x y z : A} {S : Store} {P : A → Store → Prop} (h : subF x y S = some z) (k : P z S) : SubV x y S P := ⟨z, h, k⟩
theorem s_t0 {a : D} {l : List D} {S : Store} {P : A → Store → Prop} (k : P (.p a) S) : SubV (.p (.tup (a :: l))) (.p (.int 0)) S P := ⟨_, by show (atI _ 0).map A.p = _; rw [at0]; rfl, k⟩
theorem s_t1 {a b : D} {l : List D} {S : Store} {P : A → Store → Prop} (k : P (.p b) S) : SubV (.p (.tup (a :: b :: l))) (.p (.int 1)) S P := ⟨_, by show (atI _ 1).map A.p = _; rw [at1]; rfl, k⟩
theorem s_t2 {a b c : D} {l : List D} {S : Store} {P : A → Store → Prop} (k : P (.p c) S) : SubV (.p (.tup (a :: b :: c :: l))) (.p (.int 2)) S P := ⟨_, by show (atI _ 2).map A.p = _; rw [at2]; rfl, k⟩
theorem s_l0 {a : D} {l : List D} {S : Store} {P : A → Store → Prop} (k : P (.p a) S) : SubV (.p (.lst (a :: l))) (.p (.int 0)) S P := ⟨_, by show (atI _ 0).map A.p = _; rw [at0]; rfl, k⟩
theorem s_l1 {a b : D} {l : List D} {S : Store} {P : A → Store → Prop} (k : P (.p b) S) : SubV (.p (.lst (a :: b :: l))) (.p (.int 1)) S P := ⟨_, by show (atI _ 1).map A.p = _; rw [at1]; rfl, k⟩
theorem s_l2 {a b c : D} {l : List D} {S : Store} {P : A → Store → Prop} (k : P (.p c) S) : SubV (.p (.lst (a :: b :: c :: l))) (.p (.int 2)) S P := ⟨_, by show (atI _ 2).map A.p = _; rw [at2]; rfl, k⟩
theorem s_slcH {u : D} {l : Int} {z : D} {S : Store} {P : A → Store → Prop} (h : slcF u none (some l) = some z) (k : P (.p z) S) : SlcV (.p u) none (some (.p (.int l))) S P := ⟨u, none, some l, z, rfl, rfl, rfl, h, k⟩
theorem s_slcL {u : D} {l : Int} {z : D} {S : Store} {P : A → Store → Prop} (h : slcF u (some l) none = some z) (k : P (.p z) S) : SlcV (.p u) (some (.p (.int l))) none S P := ⟨u, some l, none, z, rfl, rfl, rfl, h, k⟩
theorem s_blt {f : Blt} {xs : List A} {z : A} {S : Store} {P : A → Store → Prop} (h : bltF f xs S = some z) (k : P z S) : BltV f xs S P := ⟨z, h, k⟩
theorem s_dsp {xs : List A} {ds : List D} {S : Store} {P : List D → Store → Prop} (h : datas xs = some ds) (hl : Nat.ble ds.length LIM = true) (k : P ds S) : DspV xs S P := ⟨ds, h, Nat.le_of_ble_eq_true hl, k⟩
theorem s_not {b : Bool} {S : Store} {P : A → Store → Prop} (k : P (.p (.bl (!b))) S) : NotV (.p (.bl b)) S P := ⟨b, rfl, k⟩
theorem s_neg {i : Int} {S : Store} {P : A → Store → Prop} (k : P (.p (.int (-i))) S) : NegV (.p (.int i)) S P := ⟨i, rfl, k⟩
theorem s_tst {d : D} {b : Bool} {S : Store} {P : A → Store → Prop} (h : truF d = some b) (k : P (.p (.bl b)) S) : TstV (.p d) S P := ⟨d, b, rfl, h, k⟩
theorem s_isi {x : A} {ts : List Ty} {ty : Ty} {S : Store} {P : A → Store → Prop} (h : tyF x S = some ty) (k : P (.p (.bl (ts.any fun c => isaF ty c))) S) : IsiV x ts S P := ⟨ty, h, k⟩
theorem s_cat {xs : List A} {z : Str} {S : Store} {P : A → Store → Prop} (h : catF Str.empty xs = some z) (k : P (.p (.str z)) S) : CatV xs S P := ⟨z, h, k⟩
theorem s_fmt {x z : A} {S : Store} {P : A → Store → Prop} (h : fmtF x = some z) (k : P z S) : FmtV x S P := ⟨z, h, k⟩
theorem s_wlk {kk : ItK} {xs items : List A} {P : List A → Prop} (h : walkF kk xs = some items) (k : P items) : WlkV kk xs P := ⟨items, h, k⟩
theorem s_asm {asm : List (Nat ⊕ D)} {xs zs : List A} {P : List A → Prop} (h : asmF asm xs = some zs) (k : P zs) : AsmV asm xs P := ⟨zs, h, k⟩
theorem s_set {d : D} {j : Nat} {n : Int} {ys : List D} {m : Nat} {S : Store} {P : Store → Prop} (h1 : S[j]? = some (.lst ys)) (h2 : ixN ys.length n = some m) (k : P (S.set j (.lst (ys.set m d)))) : SetV (.p d) (.m j) (.p (.int n)) S P := ⟨d, j, n, ys, m, rfl, rfl, rfl, h1, h2, k⟩
theorem s_bnd {tg : Tg} {x : A} {ρ ρ1 : Env} {P : Env → Prop} (h : bindT tg x ρ = some ρ1) (k : P ρ1) : BndV tg x ρ P := ⟨ρ1, h, k⟩
/-- an operator on two values -/
def OpV (op : Operator) (x y : A) (S : Store) (P : A → Store → Prop) : Prop := ∃ u v z, x = .p u ∧ y = .p v ∧ binF op u v = some z ∧ P (.p z) S
theorem v_bin {op : Operator} (k : (ev cl false a ρ S).sat fun x S1 => (ev cl false b ρ S1).sat fun y S2 => OpV op x y S2 P) : (ev cl false (.bin op a b) ρ S).sat P := by
  rw [ev]
  refine Rz.sat_bind (Rz.sat_mono k fun x S1 h => Rz.sat_bind (Rz.sat_mono h fun y S2 h => ?_))
  obtain ⟨u, v, z, rfl, rfl, e, h⟩ := h
  dsimp only
  rw [e]
  exact Rz.sat_ok h
theorem o_add {i j : Int} (k : P (.p (.int (i + j))) S) : OpV .Add (.p (.int i)) (.p (.int j)) S P := ⟨_, _, _, rfl, rfl, rfl, k⟩
theorem o_sub {i j : Int} (k : P (.p (.int (i - j))) S) : OpV .Sub (.p (.int i)) (.p (.int j)) S P := ⟨_, _, _, rfl, rfl, rfl, k⟩
theorem p64 : (2 : Int) ^ 64 = 18446744073709551616 := by decide
theorem mul_c {i j : Int} (h1 : -18446744073709551616 < j) (h2 : j < 18446744073709551616) : mulOk i j = true := mul_small (by rw [p64]; exact ⟨h1, h2⟩)
theorem mul_cL {i j : Int} (h1 : -18446744073709551616 < i) (h2 : i < 18446744073709551616) : mulOk i j = true := mul_smallL (by rw [p64]; exact ⟨h1, h2⟩)
theorem o_mul {i j : Int} (h : mulOk i j = true) (k : P (.p (.int (i * j))) S) : OpV .Mult (.p (.int i)) (.p (.int j)) S P := ⟨_, _, _, rfl, rfl, bin_mul h, k⟩
theorem o_div {i j : Int} (h : divOk j = true) (k : P (.p (.int (i.fdiv j))) S) : OpV .FloorDiv (.p (.int i)) (.p (.int j)) S P := ⟨_, _, _, rfl, rfl, bin_div h, k⟩
theorem o_mod {i j : Int} (h : j ≠ 0) (k : P (.p (.int (i.fmod j))) S) : OpV .Mod (.p (.int i)) (.p (.int j)) S P := ⟨_, _, _, rfl, rfl, bin_mod h, k⟩
theorem o_pow {i j : Int} (h : powOk i j = true) (k : P (.p (.int (i ^ j.toNat))) S) : OpV .Pow (.p (.int i)) (.p (.int j)) S P := ⟨_, _, _, rfl, rfl, by simp [binF, h], k⟩
theorem o_str {x y : Str} (h : x.length + y.length ≤ LIM) (k : P (.p (.str (x ++ y))) S) : OpV .Add (.p (.str x)) (.p (.str y)) S P := ⟨_, _, _, rfl, rfl, by simp [binF, h], k⟩
theorem o_tup {x y : List D} (h : x.length + y.length ≤ LIM) (k : P (.p (.tup (x ++ y))) S) : OpV .Add (.p (.tup x)) (.p (.tup y)) S P := ⟨_, _, _, rfl, rfl, by simp [binF, h], k⟩
theorem o_lst {x y : List D} (h : x.length + y.length ≤ LIM) (k : P (.p (.lst (x ++ y))) S) : OpV .Add (.p (.lst x)) (.p (.lst y)) S P := ⟨_, _, _, rfl, rfl, by simp [binF, h], k⟩
theorem v_neg (k : (ev cl false a ρ S).sat fun x S1 => NegV x S1 P) : (ev cl false (.neg a) ρ S).sat P := by
  rw [ev]
  refine Rz.sat_bind (Rz.sat_mono k fun x S1 h => ?_)
  obtain ⟨i, rfl, h⟩ := h
  exact Rz.sat_ok h
/-- a comparison -/
def CmpV (op : CmpOp) (x y : A) (S : Store) (P : A → Store → Prop) : Prop := ∃ b, cmpA op (dig x S) (dig y S) = some b ∧ P (.p (.bl b)) S
theorem v_cmp {op : CmpOp} (k : (ev cl false a ρ S).sat fun x S1 => (ev cl false b ρ S1).sat fun y S2 => CmpV op x y S2 P) : (ev cl t (.cmp op a b) ρ S).sat P := by
  rw [ev]
  refine Rz.sat_bind (Rz.sat_mono k fun x S1 h => Rz.sat_bind (Rz.sat_mono h fun y S2 h => ?_))
  obtain ⟨z, e, h⟩ := h
  rw [e]
  exact Rz.sat_ok h
theorem v_chain {op op' : CmpOp} (k : (ev cl false a ρ S).sat fun x S1 => (ev cl false b ρ S1).sat fun y S2 => ∃ z, cmpA op x y = some z ∧ if z = true then (ev cl false c ρ S2).sat (fun w S3 => CmpV op' y w S3 P) else P (.p (.bl false)) S2) : (ev cl t (.chain op op' a b c) ρ S).sat P := by
  rw [ev]
  refine Rz.sat_bind (Rz.sat_mono k fun x S1 h => Rz.sat_bind (Rz.sat_mono h fun y S2 h => ?_))
  obtain ⟨z, e, h⟩ := h
  rw [e]
  dsimp only [Rz.of, Rz.bind]
  cases z with
  | true =>
    simp only [if_true] at h ⊢
    refine Rz.sat_bind (Rz.sat_mono h fun w S3 h => ?_)
    obtain ⟨z, e, h⟩ := h
    rw [e]
    exact Rz.sat_ok h
  | false =>
    simp only [Bool.false_eq_true, if_false] at h ⊢
    exact Rz.sat_ok h
theorem q_lt {i j : Int} (k : P (.p (.bl (decide (i < j)))) S) : CmpV .Lt (.p (.int i)) (.p (.int j)) S P := ⟨_, rfl, k⟩
theorem q_le {i j : Int} (k : P (.p (.bl (decide (i ≤ j)))) S) : CmpV .LtE (.p (.int i)) (.p (.int j)) S P := ⟨_, rfl, k⟩
theorem q_gt {i j : Int} (k : P (.p (.bl (decide (j < i)))) S) : CmpV .Gt (.p (.int i)) (.p (.int j)) S P := ⟨_, rfl, k⟩
theorem q_ge {i j : Int} (k : P (.p (.bl (decide (j ≤ i)))) S) : CmpV .GtE (.p (.int i)) (.p (.int j)) S P := ⟨_, rfl, k⟩
theorem q_eq {i j : Int} (k : P (.p (.bl (decide (i = j)))) S) : CmpV .Eq (.p (.int i)) (.p (.int j)) S P := ⟨_, eqF_int, by rw [Bool.beq_eq_decide_eq]; exact k⟩
theorem q_ne {i j : Int} (k : P (.p (.bl (!decide (i = j)))) S) : CmpV .NotEq (.p (.int i)) (.p (.int j)) S P := ⟨!decide (i = j), by show cmpF .NotEq (.int i) (.int j) = _; rw [cmp_ne, eqF_int, Bool.beq_eq_decide_eq]; rfl, k⟩
theorem q_eqB {i j : Bool} (k : P (.p (.bl (i == j))) S) : CmpV .Eq (.p (.bl i)) (.p (.bl j)) S P := ⟨_, eqF_bl, k⟩
theorem q_neB {i j : Bool} (k : P (.p (.bl (!(i == j)))) S) : CmpV .NotEq (.p (.bl i)) (.p (.bl j)) S P := ⟨!(i == j), by show cmpF .NotEq (.bl i) (.bl j) = _; rw [cmp_ne, eqF_bl]; rfl, k⟩
theorem isF_dig {x : A} {S : Store} : isF (dig x S) = isF x := by
  cases x with
  | p d => rfl
  | m j =>
    unfold dig
    dsimp only
    split <;> rfl
theorem q_isN {x : A} (k : P (.p (.bl (isF x))) S) : CmpV .Is x (.p .non) S P := ⟨_, rfl, by rw [isF_dig]; exact k⟩
theorem q_notN {x : A} (k : P (.p (.bl (!isF x))) S) : CmpV .IsNot x (.p .non) S P := ⟨_, rfl, by rw [isF_dig]; exact k⟩
/-- two ways -/
def Br (x : A) (S : Store) (Y N : Store → Prop) : Prop := ∃ b, x = .p (.bl b) ∧ if b = true then Y S else N S
theorem br {b : Bool} {Y N : Store → Prop} (h1 : b = true → Y S) (h2 : b = false → N S) : Br (.p (.bl b)) S Y N := by
  refine ⟨b, rfl, ?_⟩
  cases b with
  | true => exact h1 rfl
  | false => exact h2 rfl
theorem ft_no : ¬ (false = true) := Bool.false_ne_true
theorem tf_no : ¬ (true = false) := fun z => Bool.noConfusion z
theorem v_andT (k : (ev cl true a ρ S).sat fun x S1 => Br x S1 (fun S => (ev cl true b ρ S).sat P) fun S => P (.p (.bl false)) S) : (ev cl true (.and a b) ρ S).sat P := by
  rw [ev]
  simp only [if_true]
  refine Rz.sat_bind (Rz.sat_mono k fun x S1 h => ?_)
  obtain ⟨z, rfl, h⟩ := h
  cases z with
  | true => exact h
  | false => exact Rz.sat_ok h
theorem v_orT (k : (ev cl true a ρ S).sat fun x S1 => Br x S1 (fun S => P (.p (.bl true)) S) fun S => (ev cl true b ρ S).sat P) : (ev cl true (.or a b) ρ S).sat P := by
  rw [ev]
  simp only [if_true]
  refine Rz.sat_bind (Rz.sat_mono k fun x S1 h => ?_)
  obtain ⟨z, rfl, h⟩ := h
  cases z with
  | true => exact Rz.sat_ok h
  | false => exact h
/-- as values, of truth values -/
theorem v_and (k : (ev cl false a ρ S).sat fun x S1 => Br x S1 (fun S => (ev cl false b ρ S).sat P) fun S => P (.p (.bl false)) S) : (ev cl false (.and a b) ρ S).sat P := by
  rw [ev]
  simp only [Bool.false_eq_true, if_false]
  refine Rz.sat_bind (Rz.sat_mono k fun x S1 h => ?_)
  obtain ⟨z, rfl, h⟩ := h
  cases z with
  | true => exact h
  | false => exact Rz.sat_ok h
theorem v_or (k : (ev cl false a ρ S).sat fun x S1 => Br x S1 (fun S => P (.p (.bl true)) S) fun S => (ev cl false b ρ S).sat P) : (ev cl false (.or a b) ρ S).sat P := by
  rw [ev]
  simp only [Bool.false_eq_true, if_false]
  refine Rz.sat_bind (Rz.sat_mono k fun x S1 h => ?_)
  obtain ⟨z, rfl, h⟩ := h
  cases z with
  | true => exact Rz.sat_ok h
  | false => exact h
theorem v_not (k : (ev cl true a ρ S).sat fun x S1 => NotV x S1 P) : (ev cl t (.not a) ρ S).sat P := by
  rw [ev]
  refine Rz.sat_bind (Rz.sat_mono k fun x S1 h => ?_)
  obtain ⟨z, rfl, h⟩ := h
  exact Rz.sat_ok h
theorem v_ite {ct : C} (k : (ev cl true ct ρ S).sat fun x S1 => Br x S1 (fun S => (ev cl t a ρ S).sat P) fun S => (ev cl t b ρ S).sat P) : (ev cl t (.ite ct a b) ρ S).sat P := by
  rw [ev]
  refine Rz.sat_bind (Rz.sat_mono k fun x S1 h => ?_)
  obtain ⟨z, rfl, h⟩ := h
  cases z with
  | true => exact h
  | false => exact h
/-- a test that is the truth of a value -/
theorem v_tst (k : (ev cl false c ρ S).sat fun x S1 => TstV x S1 P) : (ev cl true c ρ S).sat P := by
  rw [ev_tst]
  refine Rz.sat_bind (Rz.sat_mono k fun x S1 h => ?_)
  obtain ⟨d, z, rfl, e, h⟩ := h
  unfold tst
  simp only [if_true]
  rw [e]
  exact Rz.sat_ok h
variable {PL : List A → Store → Prop}
theorem v_nil (k : PL [] S) : (evs cl [] ρ S).sat PL := by
  rw [evs]
  exact Rz.sat_ok k
theorem v_cons (k : (ev cl false c ρ S).sat fun x S1 => (evs cl cs ρ S1).sat fun xs S2 => PL (x :: xs) S2) : (evs cl (c :: cs) ρ S).sat PL := by
  rw [evs]
  exact Rz.sat_bind (Rz.sat_mono k fun x S1 h => Rz.sat_bind (Rz.sat_mono h fun xs S2 h => Rz.sat_ok h))
theorem v_tup (k : (evs cl cs ρ S).sat fun xs S1 => DspV xs S1 fun ds S => P (.p (.tup ds)) S) : (ev cl false (.tup cs) ρ S).sat P := by
  rw [ev]
  refine Rz.sat_bind (Rz.sat_mono k fun xs S1 h => ?_)
  obtain ⟨ds, e, hl, h⟩ := h
  rw [e]
  dsimp only
  rw [if_pos hl]
  exact Rz.sat_ok h
theorem v_lst (k : (evs cl cs ρ S).sat fun xs S1 => DspV xs S1 fun ds S => P (.p (.lst ds)) S) : (ev cl false (.lst cs) ρ S).sat P := by
  rw [ev]
  refine Rz.sat_bind (Rz.sat_mono k fun xs S1 h => ?_)
  obtain ⟨ds, e, hl, h⟩ := h
  rw [e]
  dsimp only
  rw [if_pos hl]
  exact Rz.sat_ok h
theorem v_lstM (k : (evs cl cs ρ S).sat fun xs S1 => DspV xs S1 fun ds S => P (.m S.length) (S ++ [.lst ds])) : (ev cl false (.lstM cs) ρ S).sat P := by
  rw [ev]
  refine Rz.sat_bind (Rz.sat_mono k fun xs S1 h => ?_)
  obtain ⟨ds, e, hl, h⟩ := h
  rw [e]
  dsimp only
  rw [decide_eq_true hl]
  exact Rz.sat_ok h
theorem v_sub (k : (ev cl false a ρ S).sat fun x S1 => (ev cl false b ρ S1).sat fun y S2 => SubV x y S2 P) : (ev cl false (.sub a b) ρ S).sat P := by
  rw [ev]
  refine Rz.sat_bind (Rz.sat_mono k fun x S1 h => Rz.sat_bind (Rz.sat_mono h fun y S2 h => ?_))
  obtain ⟨z, e, h⟩ := h
  rw [e]
  exact Rz.sat_ok h
theorem v_slcH (k : (ev cl false a ρ S).sat fun x S1 => (ev cl false b ρ S1).sat fun y S2 => SlcV x none (some y) S2 P) : (ev cl false (.slcH a b) ρ S).sat P := by
  rw [ev]
  refine Rz.sat_bind (Rz.sat_mono k fun x S1 h => Rz.sat_bind (Rz.sat_mono h fun y S2 h => ?_))
  obtain ⟨u, l, h', z, rfl, e1, e2, e, h⟩ := h
  cases l <;> cases h' <;> first | (cases e1; done) | (cases e2; done) | (cases e1; cases e2; dsimp only; rw [e]; exact Rz.sat_ok h)
theorem v_slcL (k : (ev cl false a ρ S).sat fun x S1 => (ev cl false b ρ S1).sat fun y S2 => SlcV x (some y) none S2 P) : (ev cl false (.slcL a b) ρ S).sat P := by
  rw [ev]
  refine Rz.sat_bind (Rz.sat_mono k fun x S1 h => Rz.sat_bind (Rz.sat_mono h fun y S2 h => ?_))
  obtain ⟨u, l, h', z, rfl, e1, e2, e, h⟩ := h
  cases l <;> cases h' <;> first | (cases e1; done) | (cases e2; done) | (cases e1; cases e2; dsimp only; rw [e]; exact Rz.sat_ok h)
theorem v_call {f : Nat} {ds : List D} (k : (evs cl cs ρ S).sat fun xs S1 => (cl f (xs ++ ds.map .p) S1).sat P) : (ev cl false (.call f cs ds) ρ S).sat P := by
  rw [ev]
  exact Rz.sat_bind (Rz.sat_mono k fun xs S1 h => Rz.sat_bind (Rz.sat_mono h fun z S2 h => Rz.sat_ok h))
theorem v_callK {f : Nat} {ks : List C} {asm : List (Nat ⊕ D)} (k : (evs cl cs ρ S).sat fun xs S1 => (evs cl ks ρ S1).sat fun ys S2 => AsmV asm (xs ++ ys) fun zs => (cl f zs S2).sat P) : (ev cl false (.callK f cs ks asm) ρ S).sat P := by
  rw [ev]
  refine Rz.sat_bind (Rz.sat_mono k fun xs S1 h => Rz.sat_bind (Rz.sat_mono h fun ys S2 h => ?_))
  obtain ⟨zs, e, h⟩ := h
  rw [e]
  exact Rz.sat_bind (Rz.sat_ok (Rz.sat_bind (Rz.sat_mono h fun z S2 h => Rz.sat_ok h)))
theorem v_blt {f : Blt} (k : (evs cl cs ρ S).sat fun xs S1 => BltV f xs S1 P) : (ev cl false (.blt f cs) ρ S).sat P := by
  rw [ev]
  refine Rz.sat_bind (Rz.sat_mono k fun xs S1 h => ?_)
  obtain ⟨z, e, h⟩ := h
  rw [e]
  exact Rz.sat_ok h
theorem v_isiT {ts : List Ty} (k : (ev cl false a ρ S).sat fun x S1 => IsiV x ts S1 P) : (ev cl t (.isiT a ts) ρ S).sat P := by
  rw [ev]
  refine Rz.sat_bind (Rz.sat_mono k fun x S1 h => ?_)
  obtain ⟨z, e, h⟩ := h
  rw [e]
  exact Rz.sat_ok h
theorem v_fstr (k : (evs cl cs ρ S).sat fun xs S1 => CatV xs S1 P) : (ev cl false (.fstr cs) ρ S).sat P := by
  rw [ev]
  refine Rz.sat_bind (Rz.sat_mono k fun xs S1 h => ?_)
  obtain ⟨z, e, h⟩ := h
  rw [e]
  exact Rz.sat_ok h
theorem v_fmt (k : (ev cl false a ρ S).sat fun x S1 => FmtV x S1 P) : (ev cl false (.fmt a) ρ S).sat P := by
  rw [ev]
  refine Rz.sat_bind (Rz.sat_mono k fun xs S1 h => ?_)
  obtain ⟨z, e, h⟩ := h
  rw [e]
  exact Rz.sat_ok h
def MaxV (x y : A) (S : Store) (P : A → Store → Prop) : Prop := ∃ z, maxF x y = some z ∧ P z S
theorem v_maxD (k : (ev cl false a ρ S).sat fun x S1 => (ev cl false b ρ S1).sat fun y S2 => MaxV x y S2 P) : (ev cl false (.maxD a b) ρ S).sat P := by
  rw [ev]
  refine Rz.sat_bind (Rz.sat_mono k fun x S1 h => Rz.sat_bind (Rz.sat_mono h fun y S2 h => ?_))
  obtain ⟨z, e, h⟩ := h
  rw [e]
  exact Rz.sat_ok h
theorem s_max {x y z : A} {S : Store} {P : A → Store → Prop} (h : maxF x y = some z) (k : P z S) : MaxV x y S P := ⟨z, h, k⟩
def MthV (m : Mth) (o : A) (xs : List A) (S : Store) (P : A → Store → Prop) : Prop := mthTy m o S = true ∧ (mthF m o xs S).sat P
theorem v_mth {m : Mth} {o : C} (k : (ev cl false o ρ S).sat fun x S1 => mthTy m x S1 = true ∧ (evs cl cs ρ S1).sat fun xs S2 => (mthF m x xs S2).sat P) : (ev cl false (.mth m o cs) ρ S).sat P := by
  rw [ev]
  refine Rz.sat_bind (Rz.sat_mono k fun x S1 h => ?_)
  rw [if_pos h.1]
  exact Rz.sat_bind (Rz.sat_mono h.2 fun xs S2 h => Rz.sat_bind (Rz.sat_mono h fun z S3 h => Rz.sat_ok h))
theorem q_eqS {x y : Str} {P : A → Store → Prop} {S : Store} (h1 : PyData.strOk x = true) (h2 : PyData.strOk y = true) (k : P (.p (.bl (x == y))) S) : CmpV .Eq (.p (.str x)) (.p (.str y)) S P := ⟨_, eqF_str h1 h2, k⟩
theorem q_neS {x y : Str} {P : A → Store → Prop} {S : Store} (h1 : PyData.strOk x = true) (h2 : PyData.strOk y = true) (k : P (.p (.bl (!(x == y)))) S) : CmpV .NotEq (.p (.str x)) (.p (.str y)) S P := ⟨!(x == y), by show cmpF .NotEq (.str x) (.str y) = _; rw [cmp_ne, eqF_str h1 h2]; rfl, k⟩
theorem q_inT {x : Str} {ds : List D} {ys : List Str} {P : A → Store → Prop} {S : Store} (h : D.strs ds = some ys) (k : P (.p (.bl (ys.any fun z => z == x))) S) : CmpV .In (.p (.str x)) (.p (.tup ds)) S P := ⟨ys.any fun z => z == x, by show cmpF.inFT (.str x) ds = _; simp only [cmpF.inFT, h], k⟩
/-- a comprehension without tests -/
theorem v_comp0 {kk : ItK} {its : List C} {tg : Tg} {own : List Nat} (k : (evs cl its ρ S).sat fun xs S1 => WlkV kk xs fun items => (compL (fun x => bindT tg x (wipeE ρ own)) (fun _ S => .ok (.p (.bl true)) S) (ev cl false c) items S1).sat fun ds S2 => ds.length < LIM ∧ P (.p (.lst ds)) S2) :
    (ev cl false (.comp kk its tg own none c) ρ S).sat P := by
  rw [ev]
  refine Rz.sat_bind (Rz.sat_mono k fun xs S1 h => ?_)
  obtain ⟨items, e, h⟩ := h
  rw [e]
  refine Rz.sat_bind (Rz.sat_ok (Rz.sat_bind (Rz.sat_mono h fun ds S2 h => ?_)))
  rw [if_pos h.1]
  exact Rz.sat_ok h.2
theorem v_comp1 {kk : ItK} {its : List C} {tg : Tg} {own : List Nat} (k : (evs cl its ρ S).sat fun xs S1 => WlkV kk xs fun items => (compL (fun x => bindT tg x (wipeE ρ own)) (ev cl true b) (ev cl false c) items S1).sat fun ds S2 => ds.length < LIM ∧ P (.p (.lst ds)) S2) :
    (ev cl false (.comp kk its tg own (some b) c) ρ S).sat P := by
  rw [ev]
  refine Rz.sat_bind (Rz.sat_mono k fun xs S1 h => ?_)
  obtain ⟨items, e, h⟩ := h
  rw [e]
  refine Rz.sat_bind (Rz.sat_ok (Rz.sat_bind (Rz.sat_mono h fun ds S2 h => ?_)))
  rw [if_pos h.1]
  exact Rz.sat_ok h.2
/-- the turns: R what the made items satisfy, I what holds of the store -/
theorem comp_sat {bnd : A → Option Env} {elt : Env → Store → Rz A} (I : Store → Prop) (R : Nat → D → Prop) : ∀ (items : List A) (i : Nat) (S : Store), I S →
    (∀ j x S, items[j]? = some x → I S → ∃ ρ1, bnd x = some ρ1 ∧ (elt ρ1 S).sat fun y S' => I S' ∧ ∃ d, y = .p d ∧ R (i + j) d) →
    (compL bnd (fun _ S => .ok (.p (.bl true)) S) elt items S).sat fun ds S' => I S' ∧ ds.length = items.length ∧ ∀ j d, ds[j]? = some d → R (i + j) d
  | [], i, S, h, _ => by
    rw [compL]
    exact Rz.sat_ok ⟨h, rfl, fun j d hd => by simp at hd⟩
  | x :: xs, i, S, h, hs => by
    obtain ⟨ρ1, h1, h2⟩ := hs 0 x S rfl h
    rw [compL, h1]
    refine Rz.sat_bind (Rz.sat_ok ?_)
    dsimp only
    refine Rz.sat_bind (Rz.sat_mono h2 fun y S' h => ?_)
    obtain ⟨hI, d, rfl, hR⟩ := h
    dsimp only
    refine Rz.sat_bind (Rz.sat_mono (comp_sat I R xs (i + 1) S' hI fun j x S hx hI => ?_) fun ds S'' h => Rz.sat_ok ?_)
    · have := hs (j + 1) x S hx hI
      rw [show i + (j + 1) = i + 1 + j by omega] at this
      exact this
    · obtain ⟨a, b, c⟩ := h
      refine ⟨a, by rw [List.length_cons, List.length_cons, b], fun j d' hd => ?_⟩
      cases j with
      | zero =>
        simp at hd
        subst hd
        exact hR
      | succ j =>
        rw [show i + (j + 1) = i + 1 + j by omega]
        exact c j d' (by simpa using hd)
/-- a comprehension whose elements are values f x, the store as it is -/
theorem comp_map {bnd : A → Option Env} {elt : Env → Store → Rz A} {S : Store} (f : A → D) : ∀ (items : List A), (∀ x ∈ items, ∃ ρ1, bnd x = some ρ1 ∧ elt ρ1 S = .ok (.p (f x)) S) → compL bnd (fun _ S => .ok (.p (.bl true)) S) elt items S = .ok (items.map f) S
  | [], _ => by
    rw [compL]
    rfl
  | x :: xs, h => by
    obtain ⟨ρ1, h1, h2⟩ := h x (List.mem_cons_self ..)
    rw [compL, h1]
    show ((elt ρ1 S).bind _) = _
    rw [h2]
    show ((compL bnd _ elt xs S).bind _) = _
    rw [comp_map f xs fun x hx => h x (List.mem_cons_of_mem _ hx)]
    rfl
/-! ### statements -/
variable {PE : Env → Store → Prop} {PR : A → Store → Prop}
theorem w_asg {tg : Tg} (k : (ev cl false c ρ S).sat fun x S1 => BndV tg x ρ fun ρ1 => PE ρ1 S1) : (run1 cl wf (.asg tg c) ρ S).sat PE PR := by
  rw [run1]
  refine Rz.sat_then (Rz.sat_mono k fun x S1 h => ?_)
  obtain ⟨ρ1, e, h⟩ := h
  rw [e]
  exact h
theorem w_par {i j : Nat} (k : (ev cl false a ρ S).sat fun x S1 => (ev cl false b ρ S1).sat fun y S2 => PE ((ρ.set i (some x)).set j (some y)) S2) : (run1 cl wf (.par i j a b) ρ S).sat PE PR := by
  rw [run1]
  exact Rz.sat_then (Rz.sat_mono k fun x S1 h => Rz.sat_then (Rz.sat_mono h fun y S2 h => h))
theorem w_parT {i j : Nat} (k : (ev cl false a ρ S).sat fun x S1 => (ev cl false b ρ S1).sat fun y S2 => PE ((ρ.set i (some x)).set j (some y)) S2) : (run1 cl wf (.parT i j a b) ρ S).sat PE PR := by
  rw [run1]
  exact Rz.sat_then (Rz.sat_mono k fun x S1 h => Rz.sat_then (Rz.sat_mono h fun y S2 h => h))
theorem w_setI {o i v : C} (k : (ev cl false v ρ S).sat fun x S1 => (ev cl false o ρ S1).sat fun y S2 => (ev cl false i ρ S2).sat fun z S3 => SetV x y z S3 fun S => PE ρ S) : (run1 cl wf (.setI o i v) ρ S).sat PE PR := by
  rw [run1]
  refine Rz.sat_then (Rz.sat_mono k fun x S1 h => Rz.sat_then (Rz.sat_mono h fun y S2 h => Rz.sat_then (Rz.sat_mono h fun z S3 h => ?_)))
  obtain ⟨d, j, n, ys, m, rfl, rfl, rfl, e1, e2, h⟩ := h
  dsimp only
  rw [e1]
  dsimp only
  rw [e2]
  exact h
theorem w_exp (k : (ev cl false c ρ S).sat fun _ S1 => PE ρ S1) : (run1 cl wf (.exp c) ρ S).sat PE PR := by
  rw [run1]
  exact Rz.sat_then (Rz.sat_mono k fun x S1 h => h)
theorem w_ret (k : (ev cl false c ρ S).sat PR) : (run1 cl wf (.ret c) ρ S).sat PE PR := by
  rw [run1]
  exact Rz.sat_then (Rz.sat_mono k fun x S1 h => h)
theorem w_ite {xa xb : List Sc} (k : (ev cl true c ρ S).sat fun x S1 => Br x S1 (fun S => (Fw.run cl wf xa ρ S).sat PE PR) fun S => (Fw.run cl wf xb ρ S).sat PE PR) : (run1 cl wf (.ite c xa xb) ρ S).sat PE PR := by
  rw [run1]
  refine Rz.sat_then (Rz.sat_mono k fun x S1 h => ?_)
  obtain ⟨z, rfl, h⟩ := h
  cases z with
  | true => exact h
  | false => exact h
theorem w_for {kk : ItK} {its : List C} {tg : Tg} {xs : List Sc} (k : (evs cl its ρ S).sat fun vs S1 => WlkV kk vs fun items => (forL (bindT tg) (Fw.run cl wf xs) items ρ S1).sat PE PR) : (run1 cl wf (.for kk its tg xs) ρ S).sat PE PR := by
  rw [run1]
  refine Rz.sat_then (Rz.sat_mono k fun vs S1 h => ?_)
  obtain ⟨items, e, h⟩ := h
  rw [e]
  exact h
theorem w_while {xs : List Sc} (k : (whileL (ev cl true c) (Fw.run cl wf xs) wf ρ S).sat PE PR) : (run1 cl wf (.while c xs) ρ S).sat PE PR := by
  rw [run1]
  exact k
/-- a while by an invariant and a number that falls -/
theorem while_sat {cond : Env → Store → Rz A} {body : Env → Store → Rs} (I : Nat → Env → Store → Prop) (Q : Env → Store → Prop) : ∀ (n m : Nat) (ρ : Env) (S : Store), m < n → I m ρ S →
    (∀ m ρ S, I m ρ S → (cond ρ S).sat fun x S1 => Br x S1 (fun S => (body ρ S).sat (fun ρ2 S2 => ∃ m', m' < m ∧ I m' ρ2 S2) PR) fun S => Q ρ S) → (whileL cond body n ρ S).sat Q PR
  | 0, m, ρ, S, h, _, _ => by omega
  | n + 1, m, ρ, S, h, hI, hs => by
    rw [whileL]
    refine Rz.sat_then (Rz.sat_mono (hs m ρ S hI) fun x S1 h1 => ?_)
    obtain ⟨z, rfl, h1⟩ := h1
    cases z with
    | false => exact h1
    | true =>
      dsimp only
      simp only [if_true] at h1
      cases hb : body ρ S1 with
      | nx ρ2 S2 =>
        rw [hb] at h1
        obtain ⟨m', hm, hI'⟩ := h1
        exact while_sat I Q n m' ρ2 S2 (by omega) hI' hs
      | rt y S2 => rw [hb] at h1; exact h1
      | bk ρ2 S2 => rw [hb] at h1; exact False.elim h1
      | ct ρ2 S2 => rw [hb] at h1; exact False.elim h1
      | ex e S2 => rw [hb] at h1; exact False.elim h1
      | bad => rw [hb] at h1; exact False.elim h1
end
end Fw

/-! The same for defs as values, instances, exceptions. -/
namespace Fw
open PySem PySem.Spec PyProof.Rows L2
section
variable {cl : Nat → List A → Store → Rz A} {wf : Nat} {t : Bool} {a b c : C} {ρ : Env} {S : Store} {P : A → Store → Prop} {cs : List C} {PE : Env → Store → Prop} {PR : A → Store → Prop}
theorem v_callV {i nf f : Nat} (h : ρ[i]? = some (some (.p (.fn f)))) (hf : f < nf) (k : (evs cl cs ρ S).sat fun xs S1 => (cl f xs S1).sat P) : (ev cl false (.callV i nf cs) ρ S).sat P := by
  rw [ev, h]
  dsimp only
  rw [if_pos hf]
  exact Rz.sat_bind (Rz.sat_mono k fun xs S1 h => Rz.sat_bind (Rz.sat_mono h fun z S2 h => Rz.sat_ok h))
theorem v_ccst {ci : Nat} {n : Str} {d : D} (k : P (.p d) S) : (ev cl false (.ccst ci n d) ρ S).sat P := by
  rw [ev]
  exact Rz.sat_ok k
theorem Rz.sat_np {α β : Type} {r : Rz α} {f : α → Store → Rz β} {P : β → Store → Prop} (h : r.sat fun a S => (f a S).sat P) : (r.np.bind f).sat P := by
  obtain ⟨a, S, rfl, h⟩ := h
  exact h
theorem v_app {h : Hd} (k : (evs cl cs ρ S).sat fun xs S1 => (appF cl h ρ xs S1).sat P) : (ev cl false (.app h cs) ρ S).sat P := by
  rw [ev]
  exact Rz.sat_bind (Rz.sat_mono (Rz.sat_np k) fun z S2 h => Rz.sat_ok h)
theorem v_whyA {h : Hd} (k : (evs cl cs ρ S).sat fun xs S1 => (whyR (appF cl h ρ xs S1)).sat P) : (ev cl false (.whyA h cs) ρ S).sat P := by
  rw [ev]
  obtain ⟨xs, S1, e, k⟩ := k
  rw [e]
  exact Rz.sat_bind (Rz.sat_mono k fun z S2 h => Rz.sat_ok h)
def FldV (ci : Nat) (x : A) (n : Str) (S : Store) (P : A → Store → Prop) : Prop := ∃ ns ds d, insF x S = some (ci, ns, ds) ∧ getN n ns ds = some d ∧ P (.p d) S
theorem v_fld {ci : Nat} {n : Str} (k : (ev cl false a ρ S).sat fun x S1 => FldV ci x n S1 P) : (ev cl false (.fld ci a n) ρ S).sat P := by
  rw [ev]
  refine Rz.sat_bind (Rz.sat_mono k fun x S1 h => ?_)
  obtain ⟨ns, ds, d, e1, e2, h⟩ := h
  rw [e1]
  dsimp only
  rw [if_pos rfl, e2]
  exact Rz.sat_ok h
def MetV (ci : Nat) (m : Str) (x : A) (S : Store) : Prop := ∃ ns ds, insF x S = some (ci, ns, ds) ∧ (ns.any fun n => n == m) = false
theorem v_meth {ci fi : Nat} {m : Str} {ds : List D} (k : (ev cl false a ρ S).sat fun x S1 => MetV ci m x S1 ∧ (evs cl cs ρ S1).sat fun xs S2 => (cl fi (x :: (xs ++ ds.map .p)) S2).sat P) : (ev cl false (.meth ci fi m a cs ds) ρ S).sat P := by
  rw [ev]
  refine Rz.sat_bind (Rz.sat_mono (Rz.sat_np (Rz.sat_mono k fun x S1 h => ?_)) fun z S2 h => Rz.sat_ok h)
  obtain ⟨⟨ns, ds', e1, e2⟩, h⟩ := h
  rw [e1]
  dsimp only
  rw [e2, decide_eq_true rfl]
  exact Rz.sat_np h
theorem w_frz {i j : Nat} {ds : List D} (h1 : ρ[i]? = some (some (.m j))) (h2 : S[j]? = some (.lst ds)) (k : PE (ρ.set i (some (.p (.lst ds)))) (S.set j .dead)) : (run1 cl wf (.frz i) ρ S).sat PE PR := by
  rw [run1, h1]
  dsimp only
  rw [h2]
  exact k
/-- a comprehension with a test that keeps the store -/
theorem comp_filter {bnd : A → Option Env} {cond elt : Env → Store → Rz A} {S : Store} (p : A → Bool) (f : A → D) : ∀ (items : List A), (∀ x ∈ items, ∃ ρ1, bnd x = some ρ1 ∧ cond ρ1 S = .ok (.p (.bl (p x))) S ∧ elt ρ1 S = .ok (.p (f x)) S) → compL bnd cond elt items S = .ok ((items.filter p).map f) S
  | [], _ => by
    rw [compL]
    rfl
  | x :: xs, h => by
    obtain ⟨ρ1, h1, h2, h3⟩ := h x (List.mem_cons_self ..)
    rw [compL, h1]
    show ((cond ρ1 S).bind _) = _
    rw [h2]
    have ih := comp_filter p f xs fun x hx => h x (List.mem_cons_of_mem _ hx)
    cases hp : p x with
    | true =>
      show ((elt ρ1 S).bind _) = _
      rw [h3]
      show ((compL bnd cond elt xs S).bind _) = _
      rw [ih, List.filter_cons, if_pos hp]
      rfl
    | false =>
      show compL bnd cond elt xs S = _
      rw [ih, List.filter_cons, if_neg (by rw [hp]; decide)]
theorem lays_strs : ∀ {ys : List Str}, (∀ y ∈ ys, PyData.strOk y = true) → PyData.canLayAll0 (ys.map PyData.str) = true
  | [], _ => rfl
  | y :: ys, h => by
    rw [List.map_cons, PyData.canLayAll0, lays_strs fun z hz => h z (List.mem_cons_of_mem _ hz), Bool.and_true, PyData.canLay0]
    exact h y (List.mem_cons_self ..)
theorem pyL_strs : ∀ ys : List Str, D.pyL (ys.map D.str) = some (ys.map PyData.str)
  | [] => rfl
  | y :: ys => by
    rw [List.map_cons, D.pyL, pyL_strs ys]
    rfl
theorem depth_strs : ∀ ys : List Str, PyData.depth (.list (ys.map PyData.str)) ≤ 64 := by
  intro ys
  have : ∀ ys : List Str, PyData.depthAll (ys.map PyData.str) ≤ 1 := by
    intro ys
    induction ys with
    | nil => simp [PyData.depthAll]
    | cons y ys ih =>
      rw [List.map_cons, PyData.depthAll, PyData.depth]
      omega
  have h := this ys
  rw [PyData.depth]
  omega
theorem in_strs {x : Str} {ys : List Str} (hx : PyData.strOk x = true) (hy : ∀ y ∈ ys, PyData.strOk y = true) : cmpF.inF (.str x) (ys.map D.str) = some (decide (x ∈ ys)) := by
  unfold cmpF.inF
  rw [pyL_strs]
  dsimp only [D.py]
  have s1 : SeqAt.shaped (.str x) = true := shaped_str hx
  have s2 : SeqAt.shaped (.list (ys.map PyData.str)) = true := by
    unfold SeqAt.shaped
    rw [PyData.canLay0, lays_strs hy, decide_eq_true (depth_strs ys)]
    rfl
  rw [s1, s2]
  simp only [Bool.and_self, if_true, Option.some.injEq]
  induction ys with
  | nil => rfl
  | cons y ys ih =>
    rw [List.map_cons, List.any_cons]
    have := ih (fun z hz => hy z (List.mem_cons_of_mem _ hz)) (by
      unfold SeqAt.shaped
      rw [PyData.canLay0, lays_strs fun z hz => hy z (List.mem_cons_of_mem _ hz), decide_eq_true (depth_strs ys)]
      rfl)
    rw [this]
    have e : PyData.eqv (.str y) (.str x) = decide (y = x) := by
      simp [PyData.eqv]
      exact Bool.beq_eq_decide_eq y x
    rw [e]
    by_cases h : y = x
    · subst h
      simp
    · by_cases h2 : x ∈ ys
      · simp [h2]
      · simp [h, h2, Ne.symm h]
theorem q_inS {x : Str} {ys : List Str} (hx : PyData.strOk x = true) (hy : ∀ y ∈ ys, PyData.strOk y = true) (k : P (.p (.bl (decide (x ∈ ys)))) S) : CmpV .In (.p (.str x)) (.p (.lst (ys.map D.str))) S P := ⟨_, in_strs hx hy, k⟩
theorem q_inM {x : Str} {ys : List Str} {j : Nat} (hx : PyData.strOk x = true) (hy : ∀ y ∈ ys, PyData.strOk y = true) (hs : S[j]? = some (.lst (ys.map D.str))) (k : P (.p (.bl (decide (x ∈ ys)))) S) : CmpV .In (.p (.str x)) (.m j) S P :=
  ⟨decide (x ∈ ys), by unfold dig; dsimp only; rw [hs]; exact in_strs hx hy, k⟩
theorem q_notInM {x : Str} {ys : List Str} {j : Nat} (hx : PyData.strOk x = true) (hy : ∀ y ∈ ys, PyData.strOk y = true) (hs : S[j]? = some (.lst (ys.map D.str))) (k : P (.p (.bl (!decide (x ∈ ys)))) S) : CmpV .NotIn (.p (.str x)) (.m j) S P :=
  ⟨!decide (x ∈ ys), by unfold dig; dsimp only; rw [hs]; show (cmpF.inF (.str x) (ys.map D.str)).map _ = _; rw [in_strs hx hy]; rfl, k⟩
end
theorem sat_val {α : Type} {r : Rz α} {v : α} {S : Store} (h : r.sat fun x S' => x = v ∧ S' = S) : r = .ok v S := by
  obtain ⟨a, S', rfl, rfl, rfl⟩ := h
  rfl
/-- a def that gives v and leaves the store -/
theorem call_val {ft : List Fn} {wf k f : Nat} {xs : List A} {S : Store} {i : Fn} {v : A} (h : ft[f]? = some i) (hl : xs.length = i.np) (hr : (Fw.run (callI ft wf k) wf i.code (xs.map some ++ List.replicate (i.nn - i.np) none) S).sat (fun _ _ => False) fun x S' => x = v ∧ S' = S) :
    callI ft wf (k + 1) f xs S = .ok v S :=
  sat_val (sat_call h hl (Rs.sat_mono hr (fun _ _ z => z) fun x S' z => ⟨by rw [z.2], z⟩))
end Fw

/-! More rules for walking plain codes: methods. -/
namespace Fw
open PySem PySem.Spec PyProof.Rows L2
section
variable {cl : Nat → List A → Store → Rz A} {ρ : Env} {S : Store} {P : A → Store → Prop} {cs : List C} {wf : Nat} {R : Store}
theorem ins_p {ci : Nat} {ns : List Str} {ds : List D} : insF (.p (.ins ci ns ds)) S = some (ci, ns, ds) := rfl
theorem v_methV {i ci fi : Nat} {m : Str} {ds : List D} {ns : List Str} {es : List D} (h : ρ[i]? = some (some (.p (.ins ci ns es)))) (hn : (ns.any fun n => n == m) = false) (k : (evs cl cs ρ S).sat fun xs S2 => (cl fi (.p (.ins ci ns es) :: (xs ++ ds.map .p)) S2).sat P) : (ev cl false (.meth ci fi m (.var i) cs ds) ρ S).sat P :=
  v_meth (v_var h ⟨⟨ns, es, rfl, hn⟩, k⟩)
theorem xc_meth {i ci fi : Nat} {m : Str} {ds : List D} {ns : List Str} {es : List D} {xs : List A} {S2 : Store} (h : ρ[i]? = some (some (.p (.ins ci ns es)))) (hn : (ns.any fun n => n == m) = false) (k : evs cl cs ρ S = .ok xs S2) : xcF cl (.meth ci fi m (.var i) cs ds) ρ S = cl fi (.p (.ins ci ns es) :: (xs ++ ds.map .p)) S2 := by
  have e0 : ev cl false (.var i) ρ S = .ok (.p (.ins ci ns es)) S := sat_val (v_var h ⟨rfl, rfl⟩)
  rw [xcF, e0]
  show (if (decide (ci = ci) && !(ns.any fun n => n == m)) = true then _ else _) = _
  rw [hn, decide_eq_true rfl, if_pos (show (true && !false) = true from rfl), k]
  rfl
theorem v_whySV {i ci fi : Nat} {m : Str} {ds : List D} {ns : List Str} {es : List D} (h : ρ[i]? = some (some (.p (.ins ci ns es)))) (hn : (ns.any fun n => n == m) = false) (k : (evs cl cs ρ S).sat fun xs S2 => (whyR (cl fi (.p (.ins ci ns es) :: (xs ++ ds.map .p)) S2)).sat P) : (ev cl false (.whyS ci fi m (.var i) cs ds) ρ S).sat P := by
  obtain ⟨xs, S2, hx, y, S3, hy, p⟩ := k
  refine ⟨y, S3, ?_, p⟩
  have := xc_meth (ds := ds) (fi := fi) h hn hx
  rw [ev]
  show (whyR (xcF cl (.meth ci fi m (.var i) cs ds) ρ S)).bind _ = _
  rw [this, hy]
  rfl
theorem v_methKV {i ci fi : Nat} {m : Str} {asm : List (Nat ⊕ D)} {ns : List Str} {es : List D} (h : ρ[i]? = some (some (.p (.ins ci ns es)))) (hn : (ns.any fun n => n == m) = false) (k : (evs cl cs ρ S).sat fun ys S2 => ∃ zs, asmF asm (.p (.ins ci ns es) :: ys) = some zs ∧ (cl fi zs S2).sat P) : (ev cl false (.methK ci fi m (.var i) cs asm) ρ S).sat P := by
  obtain ⟨xs, S2, hx, zs, hz, y, S3, hy, p⟩ := k
  refine ⟨y, S3, ?_, p⟩
  have e0 : ev cl false (.var i) ρ S = .ok (.p (.ins ci ns es)) S := sat_val (v_var h ⟨rfl, rfl⟩)
  rw [ev, e0]
  show (if (decide (ci = ci) && !(ns.any fun n => n == m)) = true then _ else _ : Rz A).bind _ = _
  rw [hn, decide_eq_true rfl, if_pos (show (true && !false) = true from rfl), hx]
  show (match asmF asm (.p (.ins ci ns es) :: xs) with
    | some zs => cl fi zs S2
    | none => .bad : Rz A).bind _ = _
  rw [hz]
  dsimp only
  rw [hy]
  rfl
theorem fld_V {i ci : Nat} {n : Str} {ns : List Str} {es : List D} {d : D} (h : ρ[i]? = some (some (.p (.ins ci ns es)))) (hn : getN n ns es = some d) (k : P (.p d) S) : (ev cl false (.fld ci (.var i) n) ρ S).sat P :=
  v_fld (v_var h ⟨ns, es, d, rfl, hn, k⟩)
/-- a call that ends well: the assignment goes on -/
theorem asgX_nx {i : Nat} {x : XC} {y : A} {S1 : Store} (h : xcF cl x ρ S = .ok y S1) : run1 cl wf (.asgX (.nm i) x) ρ S = .nx (ρ.set i (some y)) S1 := by
  rw [run1, h]
  rfl
theorem asgX_ex {i : Nat} {x : XC} {e : Exn} {S1 : Store} (h : xcF cl x ρ S = .ex e S1) : run1 cl wf (.asgX (.nm i) x) ρ S = .ex e S1 := by
  rw [run1, h]
  rfl
theorem run_nx {sc : Sc} {cs : List Sc} {ρ1 : Env} {S1 : Store} (h : run1 cl wf sc ρ S = .nx ρ1 S1) : Fw.run cl wf (sc :: cs) ρ S = Fw.run cl wf cs ρ1 S1 := by
  rw [Fw.run, h]
  rfl
theorem run_ex {sc : Sc} {cs : List Sc} {e : Exn} {S1 : Store} (h : run1 cl wf sc ρ S = .ex e S1) : Fw.run cl wf (sc :: cs) ρ S = .ex e S1 := by
  rw [Fw.run, h]
  rfl
theorem run_rt {sc : Sc} {cs : List Sc} {x : A} {S1 : Store} (h : run1 cl wf sc ρ S = .rt x S1) : Fw.run cl wf (sc :: cs) ρ S = .rt x S1 := by
  rw [Fw.run, h]
  rfl
/-- raise X(c) -/
theorem raise_1 {x : Xi} {c : C} {attr : Str} {d : D} (ha : x.attr = some attr) (h : ev cl false c ρ S = .ok (.p d) S) : run1 cl wf (.raise x [c]) ρ S = .ex ⟨x.c, ["code", attr], [.str x.code, d]⟩ S := by
  have e2 : evs cl [c] ρ S = .ok [.p d] S := by
    rw [evs, h]
    rfl
  rw [run1, e2]
  show (match exnF x [.p d] with
    | some e => Rs.ex e S
    | none => .bad) = _
  unfold exnF
  rw [ha]
theorem ite_y {c : C} {a b : List Sc} (h : ev cl true c ρ S = .ok (.p (.bl true)) S) : run1 cl wf (.ite c a b) ρ S = Fw.run cl wf a ρ S := by
  rw [run1, h]
  rfl
theorem ite_n {c : C} {a b : List Sc} (h : ev cl true c ρ S = .ok (.p (.bl false)) S) : run1 cl wf (.ite c a b) ρ S = Fw.run cl wf b ρ S := by
  rw [run1, h]
  rfl
theorem ret_rt {c : C} {x : A} {S1 : Store} (h : ev cl false c ρ S = .ok x S1) : run1 cl wf (.ret c) ρ S = .rt x S1 := by
  rw [run1, h]
  rfl
theorem call_ex {ft : List Fn} {k f : Nat} {xs : List A} {S' : Store} {e : Exn} {i : Fn} (h : ft[f]? = some i) (hl : xs.length = i.np) (hr : Fw.run (callI ft wf k) wf i.code (xs.map some ++ List.replicate (i.nn - i.np) none) S = .ex e S') : callI ft wf (k + 1) f xs S = .ex e (S'.take S.length) := by
  rw [call_eq h hl, hr]
theorem call_rtS {ft : List Fn} {k f : Nat} {xs : List A} {x : A} {i : Fn} (h : ft[f]? = some i) (hl : xs.length = i.np) (hr : Fw.run (callI ft wf k) wf i.code (xs.map some ++ List.replicate (i.nn - i.np) none) S = .rt x S) : callI ft wf (k + 1) f xs S = .ok x S := by
  rw [call_eq h hl, hr]
  dsimp only
  unfold fin
  rw [if_pos rfl]
theorem call_exS {ft : List Fn} {k f : Nat} {xs : List A} {e : Exn} {i : Fn} (h : ft[f]? = some i) (hl : xs.length = i.np) (hr : Fw.run (callI ft wf k) wf i.code (xs.map some ++ List.replicate (i.nn - i.np) none) S = .ex e S) : callI ft wf (k + 1) f xs S = .ex e S := by
  rw [call_ex h hl hr, List.take_length]
end
end Fw

/-! What is to be shown of a code's end where it may raise. -/
namespace Fw
open PySem PySem.Spec PyProof.Rows L2
def Rz.sx {α : Type} (r : Rz α) (P : α → Store → Prop) (X : Exn → Store → Prop) : Prop := match r with
  | .ok a S => P a S
  | .ex e S => X e S
  | .bad => False
def Rs.sx (r : Rs) (PE : Env → Store → Prop) (PR : A → Store → Prop) (X : Exn → Store → Prop) : Prop := match r with
  | .nx ρ S => PE ρ S
  | .rt x S => PR x S
  | .ex e S => X e S
  | _ => False
section
variable {cl : Nat → List A → Store → Rz A} {wf : Nat} {t : Bool} {a b c : C} {ρ : Env} {S : Store} {P : A → Store → Prop} {cs : List C} {PE : Env → Store → Prop} {PR : A → Store → Prop} {X : Exn → Store → Prop}
theorem Rz.sx_mono {α : Type} {r : Rz α} {P P' : α → Store → Prop} {X X' : Exn → Store → Prop} (h : r.sx P X) (k : ∀ a S, P a S → P' a S) (k' : ∀ e S, X e S → X' e S) : r.sx P' X' := by
  cases r with
  | ok a S => exact k a S h
  | ex e S => exact k' e S h
  | bad => exact h
theorem Rz.sx_sat {α : Type} {r : Rz α} {P : α → Store → Prop} {X : Exn → Store → Prop} (h : r.sat P) : r.sx P X := by
  obtain ⟨a, S, rfl, h⟩ := h
  exact h
theorem Rz.sx_eq {α : Type} {r : Rz α} {a : α} {S : Store} {P : α → Store → Prop} {X : Exn → Store → Prop} (h : r = .ok a S) (k : P a S) : r.sx P X := by
  rw [h]
  exact k
theorem Rz.sx_ex {α : Type} {r : Rz α} {e : Exn} {S : Store} {P : α → Store → Prop} {X : Exn → Store → Prop} (h : r = .ex e S) (k : X e S) : r.sx P X := by
  rw [h]
  exact k
theorem eq_of_sx {r r' : Rz A} (h : r.sx (fun x S' => r' = .ok x S') fun e S' => r' = .ex e S') : r = r' := by
  cases r with
  | ok a S => exact h.symm
  | ex e S => exact h.symm
  | bad => exact h.elim
theorem Rs.sx_sat {r : Rs} (h : r.sat PE PR) : r.sx PE PR X := by
  cases r with
  | nx ρ S => exact h
  | rt x S => exact h
  | bk ρ S => exact h
  | ct ρ S => exact h
  | ex e S => exact h.elim
  | bad => exact h
theorem Rs.sx_mono {r : Rs} {PE' : Env → Store → Prop} {PR' : A → Store → Prop} {X' : Exn → Store → Prop} (h : r.sx PE PR X) (k : ∀ ρ S, PE ρ S → PE' ρ S) (k1 : ∀ x S, PR x S → PR' x S) (k2 : ∀ e S, X e S → X' e S) : r.sx PE' PR' X' := by
  cases r with
  | nx ρ S => exact k _ _ h
  | rt x S => exact k1 _ _ h
  | ex e S => exact k2 _ _ h
  | bk ρ S => exact h
  | ct ρ S => exact h
  | bad => exact h
/-! ### statements -/
theorem x_nil (k : PE ρ S) : (Fw.run cl wf [] ρ S).sx PE PR X := by
  rw [Fw.run]
  exact k
theorem x_cons {sc : Sc} {scs : List Sc} (k : (run1 cl wf sc ρ S).sx (fun ρ1 S1 => (Fw.run cl wf scs ρ1 S1).sx PE PR X) PR X) : (Fw.run cl wf (sc :: scs) ρ S).sx PE PR X := by
  rw [Fw.run]
  cases h : run1 cl wf sc ρ S with
  | nx ρ1 S1 => rw [h] at k; exact k
  | rt x S1 => rw [h] at k; exact k
  | bk ρ1 S1 => rw [h] at k; exact k
  | ct ρ1 S1 => rw [h] at k; exact k
  | ex e S1 => rw [h] at k; exact k
  | bad => rw [h] at k; exact k
theorem x_asg {tg : Tg} (k : (ev cl false c ρ S).sat fun x S1 => BndV tg x ρ fun ρ1 => PE ρ1 S1) : (run1 cl wf (.asg tg c) ρ S).sx PE PR X := Rs.sx_sat (w_asg k)
theorem x_exp (k : (ev cl false c ρ S).sat fun _ S1 => PE ρ S1) : (run1 cl wf (.exp c) ρ S).sx PE PR X := Rs.sx_sat (w_exp k)
theorem x_ret (k : (ev cl false c ρ S).sat PR) : (run1 cl wf (.ret c) ρ S).sx PE PR X := Rs.sx_sat (w_ret k)
theorem x_ite {xa xb : List Sc} (k : (ev cl true c ρ S).sat fun x S1 => Br x S1 (fun S => (Fw.run cl wf xa ρ S).sx PE PR X) fun S => (Fw.run cl wf xb ρ S).sx PE PR X) : (run1 cl wf (.ite c xa xb) ρ S).sx PE PR X := by
  obtain ⟨x, S1, e, z, rfl, h⟩ := k
  rw [run1, e]
  cases z with
  | true => exact h
  | false => exact h
theorem thenX_sx {r : Rz A} {f : A → Store → Rs} (k : r.sx (fun x S1 => (f x S1).sx PE PR X) X) : (r.thenX f).sx PE PR X := by
  cases r with
  | ok a S => exact k
  | ex e S => exact k
  | bad => exact k
theorem x_asgX {tg : Tg} {x : XC} (k : (xcF cl x ρ S).sx (fun x S1 => BndV tg x ρ fun ρ1 => PE ρ1 S1) X) : (run1 cl wf (.asgX tg x) ρ S).sx PE PR X := by
  rw [run1]
  refine thenX_sx (Rz.sx_mono k (fun y S1 h => ?_) fun _ _ h => h)
  obtain ⟨ρ1, e, h⟩ := h
  rw [e]
  exact h
theorem x_expX {x : XC} (k : (xcF cl x ρ S).sx (fun _ S1 => PE ρ S1) X) : (run1 cl wf (.expX x) ρ S).sx PE PR X := by
  rw [run1]
  exact thenX_sx k
theorem x_retX {x : XC} (k : (xcF cl x ρ S).sx PR X) : (run1 cl wf (.retX x) ρ S).sx PE PR X := by
  rw [run1]
  exact thenX_sx k
theorem x_asgE {tg : Tg} {x : CXx} (k : (evX cl x ρ S).sx (fun x S1 => BndV tg x ρ fun ρ1 => PE ρ1 S1) X) : (run1 cl wf (.asgE tg x) ρ S).sx PE PR X := by
  rw [run1]
  refine thenX_sx (Rz.sx_mono k (fun y S1 h => ?_) fun _ _ h => h)
  obtain ⟨ρ1, e, h⟩ := h
  rw [e]
  exact h
theorem x_expE {x : CXx} (k : (evX cl x ρ S).sx (fun _ S1 => PE ρ S1) X) : (run1 cl wf (.expE x) ρ S).sx PE PR X := by
  rw [run1]
  exact thenX_sx k
theorem x_retE {x : CXx} (k : (evX cl x ρ S).sx PR X) : (run1 cl wf (.retE x) ρ S).sx PE PR X := by
  rw [run1]
  exact thenX_sx k
theorem x_raise1 {x : Xi} {c : C} {attr : Str} (ha : x.attr = some attr) (k : (ev cl false c ρ S).sat fun y S1 => ∃ d, y = .p d ∧ X ⟨x.c, ["code", attr], [.str x.code, d]⟩ S1) : (run1 cl wf (.raise x [c]) ρ S).sx PE PR X := by
  obtain ⟨y, S1, e, d, rfl, h⟩ := k
  have e2 : evs cl [c] ρ S = .ok [.p d] S1 := by
    rw [evs, e]
    rfl
  rw [run1, e2]
  show ((match exnF x [.p d] with
    | some e => Rs.ex e S1
    | none => .bad) : Rs).sx PE PR X
  unfold exnF
  rw [ha]
  exact h
theorem x_for {kk : ItK} {its : List C} {tg : Tg} {xs : List Sc} (k : (evs cl its ρ S).sat fun vs S1 => WlkV kk vs fun items => (forL (bindT tg) (Fw.run cl wf xs) items ρ S1).sx PE PR X) : (run1 cl wf (.for kk its tg xs) ρ S).sx PE PR X := by
  obtain ⟨vs, S1, e, items, e2, h⟩ := k
  rw [run1, e]
  show ((Rz.of (walkF kk vs) S1).then _).sx PE PR X
  rw [e2]
  exact h
theorem x_while {xs : List Sc} (k : (whileL (ev cl true c) (Fw.run cl wf xs) wf ρ S).sx PE PR X) : (run1 cl wf (.while c xs) ρ S).sx PE PR X := by
  rw [run1]
  exact k
theorem x_forNil {bnd : A → Env → Option Env} {body : Env → Store → Rs} (k : PE ρ S) : (forL bnd body [] ρ S).sx PE PR X := by
  rw [forL]
  exact k
theorem x_forCons {bnd : A → Env → Option Env} {body : Env → Store → Rs} {x : A} {xs : List A} {ρ1 : Env} (h : bnd x ρ = some ρ1) (k : (body ρ1 S).sx (fun ρ2 S2 => (forL bnd body xs ρ2 S2).sx PE PR X) PR X) : (forL bnd body (x :: xs) ρ S).sx PE PR X := by
  rw [forL, h]
  dsimp only
  cases hb : body ρ1 S with
  | nx ρ2 S2 => rw [hb] at k; exact k
  | rt y S2 => rw [hb] at k; exact k
  | bk ρ2 S2 => rw [hb] at k; exact k.elim
  | ct ρ2 S2 => rw [hb] at k; exact k.elim
  | ex e S2 => rw [hb] at k; exact k
  | bad => rw [hb] at k; exact k
/-- a while by an invariant and a number that falls -/
theorem while_sx {cond : Env → Store → Rz A} {body : Env → Store → Rs} (I : Nat → Env → Store → Prop) : ∀ (n m : Nat) (ρ : Env) (S : Store), m < n → I m ρ S →
    (∀ m ρ S, I m ρ S → (cond ρ S).sat fun x S1 => Br x S1 (fun S => (body ρ S).sx (fun ρ2 S2 => ∃ m', m' < m ∧ I m' ρ2 S2) PR X) fun S => PE ρ S) → (whileL cond body n ρ S).sx PE PR X
  | 0, m, ρ, S, h, _, _ => by omega
  | n + 1, m, ρ, S, h, hI, hs => by
    rw [whileL]
    obtain ⟨x, S1, e, z, rfl, h1⟩ := hs m ρ S hI
    rw [e]
    cases z with
    | false => exact h1
    | true =>
      show ((match body ρ S1 with
        | .nx ρ2 S2 => whileL cond body n ρ2 S2
        | .ct ρ2 S2 => whileL cond body n ρ2 S2
        | .bk ρ2 S2 => .nx ρ2 S2
        | r => r) : Rs).sx PE PR X
      simp only [if_true] at h1
      cases hb : body ρ S1 with
      | nx ρ2 S2 =>
        rw [hb] at h1
        obtain ⟨m', hm, hI'⟩ := h1
        exact while_sx I n m' ρ2 S2 (by omega) hI' hs
      | rt y S2 => rw [hb] at h1; exact h1
      | bk ρ2 S2 => rw [hb] at h1; exact h1.elim
      | ct ρ2 S2 => rw [hb] at h1; exact h1.elim
      | ex e S2 => rw [hb] at h1; exact h1
      | bad => rw [hb] at h1; exact h1.elim
/-! ### expressions in which a call may raise -/
theorem bind_sx {α β : Type} {r : Rz α} {f : α → Store → Rz β} {P : β → Store → Prop} (k : r.sx (fun x S1 => (f x S1).sx P X) X) : (r.bind f).sx P X := by
  cases r with
  | ok a S => exact k
  | ex e S => exact k
  | bad => exact k
theorem y_p (k : (ev cl false c ρ S).sat P) : (evX cl (.p c) ρ S).sx P X := by
  obtain ⟨y, S1, e, h⟩ := k
  rw [evX, e]
  exact h
theorem y_x {xc : XC} (k : (xcF cl xc ρ S).sx P X) : (evX cl (.x xc) ρ S).sx P X := by
  rw [evX]
  exact k
theorem y_neg {x : CXx} (k : (evX cl x ρ S).sx (fun y S1 => NegV y S1 P) X) : (evX cl (.neg x) ρ S).sx P X := by
  rw [evX]
  refine bind_sx (Rz.sx_mono k (fun y S1 h => ?_) fun _ _ h => h)
  obtain ⟨i, rfl, h⟩ := h
  exact h
theorem y_int {x : CXx} (k : (evX cl x ρ S).sx (fun y S1 => BltV .int [y] S1 P) X) : (evX cl (.int x) ρ S).sx P X := by
  rw [evX]
  refine bind_sx (Rz.sx_mono k (fun y S1 h => ?_) fun _ _ h => h)
  obtain ⟨z, e, h⟩ := h
  rw [e]
  exact h
variable {PL : List A → Store → Prop} {xs : List CXx}
theorem y_nil (k : PL [] S) : (evXs cl [] ρ S).sx PL X := by
  rw [evXs]
  exact k
theorem y_cons {x : CXx} (k : (evX cl x ρ S).sx (fun y S1 => (evXs cl xs ρ S1).sx (fun ys S2 => PL (y :: ys) S2) X) X) : (evXs cl (x :: xs) ρ S).sx PL X := by
  rw [evXs]
  exact bind_sx (Rz.sx_mono k (fun y S1 h => bind_sx h) fun _ _ h => h)
theorem y_tup (k : (evXs cl xs ρ S).sx (fun ys S1 => DspV ys S1 fun ds S => P (.p (.tup ds)) S) X) : (evX cl (.tup xs) ρ S).sx P X := by
  rw [evX]
  refine bind_sx (Rz.sx_mono k (fun y S1 h => ?_) fun _ _ h => h)
  obtain ⟨ds, e, hl, h⟩ := h
  rw [e]
  dsimp only
  rw [if_pos hl]
  exact h
theorem y_lstM (k : (evXs cl xs ρ S).sx (fun ys S1 => DspV ys S1 fun ds S => P (.m S.length) (S ++ [.lst ds])) X) : (evX cl (.lstM xs) ρ S).sx P X := by
  rw [evX]
  refine bind_sx (Rz.sx_mono k (fun y S1 h => ?_) fun _ _ h => h)
  obtain ⟨ds, e, hl, h⟩ := h
  rw [e]
  dsimp only
  rw [if_pos hl]
  exact h
/-- o.append(..) -/
theorem y_app {i j : Nat} {x : CXx} {ys0 : List D} (hi : ρ[i]? = some (some (.m j))) (hs : S[j]? = some (.lst ys0)) (k : (evX cl x ρ S).sx (fun y S1 => ∃ d ys, y = .p d ∧ S1[j]? = some (.lst ys) ∧ ys.length < LIM ∧ P (.p .non) (S1.set j (.lst (ys ++ [d])))) X) : (evX cl (.app (.var i) x) ρ S).sx P X := by
  have e0 : ev cl false (.var i) ρ S = .ok (.m j) S := sat_val (v_var hi ⟨rfl, rfl⟩)
  rw [evX, e0]
  show (if mthTy .append (.m j) S = true then (evX cl x ρ S).bind fun y S2 => mthF .append (.m j) [y] S2 else .bad : Rz A).sx P X
  rw [if_pos (by unfold mthTy; dsimp only; rw [hs])]
  refine bind_sx (Rz.sx_mono k (fun y S1 h => ?_) fun _ _ h => h)
  obtain ⟨d, ys, rfl, e, hl, h⟩ := h
  unfold mthF
  dsimp only
  rw [e]
  dsimp only
  rw [if_pos hl]
  exact h
/-! ### calls -/
theorem z_meth {i j ci fi : Nat} {m : Str} {ds : List D} {ns : List Str} {es : List D} (h : ρ[i]? = some (some (.m j))) (hs : S[j]? = some (.ins ci ns es)) (hn : (ns.any fun n => n == m) = false) (k : (evs cl cs ρ S).sat fun xs S2 => (cl fi (.m j :: (xs ++ ds.map .p)) S2).sx P X) : (xcF cl (.meth ci fi m (.var i) cs ds) ρ S).sx P X := by
  obtain ⟨xs, S2, e, k⟩ := k
  have e0 : ev cl false (.var i) ρ S = .ok (.m j) S := sat_val (v_var h ⟨rfl, rfl⟩)
  rw [xcF, e0]
  show ((match insF (.m j) S with
    | some (c, ns, _) => if (decide (c = ci) && !(ns.any fun n => n == m)) = true then (evs cl cs ρ S).np.bind fun xs S2 => cl fi (.m j :: (xs ++ ds.map .p)) S2 else .bad
    | none => .bad) : Rz A).sx P X
  have ei : insF (.m j) S = some (ci, ns, es) := by
    unfold insF
    dsimp only
    rw [hs]
  rw [ei]
  dsimp only
  rw [hn, decide_eq_true rfl, if_pos (show (true && !false) = true from rfl), e]
  exact k
theorem z_fn {f : Nat} {ds : List D} (k : (evs cl cs ρ S).sat fun xs S1 => (cl f (xs ++ ds.map .p) S1).sx P X) : (xcF cl (.app (.fn f ds) cs) ρ S).sx P X := by
  obtain ⟨xs, S2, e, k⟩ := k
  rw [xcF, e]
  exact k
/-- a method that does not raise, of an instance of the store -/
theorem v_methM {i j ci fi : Nat} {m : Str} {ds : List D} {ns : List Str} {es : List D} (h : ρ[i]? = some (some (.m j))) (hs : S[j]? = some (.ins ci ns es)) (hn : (ns.any fun n => n == m) = false) (k : (evs cl cs ρ S).sat fun xs S2 => (cl fi (.m j :: (xs ++ ds.map .p)) S2).sat P) : (ev cl false (.meth ci fi m (.var i) cs ds) ρ S).sat P :=
  v_meth (v_var h ⟨⟨ns, es, by unfold insF; dsimp only; rw [hs], hn⟩, k⟩)
theorem fin_p {n : Nat} {d : D} {S' : Store} : fin n (.p d) S' = .ok (.p d) (S'.take n) := by
  unfold fin
  split
  · rename_i h
    rw [← h, List.take_length]
  · rfl
/-- a def that gives data or raises -/
theorem sx_call {ft : List Fn} {k f : Nat} {xs : List A} {i : Fn} (h : ft[f]? = some i) (hl : xs.length = i.np) (hr : (Fw.run (callI ft wf k) wf i.code (xs.map some ++ List.replicate (i.nn - i.np) none) S).sx (fun _ S' => P (.p .non) (S'.take S.length)) (fun x S' => isP x = true ∧ P x (S'.take S.length)) fun e S' => X e (S'.take S.length)) :
    (callI ft wf (k + 1) f xs S).sx P X := by
  rw [call_eq h hl]
  cases hq : Fw.run (callI ft wf k) wf i.code (xs.map some ++ List.replicate (i.nn - i.np) none) S with
  | nx ρ2 S2 =>
    rw [hq] at hr
    dsimp only
    rw [fin_p]
    exact hr
  | rt x S2 =>
    rw [hq] at hr
    obtain ⟨h1, h2⟩ := hr
    cases x with
    | p d =>
      dsimp only
      rw [fin_p]
      exact h2
    | m j => cases h1
  | ex e S2 => rw [hq] at hr; exact hr
  | bk ρ2 S2 => rw [hq] at hr; exact hr.elim
  | ct ρ2 S2 => rw [hq] at hr; exact hr.elim
  | bad => rw [hq] at hr; exact hr.elim
theorem v_tupS {fl : List Bool} (k : (evsS cl fl cs ρ S).sat fun xs S1 => DspV xs S1 fun ds S => P (.p (.tup ds)) S) : (ev cl false (.tupS fl cs) ρ S).sat P := by
  rw [ev]
  refine Rz.sat_bind (Rz.sat_mono k fun xs S1 h => ?_)
  obtain ⟨ds, e, hl, h⟩ := h
  rw [e]
  dsimp only
  rw [if_pos hl]
  exact Rz.sat_ok h
theorem v_lstS {fl : List Bool} (k : (evsS cl fl cs ρ S).sat fun xs S1 => DspV xs S1 fun ds S => P (.p (.lst ds)) S) : (ev cl false (.lstS fl cs) ρ S).sat P := by
  rw [ev]
  refine Rz.sat_bind (Rz.sat_mono k fun xs S1 h => ?_)
  obtain ⟨ds, e, hl, h⟩ := h
  rw [e]
  dsimp only
  rw [if_pos hl]
  exact Rz.sat_ok h
theorem v_snil (k : PL [] S) : (evsS cl [] [] ρ S).sat PL := by
  rw [evsS]
  exact Rz.sat_ok k
theorem v_scons {fl : List Bool} (k : (ev cl false c ρ S).sat fun x S1 => (evsS cl fl cs ρ S1).sat fun xs S2 => PL (x :: xs) S2) : (evsS cl (false :: fl) (c :: cs) ρ S).sat PL := by
  rw [evsS]
  exact Rz.sat_bind (Rz.sat_mono k fun x S1 h => Rz.sat_bind (Rz.sat_mono h fun xs S2 h => Rz.sat_ok h))
theorem v_sstar {fl : List Bool} (k : (ev cl false c ρ S).sat fun x S1 => ∃ ds, sqF x S1 = some ds ∧ (evsS cl fl cs ρ S1).sat fun xs S2 => PL (ds.map .p ++ xs) S2) : (evsS cl (true :: fl) (c :: cs) ρ S).sat PL := by
  rw [evsS]
  refine Rz.sat_bind (Rz.sat_mono k fun x S1 h => ?_)
  obtain ⟨ds, e, h⟩ := h
  rw [e]
  exact Rz.sat_bind (Rz.sat_mono h fun xs S2 h => Rz.sat_ok h)
theorem v_slcB {lo hi : C} (k : (ev cl false a ρ S).sat fun x S1 => (ev cl false lo ρ S1).sat fun l S2 => (ev cl false hi ρ S2).sat fun h S3 => SlcV x (some l) (some h) S3 P) : (ev cl false (.slcB a lo hi) ρ S).sat P := by
  rw [ev]
  refine Rz.sat_bind (Rz.sat_mono k fun x S1 h => Rz.sat_bind (Rz.sat_mono h fun l S2 h => Rz.sat_bind (Rz.sat_mono h fun h S3 hh => ?_)))
  obtain ⟨u, l', h', z, rfl, e1, e2, e3, p⟩ := hh
  cases l' with
  | none => cases e1
  | some l' =>
    cases h' with
    | none => cases e2
    | some h' =>
      cases e1
      cases e2
      dsimp only
      rw [e3]
      exact Rz.sat_ok p
theorem s_slcB {u : D} {l h : Int} {z : D} {S : Store} {P : A → Store → Prop} (e : slcF u (some l) (some h) = some z) (k : P (.p z) S) : SlcV (.p u) (some (.p (.int l))) (some (.p (.int h))) S P := ⟨u, some l, some h, z, rfl, rfl, rfl, e, k⟩
end
end Fw

namespace K15
open PySem PySem.Spec PyProof.Rows L2 Fw

def top (i : Nat) : Stmt := PySem.Challenge.pw_fewtell_k15_texts_that_are_no_programs.main.body.getD i (.Pass ⟨0, 0, 0, 0⟩)
def mem (i j : Nat) : Stmt := match top i with
  | .ClassDef _ _ _ b _ _ _ _ _ _ _ => b.getD j (.Pass ⟨0, 0, 0, 0⟩)
  | _ => .Pass ⟨0, 0, 0, 0⟩
def x_InvalidText : Xi := ⟨1, "InvalidText", some ("position" : Str)⟩
def c_g_gcd : List Sc := [.par 2 3 (.blt .abs [(.var 0)]) (.blt .abs [(.var 1)]), .while (.cmp .NotEq (.var 3) (.cst (.int 0))) [.par 2 3 (.var 3) (.bin .Mod (.var 2) (.var 3))], .ret (.var 2)]
def c0 : List Sc := c_g_gcd
def n0 : List Str := ["one", "other", "left", "right"]
def i0 : FI := ⟨"gcd", "gcd", .glob, ["one", "other"], [(2, [])], []⟩
def c_g_read_program (f_m_Reader___init__ : Nat) (f_m_Reader_fail : Nat) (f_m_Reader_read_all : Nat) : List Sc := [.ite (.not (.blt .isi [(.var 0), (.cst (.ty .tStr))])) [.raise x_InvalidText [(.cst (.int 0))]] [], .asg (.nm 1) (.app (.makeM 0 f_m_Reader___init__ []) [(.var 0)]), .asgX (.nm 2) (.meth 0 f_m_Reader_read_all "read_all" (.var 1) [] []), .ite (.cmp .Lt (.fld 0 (.var 1) "at") (.blt .len [(.var 0)])) [.expX (.meth 0 f_m_Reader_fail "fail" (.var 1) [] [])] [], .ret (.var 2)]
def c1 : List Sc := c_g_read_program 7 9 18
def n1 : List Str := ["text", "reader", "found"]
def i1 : FI := ⟨"read_program", "read_program", .glob, ["text"], [(1, [])], []⟩
def c_g__law_source : List Sc := [.ret (.lstM [(.blt .list [(.slcH (.var 0) (.cst (.int 63)))]), (.cst (.int 0)), (.cst (.int 0)), (.cst (.int 12023)), (.cst (.int 0))])]
def c2 : List Sc := c_g__law_source
def n2 : List Str := ["_law_script"]
def i2 : FI := ⟨"_law_source", "_law_source", .glob, ["_law_script"], [(1, [])], []⟩
def c_g__law_draw : List Sc := [.ite (.and (.cmp .Eq (.sub (.var 0) (.cst (.int 2))) (.cst (.int 0))) (.cmp .Lt (.sub (.var 0) (.cst (.int 1))) (.blt .len [(.sub (.var 0) (.cst (.int 0)))]))) [.asg (.nm 3) (.sub (.sub (.var 0) (.cst (.int 0))) (.sub (.var 0) (.cst (.int 1)))), .setI (.var 0) (.cst (.int 1)) (.bin .Add (.sub (.var 0) (.cst (.int 1))) (.cst (.int 1))), .ite (.cmp .GtE (.var 3) (.bin .Pow (.cst (.int 10)) (.cst (.int 18)))) [.setI (.var 0) (.cst (.int 2)) (.var 3)] [.setI (.var 0) (.cst (.int 3)) (.bin .Mod (.blt .int [(.bin .Add (.bin .Add (.bin .Mult (.sub (.var 0) (.cst (.int 3))) (.cst (.int 40487))) (.bin .Mult (.bin .Mod (.blt .int [(.var 3)]) (.cst (.int 2147483587))) (.cst (.int 6113)))) (.cst (.int 97)))]) (.cst (.int 2147483629)))]] [], .ite (.cmp .Gt (.sub (.var 0) (.cst (.int 2))) (.cst (.int 0))) [.asg (.nm 4) (.bin .Mod (.blt .int [(.sub (.var 0) (.cst (.int 2)))]) (.var 1)), .setI (.var 0) (.cst (.int 2)) (.bin .FloorDiv (.sub (.var 0) (.cst (.int 2))) (.var 1)), .ret (.var 4)] [], .setI (.var 0) (.cst (.int 4)) (.bin .Add (.sub (.var 0) (.cst (.int 4))) (.cst (.int 1))), .asg (.nm 2) (.sub (.var 0) (.cst (.int 3))), .setI (.var 0) (.cst (.int 3)) (.bin .Mod (.blt .int [(.bin .Add (.bin .Add (.bin .Add (.bin .Mult (.var 2) (.var 2)) (.bin .Mult (.var 2) (.cst (.int 26399)))) (.bin .Mult (.sub (.var 0) (.cst (.int 4))) (.cst (.int 1000931)))) (.cst (.int 80671)))]) (.cst (.int 2147483629))), .ret (.bin .Mod (.blt .int [(.bin .Add (.bin .FloorDiv (.sub (.var 0) (.cst (.int 3))) (.cst (.int 71))) (.bin .Mult (.bin .Mod (.blt .int [(.sub (.var 0) (.cst (.int 3)))]) (.cst (.int 7919))) (.cst (.int 43))))]) (.var 1))]
def c3 : List Sc := c_g__law_draw
def n3 : List Str := ["_law_src", "_law_many7", "_law_seed", "_law_cell7", "_law_digit"]
def i3 : FI := ⟨"_law_draw", "_law_draw", .glob, ["_law_src", "_law_many7"], [(2, [])], []⟩
def c_g__law_of (f_g__law_draw : Nat) : List Sc := [.ret (.sub (.var 1) (.call f_g__law_draw [(.var 0), (.blt .len [(.var 1)])] []))]
def c4 : List Sc := c_g__law_of 3
def n4 : List Str := ["_law_src", "_law_things7"]
def i4 : FI := ⟨"_law_of", "_law_of", .glob, ["_law_src", "_law_things7"], [(2, [])], []⟩
def c_g__law_word (f_g__law_draw : Nat) (f_g__law_of : Nat) : List Sc := [.ret (.mth .join (.cst (.str "")) [(.comp .range1 [(.bin .Add (.cst (.int 1)) (.call f_g__law_draw [(.var 0), (.var 1)] []))] (.nm 2) [2] none (.call f_g__law_of [(.var 0), (.cst (.str "abcdefghijklmnopqrstuvwxyz"))] []))])]
def c5 : List Sc := c_g__law_word 3 4
def n5 : List Str := ["_law_src", "_law_most", "_law_k"]
def i5 : FI := ⟨"_law_word", "_law_word", .glob, ["_law_src", "_law_most"], [(2, [])], []⟩
def c_g__law_same (f_g__law_same : Nat) : List Sc := [.ite (.isiT (.var 1) [.tLst, .tTup]) [.ite (.or (.cmp .NotEq (.blt .isi [(.var 0), (.cst (.ty .tLst))]) (.blt .isi [(.var 1), (.cst (.ty .tLst))])) (.cmp .NotEq (.blt .isi [(.var 0), (.cst (.ty .tTup))]) (.blt .isi [(.var 1), (.cst (.ty .tTup))]))) [.ret (.cst (.bl false))] [], .ret (.and (.cmp .Eq (.blt .len [(.var 0)]) (.blt .len [(.var 1)])) (.blt .all [(.comp .zip [(.var 0), (.var 1)] (.tp [(.nm 2), (.nm 3)]) [2, 3] none (.call f_g__law_same [(.var 2), (.var 3)] []))]))] [], .ite (.or (.cmp .Is (.var 1) (.cst .non)) (.cmp .Is (.var 0) (.cst .non))) [.ret (.and (.cmp .Is (.var 1) (.cst .non)) (.cmp .Is (.var 0) (.cst .non)))] [], .ite (.or (.cmp .NotEq (.blt .isi [(.var 0), (.cst (.ty .tBool))]) (.blt .isi [(.var 1), (.cst (.ty .tBool))])) (.cmp .NotEq (.blt .isi [(.var 0), (.cst (.ty .tInt))]) (.blt .isi [(.var 1), (.cst (.ty .tInt))]))) [.ret (.cst (.bl false))] [], .ret (.and (.cmp .Eq (.blt .isi [(.var 0), (.cst (.ty .tStr))]) (.blt .isi [(.var 1), (.cst (.ty .tStr))])) (.cmp .Eq (.var 0) (.var 1)))]
def c6 : List Sc := c_g__law_same 6
def n6 : List Str := ["_law_found", "_law_due", "_law_part7", "_law_late7"]
def i6 : FI := ⟨"_law_same", "_law_same", .glob, ["_law_found", "_law_due"], [(2, [])], []⟩
def c_m_Reader___init__ : List Sc := [.setF 0 (.var 0) "text" (.var 1), .setF 0 (.var 0) "at" (.cst (.int 0)), .setF 0 (.var 0) "open_now" (.cst (.int 0))]
def c7 : List Sc := c_m_Reader___init__
def n7 : List Str := ["self", "text"]
def i7 : FI := ⟨"__init__", "Reader.__init__", .meth, ["self", "text"], [(2, [])], []⟩
def c_m_Reader_here : List Sc := [.ret (.slcB (.fld 0 (.var 0) "text") (.fld 0 (.var 0) "at") (.bin .Add (.fld 0 (.var 0) "at") (.cst (.int 1))))]
def c8 : List Sc := c_m_Reader_here
def n8 : List Str := ["self"]
def i8 : FI := ⟨"here", "Reader.here", .meth, ["self"], [(1, [])], []⟩
def c_m_Reader_fail : List Sc := [.raise x_InvalidText [(.fld 0 (.var 0) "at")]]
def c9 : List Sc := c_m_Reader_fail
def n9 : List Str := ["self"]
def i9 : FI := ⟨"fail", "Reader.fail", .meth, ["self"], [(1, [])], []⟩
def c_m_Reader_take (f_m_Reader_fail : Nat) (f_m_Reader_here : Nat) : List Sc := [.for .seq [(.var 1)] (.nm 2) [.ite (.cmp .NotEq (.meth 0 f_m_Reader_here "here" (.var 0) [] []) (.var 2)) [.expX (.meth 0 f_m_Reader_fail "fail" (.var 0) [] [])] [], .augF 0 (.var 0) "at" false (.cst (.int 1))]]
def c10 : List Sc := c_m_Reader_take 9 8
def n10 : List Str := ["self", "words", "sign"]
def i10 : FI := ⟨"take", "Reader.take", .meth, ["self", "words"], [(2, [])], []⟩
def c_m_Reader_read_run (f_m_Reader_fail : Nat) : List Sc := [.asg (.nm 3) (.fld 0 (.var 0) "at"), .while (.and (.cmp .Lt (.fld 0 (.var 0) "at") (.blt .len [(.fld 0 (.var 0) "text")])) (.and (.cmp .In (.sub (.fld 0 (.var 0) "text") (.fld 0 (.var 0) "at")) (.var 1)) (.cmp .Lt (.bin .Sub (.fld 0 (.var 0) "at") (.var 3)) (.var 2)))) [.augF 0 (.var 0) "at" false (.cst (.int 1))], .ite (.cmp .Eq (.fld 0 (.var 0) "at") (.var 3)) [.expX (.meth 0 f_m_Reader_fail "fail" (.var 0) [] [])] [], .ret (.slcB (.fld 0 (.var 0) "text") (.var 3) (.fld 0 (.var 0) "at"))]
def c11 : List Sc := c_m_Reader_read_run 9
def n11 : List Str := ["self", "signs", "most", "start"]
def i11 : FI := ⟨"read_run", "Reader.read_run", .meth, ["self", "signs", "most"], [(3, [])], []⟩
def c_m_Reader_read_name (f_m_Reader_read_run : Nat) : List Sc := [.retX (.meth 0 f_m_Reader_read_run "read_run" (.var 0) [(.cst (.str "abcdefghijklmnopqrstuvwxyz")), (.cst (.int 8))] [])]
def c12 : List Sc := c_m_Reader_read_name 11
def n12 : List Str := ["self"]
def i12 : FI := ⟨"read_name", "Reader.read_name", .meth, ["self"], [(1, [])], []⟩
def c_m_Reader_read_figures (f_m_Reader_fail : Nat) (f_m_Reader_here : Nat) (f_m_Reader_read_run : Nat) : List Sc := [.ite (.cmp .Eq (.meth 0 f_m_Reader_here "here" (.var 0) [] []) (.cst (.str "0"))) [.expX (.meth 0 f_m_Reader_fail "fail" (.var 0) [] [])] [], .retE (.int (.x (.meth 0 f_m_Reader_read_run "read_run" (.var 0) [(.cst (.str "0123456789")), (.cst (.int 9))] [])))]
def c13 : List Sc := c_m_Reader_read_figures 9 8 11
def n13 : List Str := ["self"]
def i13 : FI := ⟨"read_figures", "Reader.read_figures", .meth, ["self"], [(1, [])], []⟩
def c_m_Reader_read_number (f_g_gcd : Nat) (f_m_Reader_here : Nat) (f_m_Reader_read_figures : Nat) : List Sc := [.ite (.cmp .Eq (.meth 0 f_m_Reader_here "here" (.var 0) [] []) (.cst (.str "0"))) [.augF 0 (.var 0) "at" false (.cst (.int 1)), .asg (.nm 3) (.cst (.int 0))] [.ite (.cmp .Eq (.meth 0 f_m_Reader_here "here" (.var 0) [] []) (.cst (.str "-"))) [.augF 0 (.var 0) "at" false (.cst (.int 1)), .asgE (.nm 3) (.neg (.x (.meth 0 f_m_Reader_read_figures "read_figures" (.var 0) [] [])))] [.asgX (.nm 3) (.meth 0 f_m_Reader_read_figures "read_figures" (.var 0) [] [])]], .ite (.cmp .NotEq (.meth 0 f_m_Reader_here "here" (.var 0) [] []) (.cst (.str "/"))) [.ret (.tup [(.cst (.str "num")), (.var 3), (.cst (.int 1))])] [], .augF 0 (.var 0) "at" false (.cst (.int 1)), .asg (.nm 1) (.fld 0 (.var 0) "at"), .asgX (.nm 2) (.meth 0 f_m_Reader_read_figures "read_figures" (.var 0) [] []), .ite (.or (.cmp .Eq (.var 2) (.cst (.int 1))) (.cmp .NotEq (.call f_g_gcd [(.var 3), (.var 2)] []) (.cst (.int 1)))) [.raise x_InvalidText [(.var 1)]] [], .ret (.tup [(.cst (.str "num")), (.var 3), (.var 2)])]
def c14 : List Sc := c_m_Reader_read_number 0 8 13
def n14 : List Str := ["self", "start", "bottom", "top"]
def i14 : FI := ⟨"read_number", "Reader.read_number", .meth, ["self"], [(1, [])], []⟩
def c_m_Reader_read_test (f_m_Reader_fail : Nat) (f_m_Reader_here : Nat) (f_m_Reader_read_name : Nat) (f_m_Reader_read_run : Nat) (f_m_Reader_take : Nat) : List Sc := [.expX (.meth 0 f_m_Reader_take "take" (.var 0) [(.cst (.str "["))] []), .asgX (.nm 1) (.meth 0 f_m_Reader_read_name "read_name" (.var 0) [] []), .asg (.nm 2) (.meth 0 f_m_Reader_here "here" (.var 0) [] []), .ite (.cmp .NotIn (.var 2) (.tup [(.cst (.str "=")), (.cst (.str "~")), (.cst (.str ":")), (.cst (.str "@"))])) [.expX (.meth 0 f_m_Reader_fail "fail" (.var 0) [] [])] [], .augF 0 (.var 0) "at" false (.cst (.int 1)), .asgX (.nm 3) (.meth 0 f_m_Reader_read_name "read_name" (.var 0) [] []), .asg (.nm 4) (.tup [(.cst (.str "same")), (.var 1), (.var 3)]), .ite (.cmp .Eq (.var 2) (.cst (.str "~"))) [.expX (.meth 0 f_m_Reader_take "take" (.var 0) [(.cst (.str ":"))] []), .asgE (.nm 4) (.tup [(.p (.cst (.str "near"))), (.int (.x (.meth 0 f_m_Reader_read_run "read_run" (.var 0) [(.cst (.str "0123")), (.cst (.int 1))] []))), (.p (.var 1)), (.p (.var 3))])] [.ite (.cmp .NotEq (.var 2) (.cst (.str "="))) [.asg (.nm 4) (.tup [(.ite (.cmp .Eq (.var 2) (.cst (.str ":"))) (.cst (.str "part")) (.cst (.str "wave"))), (.var 3), (.var 1)])] []], .expX (.meth 0 f_m_Reader_take "take" (.var 0) [(.cst (.str "]"))] []), .ret (.var 4)]
def c15 : List Sc := c_m_Reader_read_test 9 8 12 11 10
def n15 : List Str := ["self", "one", "sign", "other", "found"]
def i15 : FI := ⟨"read_test", "Reader.read_test", .meth, ["self"], [(1, [])], []⟩
def c_m_Reader_read_word (f_m_Reader_fail : Nat) (f_m_Reader_here : Nat) (f_m_Reader_read_all : Nat) (f_m_Reader_read_name : Nat) (f_m_Reader_take : Nat) : List Sc := [.asgX (.nm 1) (.meth 0 f_m_Reader_read_name "read_name" (.var 0) [] []), .expX (.meth 0 f_m_Reader_take "take" (.var 0) [(.cst (.str "("))] []), .asgE (.nm 2) (.lstM [(.x (.meth 0 f_m_Reader_read_name "read_name" (.var 0) [] []))]), .ite (.and (.cmp .Eq (.var 1) (.cst (.str "sum"))) (.cmp .Eq (.meth 0 f_m_Reader_here "here" (.var 0) [] []) (.cst (.str ":")))) [.ite (.cmp .Eq (.fld 0 (.var 0) "open_now") (.cst (.int 10))) [.expX (.meth 0 f_m_Reader_fail "fail" (.var 0) [] [])] [], .expX (.meth 0 f_m_Reader_take "take" (.var 0) [(.cst (.str ": "))] []), .augF 0 (.var 0) "open_now" false (.cst (.int 1)), .asgE (.nm 3) (.tup [(.p (.cst (.str "sum"))), (.p (.sub (.var 2) (.cst (.int 0)))), (.x (.meth 0 f_m_Reader_read_all "read_all" (.var 0) [] []))]), .augF 0 (.var 0) "open_now" true (.cst (.int 1)), .expX (.meth 0 f_m_Reader_take "take" (.var 0) [(.cst (.str ")"))] []), .ret (.var 3)] [], .while (.and (.cmp .Eq (.meth 0 f_m_Reader_here "here" (.var 0) [] []) (.cst (.str ","))) (.cmp .Lt (.blt .len [(.var 2)]) (.cst (.int 3)))) [.augF 0 (.var 0) "at" false (.cst (.int 1)), .expE (.app (.var 2) (.x (.meth 0 f_m_Reader_read_name "read_name" (.var 0) [] [])))], .expX (.meth 0 f_m_Reader_take "take" (.var 0) [(.cst (.str ")"))] []), .ret (.tup [(.cst (.str "trait")), (.var 1), (.blt .tuple [(.var 2)])])]
def c16 : List Sc := c_m_Reader_read_word 9 8 18 12 10
def n16 : List Str := ["self", "word", "names", "found"]
def i16 : FI := ⟨"read_word", "Reader.read_word", .meth, ["self"], [(1, [])], []⟩
def c_m_Reader_read_group (f_m_Reader_fail : Nat) (f_m_Reader_here : Nat) (f_m_Reader_read_all : Nat) (f_m_Reader_take : Nat) : List Sc := [.ite (.cmp .Eq (.fld 0 (.var 0) "open_now") (.cst (.int 10))) [.expX (.meth 0 f_m_Reader_fail "fail" (.var 0) [] [])] [], .expX (.meth 0 f_m_Reader_take "take" (.var 0) [(.cst (.str "("))] []), .augF 0 (.var 0) "open_now" false (.cst (.int 1)), .asgE (.nm 1) (.lstM [(.x (.meth 0 f_m_Reader_read_all "read_all" (.var 0) [] []))]), .asg (.nm 2) (.cst (.str "")), .ite (.cmp .Eq (.meth 0 f_m_Reader_here "here" (.var 0) [] []) (.cst (.str " "))) [.augF 0 (.var 0) "at" false (.cst (.int 1)), .asg (.nm 2) (.meth 0 f_m_Reader_here "here" (.var 0) [] []), .ite (.cmp .NotIn (.var 2) (.tup [(.cst (.str "+")), (.cst (.str "*"))])) [.expX (.meth 0 f_m_Reader_fail "fail" (.var 0) [] [])] [], .expX (.meth 0 f_m_Reader_take "take" (.var 0) [(.fstr [(.fmt (.var 2)), (.cst (.str " "))])] []), .expE (.app (.var 1) (.x (.meth 0 f_m_Reader_read_all "read_all" (.var 0) [] []))), .while (.and (.cmp .Eq (.meth 0 f_m_Reader_here "here" (.var 0) [] []) (.cst (.str " "))) (.cmp .Lt (.blt .len [(.var 1)]) (.cst (.int 8)))) [.expX (.meth 0 f_m_Reader_take "take" (.var 0) [(.fstr [(.cst (.str " ")), (.fmt (.var 2)), (.cst (.str " "))])] []), .expE (.app (.var 1) (.x (.meth 0 f_m_Reader_read_all "read_all" (.var 0) [] [])))]] [.ite (.cmp .NotIn (.sub (.sub (.var 1) (.cst (.int 0))) (.cst (.int 0))) (.tup [(.cst (.str "num")), (.cst (.str "power"))])) [.expX (.meth 0 f_m_Reader_fail "fail" (.var 0) [] [])] []], .expX (.meth 0 f_m_Reader_take "take" (.var 0) [(.cst (.str ")"))] []), .augF 0 (.var 0) "open_now" true (.cst (.int 1)), .ite (.cmp .Eq (.var 2) (.cst (.str ""))) [.ret (.tup [(.sub (.var 1) (.cst (.int 0))), (.cst (.bl true))])] [], .ret (.tup [(.tupS [false, true] [(.ite (.cmp .Eq (.var 2) (.cst (.str "+"))) (.cst (.str "plus")) (.cst (.str "times"))), (.var 1)]), (.cst (.bl false))])]
def c17 : List Sc := c_m_Reader_read_group 9 8 18 10
def n17 : List Str := ["self", "parts", "sign"]
def i17 : FI := ⟨"read_group", "Reader.read_group", .meth, ["self"], [(1, [])], []⟩
def c_m_Reader_read_all (f_m_Reader_here : Nat) (f_m_Reader_read_group : Nat) (f_m_Reader_read_number : Nat) (f_m_Reader_read_run : Nat) (f_m_Reader_read_test : Nat) (f_m_Reader_read_word : Nat) (f_m_Reader_take : Nat) : List Sc := [.asg (.nm 1) (.meth 0 f_m_Reader_here "here" (.var 0) [] []), .asg (.nm 2) (.cst (.bl false)), .ite (.and (.cmp .NotEq (.var 1) (.cst (.str ""))) (.cmp .In (.var 1) (.cst (.str "-0123456789")))) [.retX (.meth 0 f_m_Reader_read_number "read_number" (.var 0) [] [])] [], .ite (.cmp .Eq (.var 1) (.cst (.str "["))) [.asgX (.nm 3) (.meth 0 f_m_Reader_read_test "read_test" (.var 0) [] [])] [.ite (.cmp .Eq (.var 1) (.cst (.str "("))) [.asgX (.tp [(.nm 3), (.nm 2)]) (.meth 0 f_m_Reader_read_group "read_group" (.var 0) [] [])] [.asgX (.nm 3) (.meth 0 f_m_Reader_read_word "read_word" (.var 0) [] [])]], .ite (.or (.var 2) (.cmp .Eq (.meth 0 f_m_Reader_here "here" (.var 0) [] []) (.cst (.str "^")))) [.expX (.meth 0 f_m_Reader_take "take" (.var 0) [(.cst (.str "^"))] []), .asgE (.nm 3) (.tup [(.p (.cst (.str "power"))), (.p (.var 3)), (.int (.x (.meth 0 f_m_Reader_read_run "read_run" (.var 0) [(.cst (.str "01234")), (.cst (.int 1))] [])))])] [], .ret (.var 3)]
def c18 : List Sc := c_m_Reader_read_all 8 17 14 11 15 16 10
def n18 : List Str := ["self", "sign", "must", "found"]
def i18 : FI := ⟨"read_all", "Reader.read_all", .meth, ["self"], [(1, [])], []⟩
def c_g_law (f_g__law_draw : Nat) (f_g__law_of : Nat) (f_g__law_same : Nat) (f_g__law_source : Nat) (f_g__law_word : Nat) (f_g_read_program : Nat) : List Sc := [.asg (.nm 1) (.call f_g__law_source [(.var 0)] []), .asg (.nm 2) (.call f_g__law_word [(.var 1), (.cst (.int 8))] []), .asg (.nm 3) (.blt .len [(.var 2)]), .asg (.nm 4) (.lst [(.tup [(.cst (.str "")), (.cst (.int 0))]), (.tup [(.cst (.str " 1")), (.cst (.int 0))]), (.tup [(.cst (.str "01")), (.cst (.int 1))]), (.tup [(.cst (.str "-0")), (.cst (.int 1))]), (.tup [(.cst (.str "--1")), (.cst (.int 1))]), (.tup [(.cst (.str "1/1")), (.cst (.int 2))]), (.tup [(.cst (.str "2/4")), (.cst (.int 2))]), (.tup [(.cst (.str "0/3")), (.cst (.int 2))]), (.tup [(.cst (.str "1/")), (.cst (.int 2))]), (.tup [(.cst (.str "1/0")), (.cst (.int 2))]), (.tup [(.cst (.str "3^2")), (.cst (.int 1))]), (.tup [(.cst (.str "1234567890")), (.cst (.int 9))]), (.tup [(.cst (.str "1/1234567890")), (.cst (.int 11))]), (.tup [(.cst (.str "(3)")), (.cst (.int 3))]), (.tup [(.cst (.str "(3)^5")), (.cst (.int 4))]), (.tup [(.cst (.str "(3)^")), (.cst (.int 4))]), (.tup [(.cst (.str "[i=j")), (.cst (.int 4))]), (.tup [(.cst (.str "[i~j:4]")), (.cst (.int 5))]), (.tup [(.cst (.str "[i~j]")), (.cst (.int 4))]), (.tup [(.cst (.str "[i?j]")), (.cst (.int 2))]), (.tup [(.cst (.str "[i@]")), (.cst (.int 3))]), (.tup [(.cst (.str "[I=j]")), (.cst (.int 1))]), (.tup [(.cst (.str "f(i)^2^2")), (.cst (.int 6))]), (.tup [(.cst (.str "f(i)^")), (.cst (.int 5))]), (.tup [(.cst (.str "f()")), (.cst (.int 2))]), (.tup [(.cst (.str "f(i,j,k,l)")), (.cst (.int 7))]), (.tup [(.cst (.str "f(i ,j)")), (.cst (.int 3))]), (.tup [(.cst (.str "f(i:1)")), (.cst (.int 3))]), (.tup [(.cst (.str "sum(i:1)")), (.cst (.int 6))]), (.tup [(.cst (.str "sum(i: 1")), (.cst (.int 8))]), (.tup [(.cst (.str "sum(i,j: 1)")), (.cst (.int 7))]), (.tup [(.cst (.str "(f(i))")), (.cst (.int 5))]), (.tup [(.cst (.str "(1 - 2)")), (.cst (.int 3))]), (.tup [(.cst (.str "(1 + 2 * 3)")), (.cst (.int 7))]), (.tup [(.cst (.str "(1+2)")), (.cst (.int 2))]), (.tup [(.cst (.str "(1 +2)")), (.cst (.int 4))]), (.tup [(.cst (.str "(1 + 2")), (.cst (.int 6))]), (.tup [(.cst (.str "1 + 2")), (.cst (.int 1))]), (.tup [(.cst (.str "f")), (.cst (.int 1))]), (.tup [(.cst (.str "abcdefghi(i)")), (.cst (.int 8))]), (.tup [(.cst (.str "f(abcdefghi)")), (.cst (.int 10))]), (.tup [(.cst (.str "f(i)\n")), (.cst (.int 4))]), (.tup [(.cst (.str "F(i)")), (.cst (.int 0))]), (.tup [(.cst (.str "((3))^2")), (.cst (.int 4))]), (.tup [(.cst (.str "1.5")), (.cst (.int 1))]), (.tup [(.cst (.str "[i=j]^0^1")), (.cst (.int 7))])]), .for .seq [(.var 4)] (.tp [(.nm 12), (.nm 13)]) [.ite (.not (.call f_g__law_same [(.whyA (.fn f_g_read_program []) [(.var 12)]), (.tup [(.cst (.str "InvalidText")), (.var 13)])] [])) [.ret (.cst (.bl false))] []], .asg (.nm 5) (.call f_g__law_draw [(.var 1), (.cst (.int 8))] []), .asg (.tp [(.nm 12), (.nm 13)]) (.call f_g__law_of [(.var 1), (.slcB (.var 4) (.cst (.int 6)) (.cst (.int 30)))] []), .ite (.and (.cmp .NotIn (.var 12) (.lst [(.cst (.str "(3)")), (.cst (.str "f(i)\n"))])) (.cmp .Lt (.var 13) (.blt .len [(.var 12)]))) [.asg (.nm 6) (.bin .Mult (.cst (.str "(")) (.var 5)), .ite (.not (.call f_g__law_same [(.whyA (.fn f_g_read_program []) [(.bin .Add (.var 6) (.var 12))]), (.tup [(.cst (.str "InvalidText")), (.bin .Add (.var 13) (.var 5))])] [])) [.ret (.cst (.bl false))] []] [], .asg (.nm 6) (.bin .Add (.bin .Add (.cst (.str "sum(")) (.var 2)) (.cst (.str ": "))), .asg (.nm 7) (.lst [(.bin .Add (.bin .Mult (.cst (.str "(")) (.cst (.int 10))) (.cst (.str "1"))), (.bin .Add (.bin .Mult (.var 6) (.cst (.int 10))) (.cst (.str "1"))), (.bin .Add (.bin .Mult (.cst (.str "(")) (.cst (.int 11))) (.cst (.str "1"))), (.bin .Add (.bin .Mult (.var 6) (.cst (.int 10))) (.var 6)), (.bin .Add (.bin .Mult (.var 6) (.cst (.int 10))) (.cst (.str "("))), (.bin .Add (.bin .Mult (.var 6) (.cst (.int 10))) (.cst (.str "sum(i)")))]), .asg (.nm 8) (.lst [(.cst (.int 11)), (.bin .Add (.bin .Mult (.cst (.int 10)) (.bin .Add (.var 3) (.cst (.int 6)))) (.cst (.int 1))), (.cst (.int 10)), (.bin .Add (.bin .Add (.bin .Mult (.cst (.int 10)) (.bin .Add (.var 3) (.cst (.int 6)))) (.cst (.int 4))) (.var 3)), (.bin .Mult (.cst (.int 10)) (.bin .Add (.var 3) (.cst (.int 6)))), (.bin .Add (.bin .Mult (.cst (.int 10)) (.bin .Add (.var 3) (.cst (.int 6)))) (.cst (.int 6)))]), .asg (.nm 9) (.comp .seq [(.var 7)] (.nm 14) [14] none (.whyA (.fn f_g_read_program []) [(.var 14)])), .ite (.not (.call f_g__law_same [(.var 9), (.comp .seq [(.var 8)] (.nm 14) [14] none (.tup [(.cst (.str "InvalidText")), (.var 14)]))] [])) [.ret (.cst (.bl false))] [], .asg (.nm 10) (.bin .Add (.bin .Add (.cst (.str "(")) (.mth .join (.cst (.str " + ")) [(.bin .Mult (.lst [(.cst (.str "1"))]) (.cst (.int 8)))])) (.cst (.str ")"))), .asg (.nm 9) (.lst [(.whyA (.fn f_g_read_program []) [(.var 10)]), (.whyA (.fn f_g_read_program []) [(.bin .Add (.slcH (.var 10) (.neg (.cst (.int 1)))) (.cst (.str " + 1)")))])]), .ite (.not (.call f_g__law_same [(.var 9), (.lst [(.tup [(.cst (.str "value")), (.cst .non)]), (.tup [(.cst (.str "InvalidText")), (.bin .Sub (.blt .len [(.var 10)]) (.cst (.int 1)))])])] [])) [.ret (.cst (.bl false))] [], .asg (.nm 11) (.call f_g__law_of [(.var 1), (.lst [(.cst .non), (.cst (.int 3)), (.cst (.bl true)), (.tup []), (.lst [(.cst (.str "1"))]), (.tup [(.cst (.str "num")), (.cst (.int 1)), (.cst (.int 1))])])] []), .ret (.call f_g__law_same [(.lst [(.whyA (.fn f_g_read_program []) [(.var 11)]), (.call f_g_read_program [(.cst (.str "sum(sum)"))] []), (.call f_g_read_program [(.cst (.str "sum(sum: sum(sum))"))] []), (.call f_g_read_program [(.cst (.str "(3)^2"))] []), (.call f_g_read_program [(.cst (.str "((f(i)^2)^0 * -1/2)"))] [])]), (.lst [(.tup [(.cst (.str "InvalidText")), (.cst (.int 0))]), (.tup [(.cst (.str "trait")), (.cst (.str "sum")), (.tup [(.cst (.str "sum"))])]), (.tup [(.cst (.str "sum")), (.cst (.str "sum")), (.tup [(.cst (.str "trait")), (.cst (.str "sum")), (.tup [(.cst (.str "sum"))])])]), (.tup [(.cst (.str "power")), (.tup [(.cst (.str "num")), (.cst (.int 3)), (.cst (.int 1))]), (.cst (.int 2))]), (.tup [(.cst (.str "times")), (.tup [(.cst (.str "power")), (.tup [(.cst (.str "power")), (.tup [(.cst (.str "trait")), (.cst (.str "f")), (.tup [(.cst (.str "i"))])]), (.cst (.int 2))]), (.cst (.int 0))]), (.tup [(.cst (.str "num")), (.neg (.cst (.int 1))), (.cst (.int 2))])])])] [])]
def c19 : List Sc := c_g_law 3 4 6 2 5 1
def n19 : List Str := ["_law_script", "_law_src", "_law_name", "_law_far", "_law_rows", "_law_few", "_law_head", "_law_tens", "_law_ends", "_law_told", "_law_good", "_law_odd", "_law_text", "_law_position", "_law_row"]
def i19 : FI := ⟨"law", "law", .glob, ["_law_script"], [(1, [])], []⟩
def y0 : CI := ⟨"Reader", some 7, [("fail", 9), ("here", 8), ("read_all", 18), ("read_figures", 13), ("read_group", 17), ("read_name", 12), ("read_number", 14), ("read_run", 11), ("read_test", 15), ("read_word", 16), ("take", 10)], ["at", "open_now", "text"], [], []⟩
def T : Tb := ⟨[i0, i1, i2, i3, i4, i5, i6, i7, i8, i9, i10, i11, i12, i13, i14, i15, i16, i17, i18, i19], ["abs", "all", "bool", "int", "isinstance", "len", "list", "range", "str", "tuple", "zip"], [("DIGITS", (.str "0123456789")), ("MOST_FIGURES", (.int 9)), ("MOST_LETTERS", (.int 8)), ("MOST_OPEN", (.int 10)), ("SMALL", (.str "abcdefghijklmnopqrstuvwxyz"))], [y0], [⟨"InvalidText", x_InvalidText⟩], some ("_law_why" : Str)⟩
def ft : List Fn := [⟨2, 4, c0⟩, ⟨1, 3, c1⟩, ⟨1, 1, c2⟩, ⟨2, 5, c3⟩, ⟨2, 2, c4⟩, ⟨2, 3, c5⟩, ⟨2, 4, c6⟩, ⟨2, 2, c7⟩, ⟨1, 1, c8⟩, ⟨1, 1, c9⟩, ⟨2, 3, c10⟩, ⟨3, 4, c11⟩, ⟨1, 1, c12⟩, ⟨1, 1, c13⟩, ⟨1, 4, c14⟩, ⟨1, 5, c15⟩, ⟨1, 4, c16⟩, ⟨1, 3, c17⟩, ⟨1, 4, c18⟩, ⟨1, 15, c19⟩]

abbrev F_g_gcd : Nat := 0
abbrev F_g_read_program : Nat := 1
abbrev F_g__law_source : Nat := 2
abbrev F_g__law_draw : Nat := 3
abbrev F_g__law_of : Nat := 4
abbrev F_g__law_word : Nat := 5
abbrev F_g__law_same : Nat := 6
abbrev F_m_Reader___init__ : Nat := 7
abbrev F_m_Reader_here : Nat := 8
abbrev F_m_Reader_fail : Nat := 9
abbrev F_m_Reader_take : Nat := 10
abbrev F_m_Reader_read_run : Nat := 11
abbrev F_m_Reader_read_name : Nat := 12
abbrev F_m_Reader_read_figures : Nat := 13
abbrev F_m_Reader_read_number : Nat := 14
abbrev F_m_Reader_read_test : Nat := 15
abbrev F_m_Reader_read_word : Nat := 16
abbrev F_m_Reader_read_group : Nat := 17
abbrev F_m_Reader_read_all : Nat := 18
abbrev F_g_law : Nat := 19
theorem k0 : chkSs 200 ⟨T, n0, defScope (top 6), none, false⟩ (defBody (top 6)) c0 = true := by decide +kernel
theorem s0 : FnScope n0 ["one", "other"] (defScope (top 6)) := ⟨rfl, rfl, rfl, by decide +kernel, rfl, by decide +kernel, by decide +kernel⟩
theorem k1 : chkSs 200 ⟨T, n1, defScope (top 14), none, false⟩ (defBody (top 14)) c1 = true := by decide +kernel
theorem s1 : FnScope n1 ["text"] (defScope (top 14)) := ⟨rfl, rfl, rfl, by decide +kernel, rfl, by decide +kernel, by decide +kernel⟩
theorem k2 : chkSs 200 ⟨T, n2, defScope (top 16), none, false⟩ (defBody (top 16)) c2 = true := by decide +kernel
theorem s2 : FnScope n2 ["_law_script"] (defScope (top 16)) := ⟨rfl, rfl, rfl, by decide +kernel, rfl, by decide +kernel, by decide +kernel⟩
theorem k3 : chkSs 200 ⟨T, n3, defScope (top 17), none, false⟩ (defBody (top 17)) c3 = true := by decide +kernel
theorem s3 : FnScope n3 ["_law_src", "_law_many7"] (defScope (top 17)) := ⟨rfl, rfl, rfl, by decide +kernel, rfl, by decide +kernel, by decide +kernel⟩
theorem k4 : chkSs 200 ⟨T, n4, defScope (top 18), none, false⟩ (defBody (top 18)) c4 = true := by decide +kernel
theorem s4 : FnScope n4 ["_law_src", "_law_things7"] (defScope (top 18)) := ⟨rfl, rfl, rfl, by decide +kernel, rfl, by decide +kernel, by decide +kernel⟩
theorem k5 : chkSs 200 ⟨T, n5, defScope (top 19), none, false⟩ (defBody (top 19)) c5 = true := by decide +kernel
theorem s5 : FnScope n5 ["_law_src", "_law_most"] (defScope (top 19)) := ⟨rfl, rfl, rfl, by decide +kernel, rfl, by decide +kernel, by decide +kernel⟩
theorem k6 : chkSs 200 ⟨T, n6, defScope (top 20), none, false⟩ (defBody (top 20)) c6 = true := by decide +kernel
theorem s6 : FnScope n6 ["_law_found", "_law_due"] (defScope (top 20)) := ⟨rfl, rfl, rfl, by decide +kernel, rfl, by decide +kernel, by decide +kernel⟩
theorem k7 : chkSs 200 ⟨T, n7, defScope (mem 13 0), none, false⟩ (defBody (mem 13 0)) c7 = true := by decide +kernel
theorem s7 : FnScope n7 ["self", "text"] (defScope (mem 13 0)) := ⟨rfl, rfl, rfl, by decide +kernel, rfl, by decide +kernel, by decide +kernel⟩
theorem k8 : chkSs 200 ⟨T, n8, defScope (mem 13 1), none, false⟩ (defBody (mem 13 1)) c8 = true := by decide +kernel
theorem s8 : FnScope n8 ["self"] (defScope (mem 13 1)) := ⟨rfl, rfl, rfl, by decide +kernel, rfl, by decide +kernel, by decide +kernel⟩
theorem k9 : chkSs 200 ⟨T, n9, defScope (mem 13 2), none, false⟩ (defBody (mem 13 2)) c9 = true := by decide +kernel
theorem s9 : FnScope n9 ["self"] (defScope (mem 13 2)) := ⟨rfl, rfl, rfl, by decide +kernel, rfl, by decide +kernel, by decide +kernel⟩
theorem k10 : chkSs 200 ⟨T, n10, defScope (mem 13 3), none, false⟩ (defBody (mem 13 3)) c10 = true := by decide +kernel
theorem s10 : FnScope n10 ["self", "words"] (defScope (mem 13 3)) := ⟨rfl, rfl, rfl, by decide +kernel, rfl, by decide +kernel, by decide +kernel⟩
theorem k11 : chkSs 200 ⟨T, n11, defScope (mem 13 4), none, false⟩ (defBody (mem 13 4)) c11 = true := by decide +kernel
theorem s11 : FnScope n11 ["self", "signs", "most"] (defScope (mem 13 4)) := ⟨rfl, rfl, rfl, by decide +kernel, rfl, by decide +kernel, by decide +kernel⟩
theorem k12 : chkSs 200 ⟨T, n12, defScope (mem 13 5), none, false⟩ (defBody (mem 13 5)) c12 = true := by decide +kernel
theorem s12 : FnScope n12 ["self"] (defScope (mem 13 5)) := ⟨rfl, rfl, rfl, by decide +kernel, rfl, by decide +kernel, by decide +kernel⟩
theorem k13 : chkSs 200 ⟨T, n13, defScope (mem 13 6), none, false⟩ (defBody (mem 13 6)) c13 = true := by decide +kernel
theorem s13 : FnScope n13 ["self"] (defScope (mem 13 6)) := ⟨rfl, rfl, rfl, by decide +kernel, rfl, by decide +kernel, by decide +kernel⟩
theorem k14 : chkSs 200 ⟨T, n14, defScope (mem 13 7), none, false⟩ (defBody (mem 13 7)) c14 = true := by decide +kernel
theorem s14 : FnScope n14 ["self"] (defScope (mem 13 7)) := ⟨rfl, rfl, rfl, by decide +kernel, rfl, by decide +kernel, by decide +kernel⟩
theorem k15 : chkSs 200 ⟨T, n15, defScope (mem 13 8), none, false⟩ (defBody (mem 13 8)) c15 = true := by decide +kernel
theorem s15 : FnScope n15 ["self"] (defScope (mem 13 8)) := ⟨rfl, rfl, rfl, by decide +kernel, rfl, by decide +kernel, by decide +kernel⟩
theorem k16 : chkSs 200 ⟨T, n16, defScope (mem 13 9), none, false⟩ (defBody (mem 13 9)) c16 = true := by decide +kernel
theorem s16 : FnScope n16 ["self"] (defScope (mem 13 9)) := ⟨rfl, rfl, rfl, by decide +kernel, rfl, by decide +kernel, by decide +kernel⟩
theorem k17 : chkSs 200 ⟨T, n17, defScope (mem 13 10), none, false⟩ (defBody (mem 13 10)) c17 = true := by decide +kernel
theorem s17 : FnScope n17 ["self"] (defScope (mem 13 10)) := ⟨rfl, rfl, rfl, by decide +kernel, rfl, by decide +kernel, by decide +kernel⟩
theorem k18 : chkSs 200 ⟨T, n18, defScope (mem 13 11), none, false⟩ (defBody (mem 13 11)) c18 = true := by decide +kernel
theorem s18 : FnScope n18 ["self"] (defScope (mem 13 11)) := ⟨rfl, rfl, rfl, by decide +kernel, rfl, by decide +kernel, by decide +kernel⟩
theorem k19 : chkSs 200 ⟨T, n19, defScope (top 23), none, true⟩ (defBody (top 23)) c19 = true := by decide +kernel
theorem s19 : FnScope n19 ["_law_script"] (defScope (top 23)) := ⟨rfl, rfl, rfl, by decide +kernel, rfl, by decide +kernel, by decide +kernel⟩
end K15

namespace K15
open PySem PySem.Spec PyProof.Rows L2 Fw
local macro_rules | `(tactic| walk_at "v") => `(tactic| (repeat (first | ((with_reducible apply Fw.v_var); next => exact rfl) | with_reducible refine Fw.v_bin ?_ | with_reducible refine Fw.v_maxD ?_ | with_reducible refine Fw.v_sub ?_ | with_reducible refine Fw.v_cst ?_ | with_reducible refine Fw.v_cons ?_ | with_reducible refine Fw.v_nil ?_ | with_reducible refine Fw.v_cmp ?_ | with_reducible refine Fw.v_blt ?_ | with_reducible refine Fw.v_neg ?_ | with_reducible refine Fw.v_call ?_ | with_reducible refine Fw.v_callK ?_ | with_reducible refine Fw.v_not ?_ | with_reducible refine Fw.v_chain ?_ | with_reducible refine Fw.v_andT ?_ | with_reducible refine Fw.v_orT ?_ | with_reducible refine Fw.v_and ?_ | with_reducible refine Fw.v_or ?_ | with_reducible refine Fw.v_ite ?_ | with_reducible refine Fw.v_tup ?_ | with_reducible refine Fw.v_lst ?_ | with_reducible refine Fw.v_lstM ?_ | with_reducible refine Fw.v_slcH ?_ | with_reducible refine Fw.v_slcL ?_ | with_reducible refine Fw.v_isiT ?_ | with_reducible refine Fw.v_fstr ?_ | with_reducible refine Fw.v_fmt ?_ | with_reducible refine Fw.v_comp0 ?_ | with_reducible refine Fw.v_comp1 ?_ | with_reducible refine Fw.s_t0 ?_ | with_reducible refine Fw.s_t1 ?_ | with_reducible refine Fw.s_t2 ?_ | with_reducible refine Fw.s_l0 ?_ | with_reducible refine Fw.s_l1 ?_ | with_reducible refine Fw.s_l2 ?_ | with_reducible refine Fw.s_not ?_ | with_reducible refine Fw.s_neg ?_ | with_reducible refine Fw.o_add ?_ | with_reducible refine Fw.o_sub ?_ | with_reducible refine Fw.q_lt ?_ | with_reducible refine Fw.q_le ?_ | with_reducible refine Fw.q_gt ?_ | with_reducible refine Fw.q_ge ?_ | with_reducible refine Fw.q_eq ?_ | with_reducible refine Fw.q_ne ?_ | with_reducible refine Fw.q_eqB ?_ | with_reducible refine Fw.q_neB ?_ | with_reducible refine Fw.q_isN ?_ | with_reducible refine Fw.q_notN ?_ | with_reducible refine Fw.sat_cons ?_ | with_reducible refine Fw.w_asg ?_ | with_reducible refine Fw.w_par ?_ | with_reducible refine Fw.w_parT ?_ | with_reducible refine Fw.w_setI ?_ | with_reducible refine Fw.w_exp ?_ | with_reducible refine Fw.w_ret ?_ | with_reducible refine Fw.v_ccst ?_ | with_reducible refine Fw.v_app ?_ | with_reducible refine Fw.v_whyA ?_ | with_reducible refine Fw.v_fld ?_ | with_reducible refine Fw.w_ite ?_ | with_reducible refine Fw.w_for ?_ | with_reducible refine Fw.w_while ?_ | with_reducible refine Fw.v_tst ?_ | with_reducible refine Fw.x_cons ?_ | with_reducible refine Fw.x_asg ?_ | with_reducible refine Fw.x_exp ?_ | with_reducible refine Fw.x_ret ?_ | with_reducible refine Fw.x_ite ?_ | with_reducible refine Fw.x_asgX ?_ | with_reducible refine Fw.x_expX ?_ | with_reducible refine Fw.x_retX ?_ | with_reducible refine Fw.x_asgE ?_ | with_reducible refine Fw.x_expE ?_ | with_reducible refine Fw.x_retE ?_ | with_reducible refine Fw.x_for ?_ | with_reducible refine Fw.x_while ?_ | with_reducible refine Fw.y_p ?_ | with_reducible refine Fw.y_x ?_ | with_reducible refine Fw.y_neg ?_ | with_reducible refine Fw.y_int ?_ | with_reducible refine Fw.y_nil ?_ | with_reducible refine Fw.y_cons ?_ | with_reducible refine Fw.y_tup ?_ | with_reducible refine Fw.y_lstM ?_ | with_reducible refine Fw.v_tupS ?_ | with_reducible refine Fw.v_lstS ?_ | with_reducible refine Fw.v_snil ?_ | with_reducible refine Fw.v_scons ?_ | with_reducible refine Fw.v_slcB ?_ | ((with_reducible apply Fw.q_inT); next => exact rfl) | ((with_reducible apply Fw.s_sub); next => exact rfl) | ((with_reducible apply Fw.s_blt); next => exact rfl) | ((with_reducible apply Fw.s_tst); next => exact rfl) | ((with_reducible apply Fw.s_isi); next => exact rfl) | ((with_reducible apply Fw.s_asm); next => exact rfl) | ((with_reducible apply Fw.s_bnd); next => exact rfl) | ((with_reducible apply Fw.s_wlk); next => exact rfl) | ((with_reducible apply Fw.s_slcH); next => exact rfl) | ((with_reducible apply Fw.s_slcL); next => exact rfl) | ((with_reducible apply Fw.s_slcB); next => exact rfl) | ((with_reducible apply Fw.s_dsp); (next => exact rfl); (next => exact rfl)) | ((with_reducible apply Fw.s_set); (next => exact rfl); (next => exact rfl)) | ((with_reducible apply Fw.q_eqS); (next => first | exact ofStr_ok _ | assumption); (next => first | exact ofStr_ok _ | assumption)) | ((with_reducible refine Fw.o_mul ?_ ?_); next => first | assumption | exact mul_c (by omega) (by omega) | exact mul_cL (by omega) (by omega)) | ((with_reducible refine Fw.o_mod ?_ ?_); next => first | assumption | omega) | ((with_reducible refine Fw.o_div ?_ ?_); next => first | assumption | decide) | ((with_reducible refine Fw.o_pow ?_ ?_); next => decide))))
local macro_rules | `(tactic| walk_at "y") => `(tactic| (refine br (fun _ => ?_) (fun h => absurd h (by first | exact ft_no | exact tf_no | decide | simp)); walk_at "v"))
local macro_rules | `(tactic| walk_at "n") => `(tactic| (refine br (fun h => absurd h (by first | exact ft_no | exact tf_no | decide | simp)) (fun _ => ?_); (try refine sat_nil ?_); walk_at "v"))
/-- the source of draws as it stands in the store -/
def srcO (cs : List Int) (at_ : Nat) (big seed cnt : Int) : MO := .lst [.lst (cs.map D.int), .int at_, .int big, .int seed, .int cnt]
def Src (R S : Store) : Prop := ∃ (cs : List Int) (at_ : Nat) (big seed cnt : Int), S = srcO cs at_ big seed cnt :: R ∧ 0 ≤ big ∧ 0 ≤ seed ∧ seed < 2147483629 ∧ 0 ≤ cnt
theorem Src.len {R S : Store} (h : Src R S) : S.length = R.length + 1 := by
  obtain ⟨_, _, _, _, _, rfl, _⟩ := h
  rfl
section
variable {ft : List Fn} {wf k : Nat} {R S : Store}
theorem at_sub {cs : List Int} {i : Nat} {S : Store} (h : i < cs.length) : subF (.p (.lst (cs.map D.int))) (.p (.int (i : Int))) S = some (.p (.int cs[i])) := by
  show (atI (cs.map D.int) (i : Int)).map A.p = _
  rw [atI_nat (j := i) (v := D.int cs[i]) (by rw [List.getElem?_map, List.getElem?_eq_getElem h]; rfl)]
  rfl
theorem at_ints {cs : List Int} {i : Nat} (h : i < cs.length) : atI (cs.map D.int) (i : Int) = some (.int cs[i]) := by
  apply atI_nat
  rw [List.getElem?_map, List.getElem?_eq_getElem h]
  rfl
def MidD (R : Store) (m : Int) (ρ : Fw.Env) (S : Store) : Prop := ∃ y, ρ = [some (.m 0), some (.p (.int m)), none, y, none] ∧ Src R S
theorem draw_tail {cl : Nat → List A → Store → Rz A} {m : Int} (h0 : 0 < m) (h9 : divOk m = true) {ρ : Fw.Env} (h : MidD R m ρ S) : (Fw.run cl wf (c_g__law_draw.drop 1) ρ S).sat (fun _ _ => False) fun x S' => S'.length = R.length + 1 ∧ Src R S' ∧ ∃ d : Int, x = .p (.int d) ∧ 0 ≤ d ∧ d < m := by
  obtain ⟨y, rfl, cs, at_, big, seed, cnt, rfl, hb, hs, hs2, hc⟩ := h
  unfold c_g__law_draw srcO
  dsimp only [List.drop]
  have hm : m ≠ 0 := by omega
  walk_at "v"
  refine br (fun h => ?_) (fun h => ?_)
  · walk_at "v"
    exact ⟨rfl, ⟨cs, at_, _, seed, cnt, rfl, Int.fdiv_nonneg hb (by omega), hs, hs2, hc⟩, _, rfl, Int.fmod_nonneg_of_pos _ h0, Int.fmod_lt_of_pos _ h0⟩
  · refine sat_nil ?_
    walk_at "v"
    exact ⟨rfl, ⟨cs, at_, big, _, _, rfl, hb, Int.fmod_nonneg_of_pos _ (by decide), Int.fmod_lt_of_pos _ (by decide), by omega⟩, _, rfl, Int.fmod_nonneg_of_pos _ h0, Int.fmod_lt_of_pos _ h0⟩
theorem draw_ok {f : Nat} (hf : ft[f]? = some ⟨2, 5, c_g__law_draw⟩) (hS : Src R S) {m : Int} (h0 : 0 < m) (h9 : divOk m = true) : (callI ft wf (k + 1) f [.m 0, .p (.int m)] S).sat fun x S' => Src R S' ∧ ∃ d : Int, x = .p (.int d) ∧ 0 ≤ d ∧ d < m := by
  obtain ⟨cs, at_, big, seed, cnt, rfl, hb, hs, hs2, hc⟩ := hS
  refine sat_call hf rfl ?_
  show (Fw.run _ wf c_g__law_draw [some (.m 0), some (.p (.int m)), none, none, none] _).sat _ _
  unfold c_g__law_draw
  refine sat_cons (Rs.sat_mono (P := MidD R m) (R := fun _ _ => False) ?_ (fun ρ S h => draw_tail h0 h9 h) (fun _ _ h => h.elim))
  unfold srcO
  walk_at "v"
  refine br (fun h => ?_) (fun h => ?_)
  · walk_at "v"
    refine br (fun h => ?_) (fun h => ?_)
    · have hlt : at_ < cs.length := by
        have := of_decide_eq_true h
        rw [List.length_map] at this
        omega
      refine sat_cons (w_asg ?_)
      walk_at "v"
      refine s_sub (at_sub hlt) ?_
      walk_at "v"
      refine br (fun h => ?_) (fun h => ?_)
      · walk_at "v"
        refine sat_nil (sat_nil ⟨_, rfl, cs, at_ + 1, _, seed, cnt, rfl, ?_, hs, hs2, hc⟩)
        have := of_decide_eq_true h
        exact Int.le_trans (by decide) this
      · walk_at "v"
        exact sat_nil (sat_nil ⟨_, rfl, cs, at_ + 1, big, _, cnt, rfl, hb, Int.fmod_nonneg_of_pos _ (by decide), Int.fmod_lt_of_pos _ (by decide), hc⟩)
    · exact sat_nil ⟨_, rfl, cs, at_, big, seed, cnt, rfl, hb, hs, hs2, hc⟩
  · walk_at "v"
    exact br (fun h => by cases h) (fun h => sat_nil ⟨_, rfl, cs, at_, big, seed, cnt, rfl, hb, hs, hs2, hc⟩)
/-- something of the list -/
theorem of_ok {f g : Nat} (hf : ft[f]? = some ⟨2, 5, c_g__law_draw⟩) (hg : ft[g]? = some ⟨2, 2, c_g__law_of f⟩) (hS : Src R S) {ds : List D} (h0 : 0 < ds.length) (h9 : ds.length < 1000) : (callI ft wf (k + 2) g [.m 0, .p (.lst ds)] S).sat fun x S' => Src R S' ∧ ∃ d ∈ ds, x = .p d := by
  refine sat_call hg rfl ?_
  show (Fw.run _ wf (c_g__law_of f) [some (.m 0), some (.p (.lst ds))] _).sat _ _
  unfold c_g__law_of
  walk_at "v"
  refine Rz.sat_mono (draw_ok hf hS (by omega) (div_ok (b := 10) (by omega) (by rw [Int.natAbs_natCast]; omega) (by decide) (by decide))) ?_
  rintro x S' ⟨hS', d, rfl, hd0, hd1⟩
  obtain ⟨n, rfl⟩ := Int.eq_ofNat_of_zero_le hd0
  have hn : n < ds.length := by omega
  refine s_sub (z := .p ds[n]) ?_ ⟨by rw [hS.len, hS'.len], hS', _, List.getElem_mem hn, rfl⟩
  show (atI ds (n : Int)).map A.p = _
  rw [atI_nat (j := n) (List.getElem?_eq_getElem hn)]
  rfl
end
/-! ### _law_same -/
def Pl : Nat → D → Prop
  | 0, _ => False
  | _ + 1, .non => True
  | _ + 1, .bl _ => True
  | _ + 1, .int _ => True
  | _ + 1, .str x => PyData.strOk x = true
  | n + 1, .tup ds => ds.length < LIM ∧ ∀ d ∈ ds, Pl n d
  | n + 1, .lst ds => ds.length < LIM ∧ ∀ d ∈ ds, Pl n d
  | _ + 1, _ => False
theorem bls_true {α : Type} : ∀ l : List α, D.bls (l.map fun _ => D.bl true) = some (l.map fun _ => true)
  | [] => rfl
  | _ :: l => by
    rw [List.map_cons, D.bls, bls_true l]
    rfl
theorem zip_self {α : Type} {f : D → D → α} {P : α → Prop} : ∀ ds : List D, (∀ d ∈ ds, P (f d d)) → ∀ x ∈ List.zipWith f ds ds, P x
  | [], _, x, hx => by cases hx
  | d :: ds, h, x, hx => by
    rw [List.zipWith_cons_cons, List.mem_cons] at hx
    rcases hx with rfl | hx
    · exact h d (List.mem_cons_self ..)
    · exact zip_self ds (fun d hd => h d (List.mem_cons_of_mem _ hd)) x hx
section
variable {ft : List Fn} {wf : Nat} {S : Store}
theorem zip_comp {k f : Nat} {ds : List D} {ρ : Fw.Env} (hl : ds.length < LIM) (hρ : ρ.length = 4) (ih : ∀ d ∈ ds, callI ft wf k f [.p d, .p d] S = .ok (.p (.bl true)) S) :
    (compL (fun x => bindT (.tp [.nm 2, .nm 3]) x (wipeE ρ [2, 3])) (fun _ S => .ok (.p (.bl true)) S) (ev (callI ft wf k) false (.call f [.var 2, .var 3] [])) (List.zipWith (fun a b => A.p (.tup [a, b])) ds ds) S).sat fun es S2 => es.length < LIM ∧ BltV .all [.p (.lst es)] S2 fun x S' => S' = S ∧ x = .p (.bl true) := by
  rw [comp_map (fun _ => D.bl true) (S := S)]
  · refine Rz.sat_ok ⟨by rw [List.length_map, List.length_zipWith]; omega, ?_⟩
    refine s_blt (z := .p (.bl true)) ?_ ⟨rfl, rfl⟩
    show (D.bls _).map _ = _
    rw [bls_true]
    simp
  · refine zip_self ds fun d hd => ?_
    match ρ, hρ with
    | [a, b, c, e], _ =>
      refine ⟨[a, b, some (.p d), some (.p d)], rfl, ?_⟩
      refine sat_val ?_
      walk_at "v"
      exact Rz.sat_eq (ih d hd) ⟨rfl, rfl⟩
theorem same_ok {f : Nat} (hf : ft[f]? = some ⟨2, 4, c_g__law_same f⟩) : ∀ (n : Nat) (d : D), Pl n d → ∀ k, n ≤ k → callI ft wf k f [.p d, .p d] S = .ok (.p (.bl true)) S := by
  intro n
  induction n with
  | zero => exact fun d h => h.elim
  | succ n ih =>
    intro d hd k hk
    obtain ⟨k, rfl⟩ : ∃ j, k = j + 1 := ⟨k - 1, by omega⟩
    refine call_val hf rfl ?_
    show (Fw.run _ wf (c_g__law_same f) [some (.p d), some (.p d), none, none] _).sat _ _
    unfold c_g__law_same
    cases d with
    | non =>
      walk_at "v"
      walk_at "n"
      walk_at "y"
      walk_at "y"
      walk_at "y"
      exact ⟨rfl, rfl⟩
    | bl b =>
      walk_at "v"
      walk_at "n"
      walk_at "n"
      walk_at "n"
      walk_at "n"
      walk_at "n"
      walk_at "y"
      refine ⟨?_, rfl⟩; simp; done
    | int i =>
      walk_at "v"
      walk_at "n"
      walk_at "n"
      walk_at "n"
      walk_at "n"
      walk_at "n"
      walk_at "y"
      refine ⟨?_, rfl⟩; simp; done
    | str x =>
      walk_at "v"
      walk_at "n"
      walk_at "n"
      walk_at "n"
      walk_at "n"
      walk_at "n"
      walk_at "y"
      refine ⟨?_, rfl⟩
      simp
    | tup ds =>
      walk_at "v"
      walk_at "y"
      walk_at "n"
      walk_at "n"
      walk_at "y"
      exact Rz.sat_mono (zip_comp hd.1 rfl fun d h => ih d (hd.2 d h) k (by omega)) fun es S2 h => ⟨h.1, by
        refine v_nil ?_
        obtain ⟨z, e, h1, h2⟩ := h.2
        exact ⟨z, e, h2, h1⟩⟩
    | lst ds =>
      walk_at "v"
      walk_at "y"
      walk_at "n"
      walk_at "n"
      walk_at "y"
      exact Rz.sat_mono (zip_comp hd.1 rfl fun d h => ih d (hd.2 d h) k (by omega)) fun es S2 h => ⟨h.1, by
        refine v_nil ?_
        obtain ⟨z, e, h1, h2⟩ := h.2
        exact ⟨z, e, h2, h1⟩⟩
    | scr ns => exact hd.elim
    | fn i => exact hd.elim
    | ty t => exact hd.elim
    | ins c ns ds => exact hd.elim
    | kl c => exact hd.elim
end
/-! ### names -/
abbrev abc : Str := "abcdefghijklmnopqrstuvwxyz"
def low (c : Nat) : Bool := decide (c ∈ abc.cps.toList)
def Nm (x : Str) : Prop := 1 ≤ x.length ∧ x.length ≤ 8 ∧ x.cps.toList.all low = true
theorem low_lt {c : Nat} (h : low c = true) : c < 128 := by
  have : ∀ c ∈ abc.cps.toList, c < 128 := by decide +kernel
  exact this c (of_decide_eq_true h)
theorem strOk_of {x : Str} (h : x.cps.toList.all low = true) : PyData.strOk x = true := by
  unfold PyData.strOk
  rw [Array.all_eq_true_iff_forall_mem]
  intro c hc
  rw [List.all_eq_true] at h
  have := low_lt (h c (by simpa using hc))
  exact decide_eq_true (by omega)
theorem Nm.ok {x : Str} (h : Nm x) : PyData.strOk x = true := strOk_of h.2.2
section
variable {wf : Nat} {R S : Store}
theorem wlk_range {j : Int} (h0 : 0 ≤ j) (h1 : j < 1000) : walkF .range1 [.p (.int j)] = some ((List.range j.toNat).map fun i => .p (.int (0 + (i : Nat)))) := by
  have e : (2 : Int) ^ 62 = 4611686018427387904 := by decide
  show (if rgB j then some _ else none) = _
  rw [if_pos (rgB_iff.mpr (by rw [e]; exact ⟨by omega, by omega⟩))]
theorem abc_len : abc.length = 26 := by decide +kernel
theorem ofS_ok {k : Nat} (hS : Src R S) : (callI ft wf (k + 2) F_g__law_of [.m 0, .p (.str abc)] S).sat fun x S' => Src R S' ∧ ∃ d, x = .p d ∧ ∃ c, d = .str ⟨#[c]⟩ ∧ low c = true := by
  refine sat_call rfl rfl ?_
  show (Fw.run _ wf (c_g__law_of F_g__law_draw) [some (.m 0), some (.p (.str abc))] _).sat _ _
  unfold c_g__law_of
  refine sat_cons (w_ret (v_sub (v_var rfl (v_call (v_cons (v_var rfl (v_cons (v_blt (v_cons (v_var rfl (v_nil ?_)))))))))))
  refine s_blt (z := .p (.int 26)) ?_ (v_nil ?_)
  · simp [bltF, abc_len, LIM]
  refine Rz.sat_mono (draw_ok rfl hS (by decide) (by decide)) ?_
  rintro x S' ⟨hS', d, rfl, hd0, hd1⟩
  obtain ⟨n, rfl⟩ := Int.eq_ofNat_of_zero_le hd0
  have hl : abc.cps.toList.length = 26 := abc_len
  have hn : n < abc.cps.toList.length := by omega
  refine s_sub (z := .p (.str ⟨#[abc.cps.toList[n]]⟩)) ?_ ⟨by rw [hS.len, hS'.len], hS', _, rfl, _, rfl, decide_eq_true (List.getElem_mem hn)⟩
  show (if abc.length ≤ LIM then (atI abc.cps.toList (n : Int)).map (fun c => A.p (.str ⟨#[c]⟩)) else none) = _
  rw [if_pos (by rw [abc_len]; decide), atI_nat (j := n) (List.getElem?_eq_getElem hn)]
  rfl
theorem strs_of : ∀ ds : List D, (∀ (j : Nat) d, ds[j]? = some d → ∃ c, d = .str ⟨#[c]⟩ ∧ low c = true) → ∃ cs : List Nat, D.strs ds = some (cs.map fun c => ⟨#[c]⟩) ∧ cs.length = ds.length ∧ cs.all low = true
  | [], _ => ⟨[], rfl, rfl, rfl⟩
  | d :: ds, h => by
    obtain ⟨c, rfl, hc⟩ := h 0 d rfl
    obtain ⟨cs, h1, h2, h3⟩ := strs_of ds fun j d hd => h (j + 1) d hd
    exact ⟨c :: cs, by rw [D.strs, h1]; rfl, by simp [h2], by simp [hc, h3]⟩
theorem app_list (x y : Str) : (x ++ y).cps.toList = x.cps.toList ++ y.cps.toList := by
  show (x.cps ++ y.cps).toList = _
  rw [Array.toList_append]
theorem str_ext {x y : Str} (h : x.cps.toList = y.cps.toList) : x = y := by
  obtain ⟨a⟩ := x
  obtain ⟨b⟩ := y
  rw [show a = b from Array.toList_inj.mp h]
theorem join_list : ∀ cs : List Nat, (Str.join "" (cs.map fun c => (⟨#[c]⟩ : Str))).cps.toList = cs
  | [] => rfl
  | [c] => rfl
  | c :: d :: cs => by
    show ((⟨#[c]⟩ : Str) ++ "" ++ Str.join "" ((d :: cs).map fun c => (⟨#[c]⟩ : Str))).cps.toList = _
    rw [app_list, app_list, join_list (d :: cs)]
    rfl
theorem join_chars (cs : List Nat) : Txt.join "" (cs.map fun c => (⟨#[c]⟩ : Str)) = ⟨cs.toArray⟩ := by
  refine str_ext ?_
  show (Builtin.Str.glued _ _).cps.toList = _
  rw [StrLaws.glued_eq_join, join_list]
theorem word_ok {k : Nat} (hS : Src R S) : (callI ft wf (k + 3) F_g__law_word [.m 0, .p (.int 8)] S).sat fun x S' => Src R S' ∧ ∃ d, x = .p d ∧ ∃ y : Str, d = .str y ∧ Nm y := by
  refine sat_call rfl rfl ?_
  show (Fw.run _ wf (c_g__law_word F_g__law_draw F_g__law_of) [some (.m 0), some (.p (.int 8)), none] _).sat _ _
  unfold c_g__law_word
  refine sat_cons (w_ret (v_mth (v_cst ⟨rfl, v_cons ?_⟩)))
  walk_at "v"
  refine Rz.sat_mono (draw_ok rfl hS (by decide) (by decide)) ?_
  rintro _ S1 ⟨hS1, m, rfl, hm0, hm1⟩
  walk_at "v"
  refine s_wlk (wlk_range (by omega) (by omega)) ?_
  refine Rz.sat_mono (comp_sat (Src R) (fun _ d => ∃ c, d = .str ⟨#[c]⟩ ∧ low c = true) _ 0 S1 hS1 ?_) ?_
  · intro j x S _ hS
    refine ⟨_, rfl, ?_⟩
    walk_at "v"
    exact ofS_ok hS
  rintro ds S2 ⟨hS2, hl, hR⟩
  rw [List.length_map, List.length_range] at hl
  have eL : LIM = 100000 := rfl
  refine ⟨by omega, v_nil ?_⟩
  obtain ⟨cs, h1, h2, h3⟩ := strs_of ds hR
  have e0 : ("" : Str).length = 0 := by decide
  refine ⟨.p (.str (Txt.join "" (cs.map fun c => ⟨#[c]⟩))), S2, ?_, by rw [hS.len, hS2.len], hS2, _, rfl, _, rfl, ?_⟩
  · show (match D.strs ds with
      | some ys => if (ys.map fun y : Str => y.length).sum + ys.length * ("" : Str).length ≤ LIM then Rz.ok (A.p (.str (Txt.join "" ys))) S2 else .bad
      | none => .bad) = _
    rw [h1]
    show (if ((cs.map fun c => (⟨#[c]⟩ : Str)).map fun y : Str => y.length).sum + (cs.map fun c => (⟨#[c]⟩ : Str)).length * ("" : Str).length ≤ LIM then Rz.ok (A.p (.str (Txt.join "" (cs.map fun c => ⟨#[c]⟩)))) S2 else .bad) = _
    have es : ∀ cs : List Nat, ((cs.map fun c => (⟨#[c]⟩ : Str)).map fun y : Str => y.length).sum = cs.length := by
      intro cs
      induction cs with
      | nil => rfl
      | cons c cs ih =>
        rw [List.map_cons, List.map_cons, List.sum_cons, ih, List.length_cons]
        show 1 + cs.length = _
        omega
    rw [if_pos (by rw [e0, es]; omega)]
  · rw [join_chars]
    refine ⟨?_, ?_, ?_⟩
    · show 1 ≤ cs.toArray.size
      rw [List.size_toArray]
      omega
    · show cs.toArray.size ≤ 8
      rw [List.size_toArray]
      omega
    · show cs.toArray.toList.all low = true
      exact h3
end
end K15

namespace K15
open PySem PySem.Spec PyProof.Rows L2 Fw
local macro_rules | `(tactic| walk_at "v") => `(tactic| (repeat (first | ((with_reducible apply Fw.v_var); next => exact rfl) | with_reducible refine Fw.v_bin ?_ | with_reducible refine Fw.v_maxD ?_ | with_reducible refine Fw.v_sub ?_ | with_reducible refine Fw.v_cst ?_ | with_reducible refine Fw.v_cons ?_ | with_reducible refine Fw.v_nil ?_ | with_reducible refine Fw.v_cmp ?_ | with_reducible refine Fw.v_blt ?_ | with_reducible refine Fw.v_neg ?_ | with_reducible refine Fw.v_call ?_ | with_reducible refine Fw.v_callK ?_ | with_reducible refine Fw.v_not ?_ | with_reducible refine Fw.v_chain ?_ | with_reducible refine Fw.v_andT ?_ | with_reducible refine Fw.v_orT ?_ | with_reducible refine Fw.v_and ?_ | with_reducible refine Fw.v_or ?_ | with_reducible refine Fw.v_ite ?_ | with_reducible refine Fw.v_tup ?_ | with_reducible refine Fw.v_lst ?_ | with_reducible refine Fw.v_lstM ?_ | with_reducible refine Fw.v_slcH ?_ | with_reducible refine Fw.v_slcL ?_ | with_reducible refine Fw.v_isiT ?_ | with_reducible refine Fw.v_fstr ?_ | with_reducible refine Fw.v_fmt ?_ | with_reducible refine Fw.v_comp0 ?_ | with_reducible refine Fw.v_comp1 ?_ | with_reducible refine Fw.s_t0 ?_ | with_reducible refine Fw.s_t1 ?_ | with_reducible refine Fw.s_t2 ?_ | with_reducible refine Fw.s_l0 ?_ | with_reducible refine Fw.s_l1 ?_ | with_reducible refine Fw.s_l2 ?_ | with_reducible refine Fw.s_not ?_ | with_reducible refine Fw.s_neg ?_ | with_reducible refine Fw.o_add ?_ | with_reducible refine Fw.o_sub ?_ | with_reducible refine Fw.q_lt ?_ | with_reducible refine Fw.q_le ?_ | with_reducible refine Fw.q_gt ?_ | with_reducible refine Fw.q_ge ?_ | with_reducible refine Fw.q_eq ?_ | with_reducible refine Fw.q_ne ?_ | with_reducible refine Fw.q_eqB ?_ | with_reducible refine Fw.q_neB ?_ | with_reducible refine Fw.q_isN ?_ | with_reducible refine Fw.q_notN ?_ | with_reducible refine Fw.sat_cons ?_ | with_reducible refine Fw.w_asg ?_ | with_reducible refine Fw.w_par ?_ | with_reducible refine Fw.w_parT ?_ | with_reducible refine Fw.w_setI ?_ | with_reducible refine Fw.w_exp ?_ | with_reducible refine Fw.w_ret ?_ | with_reducible refine Fw.v_ccst ?_ | with_reducible refine Fw.v_app ?_ | with_reducible refine Fw.v_whyA ?_ | with_reducible refine Fw.v_fld ?_ | with_reducible refine Fw.w_ite ?_ | with_reducible refine Fw.w_for ?_ | with_reducible refine Fw.w_while ?_ | with_reducible refine Fw.v_tst ?_ | with_reducible refine Fw.x_cons ?_ | with_reducible refine Fw.x_asg ?_ | with_reducible refine Fw.x_exp ?_ | with_reducible refine Fw.x_ret ?_ | with_reducible refine Fw.x_ite ?_ | with_reducible refine Fw.x_asgX ?_ | with_reducible refine Fw.x_expX ?_ | with_reducible refine Fw.x_retX ?_ | with_reducible refine Fw.x_asgE ?_ | with_reducible refine Fw.x_expE ?_ | with_reducible refine Fw.x_retE ?_ | with_reducible refine Fw.x_for ?_ | with_reducible refine Fw.x_while ?_ | with_reducible refine Fw.y_p ?_ | with_reducible refine Fw.y_x ?_ | with_reducible refine Fw.y_neg ?_ | with_reducible refine Fw.y_int ?_ | with_reducible refine Fw.y_nil ?_ | with_reducible refine Fw.y_cons ?_ | with_reducible refine Fw.y_tup ?_ | with_reducible refine Fw.y_lstM ?_ | with_reducible refine Fw.v_tupS ?_ | with_reducible refine Fw.v_lstS ?_ | with_reducible refine Fw.v_snil ?_ | with_reducible refine Fw.v_scons ?_ | with_reducible refine Fw.v_slcB ?_ | ((with_reducible apply Fw.q_inT); next => exact rfl) | ((with_reducible apply Fw.s_sub); next => exact rfl) | ((with_reducible apply Fw.s_blt); next => exact rfl) | ((with_reducible apply Fw.s_tst); next => exact rfl) | ((with_reducible apply Fw.s_isi); next => exact rfl) | ((with_reducible apply Fw.s_asm); next => exact rfl) | ((with_reducible apply Fw.s_bnd); next => exact rfl) | ((with_reducible apply Fw.s_wlk); next => exact rfl) | ((with_reducible apply Fw.s_slcH); next => exact rfl) | ((with_reducible apply Fw.s_slcL); next => exact rfl) | ((with_reducible apply Fw.s_slcB); next => exact rfl) | ((with_reducible apply Fw.s_dsp); (next => exact rfl); (next => exact rfl)) | ((with_reducible apply Fw.s_set); (next => exact rfl); (next => exact rfl)) | ((with_reducible apply Fw.q_eqS); (next => first | exact ofStr_ok _ | assumption); (next => first | exact ofStr_ok _ | assumption)) | ((with_reducible refine Fw.o_mul ?_ ?_); next => first | assumption | exact mul_c (by omega) (by omega) | exact mul_cL (by omega) (by omega)) | ((with_reducible refine Fw.o_mod ?_ ?_); next => first | assumption | omega) | ((with_reducible refine Fw.o_div ?_ ?_); next => first | assumption | decide) | ((with_reducible refine Fw.o_pow ?_ ?_); next => decide))))
local macro_rules | `(tactic| walk_at "y") => `(tactic| (refine br (fun _ => ?_) (fun h => absurd h (by first | exact ft_no | exact tf_no | decide | simp)); walk_at "v"))
local macro_rules | `(tactic| walk_at "n") => `(tactic| (refine br (fun h => absurd h (by first | exact ft_no | exact tf_no | decide | simp)) (fun _ => ?_); (try refine sat_nil ?_); walk_at "v"))
/-! ### the reader -/
def rdr (t : Str) (i o : Nat) : MO := .ins 0 ["text", "at", "open_now"] [.str t, .int i, .int o]
def St (A R : Store) (t : Str) (i o : Nat) : Store := A ++ rdr t i o :: R
def tl (t : Str) : List Nat := t.cps.toList
structure TxOk (t : Str) : Prop where
  len : (tl t).length ≤ 5000
  ok : ∀ c ∈ tl t, c < 128
section
variable {A R Q : Store} {t t' : Str} {i i' o o' : Nat} {x y : MO}
theorem St.at : (St A R t i o)[A.length]? = some (rdr t i o) := by
  unfold St
  rw [List.getElem?_append_right (Nat.le_refl _), Nat.sub_self]
  rfl
theorem St.set : (St A R t i o).set A.length (rdr t' i' o') = St A R t' i' o' := by
  unfold St
  rw [List.set_append_right _ _ (Nat.le_refl _), Nat.sub_self]
  rfl
theorem St.app : St A R t i o ++ [x] = St A (R ++ [x]) t i o := by
  unfold St
  rw [List.append_assoc]
  rfl
theorem St.len : (St A R t i o).length = A.length + 1 + R.length := by
  unfold St
  rw [List.length_append, List.length_cons]
  omega
theorem St.cut : (St A (R ++ Q) t i o).take (St A R t' i' o').length = St A R t i o := by
  rw [St.len]
  unfold St
  rw [List.take_append, List.take_of_length_le (by omega), show A.length + 1 + R.length - A.length = R.length + 1 by omega, List.take_succ_cons, List.take_left]
theorem St.cut0 : (St A R t i o).take (St A R t' i' o').length = St A R t i o := by
  rw [St.len, ← St.len (t := t) (i := i) (o := o), List.take_length]
theorem St.last : (St A (R ++ [x]) t i o)[A.length + 1 + R.length]? = some x := by
  unfold St
  rw [List.getElem?_append_right (by omega), show A.length + 1 + R.length - A.length = R.length + 1 by omega, List.getElem?_cons_succ, List.getElem?_append_right (Nat.le_refl _), Nat.sub_self]
  rfl
theorem St.setl : (St A (R ++ [x]) t i o).set (A.length + 1 + R.length) y = St A (R ++ [y]) t i o := by
  unfold St
  rw [List.set_append_right _ _ (by omega), show A.length + 1 + R.length - A.length = R.length + 1 by omega, List.set_cons_succ, List.set_append_right _ _ (Nat.le_refl _), Nat.sub_self]
  rfl
variable {P : Fw.A → Store → Prop}
theorem fl_text (k : P (.p (.str t)) (St A R t i o)) : FldV 0 (.m A.length) "text" (St A R t i o) P := ⟨["text", "at", "open_now"], [.str t, .int i, .int o], .str t, by unfold insF; dsimp only; rw [St.at]; rfl, by kernel_rfl, k⟩
theorem fl_at (k : P (.p (.int i)) (St A R t i o)) : FldV 0 (.m A.length) "at" (St A R t i o) P := ⟨["text", "at", "open_now"], [.str t, .int i, .int o], .int i, by unfold insF; dsimp only; rw [St.at]; rfl, by kernel_rfl, k⟩
theorem fl_open (k : P (.p (.int o)) (St A R t i o)) : FldV 0 (.m A.length) "open_now" (St A R t i o) P := ⟨["text", "at", "open_now"], [.str t, .int i, .int o], .int o, by unfold insF; dsimp only; rw [St.at]; rfl, by kernel_rfl, k⟩
end
/-! ### what it reads, in plain words -/
inductive RR (α : Type) where
  | ok (a : α) (i : Nat) | er (p : Nat)
def RR.bind {α β : Type} (r : RR α) (f : α → Nat → RR β) : RR β := match r with
  | .ok a i => f a i
  | .er p => .er p
def chS : Option Nat → Str
  | some c => ⟨#[c]⟩
  | none => ""
def sS (l : List Nat) : Str := ⟨l.toArray⟩
def abcL : List Nat := ("abcdefghijklmnopqrstuvwxyz" : Str).cps.toList
def digL : List Nat := ("0123456789" : Str).cps.toList
def numB : Option Nat → Bool
  | some c => decide (c ∈ ("-0123456789" : Str).cps.toList)
  | none => false
section
variable (L : List Nat)
def pTake : List Nat → Nat → RR Unit
  | [], i => .ok () i
  | w :: ws, i => if L[i]? = some w then pTake ws (i + 1) else .er i
def runLen (signs : List Nat) : Nat → List Nat → Nat
  | 0, _ => 0
  | _ + 1, [] => 0
  | m + 1, c :: l => if c ∈ signs then runLen signs m l + 1 else 0
def pRun (signs : List Nat) (most i : Nat) : RR (List Nat) := if runLen signs most (L.drop i) = 0 then .er i else .ok ((L.drop i).take (runLen signs most (L.drop i))) (i + runLen signs most (L.drop i))
def pName (i : Nat) : RR (List Nat) := pRun L abcL 8 i
def pFig (i : Nat) : RR Nat := if L[i]? = some 48 then .er i else (pRun L digL 9 i).bind fun ds i => .ok (NumText.digitsVal ds) i
def pNumT (top : Int) (i1 : Nat) : RR D := if L[i1]? = some 47 then (pFig L (i1 + 1)).bind fun bot i2 => if bot = 1 ∨ Int.gcd top bot ≠ 1 then .er (i1 + 1) else .ok (.tup [.str "num", .int top, .int bot]) i2
  else .ok (.tup [.str "num", .int top, .int 1]) i1
def pNum (i : Nat) : RR D := (if L[i]? = some 48 then RR.ok (0 : Int) (i + 1) else if L[i]? = some 45 then (pFig L (i + 1)).bind fun n i => .ok (-(n : Int)) i else (pFig L i).bind fun n i => .ok (n : Int) i).bind fun top i1 => pNumT L top i1
def pTest (i : Nat) : RR D := (pTake L [91] i).bind fun _ i1 => (pName L i1).bind fun one i2 =>
  if L[i2]? ∈ [some 61, some 126, some 58, some 64] then (pName L (i2 + 1)).bind fun other i3 =>
    (if L[i2]? = some 126 then (pTake L [58] i3).bind fun _ i4 => (pRun L [48, 49, 50, 51] 1 i4).bind fun ds i5 => .ok (.tup [.str "near", .int (NumText.digitsVal ds : Nat), .str (sS one), .str (sS other)]) i5
     else if L[i2]? = some 61 then .ok (.tup [.str "same", .str (sS one), .str (sS other)]) i3
     else .ok (.tup [.str (if L[i2]? = some 58 then "part" else "wave"), .str (sS other), .str (sS one)]) i3).bind fun found i6 => (pTake L [93] i6).bind fun _ i7 => .ok found i7
  else .er i2
def pNames : Nat → List (List Nat) → Nat → RR (List (List Nat))
  | 0, acc, i => .ok acc i
  | m + 1, acc, i => if L[i]? = some 44 then (pName L (i + 1)).bind fun nm i1 => pNames m (acc ++ [nm]) i1 else .ok acc i
def pWord (rc : Option (Nat → RR D)) (i : Nat) : RR D := (pName L i).bind fun word i1 => (pTake L [40] i1).bind fun _ i2 => (pName L i2).bind fun nm i3 =>
  if word = [115, 117, 109] ∧ L[i3]? = some 58 then (match rc with
    | none => .er i3
    | some f => (pTake L [58, 32] i3).bind fun _ i4 => (f i4).bind fun body i5 => (pTake L [41] i5).bind fun _ i6 => .ok (.tup [.str "sum", .str (sS nm), body]) i6)
  else (pNames L 2 [nm] i3).bind fun names i4 => (pTake L [41] i4).bind fun _ i5 => .ok (.tup [.str "trait", .str (sS word), .tup (names.map fun n => .str (sS n))]) i5
def hdS : D → Str
  | .tup (.str x :: _) => x
  | _ => ""
def pMore (f : Nat → RR D) (sg : Nat) : Nat → List D → Nat → RR (List D)
  | 0, ps, i => .ok ps i
  | m + 1, ps, i => if L[i]? = some 32 then (pTake L [32, sg, 32] i).bind fun _ i1 => (f i1).bind fun p i2 => pMore f sg m (ps ++ [p]) i2 else .ok ps i
def pGroup (rc : Option (Nat → RR D)) (i : Nat) : RR (D × Bool) := match rc with
  | none => .er i
  | some f => (pTake L [40] i).bind fun _ i1 => (f i1).bind fun p0 i2 =>
    if L[i2]? = some 32 then (match L[i2 + 1]? with
      | some sg => if sg = 43 ∨ sg = 42 then (pTake L [sg, 32] (i2 + 1)).bind fun _ i3 => (f i3).bind fun p1 i4 => (pMore L f sg 6 [p0, p1] i4).bind fun ps i5 => (pTake L [41] i5).bind fun _ i6 => .ok (.tup (.str (if sg = 43 then "plus" else "times") :: ps), false) i6 else .er (i2 + 1)
      | none => .er (i2 + 1))
    else if hdS p0 = "num" ∨ hdS p0 = "power" then (pTake L [41] i2).bind fun _ i3 => .ok (p0, true) i3 else .er i2
def pAll (rc : Option (Nat → RR D)) (i : Nat) : RR D := if numB L[i]? = true then pNum L i else
  (if L[i]? = some 91 then (pTest L i).bind fun d i => .ok (d, false) i else if L[i]? = some 40 then pGroup L rc i else (pWord L rc i).bind fun d i => .ok (d, false) i).bind fun fm i1 =>
    if fm.2 = true ∨ L[i1]? = some 94 then (pTake L [94] i1).bind fun _ i2 => (pRun L [48, 49, 50, 51, 52] 1 i2).bind fun ds i3 => .ok (.tup [.str "power", fm.1, .int (NumText.digitsVal ds : Nat)]) i3
    else .ok fm.1 i1
def rd : Nat → Nat → RR D
  | 0, i => pAll L none i
  | n + 1, i => pAll L (some (rd n)) i
def pProg : RR D := (rd L 10 0).bind fun d i => if i < L.length then .er i else .ok d i
end
end K15

namespace K15
open PySem PySem.Spec PyProof.Rows L2 Fw
local macro_rules | `(tactic| walk_at "v") => `(tactic| (repeat (first | ((with_reducible apply Fw.v_var); next => exact rfl) | with_reducible refine Fw.v_bin ?_ | with_reducible refine Fw.v_maxD ?_ | with_reducible refine Fw.v_sub ?_ | with_reducible refine Fw.v_cst ?_ | with_reducible refine Fw.v_cons ?_ | with_reducible refine Fw.v_nil ?_ | with_reducible refine Fw.v_cmp ?_ | with_reducible refine Fw.v_blt ?_ | with_reducible refine Fw.v_neg ?_ | with_reducible refine Fw.v_call ?_ | with_reducible refine Fw.v_callK ?_ | with_reducible refine Fw.v_not ?_ | with_reducible refine Fw.v_chain ?_ | with_reducible refine Fw.v_andT ?_ | with_reducible refine Fw.v_orT ?_ | with_reducible refine Fw.v_and ?_ | with_reducible refine Fw.v_or ?_ | with_reducible refine Fw.v_ite ?_ | with_reducible refine Fw.v_tup ?_ | with_reducible refine Fw.v_lst ?_ | with_reducible refine Fw.v_lstM ?_ | with_reducible refine Fw.v_slcH ?_ | with_reducible refine Fw.v_slcL ?_ | with_reducible refine Fw.v_isiT ?_ | with_reducible refine Fw.v_fstr ?_ | with_reducible refine Fw.v_fmt ?_ | with_reducible refine Fw.v_comp0 ?_ | with_reducible refine Fw.v_comp1 ?_ | with_reducible refine Fw.s_t0 ?_ | with_reducible refine Fw.s_t1 ?_ | with_reducible refine Fw.s_t2 ?_ | with_reducible refine Fw.s_l0 ?_ | with_reducible refine Fw.s_l1 ?_ | with_reducible refine Fw.s_l2 ?_ | with_reducible refine Fw.s_not ?_ | with_reducible refine Fw.s_neg ?_ | with_reducible refine Fw.o_add ?_ | with_reducible refine Fw.o_sub ?_ | with_reducible refine Fw.q_lt ?_ | with_reducible refine Fw.q_le ?_ | with_reducible refine Fw.q_gt ?_ | with_reducible refine Fw.q_ge ?_ | with_reducible refine Fw.q_eq ?_ | with_reducible refine Fw.q_ne ?_ | with_reducible refine Fw.q_eqB ?_ | with_reducible refine Fw.q_neB ?_ | with_reducible refine Fw.q_isN ?_ | with_reducible refine Fw.q_notN ?_ | with_reducible refine Fw.sat_cons ?_ | with_reducible refine Fw.w_asg ?_ | with_reducible refine Fw.w_par ?_ | with_reducible refine Fw.w_parT ?_ | with_reducible refine Fw.w_setI ?_ | with_reducible refine Fw.w_exp ?_ | with_reducible refine Fw.w_ret ?_ | with_reducible refine Fw.v_ccst ?_ | with_reducible refine Fw.v_app ?_ | with_reducible refine Fw.v_whyA ?_ | with_reducible refine Fw.v_fld ?_ | with_reducible refine Fw.w_ite ?_ | with_reducible refine Fw.w_for ?_ | with_reducible refine Fw.w_while ?_ | with_reducible refine Fw.v_tst ?_ | with_reducible refine Fw.x_cons ?_ | with_reducible refine Fw.x_asg ?_ | with_reducible refine Fw.x_exp ?_ | with_reducible refine Fw.x_ret ?_ | with_reducible refine Fw.x_ite ?_ | with_reducible refine Fw.x_asgX ?_ | with_reducible refine Fw.x_expX ?_ | with_reducible refine Fw.x_retX ?_ | with_reducible refine Fw.x_asgE ?_ | with_reducible refine Fw.x_expE ?_ | with_reducible refine Fw.x_retE ?_ | with_reducible refine Fw.x_for ?_ | with_reducible refine Fw.x_while ?_ | with_reducible refine Fw.y_p ?_ | with_reducible refine Fw.y_x ?_ | with_reducible refine Fw.y_neg ?_ | with_reducible refine Fw.y_int ?_ | with_reducible refine Fw.y_nil ?_ | with_reducible refine Fw.y_cons ?_ | with_reducible refine Fw.y_tup ?_ | with_reducible refine Fw.y_lstM ?_ | with_reducible refine Fw.v_tupS ?_ | with_reducible refine Fw.v_lstS ?_ | with_reducible refine Fw.v_snil ?_ | with_reducible refine Fw.v_scons ?_ | with_reducible refine Fw.v_slcB ?_ | ((with_reducible apply Fw.q_inT); next => exact rfl) | ((with_reducible apply Fw.s_sub); next => exact rfl) | ((with_reducible apply Fw.s_blt); next => exact rfl) | ((with_reducible apply Fw.s_tst); next => exact rfl) | ((with_reducible apply Fw.s_isi); next => exact rfl) | ((with_reducible apply Fw.s_asm); next => exact rfl) | ((with_reducible apply Fw.s_bnd); next => exact rfl) | ((with_reducible apply Fw.s_wlk); next => exact rfl) | ((with_reducible apply Fw.s_slcH); next => exact rfl) | ((with_reducible apply Fw.s_slcL); next => exact rfl) | ((with_reducible apply Fw.s_slcB); next => exact rfl) | ((with_reducible apply Fw.s_dsp); (next => exact rfl); (next => exact rfl)) | ((with_reducible apply Fw.s_set); (next => exact rfl); (next => exact rfl)) | ((with_reducible apply Fw.q_eqS); (next => first | exact ofStr_ok _ | assumption); (next => first | exact ofStr_ok _ | assumption)) | ((with_reducible refine Fw.o_mul ?_ ?_); next => first | assumption | exact mul_c (by omega) (by omega) | exact mul_cL (by omega) (by omega)) | ((with_reducible refine Fw.o_mod ?_ ?_); next => first | assumption | omega) | ((with_reducible refine Fw.o_div ?_ ?_); next => first | assumption | decide) | ((with_reducible refine Fw.o_pow ?_ ?_); next => decide))))
local macro_rules | `(tactic| walk_at "y") => `(tactic| (refine br (fun _ => ?_) (fun h => absurd h (by first | exact ft_no | exact tf_no | decide | simp)); walk_at "v"))
local macro_rules | `(tactic| walk_at "n") => `(tactic| (refine br (fun h => absurd h (by first | exact ft_no | exact tf_no | decide | simp)) (fun _ => ?_); (try refine sat_nil ?_); walk_at "v"))
/-! ### the reader's methods: here, fail, take, runs -/
def xT (p : Nat) : Exn := ⟨x_InvalidText.c, ["code", "position"], [.str "InvalidText", .int p]⟩
def SpR {α : Type} (A R : Store) (t : Str) (o : Nat) (emb : α → D) (r : RR α) (z : Rz Fw.A) : Prop := match r with
  | .ok a i => z = .ok (.p (emb a)) (St A R t i o)
  | .er p => ∃ i' o', z = .ex (xT p) (St A R t i' o')
section
variable {A R : Store} {t : Str} {o : Nat} {α : Type} {emb : α → D} {r : RR α} {z : Rz Fw.A} {P : Fw.A → Store → Prop} {X : Exn → Store → Prop}
theorem SpR.use (h : SpR A R t o emb r z) (k1 : ∀ a i, r = .ok a i → P (.p (emb a)) (St A R t i o)) (k2 : ∀ p i' o', r = .er p → X (xT p) (St A R t i' o')) : z.sx P X := by
  cases r with
  | ok a i =>
    have h : z = _ := h
    rw [h]
    exact k1 a i rfl
  | er p =>
    obtain ⟨i', o', h⟩ := h
    rw [h]
    exact k2 p i' o' rfl
theorem SpR.of (h : z.sx (fun x S' => ∃ a i, r = .ok a i ∧ x = .p (emb a) ∧ S' = St A R t i o) fun e S' => ∃ p i' o', r = .er p ∧ e = xT p ∧ S' = St A R t i' o') : SpR A R t o emb r z := by
  cases z with
  | ok x S =>
    obtain ⟨a, i, rfl, rfl, rfl⟩ := h
    rfl
  | ex e S =>
    obtain ⟨p, i', o', rfl, rfl, rfl⟩ := h
    exact ⟨i', o', rfl⟩
  | bad => exact h.elim
end
theorem strOk_asc {x : Str} (h : ∀ c ∈ x.cps.toList, c < 128) : PyData.strOk x = true := by
  unfold PyData.strOk
  rw [Array.all_eq_true_iff_forall_mem]
  intro c hc
  have := h c (Array.mem_toList_iff.mpr hc)
  simp
  omega
theorem cut_mid (z : Str) (a b : Nat) : (cutS z (some (a : Int)) (some (b : Int))).cps.toList = (z.cps.toList.drop a).take (b - a) := by
  unfold cutS
  dsimp only
  rw [HT.sIx_nat, HT.sIx_nat]
  show List.take (min b z.cps.size - min a z.cps.size) (List.drop (min a z.cps.size) z.cps.toList) = _
  rw [← Array.length_toList]
  by_cases h : a ≤ z.cps.toList.length
  · rw [Nat.min_eq_left h]
    by_cases h2 : b ≤ z.cps.toList.length
    · rw [Nat.min_eq_left h2]
    · rw [Nat.min_eq_right (by omega), List.take_of_length_le (by rw [List.length_drop]; omega), List.take_of_length_le (by rw [List.length_drop]; omega)]
  · rw [List.drop_eq_nil_of_le (show z.cps.toList.length ≤ min a z.cps.toList.length by omega), List.drop_eq_nil_of_le (show z.cps.toList.length ≤ a by omega), List.take_nil, List.take_nil]
theorem chS_list (h : Option Nat) : (chS h).cps.toList = h.toList := by
  cases h with
  | none => rfl
  | some c => rfl
theorem cut_here (z : Str) (i : Nat) : cutS z (some (i : Int)) (some ((i : Int) + 1)) = chS (tl z)[i]? := by
  refine str_ext ?_
  rw [show ((i : Int) + 1) = ((i + 1 : Nat) : Int) from rfl, cut_mid, chS_list, Nat.add_sub_cancel_left]
  unfold tl
  cases h : z.cps.toList[i]? with
  | none =>
    rw [List.drop_eq_nil_of_le (List.getElem?_eq_none_iff.mp h)]
    rfl
  | some c =>
    obtain ⟨hl, e⟩ := List.getElem?_eq_some_iff.mp h
    rw [List.drop_eq_getElem_cons hl, e]
    rfl
theorem sOk_ch {t : Str} (ht : TxOk t) (i : Nat) : PyData.strOk (chS (tl t)[i]?) = true := by
  cases h : (tl t)[i]? with
  | none => exact ofStr_ok _
  | some c => exact strOk_asc (by intro d hd; rw [List.mem_singleton.mp hd]; exact ht.ok c (List.mem_of_getElem? h))
theorem one_ok {c : Nat} (h : c < 128) : PyData.strOk ⟨#[c]⟩ = true := strOk_asc (by intro d hd; rw [List.mem_singleton.mp hd]; exact h)
theorem ch_eq (h : Option Nat) (c : Nat) : (chS h == (⟨#[c]⟩ : Str)) = decide (h = some c) := by
  cases h with
  | none =>
    rw [decide_eq_false (by simp)]
    rw [beq_eq_false_iff_ne]
    intro e
    have := congrArg (fun s : Str => s.cps.toList.length) e
    cases this
  | some d =>
    by_cases hd : d = c
    · subst hd
      rw [decide_eq_true rfl]
      exact beq_self_eq_true _
    · rw [decide_eq_false (by simpa using hd)]
      rw [beq_eq_false_iff_ne]
      intro e
      have := congrArg (fun s : Str => s.cps.toList) e
      exact hd (by simpa [chS] using this)
section
variable {wf k : Nat} {A R : Store} {t : Str} {i o : Nat} {ρ : Fw.Env} {P : Fw.A → Store → Prop} {X : Exn → Store → Prop} {PE : Fw.Env → Store → Prop} {PR : Fw.A → Store → Prop} {S : Store} {cl : Nat → List Fw.A → Store → Rz Fw.A}
/-- here() compared with a written sign -/
theorem q_ch {c : Nat} {y : Str} (ht : TxOk t) (hy : y = ⟨#[c]⟩) (hc : c < 128) (k : P (.p (.bl (decide ((tl t)[i]? = some c)))) S) : CmpV .Eq (.p (.str (chS (tl t)[i]?))) (.p (.str y)) S P := by
  subst hy
  refine ⟨_, eqF_str (sOk_ch ht i) (one_ok hc), ?_⟩
  rw [ch_eq]
  exact k
theorem q_nch {c : Nat} {y : Str} (ht : TxOk t) (hy : y = ⟨#[c]⟩) (hc : c < 128) (k : P (.p (.bl (!decide ((tl t)[i]? = some c)))) S) : CmpV .NotEq (.p (.str (chS (tl t)[i]?))) (.p (.str y)) S P := by
  subst hy
  refine ⟨!decide ((tl t)[i]? = some c), ?_, k⟩
  show cmpF .NotEq (.str (chS (tl t)[i]?)) (.str ⟨#[c]⟩) = _
  rw [cmp_ne, eqF_str (sOk_ch ht i) (one_ok hc), ch_eq]
  rfl
theorem here_ok (ht : TxOk t) : callI ft wf (k + 1) F_m_Reader_here [.m A.length] (St A R t i o) = .ok (.p (.str (chS (tl t)[i]?))) (St A R t i o) := by
  have eL : LIM = 100000 := rfl
  refine call_val rfl rfl ?_
  show (Fw.run _ wf c_m_Reader_here [some (.m A.length)] _).sat _ _
  unfold c_m_Reader_here
  walk_at "v"
  refine fl_text ?_
  walk_at "v"
  refine fl_at ?_
  walk_at "v"
  refine fl_at ?_
  walk_at "v"
  refine s_slcB (z := .str (chS (tl t)[i]?)) ?_ ⟨rfl, rfl⟩
  show (if t.length ≤ LIM then some (D.str (cutS t (some (i : Int)) (some ((i : Int) + 1)))) else none) = _
  have : t.length = (tl t).length := (Array.length_toList).symm
  rw [if_pos (by have := ht.len; omega), cut_here]
theorem no_here : ((["text", "at", "open_now"] : List Str).any fun n => n == ("here" : Str)) = false := by decide +kernel
theorem no_fail : ((["text", "at", "open_now"] : List Str).any fun n => n == ("fail" : Str)) = false := by decide +kernel
theorem no_take : ((["text", "at", "open_now"] : List Str).any fun n => n == ("take" : Str)) = false := by decide +kernel
theorem no_run : ((["text", "at", "open_now"] : List Str).any fun n => n == ("read_run" : Str)) = false := by decide +kernel
theorem no_name : ((["text", "at", "open_now"] : List Str).any fun n => n == ("read_name" : Str)) = false := by decide +kernel
theorem no_figures : ((["text", "at", "open_now"] : List Str).any fun n => n == ("read_figures" : Str)) = false := by decide +kernel
theorem no_number : ((["text", "at", "open_now"] : List Str).any fun n => n == ("read_number" : Str)) = false := by decide +kernel
theorem no_test : ((["text", "at", "open_now"] : List Str).any fun n => n == ("read_test" : Str)) = false := by decide +kernel
theorem no_word : ((["text", "at", "open_now"] : List Str).any fun n => n == ("read_word" : Str)) = false := by decide +kernel
theorem no_group : ((["text", "at", "open_now"] : List Str).any fun n => n == ("read_group" : Str)) = false := by decide +kernel
theorem no_all : ((["text", "at", "open_now"] : List Str).any fun n => n == ("read_all" : Str)) = false := by decide +kernel
theorem m_here (ht : TxOk t) (h : ρ[0]? = some (some (.m A.length))) (kk : P (.p (.str (chS (tl t)[i]?))) (St A R t i o)) : (ev (callI ft wf (k + 1)) false (.meth 0 F_m_Reader_here "here" (.var 0) [] []) ρ (St A R t i o)).sat P :=
  v_methM h St.at no_here (v_nil (Rz.sat_eq (here_ok ht) kk))
theorem m_call {fi : Nat} {m : Str} {cs : List C} (h : ρ[0]? = some (some (.m A.length))) (hn : ((["text", "at", "open_now"] : List Str).any fun n => n == m) = false) (k : (evs cl cs ρ (St A R t i o)).sat fun xs S2 => (cl fi (.m A.length :: (xs ++ [])) S2).sx P X) : (xcF cl (.meth 0 fi m (.var 0) cs []) ρ (St A R t i o)).sx P X :=
  z_meth h St.at hn k
theorem put_at {n : Int} {j : Nat} (hj : n = (j : Nat)) : putN "at" (.int n) ["text", "at", "open_now"] [.str t, .int i, .int o] = ((["text", "at", "open_now"] : List Str), [D.str t, .int j, .int o]) := by
  rw [hj]
  kernel_rfl
theorem put_op {n : Int} {j : Nat} (hj : n = (j : Nat)) : putN "open_now" (.int n) ["text", "at", "open_now"] [.str t, .int i, .int o] = ((["text", "at", "open_now"] : List Str), [D.str t, .int i, .int j]) := by
  rw [hj]
  kernel_rfl
theorem x_aug {n : Str} {sb : Bool} {a b : Int} {c : C} (h : ρ[0]? = some (some (.m A.length))) (hg : getN n ["text", "at", "open_now"] [.str t, .int i, .int o] = some (.int a)) (hv : ev cl false c ρ (St A R t i o) = .ok (.p (.int b)) (St A R t i o))
    (kk : PE ρ ((St A R t i o).set A.length (.ins 0 (putN n (.int (if sb then a - b else a + b)) ["text", "at", "open_now"] [.str t, .int i, .int o]).1 (putN n (.int (if sb then a - b else a + b)) ["text", "at", "open_now"] [.str t, .int i, .int o]).2))) : (run1 cl wf (.augF 0 (.var 0) n sb c) ρ (St A R t i o)).sx PE PR X := by
  have e0 : ev cl false (.var 0) ρ (St A R t i o) = .ok (.m A.length) (St A R t i o) := sat_val (v_var h ⟨rfl, rfl⟩)
  rw [run1, e0]
  show ((match (St A R t i o)[A.length]? with
      | some (.ins c' ns ds) => if c' = 0 then (match getN n ns ds with
        | some (.int i1) => (ev cl false c ρ (St A R t i o)).then fun y S2 => match y, S2[A.length]? with
          | .p (.int k), some (.ins c' ns' ds') => if c' = 0 ∧ ns'.length < 900 then .nx ρ (S2.set A.length (.ins c' (putN n (.int (if sb then i1 - k else i1 + k)) ns' ds').1 (putN n (.int (if sb then i1 - k else i1 + k)) ns' ds').2)) else .bad
          | _, _ => .bad
        | _ => .bad) else .bad
      | _ => .bad) : Rs).sx PE PR X
  rw [St.at]
  unfold rdr
  dsimp only
  rw [if_pos rfl, hg]
  dsimp only
  rw [hv]
  show ((match Fw.A.p (.int b), (St A R t i o)[A.length]? with
          | .p (.int k), some (.ins c' ns' ds') => if c' = 0 ∧ ns'.length < 900 then .nx ρ ((St A R t i o).set A.length (.ins c' (putN n (.int (if sb then a - k else a + k)) ns' ds').1 (putN n (.int (if sb then a - k else a + k)) ns' ds').2)) else .bad
          | _, _ => .bad) : Rs).sx PE PR X
  rw [St.at]
  unfold rdr
  dsimp only
  rw [if_pos ⟨rfl, by show 3 < 900; decide⟩]
  exact kk
theorem x_at (h : ρ[0]? = some (some (.m A.length))) (kk : PE ρ (St A R t (i + 1) o)) : (run1 cl wf (.augF 0 (.var 0) "at" false (.cst (.int 1))) ρ (St A R t i o)).sx PE PR X := by
  refine x_aug (a := i) (b := 1) h (by kernel_rfl) (sat_val (v_cst ⟨rfl, rfl⟩)) ?_
  rw [put_at (j := i + 1) (by simp)]
  have := St.set (A := A) (R := R) (t := t) (i := i) (o := o) (t' := t) (i' := i + 1) (o' := o)
  unfold rdr at this
  dsimp only
  rw [this]
  exact kk
theorem x_opP (h : ρ[0]? = some (some (.m A.length))) (kk : PE ρ (St A R t i (o + 1))) : (run1 cl wf (.augF 0 (.var 0) "open_now" false (.cst (.int 1))) ρ (St A R t i o)).sx PE PR X := by
  refine x_aug (a := o) (b := 1) h (by kernel_rfl) (sat_val (v_cst ⟨rfl, rfl⟩)) ?_
  rw [put_op (j := o + 1) (by simp)]
  have := St.set (A := A) (R := R) (t := t) (i := i) (o := o) (t' := t) (i' := i) (o' := o + 1)
  unfold rdr at this
  dsimp only
  rw [this]
  exact kk
theorem x_opM (h : ρ[0]? = some (some (.m A.length))) (kk : PE ρ (St A R t i o)) : (run1 cl wf (.augF 0 (.var 0) "open_now" true (.cst (.int 1))) ρ (St A R t i (o + 1))).sx PE PR X := by
  refine x_aug (a := (o + 1 : Nat)) (b := 1) h (by kernel_rfl) (sat_val (v_cst ⟨rfl, rfl⟩)) ?_
  rw [put_op (j := o) (by simp)]
  have := St.set (A := A) (R := R) (t := t) (i := i) (o := o + 1) (t' := t) (i' := i) (o' := o)
  unfold rdr at this
  dsimp only
  rw [this]
  exact kk
theorem fail_ok : callI ft wf (k + 1) F_m_Reader_fail [.m A.length] (St A R t i o) = .ex (xT i) (St A R t i o) := by
  refine eq_of_sx (sx_call (i := ⟨1, 1, c_m_Reader_fail⟩) rfl rfl ?_)
  show (Fw.run _ wf c_m_Reader_fail [some (.m A.length)] _).sx _ _ _
  unfold c_m_Reader_fail
  refine x_cons (x_raise1 (attr := "position") rfl (v_fld (v_var rfl (fl_at ⟨_, rfl, ?_⟩))))
  rw [St.cut0]
  rfl
theorem z_fail (h : ρ[0]? = some (some (.m A.length))) (kk : X (xT i) (St A R t i o)) : (run1 (callI ft wf (k + 1)) wf (.expX (.meth 0 F_m_Reader_fail "fail" (.var 0) [] [])) ρ (St A R t i o)).sx PE PR X :=
  x_expX (m_call h no_fail (v_nil (Rz.sx_ex fail_ok kk)))
end
end K15

namespace K15
open PySem PySem.Spec PyProof.Rows L2 Fw
local macro_rules | `(tactic| walk_at "v") => `(tactic| (repeat (first | ((with_reducible apply Fw.v_var); next => exact rfl) | with_reducible refine Fw.v_bin ?_ | with_reducible refine Fw.v_maxD ?_ | with_reducible refine Fw.v_sub ?_ | with_reducible refine Fw.v_cst ?_ | with_reducible refine Fw.v_cons ?_ | with_reducible refine Fw.v_nil ?_ | with_reducible refine Fw.v_cmp ?_ | with_reducible refine Fw.v_blt ?_ | with_reducible refine Fw.v_neg ?_ | with_reducible refine Fw.v_call ?_ | with_reducible refine Fw.v_callK ?_ | with_reducible refine Fw.v_not ?_ | with_reducible refine Fw.v_chain ?_ | with_reducible refine Fw.v_andT ?_ | with_reducible refine Fw.v_orT ?_ | with_reducible refine Fw.v_and ?_ | with_reducible refine Fw.v_or ?_ | with_reducible refine Fw.v_ite ?_ | with_reducible refine Fw.v_tup ?_ | with_reducible refine Fw.v_lst ?_ | with_reducible refine Fw.v_lstM ?_ | with_reducible refine Fw.v_slcH ?_ | with_reducible refine Fw.v_slcL ?_ | with_reducible refine Fw.v_isiT ?_ | with_reducible refine Fw.v_fstr ?_ | with_reducible refine Fw.v_fmt ?_ | with_reducible refine Fw.v_comp0 ?_ | with_reducible refine Fw.v_comp1 ?_ | with_reducible refine Fw.s_t0 ?_ | with_reducible refine Fw.s_t1 ?_ | with_reducible refine Fw.s_t2 ?_ | with_reducible refine Fw.s_l0 ?_ | with_reducible refine Fw.s_l1 ?_ | with_reducible refine Fw.s_l2 ?_ | with_reducible refine Fw.s_not ?_ | with_reducible refine Fw.s_neg ?_ | with_reducible refine Fw.o_add ?_ | with_reducible refine Fw.o_sub ?_ | with_reducible refine Fw.q_lt ?_ | with_reducible refine Fw.q_le ?_ | with_reducible refine Fw.q_gt ?_ | with_reducible refine Fw.q_ge ?_ | with_reducible refine Fw.q_eq ?_ | with_reducible refine Fw.q_ne ?_ | with_reducible refine Fw.q_eqB ?_ | with_reducible refine Fw.q_neB ?_ | with_reducible refine Fw.q_isN ?_ | with_reducible refine Fw.q_notN ?_ | with_reducible refine Fw.sat_cons ?_ | with_reducible refine Fw.w_asg ?_ | with_reducible refine Fw.w_par ?_ | with_reducible refine Fw.w_parT ?_ | with_reducible refine Fw.w_setI ?_ | with_reducible refine Fw.w_exp ?_ | with_reducible refine Fw.w_ret ?_ | with_reducible refine Fw.v_ccst ?_ | with_reducible refine Fw.v_app ?_ | with_reducible refine Fw.v_whyA ?_ | with_reducible refine Fw.v_fld ?_ | with_reducible refine Fw.w_ite ?_ | with_reducible refine Fw.w_for ?_ | with_reducible refine Fw.w_while ?_ | with_reducible refine Fw.v_tst ?_ | with_reducible refine Fw.x_cons ?_ | with_reducible refine Fw.x_asg ?_ | with_reducible refine Fw.x_exp ?_ | with_reducible refine Fw.x_ret ?_ | with_reducible refine Fw.x_ite ?_ | with_reducible refine Fw.x_asgX ?_ | with_reducible refine Fw.x_expX ?_ | with_reducible refine Fw.x_retX ?_ | with_reducible refine Fw.x_asgE ?_ | with_reducible refine Fw.x_expE ?_ | with_reducible refine Fw.x_retE ?_ | with_reducible refine Fw.x_for ?_ | with_reducible refine Fw.x_while ?_ | with_reducible refine Fw.y_p ?_ | with_reducible refine Fw.y_x ?_ | with_reducible refine Fw.y_neg ?_ | with_reducible refine Fw.y_int ?_ | with_reducible refine Fw.y_nil ?_ | with_reducible refine Fw.y_cons ?_ | with_reducible refine Fw.y_tup ?_ | with_reducible refine Fw.y_lstM ?_ | with_reducible refine Fw.v_tupS ?_ | with_reducible refine Fw.v_lstS ?_ | with_reducible refine Fw.v_snil ?_ | with_reducible refine Fw.v_scons ?_ | with_reducible refine Fw.v_slcB ?_ | ((with_reducible apply Fw.q_inT); next => exact rfl) | ((with_reducible apply Fw.s_sub); next => exact rfl) | ((with_reducible apply Fw.s_blt); next => exact rfl) | ((with_reducible apply Fw.s_tst); next => exact rfl) | ((with_reducible apply Fw.s_isi); next => exact rfl) | ((with_reducible apply Fw.s_asm); next => exact rfl) | ((with_reducible apply Fw.s_bnd); next => exact rfl) | ((with_reducible apply Fw.s_wlk); next => exact rfl) | ((with_reducible apply Fw.s_slcH); next => exact rfl) | ((with_reducible apply Fw.s_slcL); next => exact rfl) | ((with_reducible apply Fw.s_slcB); next => exact rfl) | ((with_reducible apply Fw.s_dsp); (next => exact rfl); (next => exact rfl)) | ((with_reducible apply Fw.s_set); (next => exact rfl); (next => exact rfl)) | ((with_reducible apply Fw.q_eqS); (next => first | exact ofStr_ok _ | assumption); (next => first | exact ofStr_ok _ | assumption)) | ((with_reducible refine Fw.o_mul ?_ ?_); next => first | assumption | exact mul_c (by omega) (by omega) | exact mul_cL (by omega) (by omega)) | ((with_reducible refine Fw.o_mod ?_ ?_); next => first | assumption | omega) | ((with_reducible refine Fw.o_div ?_ ?_); next => first | assumption | decide) | ((with_reducible refine Fw.o_pow ?_ ?_); next => decide))))
local macro_rules | `(tactic| walk_at "y") => `(tactic| (refine br (fun _ => ?_) (fun h => absurd h (by first | exact ft_no | exact tf_no | decide | simp)); walk_at "v"))
local macro_rules | `(tactic| walk_at "n") => `(tactic| (refine br (fun h => absurd h (by first | exact ft_no | exact tf_no | decide | simp)) (fun _ => ?_); (try refine sat_nil ?_); walk_at "v"))
/-! ### take and runs -/
theorem sS_tl (t : Str) : sS (tl t) = t := by
  refine str_ext ?_
  show (tl t).toArray.toList = _
  rw [List.toList_toArray]
  rfl
theorem tl_sS (l : List Nat) : tl (sS l) = l := List.toList_toArray ..
theorem run_le (signs : List Nat) : ∀ (m : Nat) (l : List Nat), runLen signs m l ≤ m ∧ runLen signs m l ≤ l.length ∧ ∀ c ∈ l.take (runLen signs m l), c ∈ signs
  | 0, l => ⟨Nat.le_refl _, Nat.zero_le _, by intro c hc; rw [runLen, List.take_zero] at hc; cases hc⟩
  | m + 1, [] => ⟨Nat.zero_le _, Nat.le_refl _, by intro c hc; cases hc⟩
  | m + 1, c :: l => by
    rw [runLen]
    split
    · rename_i hc
      obtain ⟨h1, h2, h3⟩ := run_le signs m l
      refine ⟨by omega, by rw [List.length_cons]; omega, fun d hd => ?_⟩
      rw [List.take_succ_cons] at hd
      rcases List.mem_cons.mp hd with rfl | hd
      · exact hc
      · exact h3 d hd
    · exact ⟨Nat.zero_le _, Nat.zero_le _, by intro d hd; rw [List.take_zero] at hd; cases hd⟩
theorem pRun_ok {L signs : List Nat} {m i j : Nat} {ds : List Nat} (h : pRun L signs m i = .ok ds j) : ds ≠ [] ∧ ds.length ≤ m ∧ (∀ c ∈ ds, c ∈ signs) ∧ j = i + ds.length ∧ ds = (L.drop i).take ds.length ∧ j ≤ L.length := by
  unfold pRun at h
  split at h
  · cases h
  · rename_i hn
    cases h
    obtain ⟨h1, h2, h3⟩ := run_le signs m (L.drop i)
    have hl : ((L.drop i).take (runLen signs m (L.drop i))).length = runLen signs m (L.drop i) := by rw [List.length_take]; omega
    refine ⟨fun z => ?_, by omega, h3, by rw [hl], by rw [hl], ?_⟩
    · rw [z] at hl
      exact hn hl.symm
    · rw [List.length_drop] at h2
      have : ¬ L.length < i := fun z => by
        rw [List.drop_eq_nil_of_le (by omega)] at hn
        cases m <;> exact hn rfl
      omega
section
variable {wf k : Nat} {A R : Store} {t : Str} {i o : Nat}
def takeB : List Sc := [.ite (.cmp .NotEq (.meth 0 F_m_Reader_here "here" (.var 0) [] []) (.var 2)) [.expX (.meth 0 F_m_Reader_fail "fail" (.var 0) [] [])] [], .augF 0 (.var 0) "at" false (.cst (.int 1))]
theorem take_loop (ht : TxOk t) {w : Option Fw.A} : ∀ (ws : List Nat) (i : Nat) (x2 : Option Fw.A), (∀ c ∈ ws, c < 128) →
    (forL (bindT (.nm 2)) (Fw.run (callI ft wf (k + 1)) wf takeB) (ws.map fun c => .p (.str ⟨#[c]⟩)) [some (.m A.length), w, x2] (St A R t i o)).sx (fun _ S' => ∃ j, pTake (tl t) ws i = .ok () j ∧ S' = St A R t j o) (fun _ _ => False) fun e S' => ∃ p i', pTake (tl t) ws i = .er p ∧ e = xT p ∧ S' = St A R t i' o
  | [], i, x2, _ => x_forNil ⟨i, rfl, rfl⟩
  | c :: ws, i, x2, hw => by
    have hc := hw c (List.mem_cons_self ..)
    rw [List.map_cons]
    refine x_forCons rfl ?_
    unfold takeB
    refine x_cons (x_ite (v_cmp (m_here ht rfl (v_var rfl (q_nch ht rfl hc ?_)))))
    refine br (fun h => ?_) (fun h => ?_)
    · have h : ¬ (tl t)[i]? = some c := by simpa using h
      refine x_cons (z_fail rfl ⟨i, i, ?_, rfl, rfl⟩)
      rw [pTake, if_neg h]
    · have h : (tl t)[i]? = some c := by simpa using h
      refine x_nil (x_cons (x_at rfl (x_nil ?_)))
      have := take_loop ht (w := w) ws (i + 1) (some (.p (.str ⟨#[c]⟩))) fun d hd => hw d (List.mem_cons_of_mem _ hd)
      rw [pTake, if_pos h]
      exact this
theorem take_ok (ht : TxOk t) {x : Str} (hx : ∀ c ∈ tl x, c < 128) : SpR A R t o (fun _ => .non) (pTake (tl t) (tl x) i) (callI ft wf (k + 2) F_m_Reader_take [.m A.length, .p (.str x)] (St A R t i o)) := by
  refine SpR.of (sx_call (i := ⟨2, 3, c_m_Reader_take F_m_Reader_fail F_m_Reader_here⟩) rfl rfl ?_)
  show (Fw.run _ wf [.for .seq [(.var 1)] (.nm 2) takeB] [some (.m A.length), some (.p (.str x)), none] _).sx _ _ _
  refine x_cons (x_for (v_cons (v_var rfl (v_nil (s_wlk rfl ?_)))))
  refine Rs.sx_mono (take_loop ht (tl x) i none hx) ?_ (fun _ _ h => h.elim) ?_
  · rintro ρ S ⟨j, hj, rfl⟩
    exact x_nil ⟨(), j, hj, rfl, by rw [St.cut0]⟩
  · rintro e S ⟨p, i', hp, rfl, rfl⟩
    exact ⟨p, i', o, hp, rfl, by rw [St.cut0]⟩
def runC : C := .and (.cmp .Lt (.fld 0 (.var 0) "at") (.blt .len [(.fld 0 (.var 0) "text")])) (.and (.cmp .In (.sub (.fld 0 (.var 0) "text") (.fld 0 (.var 0) "at")) (.var 1)) (.cmp .Lt (.bin .Sub (.fld 0 (.var 0) "at") (.var 3)) (.var 2)))
theorem run_ok (ht : TxOk t) (hwf : 100 ≤ wf) {x : Str} {most : Nat} (hm : most ≤ 50) : SpR A R t o (fun l => .str (sS l)) (pRun (tl t) (tl x) most i) (callI ft wf (k + 2) F_m_Reader_read_run [.m A.length, .p (.str x), .p (.int most)] (St A R t i o)) := by
  have eL : LIM = 100000 := rfl
  have hlen : t.length = (tl t).length := (Array.length_toList).symm
  have h5 := ht.len
  refine SpR.of (sx_call (i := ⟨3, 4, c_m_Reader_read_run F_m_Reader_fail⟩) rfl rfl ?_)
  show (Fw.run _ wf (c_m_Reader_read_run F_m_Reader_fail) [some (.m A.length), some (.p (.str x)), some (.p (.int most)), none] _).sx _ _ _
  unfold c_m_Reader_read_run
  refine x_cons (x_asg (v_fld (v_var rfl (fl_at (s_bnd rfl ?_)))))
  refine x_cons (x_while ?_)
  refine while_sx (fun m ρ S => ∃ n, m = most - n ∧ n ≤ most ∧ ρ = [some (.m A.length), some (.p (.str x)), some (.p (.int most)), some (.p (.int i))] ∧ S = St A R t (i + n) o ∧ runLen (tl x) most ((tl t).drop i) = n + runLen (tl x) (most - n) ((tl t).drop (i + n))) wf most _ _ (by omega) ⟨0, rfl, Nat.zero_le _, rfl, rfl, by rw [Nat.zero_add]; rfl⟩ ?_
  rintro m ρ S ⟨n, hm', hn, rfl, rfl, hr⟩
  have exit : ∀ {S : Store}, S = St A R t (i + n) o → runLen (tl x) (most - n) ((tl t).drop (i + n)) = 0 → (Fw.run (callI ft wf (k + 1)) wf [.ite (.cmp .Eq (.fld 0 (.var 0) "at") (.var 3)) [.expX (.meth 0 F_m_Reader_fail "fail" (.var 0) [] [])] [], .ret (.slcB (.fld 0 (.var 0) "text") (.var 3) (.fld 0 (.var 0) "at"))] [some (.m A.length), some (.p (.str x)), some (.p (.int most)), some (.p (.int i))] S).sx (fun _ S' => ∃ a i1, pRun (tl t) (tl x) most i = .ok a i1 ∧ Fw.A.p .non = .p (.str (sS a)) ∧ S'.take (St A R t i o).length = St A R t i1 o) (fun y S' => isP y = true ∧ ∃ a i1, pRun (tl t) (tl x) most i = .ok a i1 ∧ y = .p (.str (sS a)) ∧ S'.take (St A R t i o).length = St A R t i1 o) fun e S' => ∃ p i' o', pRun (tl t) (tl x) most i = .er p ∧ e = xT p ∧ S'.take (St A R t i o).length = St A R t i' o' := by
    rintro S rfl h0
    have hr' : runLen (tl x) most ((tl t).drop i) = n := by omega
    refine x_cons (x_ite (v_cmp (v_fld (v_var rfl (fl_at (v_var rfl (q_eq ?_)))))))
    refine br (fun h => ?_) (fun h => ?_)
    · have h : ((i + n : Nat) : Int) = i := of_decide_eq_true h
      have hn0 : n = 0 := by omega
      subst hn0
      refine x_cons (z_fail rfl ⟨i + 0, i + 0, o, ?_, rfl, by rw [St.cut0]⟩)
      unfold pRun
      rw [if_pos hr']
      rfl
    · have h : ¬ ((i + n : Nat) : Int) = i := of_decide_eq_false h
      have hn0 : n ≠ 0 := by omega
      refine x_nil (x_cons (x_ret (v_slcB (v_fld (v_var rfl (fl_text (v_var rfl (v_fld (v_var rfl (fl_at (s_slcB (z := .str (sS (((tl t).drop i).take n))) ?_ ⟨rfl, ((tl t).drop i).take n, i + n, ?_, rfl, by rw [St.cut0]⟩)))))))))))
      · show (if t.length ≤ LIM then some (D.str (cutS t (some (i : Int)) (some ((i + n : Nat) : Int)))) else none) = _
        rw [if_pos (by omega)]
        congr 2
        refine str_ext ?_
        rw [cut_mid, Nat.add_sub_cancel_left]
        exact (tl_sS _).symm
      · unfold pRun
        rw [hr', if_neg hn0]
  show (ev (callI ft wf (k + 1)) true runC _ _).sat _
  unfold runC
  refine v_andT (v_cmp (v_fld (v_var rfl (fl_at (v_blt (v_cons (v_fld (v_var rfl (fl_text (v_nil (s_blt (z := .p (.int t.length)) ?_ (q_lt (br (fun h => ?_) fun h => ?_)))))))))))))
  · show (if t.length ≤ LIM then some (Fw.A.p (.int t.length)) else none) = _
    rw [if_pos (by omega)]
  · have h : ((i + n : Nat) : Int) < t.length := of_decide_eq_true h
    have hlt : i + n < (tl t).length := by omega
    have hd : (tl t).drop (i + n) = (tl t)[i + n] :: (tl t).drop (i + n + 1) := List.drop_eq_getElem_cons hlt
    refine v_andT (v_cmp (v_sub (v_fld (v_var rfl (fl_text (v_fld (v_var rfl (fl_at ?_))))))))
    refine s_sub (z := .p (.str ⟨#[(tl t)[i + n]]⟩)) ?_ (v_var rfl ⟨decide ((tl t)[i + n] ∈ tl x), rfl, ?_⟩)
    rotate_left
    refine br (fun h2 => ?_) fun h2 => ?_
    rotate_left 2
    · show (if t.length ≤ LIM then (atI (tl t) ((i + n : Nat) : Int)).map (fun c => Fw.A.p (.str ⟨#[c]⟩)) else none) = _
      rw [if_pos (by omega), atI_nat (j := i + n) (List.getElem?_eq_getElem hlt)]
      rfl
    · have h2 : (tl t)[i + n] ∈ tl x := of_decide_eq_true h2
      refine v_cmp (v_bin (v_fld (v_var rfl (fl_at (v_var rfl (o_sub (v_var rfl (q_lt (br (fun h3 => ?_) fun h3 => ?_)))))))))
      · have h3 : ((i + n : Nat) : Int) - i < most := of_decide_eq_true h3
        refine x_cons (x_at rfl (x_nil ⟨most - (n + 1), by omega, n + 1, rfl, by omega, rfl, rfl, ?_⟩))
        rw [hr, hd, show most - n = (most - (n + 1)) + 1 by omega, runLen, if_pos h2]
        have e1 : i + n + 1 = i + (n + 1) := by omega
        rw [e1]
        omega
      · have h3 : ¬ ((i + n : Nat) : Int) - i < most := of_decide_eq_false h3
        refine exit rfl ?_
        rw [show most - n = 0 by omega, runLen]
    · have h2 : (tl t)[i + n] ∉ tl x := of_decide_eq_false h2
      refine br (fun z => absurd z ft_no) fun _ => exit rfl ?_
      rw [hd]
      cases hq : most - n with
      | zero => rfl
      | succ q => rw [runLen, if_neg h2]
  · have h : ¬ ((i + n : Nat) : Int) < t.length := of_decide_eq_false h
    refine br (fun z => absurd z ft_no) fun _ => exit rfl ?_
    rw [List.drop_eq_nil_of_le (by omega)]
    cases most - n <;> rfl
theorem name_ok (ht : TxOk t) (hwf : 100 ≤ wf) : SpR A R t o (fun l => .str (sS l)) (pName (tl t) i) (callI ft wf (k + 3) F_m_Reader_read_name [.m A.length] (St A R t i o)) := by
  refine SpR.of (sx_call (i := ⟨1, 1, c_m_Reader_read_name F_m_Reader_read_run⟩) rfl rfl ?_)
  show (Fw.run _ wf (c_m_Reader_read_name F_m_Reader_read_run) [some (.m A.length)] _).sx _ _ _
  unfold c_m_Reader_read_name
  refine x_cons (x_retX (m_call rfl no_run (v_cons (v_cst (v_cons (v_cst (v_nil ?_)))))))
  refine SpR.use (run_ok ht hwf (x := "abcdefghijklmnopqrstuvwxyz") (most := 8) (by decide)) ?_ ?_
  · intro a j h
    exact ⟨rfl, a, j, h, rfl, by rw [St.cut0]⟩
  · intro p i' o' h
    exact ⟨p, i', o', h, rfl, by rw [St.cut0]⟩
theorem dig_range {ds : List Nat} (h : ∀ c ∈ ds, c ∈ digL) : NumText.AllDigits ds := by
  have : ∀ c ∈ digL, 48 ≤ c ∧ c ≤ 57 := by decide +kernel
  exact fun c hc => this c (h c hc)
theorem int_ok {ds : List Nat} {P : Fw.A → Store → Prop} {S : Store} (h : ∀ c ∈ ds, c ∈ digL) (h1 : ds ≠ []) (h2 : ds.length ≤ 50) (k : P (.p (.int (NumText.digitsVal ds : Nat))) S) : BltV .int [.p (.str (sS ds))] S P := by
  have e : (sS ds).cps.toList = ds := tl_sS ds
  have el : (sS ds).length = ds.length := by
    rw [← e]
    exact (Array.length_toList).symm
  refine ⟨.p (.int (NumText.digitsVal ds : Nat)), ?_, k⟩
  show (if (sS ds).length ≤ 640 then (PySem.intText? (sS ds)).map (fun n => Fw.A.p (.int n)) else none) = _
  rw [if_pos (by omega), intText_digits (by rw [e]; exact dig_range h) (by rw [e]; exact h1) (by omega), e]
  rfl
theorem fig_ok (ht : TxOk t) (hwf : 100 ≤ wf) : SpR A R t o (fun n : Nat => .int n) (pFig (tl t) i) (callI ft wf (k + 3) F_m_Reader_read_figures [.m A.length] (St A R t i o)) := by
  refine SpR.of (sx_call (i := ⟨1, 1, c_m_Reader_read_figures F_m_Reader_fail F_m_Reader_here F_m_Reader_read_run⟩) rfl rfl ?_)
  show (Fw.run _ wf (c_m_Reader_read_figures F_m_Reader_fail F_m_Reader_here F_m_Reader_read_run) [some (.m A.length)] _).sx _ _ _
  unfold c_m_Reader_read_figures
  refine x_cons (x_ite (v_cmp (m_here ht rfl (v_cst (q_ch (c := 48) ht rfl (by decide) ?_)))))
  refine br (fun h => ?_) (fun h => ?_)
  · have h := of_decide_eq_true h
    refine x_cons (z_fail rfl ⟨i, i, o, ?_, rfl, by rw [St.cut0]⟩)
    unfold pFig
    rw [if_pos h]
  · have h := of_decide_eq_false h
    refine x_nil (x_cons (x_retE (y_int (y_x (m_call rfl no_run (v_cons (v_cst (v_cons (v_cst (v_nil ?_))))))))))
    refine SpR.use (run_ok ht hwf (x := "0123456789") (most := 9) (by decide)) ?_ ?_
    · intro ds j hr
      obtain ⟨p1, p2, p3, _⟩ := pRun_ok hr
      refine int_ok p3 p1 (by omega) ⟨rfl, _, j, ?_, rfl, by rw [St.cut0]⟩
      unfold pFig
      rw [if_neg h, show digL = tl "0123456789" from rfl, hr]
      rfl
    · intro p i' o' hr
      refine ⟨p, i', o', ?_, rfl, by rw [St.cut0]⟩
      unfold pFig
      rw [if_neg h, show digL = tl "0123456789" from rfl, hr]
      rfl
end
end K15

namespace K15
open PySem PySem.Spec PyProof.Rows L2 Fw
local macro_rules | `(tactic| walk_at "v") => `(tactic| (repeat (first | ((with_reducible apply Fw.v_var); next => exact rfl) | with_reducible refine Fw.v_bin ?_ | with_reducible refine Fw.v_maxD ?_ | with_reducible refine Fw.v_sub ?_ | with_reducible refine Fw.v_cst ?_ | with_reducible refine Fw.v_cons ?_ | with_reducible refine Fw.v_nil ?_ | with_reducible refine Fw.v_cmp ?_ | with_reducible refine Fw.v_blt ?_ | with_reducible refine Fw.v_neg ?_ | with_reducible refine Fw.v_call ?_ | with_reducible refine Fw.v_callK ?_ | with_reducible refine Fw.v_not ?_ | with_reducible refine Fw.v_chain ?_ | with_reducible refine Fw.v_andT ?_ | with_reducible refine Fw.v_orT ?_ | with_reducible refine Fw.v_and ?_ | with_reducible refine Fw.v_or ?_ | with_reducible refine Fw.v_ite ?_ | with_reducible refine Fw.v_tup ?_ | with_reducible refine Fw.v_lst ?_ | with_reducible refine Fw.v_lstM ?_ | with_reducible refine Fw.v_slcH ?_ | with_reducible refine Fw.v_slcL ?_ | with_reducible refine Fw.v_isiT ?_ | with_reducible refine Fw.v_fstr ?_ | with_reducible refine Fw.v_fmt ?_ | with_reducible refine Fw.v_comp0 ?_ | with_reducible refine Fw.v_comp1 ?_ | with_reducible refine Fw.s_t0 ?_ | with_reducible refine Fw.s_t1 ?_ | with_reducible refine Fw.s_t2 ?_ | with_reducible refine Fw.s_l0 ?_ | with_reducible refine Fw.s_l1 ?_ | with_reducible refine Fw.s_l2 ?_ | with_reducible refine Fw.s_not ?_ | with_reducible refine Fw.s_neg ?_ | with_reducible refine Fw.o_add ?_ | with_reducible refine Fw.o_sub ?_ | with_reducible refine Fw.q_lt ?_ | with_reducible refine Fw.q_le ?_ | with_reducible refine Fw.q_gt ?_ | with_reducible refine Fw.q_ge ?_ | with_reducible refine Fw.q_eq ?_ | with_reducible refine Fw.q_ne ?_ | with_reducible refine Fw.q_eqB ?_ | with_reducible refine Fw.q_neB ?_ | with_reducible refine Fw.q_isN ?_ | with_reducible refine Fw.q_notN ?_ | with_reducible refine Fw.sat_cons ?_ | with_reducible refine Fw.w_asg ?_ | with_reducible refine Fw.w_par ?_ | with_reducible refine Fw.w_parT ?_ | with_reducible refine Fw.w_setI ?_ | with_reducible refine Fw.w_exp ?_ | with_reducible refine Fw.w_ret ?_ | with_reducible refine Fw.v_ccst ?_ | with_reducible refine Fw.v_app ?_ | with_reducible refine Fw.v_whyA ?_ | with_reducible refine Fw.v_fld ?_ | with_reducible refine Fw.w_ite ?_ | with_reducible refine Fw.w_for ?_ | with_reducible refine Fw.w_while ?_ | with_reducible refine Fw.v_tst ?_ | with_reducible refine Fw.x_cons ?_ | with_reducible refine Fw.x_asg ?_ | with_reducible refine Fw.x_exp ?_ | with_reducible refine Fw.x_ret ?_ | with_reducible refine Fw.x_ite ?_ | with_reducible refine Fw.x_asgX ?_ | with_reducible refine Fw.x_expX ?_ | with_reducible refine Fw.x_retX ?_ | with_reducible refine Fw.x_asgE ?_ | with_reducible refine Fw.x_expE ?_ | with_reducible refine Fw.x_retE ?_ | with_reducible refine Fw.x_for ?_ | with_reducible refine Fw.x_while ?_ | with_reducible refine Fw.y_p ?_ | with_reducible refine Fw.y_x ?_ | with_reducible refine Fw.y_neg ?_ | with_reducible refine Fw.y_int ?_ | with_reducible refine Fw.y_nil ?_ | with_reducible refine Fw.y_cons ?_ | with_reducible refine Fw.y_tup ?_ | with_reducible refine Fw.y_lstM ?_ | with_reducible refine Fw.v_tupS ?_ | with_reducible refine Fw.v_lstS ?_ | with_reducible refine Fw.v_snil ?_ | with_reducible refine Fw.v_scons ?_ | with_reducible refine Fw.v_slcB ?_ | ((with_reducible apply Fw.q_inT); next => exact rfl) | ((with_reducible apply Fw.s_sub); next => exact rfl) | ((with_reducible apply Fw.s_blt); next => exact rfl) | ((with_reducible apply Fw.s_tst); next => exact rfl) | ((with_reducible apply Fw.s_isi); next => exact rfl) | ((with_reducible apply Fw.s_asm); next => exact rfl) | ((with_reducible apply Fw.s_bnd); next => exact rfl) | ((with_reducible apply Fw.s_wlk); next => exact rfl) | ((with_reducible apply Fw.s_slcH); next => exact rfl) | ((with_reducible apply Fw.s_slcL); next => exact rfl) | ((with_reducible apply Fw.s_slcB); next => exact rfl) | ((with_reducible apply Fw.s_dsp); (next => exact rfl); (next => exact rfl)) | ((with_reducible apply Fw.s_set); (next => exact rfl); (next => exact rfl)) | ((with_reducible apply Fw.q_eqS); (next => first | exact ofStr_ok _ | assumption); (next => first | exact ofStr_ok _ | assumption)) | ((with_reducible refine Fw.o_mul ?_ ?_); next => first | assumption | exact mul_c (by omega) (by omega) | exact mul_cL (by omega) (by omega)) | ((with_reducible refine Fw.o_mod ?_ ?_); next => first | assumption | omega) | ((with_reducible refine Fw.o_div ?_ ?_); next => first | assumption | decide) | ((with_reducible refine Fw.o_pow ?_ ?_); next => decide))))
local macro_rules | `(tactic| walk_at "y") => `(tactic| (refine br (fun _ => ?_) (fun h => absurd h (by first | exact ft_no | exact tf_no | decide | simp)); walk_at "v"))
local macro_rules | `(tactic| walk_at "n") => `(tactic| (refine br (fun h => absurd h (by first | exact ft_no | exact tf_no | decide | simp)) (fun _ => ?_); (try refine sat_nil ?_); walk_at "v"))
/-! ### gcd -/
abbrev gI (a b : Int) : Int := (Int.gcd a b : Int)
theorem abs_nat (a : Int) : (if a < 0 then -a else a) = (a.natAbs : Int) := by
  split <;> omega
section
variable {ft : List Fn} {wf k : Nat} {S : Store}
theorem gcd_ok {f : Nat} (hf : ft[f]? = some ⟨2, 4, c_g_gcd⟩) {a b : Int} (hw : b.natAbs < wf) : callI ft wf (k + 1) f [.p (.int a), .p (.int b)] S = .ok (.p (.int (gI a b))) S := by
  refine call_val hf rfl ?_
  show (Fw.run _ wf c_g_gcd [some (.p (.int a)), some (.p (.int b)), none, none] _).sat _ _
  unfold c_g_gcd
  walk_at "v"
  refine while_sat (fun m ρ S' => ∃ x y : Nat, ρ = [some (.p (.int a)), some (.p (.int b)), some (.p (.int x)), some (.p (.int y))] ∧ S' = S ∧ Nat.gcd x y = Int.gcd a b ∧ m = y) _ wf b.natAbs _ _ hw ⟨a.natAbs, b.natAbs, by rw [abs_nat, abs_nat]; rfl, rfl, (Int.gcd_eq_natAbs_gcd_natAbs a b).symm, rfl⟩ ?_
  rintro m ρ S' ⟨x, y, rfl, rfl, hg, rfl⟩
  walk_at "v"
  refine br (fun h => ?_) (fun h => ?_)
  · have hy : (m : Int) ≠ 0 := by simpa using h
    walk_at "v"
    refine sat_nil ⟨x % m, Nat.mod_lt _ (by omega), m, x % m, ?_, rfl, ?_, rfl⟩
    · rw [Int.ofNat_fmod]
      rfl
    · rw [Nat.gcd_comm, ← Nat.gcd_rec, Nat.gcd_comm, hg]
  · have hy : m = 0 := by simpa using h
    subst hy
    walk_at "v"
    refine ⟨?_, rfl⟩
    rw [gI, ← hg, Nat.gcd_zero_right]
end
/-! ### numbers, tests -/
section
variable {α : Type}
def RP (A R : Store) (t : Str) (o : Nat) (emb : α → D) (r : RR α) : Fw.A → Store → Prop := fun x S' => ∃ a j Q, r = .ok a j ∧ x = .p (emb a) ∧ S' = St A (R ++ Q) t j o
def RX (A R : Store) (t : Str) (r : RR α) : Exn → Store → Prop := fun e S' => ∃ p i' o' Q, r = .er p ∧ e = xT p ∧ S' = St A (R ++ Q) t i' o'
variable {wf k : Nat} {A R : Store} {t : Str} {i o : Nat} {emb : α → D} {r : RR α}
theorem SpR.body {f : Nat} {xs : List Fw.A} {fn : Fn} (h : ft[f]? = some fn) (hl : xs.length = fn.np) (hr : (Fw.run (callI ft wf k) wf fn.code (xs.map some ++ List.replicate (fn.nn - fn.np) none) (St A R t i o)).sx (fun _ _ => False) (RP A R t o emb r) (RX A R t r)) : SpR A R t o emb r (callI ft wf (k + 1) f xs (St A R t i o)) := by
  refine SpR.of (sx_call h hl (Rs.sx_mono hr (fun _ _ h => h.elim) ?_ ?_))
  · rintro x S ⟨a, j, Q, h1, rfl, rfl⟩
    exact ⟨rfl, a, j, h1, rfl, by rw [St.cut]⟩
  · rintro x S ⟨p, i', o', Q, h1, rfl, rfl⟩
    exact ⟨p, i', o', h1, rfl, by rw [St.cut]⟩
theorem rp0 {a : α} {j : Nat} (h : r = .ok a j) : RP A R t o emb r (.p (emb a)) (St A R t j o) := ⟨a, j, [], h, rfl, by rw [List.append_nil]⟩
theorem rx0 {p i' o' : Nat} (h : r = .er p) : RX A R t r (xT p) (St A R t i' o') := ⟨p, i', o', [], h, rfl, by rw [List.append_nil]⟩
theorem rp1 {a : α} {j : Nat} {Q : Store} (h : r = .ok a j) : RP A R t o emb r (.p (emb a)) (St A (R ++ Q) t j o) := ⟨a, j, Q, h, rfl, rfl⟩
theorem rx1 {p i' o' : Nat} {Q : Store} (h : r = .er p) : RX A R t r (xT p) (St A (R ++ Q) t i' o') := ⟨p, i', o', Q, h, rfl, rfl⟩
end
section
variable {wf k : Nat} {A R : Store} {t : Str} {i o : Nat}
def W0 : Nat := 1000000001
theorem val_le : ∀ (ds : List Nat) (acc : Nat), (∀ c ∈ ds, c ∈ digL) → ds.foldl (fun acc c => acc * 10 + (c - 48)) acc < (acc + 1) * 10 ^ ds.length
  | [], acc, _ => by simp
  | c :: ds, acc, h => by
    have hc : 48 ≤ c ∧ c ≤ 57 := dig_range h c (List.mem_cons_self ..)
    rw [List.foldl_cons, List.length_cons, Nat.pow_succ]
    refine Nat.lt_of_lt_of_le (val_le ds _ fun d hd => h d (List.mem_cons_of_mem _ hd)) ?_
    rw [Nat.mul_comm (10 ^ ds.length) 10, ← Nat.mul_assoc]
    exact Nat.mul_le_mul_right _ (by omega)
theorem pFig_le {L : List Nat} {i n j : Nat} (h : pFig L i = .ok n j) : n < 1000000000 := by
  unfold pFig at h
  split at h
  · cases h
  · cases hr : pRun L digL 9 i with
    | er p => rw [hr] at h; cases h
    | ok ds j' =>
      rw [hr] at h
      cases h
      obtain ⟨_, h2, h3, _⟩ := pRun_ok hr
      have h4 := val_le ds 0 h3
      have h5 : 10 ^ ds.length ≤ 10 ^ 9 := Nat.pow_le_pow_right (by decide) h2
      unfold NumText.digitsVal
      omega
theorem num_tail (ht : TxOk t) (hwf : W0 ≤ wf) {top : Int} {x1 x2 : Option Fw.A} : (Fw.run (callI ft wf (k + 3)) wf ((c_m_Reader_read_number F_g_gcd F_m_Reader_here F_m_Reader_read_figures).drop 1) [some (.m A.length), x1, x2, some (.p (.int top))] (St A R t i o)).sx (fun _ _ => False) (RP A R t o id (pNumT (tl t) top i)) (RX A R t (pNumT (tl t) top i)) := by
  unfold c_m_Reader_read_number
  dsimp only [List.drop]
  refine x_cons (x_ite (v_cmp (m_here ht rfl (v_cst (q_nch (c := 47) ht rfl (by decide) ?_)))))
  refine br (fun h => ?_) (fun h => ?_)
  · have h : ¬ (tl t)[i]? = some 47 := by simpa using h
    walk_at "v"
    exact rp0 (a := D.tup [.str "num", .int top, .int 1]) (emb := id) (by unfold pNumT; rw [if_neg h])
  · have h : (tl t)[i]? = some 47 := by simpa using h
    refine x_nil (x_cons (x_at rfl (x_cons (x_asg (v_fld (v_var rfl (fl_at (s_bnd rfl ?_))))))))
    refine x_cons (x_asgX (m_call rfl no_figures (v_nil ?_)))
    refine SpR.use (fig_ok ht (Nat.le_trans (by decide) hwf)) ?_ ?_
    · intro bot j hb
      have hle := pFig_le hb
      refine s_bnd rfl ?_
      walk_at "v"
      have er : (bot = 1 ∨ Int.gcd top bot ≠ 1) → pNumT (tl t) top i = .er (i + 1) := fun hh => by
        unfold pNumT
        rw [if_pos h, hb]
        show (if bot = 1 ∨ Int.gcd top bot ≠ 1 then _ else _) = _
        rw [if_pos hh]
      refine br (fun h1 => ?_) (fun h1 => ?_)
      · have h1 : (bot : Int) = 1 := of_decide_eq_true h1
        walk_at "y"
        refine x_raise1 (attr := "position") rfl (v_var rfl ⟨_, rfl, ?_⟩)
        exact rx0 (p := i + 1) (er (.inl (by omega)))
      · have h1 : ¬ (bot : Int) = 1 := of_decide_eq_false h1
        walk_at "v"
        refine Rz.sat_eq (gcd_ok rfl (by unfold W0 at hwf; omega)) ?_
        walk_at "v"
        refine br (fun h2 => ?_) (fun h2 => ?_)
        · have h2 : ¬ gI top bot = 1 := by simpa using h2
          walk_at "v"
          refine x_raise1 (attr := "position") rfl (v_var rfl ⟨_, rfl, ?_⟩)
          exact rx0 (p := i + 1) (er (.inr fun z => h2 (by unfold gI; rw [z]; rfl)))
        · have h2 : gI top bot = 1 := by simpa using h2
          refine x_nil ?_
          walk_at "v"
          refine rp0 (a := D.tup [.str "num", .int top, .int bot]) (emb := id) ?_
          unfold pNumT
          rw [if_pos h, hb]
          show (if bot = 1 ∨ Int.gcd top bot ≠ 1 then _ else _) = _
          rw [if_neg]
          rintro (z | z)
          · exact h1 (by omega)
          · exact z (by unfold gI at h2; omega)
    · intro p i' o' hb
      refine rx0 ?_
      unfold pNumT
      rw [if_pos h, hb]
      rfl
theorem number_ok (ht : TxOk t) (hwf : W0 ≤ wf) : SpR A R t o id (pNum (tl t) i) (callI ft wf (k + 4) F_m_Reader_read_number [.m A.length] (St A R t i o)) := by
  refine SpR.body (fn := ⟨1, 4, c_m_Reader_read_number F_g_gcd F_m_Reader_here F_m_Reader_read_figures⟩) rfl rfl ?_
  have tail := fun {top : Int} {i : Nat} {x1 x2 : Option Fw.A} => num_tail (wf := wf) (k := k) (A := A) (R := R) (o := o) (i := i) ht hwf (top := top) (x1 := x1) (x2 := x2)
  show (Fw.run _ wf (c_m_Reader_read_number F_g_gcd F_m_Reader_here F_m_Reader_read_figures) [some (.m A.length), none, none, none] _).sx _ _ _
  have e0 : c_m_Reader_read_number F_g_gcd F_m_Reader_here F_m_Reader_read_figures = (c_m_Reader_read_number F_g_gcd F_m_Reader_here F_m_Reader_read_figures).take 1 ++ (c_m_Reader_read_number F_g_gcd F_m_Reader_here F_m_Reader_read_figures).drop 1 := rfl
  generalize (c_m_Reader_read_number F_g_gcd F_m_Reader_here F_m_Reader_read_figures).drop 1 = tt at e0 tail
  rw [e0]
  unfold c_m_Reader_read_number
  dsimp only [List.take, List.cons_append, List.nil_append]
  refine x_cons (x_ite (v_cmp (m_here ht rfl (v_cst (q_ch (c := 48) ht rfl (by decide) ?_)))))
  refine br (fun h => ?_) (fun h => ?_)
  · have h := of_decide_eq_true h
    refine x_cons (x_at rfl (x_cons (x_asg (v_cst (s_bnd rfl (x_nil ?_))))))
    have e : pNum (tl t) i = pNumT (tl t) 0 (i + 1) := by
      unfold pNum
      rw [if_pos h]
      rfl
    rw [e]
    exact tail
  · have h := of_decide_eq_false h
    refine x_cons (x_ite (v_cmp (m_here ht rfl (v_cst (q_ch (c := 45) ht rfl (by decide) ?_)))))
    refine br (fun h2 => ?_) (fun h2 => ?_)
    · have h2 := of_decide_eq_true h2
      refine x_cons (x_at rfl (x_cons (x_asgE (y_neg (y_x (m_call rfl no_figures (v_nil ?_)))))))
      refine SpR.use (fig_ok ht (Nat.le_trans (by decide) hwf)) ?_ ?_
      · intro n j hn
        have e : pNum (tl t) i = pNumT (tl t) (-(n : Int)) j := by
          unfold pNum
          rw [if_neg h, if_pos h2, hn]
          rfl
        rw [e]
        exact s_neg (s_bnd rfl (x_nil (x_nil tail)))
      · intro p i' o' hn
        refine rx0 ?_
        unfold pNum
        rw [if_neg h, if_pos h2, hn]
        rfl
    · have h2 := of_decide_eq_false h2
      refine x_cons (x_asgX (m_call rfl no_figures (v_nil ?_)))
      refine SpR.use (fig_ok ht (Nat.le_trans (by decide) hwf)) ?_ ?_
      · intro n j hn
        have e : pNum (tl t) i = pNumT (tl t) (n : Int) j := by
          unfold pNum
          rw [if_neg h, if_neg h2, hn]
          rfl
        rw [e]
        exact s_bnd rfl (x_nil (x_nil tail))
      · intro p i' o' hn
        refine rx0 ?_
        unfold pNum
        rw [if_neg h, if_neg h2, hn]
        rfl
end
end K15

namespace K15
open PySem PySem.Spec PyProof.Rows L2 Fw
local macro_rules | `(tactic| walk_at "v") => `(tactic| (repeat (first | ((with_reducible apply Fw.v_var); next => exact rfl) | with_reducible refine Fw.v_bin ?_ | with_reducible refine Fw.v_maxD ?_ | with_reducible refine Fw.v_sub ?_ | with_reducible refine Fw.v_cst ?_ | with_reducible refine Fw.v_cons ?_ | with_reducible refine Fw.v_nil ?_ | with_reducible refine Fw.v_cmp ?_ | with_reducible refine Fw.v_blt ?_ | with_reducible refine Fw.v_neg ?_ | with_reducible refine Fw.v_call ?_ | with_reducible refine Fw.v_callK ?_ | with_reducible refine Fw.v_not ?_ | with_reducible refine Fw.v_chain ?_ | with_reducible refine Fw.v_andT ?_ | with_reducible refine Fw.v_orT ?_ | with_reducible refine Fw.v_and ?_ | with_reducible refine Fw.v_or ?_ | with_reducible refine Fw.v_ite ?_ | with_reducible refine Fw.v_tup ?_ | with_reducible refine Fw.v_lst ?_ | with_reducible refine Fw.v_lstM ?_ | with_reducible refine Fw.v_slcH ?_ | with_reducible refine Fw.v_slcL ?_ | with_reducible refine Fw.v_isiT ?_ | with_reducible refine Fw.v_fstr ?_ | with_reducible refine Fw.v_fmt ?_ | with_reducible refine Fw.v_comp0 ?_ | with_reducible refine Fw.v_comp1 ?_ | with_reducible refine Fw.s_t0 ?_ | with_reducible refine Fw.s_t1 ?_ | with_reducible refine Fw.s_t2 ?_ | with_reducible refine Fw.s_l0 ?_ | with_reducible refine Fw.s_l1 ?_ | with_reducible refine Fw.s_l2 ?_ | with_reducible refine Fw.s_not ?_ | with_reducible refine Fw.s_neg ?_ | with_reducible refine Fw.o_add ?_ | with_reducible refine Fw.o_sub ?_ | with_reducible refine Fw.q_lt ?_ | with_reducible refine Fw.q_le ?_ | with_reducible refine Fw.q_gt ?_ | with_reducible refine Fw.q_ge ?_ | with_reducible refine Fw.q_eq ?_ | with_reducible refine Fw.q_ne ?_ | with_reducible refine Fw.q_eqB ?_ | with_reducible refine Fw.q_neB ?_ | with_reducible refine Fw.q_isN ?_ | with_reducible refine Fw.q_notN ?_ | with_reducible refine Fw.sat_cons ?_ | with_reducible refine Fw.w_asg ?_ | with_reducible refine Fw.w_par ?_ | with_reducible refine Fw.w_parT ?_ | with_reducible refine Fw.w_setI ?_ | with_reducible refine Fw.w_exp ?_ | with_reducible refine Fw.w_ret ?_ | with_reducible refine Fw.v_ccst ?_ | with_reducible refine Fw.v_app ?_ | with_reducible refine Fw.v_whyA ?_ | with_reducible refine Fw.v_fld ?_ | with_reducible refine Fw.w_ite ?_ | with_reducible refine Fw.w_for ?_ | with_reducible refine Fw.w_while ?_ | with_reducible refine Fw.v_tst ?_ | with_reducible refine Fw.x_cons ?_ | with_reducible refine Fw.x_asg ?_ | with_reducible refine Fw.x_exp ?_ | with_reducible refine Fw.x_ret ?_ | with_reducible refine Fw.x_ite ?_ | with_reducible refine Fw.x_asgX ?_ | with_reducible refine Fw.x_expX ?_ | with_reducible refine Fw.x_retX ?_ | with_reducible refine Fw.x_asgE ?_ | with_reducible refine Fw.x_expE ?_ | with_reducible refine Fw.x_retE ?_ | with_reducible refine Fw.x_for ?_ | with_reducible refine Fw.x_while ?_ | with_reducible refine Fw.y_p ?_ | with_reducible refine Fw.y_x ?_ | with_reducible refine Fw.y_neg ?_ | with_reducible refine Fw.y_int ?_ | with_reducible refine Fw.y_nil ?_ | with_reducible refine Fw.y_cons ?_ | with_reducible refine Fw.y_tup ?_ | with_reducible refine Fw.y_lstM ?_ | with_reducible refine Fw.v_tupS ?_ | with_reducible refine Fw.v_lstS ?_ | with_reducible refine Fw.v_snil ?_ | with_reducible refine Fw.v_scons ?_ | with_reducible refine Fw.v_slcB ?_ | ((with_reducible apply Fw.q_inT); next => exact rfl) | ((with_reducible apply Fw.s_sub); next => exact rfl) | ((with_reducible apply Fw.s_blt); next => exact rfl) | ((with_reducible apply Fw.s_tst); next => exact rfl) | ((with_reducible apply Fw.s_isi); next => exact rfl) | ((with_reducible apply Fw.s_asm); next => exact rfl) | ((with_reducible apply Fw.s_bnd); next => exact rfl) | ((with_reducible apply Fw.s_wlk); next => exact rfl) | ((with_reducible apply Fw.s_slcH); next => exact rfl) | ((with_reducible apply Fw.s_slcL); next => exact rfl) | ((with_reducible apply Fw.s_slcB); next => exact rfl) | ((with_reducible apply Fw.s_dsp); (next => exact rfl); (next => exact rfl)) | ((with_reducible apply Fw.s_set); (next => exact rfl); (next => exact rfl)) | ((with_reducible apply Fw.q_eqS); (next => first | exact ofStr_ok _ | assumption); (next => first | exact ofStr_ok _ | assumption)) | ((with_reducible refine Fw.o_mul ?_ ?_); next => first | assumption | exact mul_c (by omega) (by omega) | exact mul_cL (by omega) (by omega)) | ((with_reducible refine Fw.o_mod ?_ ?_); next => first | assumption | omega) | ((with_reducible refine Fw.o_div ?_ ?_); next => first | assumption | decide) | ((with_reducible refine Fw.o_pow ?_ ?_); next => decide))))
local macro_rules | `(tactic| walk_at "y") => `(tactic| (refine br (fun _ => ?_) (fun h => absurd h (by first | exact ft_no | exact tf_no | decide | simp)); walk_at "v"))
local macro_rules | `(tactic| walk_at "n") => `(tactic| (refine br (fun h => absurd h (by first | exact ft_no | exact tf_no | decide | simp)) (fun _ => ?_); (try refine sat_nil ?_); walk_at "v"))
/-! ### tests, words -/
section
variable {wf k : Nat} {A R : Store} {t : Str} {i o : Nat} {P : Fw.A → Store → Prop} {S : Store}
theorem any_ch (h : Option Nat) : ∀ cs : List Nat, ((cs.map fun c => (⟨#[c]⟩ : Str)).any fun z => z == chS h) = decide (h ∈ cs.map some)
  | [] => by simp
  | c :: cs => by
    rw [List.map_cons, List.any_cons, any_ch h cs, Bool.beq_comm, ch_eq, List.map_cons]
    by_cases h1 : h = some c
    · simp [h1]
    · simp [h1]
theorem strs_map : ∀ cs : List Nat, D.strs (cs.map fun c => D.str ⟨#[c]⟩) = some (cs.map fun c => ⟨#[c]⟩)
  | [] => rfl
  | c :: cs => by
    rw [List.map_cons, D.strs, strs_map cs]
    rfl
theorem q_nin {h : Option Nat} {cs : List Nat} {ys : List D} (hy : ys = cs.map fun c => .str ⟨#[c]⟩) (k : P (.p (.bl (!decide (h ∈ cs.map some)))) S) : CmpV .NotIn (.p (.str (chS h))) (.p (.tup ys)) S P := by
  subst hy
  refine ⟨!decide (h ∈ cs.map some), ?_, k⟩
  show (cmpF.inFT (.str (chS h)) (cs.map fun c => .str ⟨#[c]⟩)).map _ = _
  unfold cmpF.inFT
  rw [strs_map]
  dsimp only
  rw [any_ch]
  rfl
theorem sS_ok {L : List Nat} {signs : List Nat} {m i j : Nat} {ds : List Nat} (hs : ∀ c ∈ signs, c < 128) (h : pRun L signs m i = .ok ds j) : PyData.strOk (sS ds) = true := strOk_asc (by
  intro c hc
  rw [show (sS ds).cps.toList = ds from tl_sS ds] at hc
  exact hs c ((pRun_ok h).2.2.1 c hc))
theorem abc_lt : ∀ c ∈ abcL, c < 128 := by decide +kernel
theorem four_dig {ds : List Nat} {L : List Nat} {i j : Nat} {sg : List Nat} (hs : ∀ c ∈ sg, c ∈ digL) (h : pRun L sg 1 i = .ok ds j) : (∀ c ∈ ds, c ∈ digL) ∧ ds ≠ [] ∧ ds.length ≤ 50 := by
  obtain ⟨h1, h2, h3, _⟩ := pRun_ok h
  exact ⟨fun c hc => hs c (h3 c hc), h1, by omega⟩
theorem test_ok (ht : TxOk t) (hwf : W0 ≤ wf) : SpR A R t o id (pTest (tl t) i) (callI ft wf (k + 4) F_m_Reader_read_test [.m A.length] (St A R t i o)) := by
  have hw : 100 ≤ wf := Nat.le_trans (by decide) hwf
  refine SpR.body (fn := ⟨1, 5, c_m_Reader_read_test F_m_Reader_fail F_m_Reader_here F_m_Reader_read_name F_m_Reader_read_run F_m_Reader_take⟩) rfl rfl ?_
  show (Fw.run _ wf (c_m_Reader_read_test F_m_Reader_fail F_m_Reader_here F_m_Reader_read_name F_m_Reader_read_run F_m_Reader_take) [some (.m A.length), none, none, none, none] _).sx _ _ _
  unfold c_m_Reader_read_test
  refine x_cons (x_expX (m_call rfl no_take (v_cons (v_cst (v_nil ?_)))))
  refine SpR.use (take_ok ht (x := "[") (by decide +kernel)) ?_ ?_
  rotate_left
  · intro p i' o' h1
    have h1 : pTake (tl t) [91] i = .er p := h1
    exact rx0 (by unfold pTest; rw [h1]; rfl)
  intro _ i1 h1
  have h1 : pTake (tl t) [91] i = .ok () i1 := h1
  refine x_cons (x_asgX (m_call rfl no_name (v_nil ?_)))
  refine SpR.use (name_ok ht hw) ?_ ?_
  rotate_left
  · intro p i' o' h2
    exact rx0 (by unfold pTest; rw [h1]; show (pName (tl t) i1).bind _ = _; rw [h2]; rfl)
  intro one i2 h2
  refine s_bnd rfl (x_cons (x_asg (m_here ht rfl (s_bnd rfl ?_))))
  refine x_cons (x_ite (v_cmp (v_var rfl ?_)))
  walk_at "v"
  refine q_nin (cs := [61, 126, 58, 64]) rfl (br (fun h => ?_) fun h => ?_)
  · have h : ¬ (tl t)[i2]? ∈ [some 61, some 126, some 58, some 64] := by simpa using h
    refine x_cons (z_fail rfl (rx0 ?_))
    unfold pTest
    rw [h1]
    show (pName (tl t) i1).bind _ = _
    rw [h2]
    show (if (tl t)[i2]? ∈ [some 61, some 126, some 58, some 64] then _ else _) = _
    rw [if_neg h]
  · have h : (tl t)[i2]? ∈ [some 61, some 126, some 58, some 64] := by
      rw [Bool.not_eq_false'] at h
      exact of_decide_eq_true h
    have eT : pTest (tl t) i = (pName (tl t) (i2 + 1)).bind fun other i3 =>
        (if (tl t)[i2]? = some 126 then (pTake (tl t) [58] i3).bind fun _ i4 => (pRun (tl t) [48, 49, 50, 51] 1 i4).bind fun ds i5 => .ok (.tup [.str "near", .int (NumText.digitsVal ds : Nat), .str (sS one), .str (sS other)]) i5
         else if (tl t)[i2]? = some 61 then .ok (.tup [.str "same", .str (sS one), .str (sS other)]) i3
         else .ok (.tup [.str (if (tl t)[i2]? = some 58 then "part" else "wave"), .str (sS other), .str (sS one)]) i3).bind fun found i6 => (pTake (tl t) [93] i6).bind fun _ i7 => .ok found i7 := by
      unfold pTest
      rw [h1]
      show (pName (tl t) i1).bind _ = _
      rw [h2]
      show (if (tl t)[i2]? ∈ [some 61, some 126, some 58, some 64] then _ else _) = _
      rw [if_pos h]
    rw [eT]
    clear eT
    refine x_nil (x_cons (x_at rfl (x_cons (x_asgX (m_call rfl no_name (v_nil ?_))))))
    refine SpR.use (name_ok ht hw) ?_ ?_
    rotate_left
    · intro p i' o' h3
      exact rx0 (by rw [h3]; rfl)
    intro other i3 h3
    rw [h3]
    refine s_bnd rfl ?_
    have fin : ∀ {found : D} {i6 : Nat} {r : RR D} {x1 x2 x3 : Option Fw.A}, r = (pTake (tl t) [93] i6).bind (fun _ i7 => RR.ok found i7) → (Fw.run (callI ft wf (k + 3)) wf [.expX (.meth 0 F_m_Reader_take "take" (.var 0) [(.cst (.str "]"))] []), .ret (.var 4)] [some (.m A.length), x1, x2, x3, some (.p found)] (St A R t i6 o)).sx (fun _ _ => False) (RP A R t o id r) (RX A R t r) := by
      intro found i6 r x1 x2 x3 er
      refine x_cons (x_expX (m_call rfl no_take (v_cons (v_cst (v_nil ?_)))))
      refine SpR.use (take_ok ht (x := "]") (by decide +kernel)) ?_ ?_
      · intro _ i7 h7
        have h7 : pTake (tl t) [93] i6 = .ok () i7 := h7
        rw [h7] at er
        refine x_cons (x_ret (v_var rfl (rp0 (a := found) (emb := id) er)))
      · intro p i' o' h7
        have h7 : pTake (tl t) [93] i6 = .er p := h7
        rw [h7] at er
        exact rx0 er
    walk_at "v"
    refine q_ch (c := 126) ht rfl (by decide) (br (fun h4 => ?_) fun h4 => ?_)
    · have h4 := of_decide_eq_true h4
      refine x_cons (x_expX (m_call rfl no_take (v_cons (v_cst (v_nil ?_)))))
      refine SpR.use (take_ok ht (x := ":") (by decide +kernel)) ?_ ?_
      rotate_left
      · intro p i' o' h5
        have h5 : pTake (tl t) [58] i3 = .er p := h5
        exact rx0 (by show RR.bind (if _ then _ else _) _ = _; rw [if_pos h4, h5]; rfl)
      intro _ i4 h5
      have h5 : pTake (tl t) [58] i3 = .ok () i4 := h5
      refine x_cons (x_asgE (y_tup (y_cons (y_p (v_cst ?_)))))
      refine y_cons (y_int (y_x (m_call rfl no_run (v_cons (v_cst (v_cons (v_cst (v_nil ?_))))))))
      refine SpR.use (run_ok ht hw (x := "0123") (most := 1) (by decide)) ?_ ?_
      rotate_left
      · intro p i' o' h6
        have h6 : pRun (tl t) [48, 49, 50, 51] 1 i4 = .er p := h6
        refine rx0 ?_
        show RR.bind (if _ then _ else _) _ = _
        rw [if_pos h4, h5]
        show RR.bind (RR.bind (pRun (tl t) [48, 49, 50, 51] 1 i4) _) _ = _
        rw [h6]
        rfl
      intro ds i5 h6
      have h6 : pRun (tl t) [48, 49, 50, 51] 1 i4 = .ok ds i5 := h6
      obtain ⟨d1, d2, d3⟩ := four_dig (by decide +kernel) h6
      refine int_ok d1 d2 d3 ?_
      walk_at "v"
      refine x_nil (fin ?_)
      show RR.bind (if _ then _ else _) _ = _
      rw [if_pos h4, h5]
      show RR.bind (RR.bind (pRun (tl t) [48, 49, 50, 51] 1 i4) _) _ = _
      rw [h6]
      rfl
    · have h4 := of_decide_eq_false h4
      walk_at "v"
      refine q_nch (c := 61) ht rfl (by decide) (br (fun h5 => ?_) fun h5 => ?_)
      · have h5 : ¬ (tl t)[i2]? = some 61 := by simpa using h5
        walk_at "v"
        refine q_ch (c := 58) ht rfl (by decide) (br (fun h6 => ?_) fun h6 => ?_)
        · have h6 := of_decide_eq_true h6
          walk_at "v"
          refine x_nil (x_nil (fin ?_))
          show RR.bind (if _ then _ else _) _ = _
          rw [if_neg h4, if_neg h5, if_pos h6]
          rfl
        · have h6 := of_decide_eq_false h6
          walk_at "v"
          refine x_nil (x_nil (fin ?_))
          show RR.bind (if _ then _ else _) _ = _
          rw [if_neg h4, if_neg h5, if_neg h6]
          rfl
      · have h5 : (tl t)[i2]? = some 61 := by simpa using h5
        refine x_nil (x_nil (fin ?_))
        show RR.bind (if _ then _ else _) _ = _
        rw [if_neg h4, if_pos h5]
        rfl
end
end K15

namespace K15
open PySem PySem.Spec PyProof.Rows L2 Fw
local macro_rules | `(tactic| walk_at "v") => `(tactic| (repeat (first | ((with_reducible apply Fw.v_var); next => exact rfl) | with_reducible refine Fw.v_bin ?_ | with_reducible refine Fw.v_maxD ?_ | with_reducible refine Fw.v_sub ?_ | with_reducible refine Fw.v_cst ?_ | with_reducible refine Fw.v_cons ?_ | with_reducible refine Fw.v_nil ?_ | with_reducible refine Fw.v_cmp ?_ | with_reducible refine Fw.v_blt ?_ | with_reducible refine Fw.v_neg ?_ | with_reducible refine Fw.v_call ?_ | with_reducible refine Fw.v_callK ?_ | with_reducible refine Fw.v_not ?_ | with_reducible refine Fw.v_chain ?_ | with_reducible refine Fw.v_andT ?_ | with_reducible refine Fw.v_orT ?_ | with_reducible refine Fw.v_and ?_ | with_reducible refine Fw.v_or ?_ | with_reducible refine Fw.v_ite ?_ | with_reducible refine Fw.v_tup ?_ | with_reducible refine Fw.v_lst ?_ | with_reducible refine Fw.v_lstM ?_ | with_reducible refine Fw.v_slcH ?_ | with_reducible refine Fw.v_slcL ?_ | with_reducible refine Fw.v_isiT ?_ | with_reducible refine Fw.v_fstr ?_ | with_reducible refine Fw.v_fmt ?_ | with_reducible refine Fw.v_comp0 ?_ | with_reducible refine Fw.v_comp1 ?_ | with_reducible refine Fw.s_t0 ?_ | with_reducible refine Fw.s_t1 ?_ | with_reducible refine Fw.s_t2 ?_ | with_reducible refine Fw.s_l0 ?_ | with_reducible refine Fw.s_l1 ?_ | with_reducible refine Fw.s_l2 ?_ | with_reducible refine Fw.s_not ?_ | with_reducible refine Fw.s_neg ?_ | with_reducible refine Fw.o_add ?_ | with_reducible refine Fw.o_sub ?_ | with_reducible refine Fw.q_lt ?_ | with_reducible refine Fw.q_le ?_ | with_reducible refine Fw.q_gt ?_ | with_reducible refine Fw.q_ge ?_ | with_reducible refine Fw.q_eq ?_ | with_reducible refine Fw.q_ne ?_ | with_reducible refine Fw.q_eqB ?_ | with_reducible refine Fw.q_neB ?_ | with_reducible refine Fw.q_isN ?_ | with_reducible refine Fw.q_notN ?_ | with_reducible refine Fw.sat_cons ?_ | with_reducible refine Fw.w_asg ?_ | with_reducible refine Fw.w_par ?_ | with_reducible refine Fw.w_parT ?_ | with_reducible refine Fw.w_setI ?_ | with_reducible refine Fw.w_exp ?_ | with_reducible refine Fw.w_ret ?_ | with_reducible refine Fw.v_ccst ?_ | with_reducible refine Fw.v_app ?_ | with_reducible refine Fw.v_whyA ?_ | with_reducible refine Fw.v_fld ?_ | with_reducible refine Fw.w_ite ?_ | with_reducible refine Fw.w_for ?_ | with_reducible refine Fw.w_while ?_ | with_reducible refine Fw.v_tst ?_ | with_reducible refine Fw.x_cons ?_ | with_reducible refine Fw.x_asg ?_ | with_reducible refine Fw.x_exp ?_ | with_reducible refine Fw.x_ret ?_ | with_reducible refine Fw.x_ite ?_ | with_reducible refine Fw.x_asgX ?_ | with_reducible refine Fw.x_expX ?_ | with_reducible refine Fw.x_retX ?_ | with_reducible refine Fw.x_asgE ?_ | with_reducible refine Fw.x_expE ?_ | with_reducible refine Fw.x_retE ?_ | with_reducible refine Fw.x_for ?_ | with_reducible refine Fw.x_while ?_ | with_reducible refine Fw.y_p ?_ | with_reducible refine Fw.y_x ?_ | with_reducible refine Fw.y_neg ?_ | with_reducible refine Fw.y_int ?_ | with_reducible refine Fw.y_nil ?_ | with_reducible refine Fw.y_cons ?_ | with_reducible refine Fw.y_tup ?_ | with_reducible refine Fw.y_lstM ?_ | with_reducible refine Fw.v_tupS ?_ | with_reducible refine Fw.v_lstS ?_ | with_reducible refine Fw.v_snil ?_ | with_reducible refine Fw.v_scons ?_ | with_reducible refine Fw.v_slcB ?_ | ((with_reducible apply Fw.q_inT); next => exact rfl) | ((with_reducible apply Fw.s_sub); next => exact rfl) | ((with_reducible apply Fw.s_blt); next => exact rfl) | ((with_reducible apply Fw.s_tst); next => exact rfl) | ((with_reducible apply Fw.s_isi); next => exact rfl) | ((with_reducible apply Fw.s_asm); next => exact rfl) | ((with_reducible apply Fw.s_bnd); next => exact rfl) | ((with_reducible apply Fw.s_wlk); next => exact rfl) | ((with_reducible apply Fw.s_slcH); next => exact rfl) | ((with_reducible apply Fw.s_slcL); next => exact rfl) | ((with_reducible apply Fw.s_slcB); next => exact rfl) | ((with_reducible apply Fw.s_dsp); (next => exact rfl); (next => exact rfl)) | ((with_reducible apply Fw.s_set); (next => exact rfl); (next => exact rfl)) | ((with_reducible apply Fw.q_eqS); (next => first | exact ofStr_ok _ | assumption); (next => first | exact ofStr_ok _ | assumption)) | ((with_reducible refine Fw.o_mul ?_ ?_); next => first | assumption | exact mul_c (by omega) (by omega) | exact mul_cL (by omega) (by omega)) | ((with_reducible refine Fw.o_mod ?_ ?_); next => first | assumption | omega) | ((with_reducible refine Fw.o_div ?_ ?_); next => first | assumption | decide) | ((with_reducible refine Fw.o_pow ?_ ?_); next => decide))))
local macro_rules | `(tactic| walk_at "y") => `(tactic| (refine br (fun _ => ?_) (fun h => absurd h (by first | exact ft_no | exact tf_no | decide | simp)); walk_at "v"))
local macro_rules | `(tactic| walk_at "n") => `(tactic| (refine br (fun h => absurd h (by first | exact ft_no | exact tf_no | decide | simp)) (fun _ => ?_); (try refine sat_nil ?_); walk_at "v"))
/-! ### words -/
section
variable {wf k : Nat} {A R : Store} {t : Str} {i o : Nat} {P : Fw.A → Store → Prop} {S : Store}
def RcOk (t : Str) (wf kk o : Nat) : Option (Nat → RR D) → Prop
  | none => o = 10
  | some f => o < 10 ∧ (∀ A R i, SpR A R t (o + 1) id (f i) (callI ft wf kk F_m_Reader_read_all [.m A.length] (St A R t i (o + 1)))) ∧ ∀ i d j, f i = .ok d j → ∃ x l, d = .tup (.str x :: l)
theorem sS_eq (l : List Nat) (y : Str) : (sS l == y) = decide (l = tl y) := by
  by_cases h : l = tl y
  · rw [decide_eq_true h, h, sS_tl]
    exact beq_self_eq_true _
  · rw [decide_eq_false h, beq_eq_false_iff_ne]
    intro z
    exact h (by rw [← z, tl_sS])
theorem len_m {j : Nat} {ds : List D} (h : S[j]? = some (.lst ds)) (k : P (.p (.int ds.length)) S) : BltV .len [.m j] S P := ⟨.p (.int ds.length), by unfold bltF; dsimp only; rw [h], k⟩
theorem sub_m {j : Nat} {d : D} {ds : List D} (h : S[j]? = some (.lst (d :: ds))) (k : P (.p d) S) : SubV (.m j) (.p (.int 0)) S P := ⟨.p d, by unfold subF; dsimp only; rw [h]; show (atI (d :: ds) 0).map Fw.A.p = _; rw [at0]; rfl, k⟩
theorem tup_m {j : Nat} {ds : List D} (h : S[j]? = some (.lst ds)) (k : P (.p (.tup ds)) S) : BltV .tuple [.m j] S P := ⟨.p (.tup ds), by unfold bltF; dsimp only; rw [h], k⟩
theorem z_take (ht : TxOk t) {x : Str} {ρ : Fw.Env} {PE : Fw.Env → Store → Prop} {PR : Fw.A → Store → Prop} {X : Exn → Store → Prop} (hx : ∀ c ∈ tl x, c < 128) (h : ρ[0]? = some (some (.m A.length))) (k1 : ∀ j, pTake (tl t) (tl x) i = .ok () j → PE ρ (St A R t j o)) (k2 : ∀ p i' o', pTake (tl t) (tl x) i = .er p → X (xT p) (St A R t i' o')) :
    (run1 (callI ft wf (k + 2)) wf (.expX (.meth 0 F_m_Reader_take "take" (.var 0) [(.cst (.str x))] [])) ρ (St A R t i o)).sx PE PR X :=
  x_expX (m_call h no_take (v_cons (v_cst (v_nil (SpR.use (take_ok ht hx) (fun _ j e => k1 j e) k2)))))
def namD (l : List (List Nat)) : List D := l.map fun n => .str (sS n)
theorem word_tail (ht : TxOk t) (hw : 100 ≤ wf) {word nm : List Nat} {i3 : Nat} {r : RR D} {x3 : Option Fw.A} (er : r = (pNames (tl t) 2 [nm] i3).bind fun names i4 => (pTake (tl t) [41] i4).bind fun _ i5 => .ok (.tup [.str "trait", .str (sS word), .tup (names.map fun n => .str (sS n))]) i5) :
    (Fw.run (callI ft wf (k + 3)) wf [.while (.and (.cmp .Eq (.meth 0 F_m_Reader_here "here" (.var 0) [] []) (.cst (.str ","))) (.cmp .Lt (.blt .len [(.var 2)]) (.cst (.int 3)))) [.augF 0 (.var 0) "at" false (.cst (.int 1)), .expE (.app (.var 2) (.x (.meth 0 F_m_Reader_read_name "read_name" (.var 0) [] [])))], .expX (.meth 0 F_m_Reader_take "take" (.var 0) [(.cst (.str ")"))] []), .ret (.tup [(.cst (.str "trait")), (.var 1), (.blt .tuple [(.var 2)])])] [some (.m A.length), some (.p (.str (sS word))), some (.m (A.length + 1 + R.length)), x3] (St A (R ++ [.lst (namD [nm])]) t i3 o)).sx (fun _ _ => False) (RP A R t o id r) (RX A R t r) := by
  have eL : LIM = 100000 := rfl
  refine x_cons (x_while ?_)
  refine while_sx (fun m ρ S => ∃ acc i', m = 3 - acc.length ∧ 1 ≤ acc.length ∧ acc.length ≤ 3 ∧ ρ = [some (.m A.length), some (.p (.str (sS word))), some (.m (A.length + 1 + R.length)), x3] ∧ S = St A (R ++ [.lst (namD acc)]) t i' o ∧ pNames (tl t) 2 [nm] i3 = pNames (tl t) (3 - acc.length) acc i') wf 2 _ _ (by omega) ⟨[nm], i3, rfl, Nat.le_refl 1, by show 1 ≤ 3; decide, rfl, rfl, rfl⟩ ?_
  rintro m ρ S ⟨acc, i', hm, ha1, ha3, rfl, rfl, hp⟩
  have exit : ∀ {S : Store}, S = St A (R ++ [.lst (namD acc)]) t i' o → pNames (tl t) (3 - acc.length) acc i' = .ok acc i' → (Fw.run (callI ft wf (k + 3)) wf [.expX (.meth 0 F_m_Reader_take "take" (.var 0) [(.cst (.str ")"))] []), .ret (.tup [(.cst (.str "trait")), (.var 1), (.blt .tuple [(.var 2)])])] [some (.m A.length), some (.p (.str (sS word))), some (.m (A.length + 1 + R.length)), x3] S).sx (fun _ _ => False) (RP A R t o id r) (RX A R t r) := by
    rintro S rfl h0
    rw [hp, h0] at er
    refine x_cons (z_take ht (by decide +kernel) rfl ?_ ?_)
    · intro j hj
      have hj : pTake (tl t) [41] i' = .ok () j := hj
      walk_at "v"
      refine tup_m St.last ?_
      walk_at "v"
      refine rp1 (a := D.tup [.str "trait", .str (sS word), .tup (namD acc)]) (emb := id) ?_
      rw [er]
      show (pTake (tl t) [41] i').bind _ = _
      rw [hj]
      rfl
    · intro p i1 o1 hj
      have hj : pTake (tl t) [41] i' = .er p := hj
      refine rx1 ?_
      rw [er]
      show (pTake (tl t) [41] i').bind _ = _
      rw [hj]
      rfl
  refine v_andT (v_cmp (m_here ht rfl (v_cst (q_ch (c := 44) ht rfl (by decide) (br (fun h => ?_) fun h => ?_)))))
  · have h := of_decide_eq_true h
    refine v_cmp (v_blt (v_cons (v_var rfl (v_nil (len_m St.last (v_cst (q_lt (br (fun h2 => ?_) fun h2 => ?_))))))))
    · have h2 : ((namD acc).length : Int) < 3 := of_decide_eq_true h2
      have hl : (namD acc).length = acc.length := List.length_map ..
      have ep : pNames (tl t) (3 - acc.length) acc i' = (pName (tl t) (i' + 1)).bind fun nm i1 => pNames (tl t) (3 - (acc.length + 1)) (acc ++ [nm]) i1 := by
        rw [show 3 - acc.length = (3 - (acc.length + 1)) + 1 by omega, pNames, if_pos h]
      refine x_cons (x_at rfl (x_cons (x_expE (y_app rfl St.last (y_x (m_call rfl no_name (v_nil ?_)))))))
      refine SpR.use (name_ok ht hw) ?_ ?_
      · intro n2 j hn
        rw [hn] at ep
        refine ⟨_, namD acc, rfl, St.last, by omega, x_nil ⟨3 - (acc.length + 1), by omega, acc ++ [n2], j, by rw [List.length_append]; rfl, by rw [List.length_append]; omega, by rw [List.length_append, List.length_singleton]; omega, rfl, ?_, ?_⟩⟩
        · rw [St.setl]
          unfold namD
          rw [List.map_append]
          rfl
        · rw [hp, ep, List.length_append]
          rfl
      · intro p i1 o1 hn
        rw [hn] at ep
        refine rx1 ?_
        rw [er, hp, ep]
        rfl
    · have h2 : ¬ ((namD acc).length : Int) < 3 := of_decide_eq_false h2
      have hl : (namD acc).length = acc.length := List.length_map ..
      refine exit rfl ?_
      rw [show 3 - acc.length = 0 by omega, pNames]
  · have h := of_decide_eq_false h
    refine br (fun z => absurd z ft_no) fun _ => exit rfl ?_
    cases 3 - acc.length with
    | zero => rfl
    | succ q => rw [pNames, if_neg h]
theorem rword_ok (ht : TxOk t) (hwf : W0 ≤ wf) {rc : Option (Nat → RR D)} (hrc : RcOk t wf (k + 3) o rc) : SpR A R t o id (pWord (tl t) rc i) (callI ft wf (k + 4) F_m_Reader_read_word [.m A.length] (St A R t i o)) := by
  have hw : 100 ≤ wf := Nat.le_trans (by decide) hwf
  refine SpR.body (fn := ⟨1, 4, c_m_Reader_read_word F_m_Reader_fail F_m_Reader_here F_m_Reader_read_all F_m_Reader_read_name F_m_Reader_take⟩) rfl rfl ?_
  show (Fw.run _ wf (c_m_Reader_read_word F_m_Reader_fail F_m_Reader_here F_m_Reader_read_all F_m_Reader_read_name F_m_Reader_take) [some (.m A.length), none, none, none] _).sx _ _ _
  unfold c_m_Reader_read_word
  refine x_cons (x_asgX (m_call rfl no_name (v_nil ?_)))
  refine SpR.use (name_ok ht hw) ?_ ?_
  rotate_left
  · intro p i' o' h1
    exact rx0 (by unfold pWord; rw [h1]; rfl)
  intro word i1 h1
  refine s_bnd rfl (x_cons (z_take ht (by decide +kernel) rfl ?_ ?_))
  rotate_left
  · intro p i' o' h2
    have h2 : pTake (tl t) [40] i1 = .er p := h2
    exact rx0 (by unfold pWord; rw [h1]; show (pTake (tl t) [40] i1).bind _ = _; rw [h2]; rfl)
  intro i2 h2
  have h2 : pTake (tl t) [40] i1 = .ok () i2 := h2
  refine x_cons (x_asgE (y_lstM (y_cons (y_x (m_call rfl no_name (v_nil ?_))))))
  refine SpR.use (name_ok ht hw) ?_ ?_
  rotate_left
  · intro p i' o' h3
    refine rx0 ?_
    unfold pWord
    rw [h1]
    show (pTake (tl t) [40] i1).bind _ = _
    rw [h2]
    show (pName (tl t) i2).bind _ = _
    rw [h3]
    rfl
  intro nm i3 h3
  have eW : pWord (tl t) rc i = if word = [115, 117, 109] ∧ (tl t)[i3]? = some 58 then (match rc with
      | none => .er i3
      | some f => (pTake (tl t) [58, 32] i3).bind fun _ i4 => (f i4).bind fun body i5 => (pTake (tl t) [41] i5).bind fun _ i6 => .ok (.tup [.str "sum", .str (sS nm), body]) i6)
    else (pNames (tl t) 2 [nm] i3).bind fun names i4 => (pTake (tl t) [41] i4).bind fun _ i5 => .ok (.tup [.str "trait", .str (sS word), .tup (names.map fun n => .str (sS n))]) i5 := by
    unfold pWord
    rw [h1]
    show (pTake (tl t) [40] i1).bind _ = _
    rw [h2]
    show (pName (tl t) i2).bind _ = _
    rw [h3]
    rfl
  rw [eW]
  clear eW
  refine y_nil (s_dsp rfl rfl (s_bnd rfl ?_))
  rw [St.app, St.len]
  have hso := sS_ok abc_lt h1
  refine x_cons (x_ite (v_andT (v_cmp (v_var rfl (v_cst ⟨_, eqF_str hso (ofStr_ok _), ?_⟩)))))
  rw [sS_eq, show tl "sum" = [115, 117, 109] from rfl]
  have tail := fun {r : RR D} er => word_tail (wf := wf) (k := k) (A := A) (R := R) (o := o) ht hw (word := word) (nm := nm) (i3 := i3) (r := r) (x3 := none) er
  refine br (fun h4 => ?_) fun h4 => ?_
  · have h4 := of_decide_eq_true h4
    refine v_cmp (m_here ht rfl (v_cst (q_ch (c := 58) ht rfl (by decide) (br (fun h5 => ?_) fun h5 => ?_))))
    · have h5 := of_decide_eq_true h5
      rw [if_pos ⟨h4, h5⟩]
      refine x_cons (x_ite (v_cmp (v_fld (v_var rfl (fl_open (v_cst (q_eq (br (fun h6 => ?_) fun h6 => ?_))))))))
      · have h6 : (o : Int) = 10 := of_decide_eq_true h6
        cases rc with
        | none => exact x_cons (z_fail rfl (rx1 rfl))
        | some f =>
          have := hrc.1
          omega
      · have h6 : ¬ (o : Int) = 10 := of_decide_eq_false h6
        cases rc with
        | none =>
          have hrc : o = 10 := hrc
          omega
        | some f =>
          refine x_nil (x_cons (z_take ht (by decide +kernel) rfl ?_ ?_))
          rotate_left
          · intro p i' o' h7
            have h7 : pTake (tl t) [58, 32] i3 = .er p := h7
            exact rx1 (by show (pTake (tl t) [58, 32] i3).bind _ = _; rw [h7]; rfl)
          intro i4 h7
          have h7 : pTake (tl t) [58, 32] i3 = .ok () i4 := h7
          refine x_cons (x_opP rfl (x_cons (x_asgE (y_tup (y_cons (y_p (v_cst ?_)))))))
          refine y_cons (y_p (v_sub (v_var rfl (v_cst (sub_m St.last ?_)))))
          refine y_cons (y_x (m_call rfl no_all (v_nil ?_)))
          refine SpR.use (hrc.2.1 A _ i4) ?_ ?_
          rotate_left
          · intro p i' o' h8
            refine rx1 ?_
            show (pTake (tl t) [58, 32] i3).bind _ = _
            rw [h7]
            show (f i4).bind _ = _
            rw [h8]
            rfl
          intro body i5 h8
          refine y_nil (s_dsp rfl rfl (s_bnd rfl (x_cons (x_opM rfl (x_cons (z_take ht (by decide +kernel) rfl ?_ ?_))))))
          · intro i6 h9
            have h9 : pTake (tl t) [41] i5 = .ok () i6 := h9
            refine x_cons (x_ret (v_var rfl (rp1 (a := D.tup [.str "sum", .str (sS nm), body]) (emb := id) ?_)))
            show (pTake (tl t) [58, 32] i3).bind _ = _
            rw [h7]
            show (f i4).bind _ = _
            rw [h8]
            show (pTake (tl t) [41] i5).bind _ = _
            rw [h9]
            rfl
          · intro p i' o' h9
            have h9 : pTake (tl t) [41] i5 = .er p := h9
            refine rx1 ?_
            show (pTake (tl t) [58, 32] i3).bind _ = _
            rw [h7]
            show (f i4).bind _ = _
            rw [h8]
            show (pTake (tl t) [41] i5).bind _ = _
            rw [h9]
            rfl
    · have h5 := of_decide_eq_false h5
      rw [if_neg (fun z => h5 z.2)]
      exact x_nil (tail rfl)
  · have h4 := of_decide_eq_false h4
    rw [if_neg (fun z => h4 z.1)]
    exact br (fun z => absurd z ft_no) fun _ => x_nil (tail rfl)
end
end K15

namespace K15
open PySem PySem.Spec PyProof.Rows L2 Fw
local macro_rules | `(tactic| walk_at "v") => `(tactic| (repeat (first | ((with_reducible apply Fw.v_var); next => exact rfl) | with_reducible refine Fw.v_bin ?_ | with_reducible refine Fw.v_maxD ?_ | with_reducible refine Fw.v_sub ?_ | with_reducible refine Fw.v_cst ?_ | with_reducible refine Fw.v_cons ?_ | with_reducible refine Fw.v_nil ?_ | with_reducible refine Fw.v_cmp ?_ | with_reducible refine Fw.v_blt ?_ | with_reducible refine Fw.v_neg ?_ | with_reducible refine Fw.v_call ?_ | with_reducible refine Fw.v_callK ?_ | with_reducible refine Fw.v_not ?_ | with_reducible refine Fw.v_chain ?_ | with_reducible refine Fw.v_andT ?_ | with_reducible refine Fw.v_orT ?_ | with_reducible refine Fw.v_and ?_ | with_reducible refine Fw.v_or ?_ | with_reducible refine Fw.v_ite ?_ | with_reducible refine Fw.v_tup ?_ | with_reducible refine Fw.v_lst ?_ | with_reducible refine Fw.v_lstM ?_ | with_reducible refine Fw.v_slcH ?_ | with_reducible refine Fw.v_slcL ?_ | with_reducible refine Fw.v_isiT ?_ | with_reducible refine Fw.v_fstr ?_ | with_reducible refine Fw.v_fmt ?_ | with_reducible refine Fw.v_comp0 ?_ | with_reducible refine Fw.v_comp1 ?_ | with_reducible refine Fw.s_t0 ?_ | with_reducible refine Fw.s_t1 ?_ | with_reducible refine Fw.s_t2 ?_ | with_reducible refine Fw.s_l0 ?_ | with_reducible refine Fw.s_l1 ?_ | with_reducible refine Fw.s_l2 ?_ | with_reducible refine Fw.s_not ?_ | with_reducible refine Fw.s_neg ?_ | with_reducible refine Fw.o_add ?_ | with_reducible refine Fw.o_sub ?_ | with_reducible refine Fw.q_lt ?_ | with_reducible refine Fw.q_le ?_ | with_reducible refine Fw.q_gt ?_ | with_reducible refine Fw.q_ge ?_ | with_reducible refine Fw.q_eq ?_ | with_reducible refine Fw.q_ne ?_ | with_reducible refine Fw.q_eqB ?_ | with_reducible refine Fw.q_neB ?_ | with_reducible refine Fw.q_isN ?_ | with_reducible refine Fw.q_notN ?_ | with_reducible refine Fw.sat_cons ?_ | with_reducible refine Fw.w_asg ?_ | with_reducible refine Fw.w_par ?_ | with_reducible refine Fw.w_parT ?_ | with_reducible refine Fw.w_setI ?_ | with_reducible refine Fw.w_exp ?_ | with_reducible refine Fw.w_ret ?_ | with_reducible refine Fw.v_ccst ?_ | with_reducible refine Fw.v_app ?_ | with_reducible refine Fw.v_whyA ?_ | with_reducible refine Fw.v_fld ?_ | with_reducible refine Fw.w_ite ?_ | with_reducible refine Fw.w_for ?_ | with_reducible refine Fw.w_while ?_ | with_reducible refine Fw.v_tst ?_ | with_reducible refine Fw.x_cons ?_ | with_reducible refine Fw.x_asg ?_ | with_reducible refine Fw.x_exp ?_ | with_reducible refine Fw.x_ret ?_ | with_reducible refine Fw.x_ite ?_ | with_reducible refine Fw.x_asgX ?_ | with_reducible refine Fw.x_expX ?_ | with_reducible refine Fw.x_retX ?_ | with_reducible refine Fw.x_asgE ?_ | with_reducible refine Fw.x_expE ?_ | with_reducible refine Fw.x_retE ?_ | with_reducible refine Fw.x_for ?_ | with_reducible refine Fw.x_while ?_ | with_reducible refine Fw.y_p ?_ | with_reducible refine Fw.y_x ?_ | with_reducible refine Fw.y_neg ?_ | with_reducible refine Fw.y_int ?_ | with_reducible refine Fw.y_nil ?_ | with_reducible refine Fw.y_cons ?_ | with_reducible refine Fw.y_tup ?_ | with_reducible refine Fw.y_lstM ?_ | with_reducible refine Fw.v_tupS ?_ | with_reducible refine Fw.v_lstS ?_ | with_reducible refine Fw.v_snil ?_ | with_reducible refine Fw.v_scons ?_ | with_reducible refine Fw.v_slcB ?_ | ((with_reducible apply Fw.q_inT); next => exact rfl) | ((with_reducible apply Fw.s_sub); next => exact rfl) | ((with_reducible apply Fw.s_blt); next => exact rfl) | ((with_reducible apply Fw.s_tst); next => exact rfl) | ((with_reducible apply Fw.s_isi); next => exact rfl) | ((with_reducible apply Fw.s_asm); next => exact rfl) | ((with_reducible apply Fw.s_bnd); next => exact rfl) | ((with_reducible apply Fw.s_wlk); next => exact rfl) | ((with_reducible apply Fw.s_slcH); next => exact rfl) | ((with_reducible apply Fw.s_slcL); next => exact rfl) | ((with_reducible apply Fw.s_slcB); next => exact rfl) | ((with_reducible apply Fw.s_dsp); (next => exact rfl); (next => exact rfl)) | ((with_reducible apply Fw.s_set); (next => exact rfl); (next => exact rfl)) | ((with_reducible apply Fw.q_eqS); (next => first | exact ofStr_ok _ | assumption); (next => first | exact ofStr_ok _ | assumption)) | ((with_reducible refine Fw.o_mul ?_ ?_); next => first | assumption | exact mul_c (by omega) (by omega) | exact mul_cL (by omega) (by omega)) | ((with_reducible refine Fw.o_mod ?_ ?_); next => first | assumption | omega) | ((with_reducible refine Fw.o_div ?_ ?_); next => first | assumption | decide) | ((with_reducible refine Fw.o_pow ?_ ?_); next => decide))))
local macro_rules | `(tactic| walk_at "y") => `(tactic| (refine br (fun _ => ?_) (fun h => absurd h (by first | exact ft_no | exact tf_no | decide | simp)); walk_at "v"))
local macro_rules | `(tactic| walk_at "n") => `(tactic| (refine br (fun h => absurd h (by first | exact ft_no | exact tf_no | decide | simp)) (fun _ => ?_); (try refine sat_nil ?_); walk_at "v"))
/-! ### groups -/
section
variable {wf k : Nat} {A R : Store} {t : Str} {i o : Nat} {P : Fw.A → Store → Prop} {S : Store}
theorem tl_app (x y : Str) : tl (x ++ y) = tl x ++ tl y := app_list x y
def sgn (sg : Nat) : Str := ⟨#[sg]⟩
theorem tl_sgn (sg : Nat) : tl (sgn sg) = [sg] := rfl
/-- take(..) of a text that is made here -/
theorem z_takeF (ht : TxOk t) {c : C} {x : Str} {ws : List Nat} {ρ : Fw.Env} {PE : Fw.Env → Store → Prop} {PR : Fw.A → Store → Prop} {X : Exn → Store → Prop} (hx : tl x = ws) (hws : ∀ c ∈ ws, c < 128) (h : ρ[0]? = some (some (.m A.length))) (hc : ev (callI ft wf (k + 2)) false c ρ (St A R t i o) = .ok (.p (.str x)) (St A R t i o))
    (k1 : ∀ j, pTake (tl t) ws i = .ok () j → PE ρ (St A R t j o)) (k2 : ∀ p i' o', pTake (tl t) ws i = .er p → X (xT p) (St A R t i' o')) :
    (run1 (callI ft wf (k + 2)) wf (.expX (.meth 0 F_m_Reader_take "take" (.var 0) [c] [])) ρ (St A R t i o)).sx PE PR X := by
  subst hx
  exact x_expX (m_call h no_take (v_cons (Rz.sat_eq hc (v_nil (SpR.use (take_ok ht hws) (fun _ j e => k1 j e) k2)))))
theorem f_two {cl : Nat → List Fw.A → Store → Rz Fw.A} {ρ : Fw.Env} {sg : Nat} {j : Nat} (h : ρ[j]? = some (some (.p (.str (sgn sg))))) : ev cl false (.fstr [(.fmt (.var j)), (.cst (.str " "))]) ρ S = .ok (.p (.str (Str.empty ++ sgn sg ++ " "))) S := by
  refine sat_val (v_fstr (v_cons (v_fmt (v_var h (s_fmt (z := .p (.str (sgn sg))) ?_ (v_cons (v_cst (v_nil (s_cat (z := Str.empty ++ sgn sg ++ " ") ?_ ⟨rfl, rfl⟩)))))))))
  · show (if (sgn sg).length ≤ LIM then some (Fw.A.p (.str (sgn sg))) else none) = _
    rw [if_pos (show (sgn sg).length ≤ LIM from show 1 ≤ LIM by decide)]
  · unfold catF
    rw [if_pos (by show 0 + 1 ≤ LIM; decide)]
    unfold catF
    rw [if_pos (by show 1 + 1 ≤ LIM; decide)]
    rfl
theorem f_three {cl : Nat → List Fw.A → Store → Rz Fw.A} {ρ : Fw.Env} {sg : Nat} {j : Nat} (h : ρ[j]? = some (some (.p (.str (sgn sg))))) : ev cl false (.fstr [(.cst (.str " ")), (.fmt (.var j)), (.cst (.str " "))]) ρ S = .ok (.p (.str (Str.empty ++ " " ++ sgn sg ++ " "))) S := by
  refine sat_val (v_fstr (v_cons (v_cst (v_cons (v_fmt (v_var h (s_fmt (z := .p (.str (sgn sg))) ?_ (v_cons (v_cst (v_nil (s_cat (z := Str.empty ++ " " ++ sgn sg ++ " ") ?_ ⟨rfl, rfl⟩)))))))))))
  · show (if (sgn sg).length ≤ LIM then some (Fw.A.p (.str (sgn sg))) else none) = _
    rw [if_pos (show (sgn sg).length ≤ LIM from show 1 ≤ LIM by decide)]
  · unfold catF
    rw [if_pos (by show 0 + 1 ≤ LIM; decide)]
    unfold catF
    rw [if_pos (by show 1 + 1 ≤ LIM; decide)]
    unfold catF
    rw [if_pos (by show 2 + 1 ≤ LIM; decide)]
    rfl
theorem sg_lt {sg : Nat} (h : sg = 43 ∨ sg = 42) : sg < 128 := by omega
def grB : List Sc := [.expX (.meth 0 F_m_Reader_take "take" (.var 0) [(.fstr [(.cst (.str " ")), (.fmt (.var 2)), (.cst (.str " "))])] []), .expE (.app (.var 1) (.x (.meth 0 F_m_Reader_read_all "read_all" (.var 0) [] [])))]
def grC : C := .and (.cmp .Eq (.meth 0 F_m_Reader_here "here" (.var 0) [] []) (.cst (.str " "))) (.cmp .Lt (.blt .len [(.var 1)]) (.cst (.int 8)))
theorem more_loop (ht : TxOk t) (hw : 100 ≤ wf) {f : Nat → RR D} (hf : ∀ A R i, SpR A R t (o + 1) id (f i) (callI ft wf (k + 3) F_m_Reader_read_all [.m A.length] (St A R t i (o + 1)))) {sg : Nat} (hsg : sg = 43 ∨ sg = 42) {ps : List D} {i0 : Nat} (hps : ps.length = 2) :
    (run1 (callI ft wf (k + 3)) wf (.while grC grB) [some (.m A.length), some (.m (A.length + 1 + R.length)), some (.p (.str (sgn sg)))] (St A (R ++ [.lst ps]) t i0 (o + 1))).sx (fun ρ S => ρ = [some (.m A.length), some (.m (A.length + 1 + R.length)), some (.p (.str (sgn sg)))] ∧ ∃ qs j, pMore (tl t) f sg 6 ps i0 = .ok qs j ∧ S = St A (R ++ [.lst qs]) t j (o + 1)) (fun _ _ => False) (RX A R t (pMore (tl t) f sg 6 ps i0)) := by
  have eL : LIM = 100000 := rfl
  refine x_while ?_
  refine while_sx (fun m ρ S => ∃ qs i', m = 8 - qs.length ∧ 2 ≤ qs.length ∧ qs.length ≤ 8 ∧ ρ = [some (.m A.length), some (.m (A.length + 1 + R.length)), some (.p (.str (sgn sg)))] ∧ S = St A (R ++ [.lst qs]) t i' (o + 1) ∧ pMore (tl t) f sg 6 ps i0 = pMore (tl t) f sg (8 - qs.length) qs i') wf 6 _ _ (by omega) ⟨ps, i0, by rw [hps], by omega, by omega, rfl, rfl, by rw [hps]⟩ ?_
  rintro m ρ S ⟨qs, i', hm, h2, h8, rfl, rfl, hp⟩
  unfold grC
  refine v_andT (v_cmp (m_here ht rfl (v_cst (q_ch (c := 32) ht rfl (by decide) (br (fun h => ?_) fun h => ?_)))))
  · have h := of_decide_eq_true h
    refine v_cmp (v_blt (v_cons (v_var rfl (v_nil (len_m St.last (v_cst (q_lt (br (fun h3 => ?_) fun h3 => ?_))))))))
    · have h3 : (qs.length : Int) < 8 := of_decide_eq_true h3
      have ep : pMore (tl t) f sg (8 - qs.length) qs i' = (pTake (tl t) [32, sg, 32] i').bind fun _ i1 => (f i1).bind fun p i2 => pMore (tl t) f sg (8 - (qs.length + 1)) (qs ++ [p]) i2 := by
        rw [show 8 - qs.length = (8 - (qs.length + 1)) + 1 by omega, pMore, if_pos h]
      unfold grB
      refine x_cons (z_takeF (ws := [32, sg, 32]) ht (by rw [tl_app, tl_app, tl_app, tl_sgn]; rfl) (by
        intro c hc
        simp only [List.mem_cons, List.not_mem_nil, or_false] at hc
        have := sg_lt hsg
        omega) rfl (f_three rfl) ?_ ?_)
      · intro i1 h4
        refine x_cons (x_expE (y_app rfl St.last (y_x (m_call rfl no_all (v_nil ?_)))))
        refine SpR.use (hf A _ i1) ?_ ?_
        · intro p i2 h5
          rw [h4] at ep
          have ep : pMore (tl t) f sg (8 - qs.length) qs i' = (f i1).bind fun p i2 => pMore (tl t) f sg (8 - (qs.length + 1)) (qs ++ [p]) i2 := ep
          rw [h5] at ep
          refine ⟨_, qs, rfl, St.last, by omega, x_nil ⟨8 - (qs.length + 1), by omega, qs ++ [p], i2, by rw [List.length_append]; rfl, by rw [List.length_append]; omega, by rw [List.length_append, List.length_singleton]; omega, rfl, by rw [St.setl]; rfl, ?_⟩⟩
          rw [hp, ep, List.length_append]
          rfl
        · intro p i1' o1 h5
          rw [h4] at ep
          have ep : pMore (tl t) f sg (8 - qs.length) qs i' = (f i1).bind fun p i2 => pMore (tl t) f sg (8 - (qs.length + 1)) (qs ++ [p]) i2 := ep
          rw [h5] at ep
          exact rx1 (by rw [hp, ep]; rfl)
      · intro p i1' o1 h4
        rw [h4] at ep
        exact rx1 (by rw [hp, ep]; rfl)
    · have h3 : ¬ (qs.length : Int) < 8 := of_decide_eq_false h3
      refine ⟨rfl, qs, i', ?_, rfl⟩
      rw [hp, show 8 - qs.length = 0 by omega, pMore]
  · have h := of_decide_eq_false h
    refine br (fun z => absurd z ft_no) fun _ => ⟨rfl, qs, i', ?_, rfl⟩
    rw [hp]
    cases 8 - qs.length with
    | zero => rfl
    | succ q => rw [pMore, if_neg h]
def emG (p : D × Bool) : D := .tup [p.1, .bl p.2]
/-- the end of a group -/
theorem group_end (ht : TxOk t) {ps : List D} {sv : Str} {i5 : Nat} {r : RR (D × Bool)} {v : D × Bool} (hv : ps ≠ []) (hso : PyData.strOk sv = true) (e1 : sv = "" → v = (ps.head!, true)) (e2 : sv ≠ "" → v = (.tup (.str (if sv = "+" then "plus" else "times") :: ps), false)) (hl : ps.length ≤ 10) (er : r = (pTake (tl t) [41] i5).bind fun _ i6 => .ok v i6) :
    (Fw.run (callI ft wf (k + 3)) wf [.expX (.meth 0 F_m_Reader_take "take" (.var 0) [(.cst (.str ")"))] []), .augF 0 (.var 0) "open_now" true (.cst (.int 1)), .ite (.cmp .Eq (.var 2) (.cst (.str ""))) [.ret (.tup [(.sub (.var 1) (.cst (.int 0))), (.cst (.bl true))])] [], .ret (.tup [(.tupS [false, true] [(.ite (.cmp .Eq (.var 2) (.cst (.str "+"))) (.cst (.str "plus")) (.cst (.str "times"))), (.var 1)]), (.cst (.bl false))])] [some (.m A.length), some (.m (A.length + 1 + R.length)), some (.p (.str sv))] (St A (R ++ [.lst ps]) t i5 (o + 1))).sx (fun _ _ => False) (RP A R t o emG r) (RX A R t r) := by
  have eL : LIM = 100000 := rfl
  refine x_cons (z_take ht (by decide +kernel) rfl ?_ ?_)
  rotate_left
  · intro p i' o' h
    have h : pTake (tl t) [41] i5 = .er p := h
    exact rx1 (by rw [er, h]; rfl)
  intro i6 h
  have h : pTake (tl t) [41] i5 = .ok () i6 := h
  rw [h] at er
  refine x_cons (x_opM rfl ?_)
  refine x_cons (x_ite (v_cmp (v_var rfl (v_cst ⟨_, eqF_str hso (ofStr_ok _), ?_⟩))))
  obtain ⟨p0, qs, rfl⟩ : ∃ p0 qs, ps = p0 :: qs := by
    cases ps with
    | nil => exact absurd rfl hv
    | cons a b => exact ⟨a, b, rfl⟩
  refine br (fun h2 => ?_) fun h2 => ?_
  · have h2 : sv = "" := by simpa using h2
    refine x_cons (x_ret (v_tup (v_cons (v_sub (v_var rfl (v_cst (sub_m St.last (v_cons (v_cst (v_nil (s_dsp rfl rfl ?_)))))))))))
    have := rp1 (A := A) (R := R) (t := t) (o := o) (Q := [.lst (p0 :: qs)]) (emb := emG) (r := r) (a := v) (j := i6) er
    rw [e1 h2] at this
    exact this
  · have h2 : sv ≠ "" := by simpa using h2
    have e2 := e2 h2
    refine x_nil ?_
    refine x_cons (x_ret (v_tup (v_cons (v_tupS (v_scons (v_ite (v_cmp (v_var rfl (v_cst ⟨_, eqF_str hso (ofStr_ok _), ?_⟩)))))))))
    have fin : ∀ {w : Str}, w = (if sv = "+" then ("plus" : Str) else ("times" : Str)) → RP A R t o emG r (.p (.tup [.tup (.str w :: p0 :: qs), .bl false])) (St A (R ++ [.lst (p0 :: qs)]) t i6 o) := by
      intro w hw
      have := rp1 (A := A) (R := R) (t := t) (o := o) (Q := [.lst (p0 :: qs)]) (emb := emG) (r := r) (a := v) (j := i6) er
      rw [e2, ← hw] at this
      exact this
    have spl : sqF (.m (A.length + 1 + R.length)) (St A (R ++ [.lst (p0 :: qs)]) t i6 o) = some (p0 :: qs) := by
      unfold sqF
      dsimp only
      rw [St.last]
    have dat : ∀ w : Str, datas (Fw.A.p (.str w) :: ((p0 :: qs).map Fw.A.p ++ [])) = some (.str w :: p0 :: qs) := by
      intro w
      have : ∀ l : List D, datas (l.map Fw.A.p) = some l := by
        intro l
        induction l with
        | nil => rfl
        | cons a l ih => rw [List.map_cons, datas, ih]; rfl
      rw [List.append_nil, datas, this]
      rfl
    rw [List.length_cons] at hl
    refine br (fun h3 => ?_) fun h3 => ?_
    · have h3 : sv = "+" := by simpa using h3
      refine v_cst (v_sstar (v_var rfl ⟨_, spl, v_snil ⟨_, dat _, by rw [List.length_cons, List.length_cons]; omega, ?_⟩⟩))
      refine v_cons (v_cst (v_nil (s_dsp rfl rfl (fin (by rw [if_pos h3])))))
    · have h3 : ¬ sv = "+" := by simpa using h3
      refine v_cst (v_sstar (v_var rfl ⟨_, spl, v_snil ⟨_, dat _, by rw [List.length_cons, List.length_cons]; omega, ?_⟩⟩))
      refine v_cons (v_cst (v_nil (s_dsp rfl rfl (fin (by rw [if_neg h3])))))
theorem pMore_len {L : List Nat} {f : Nat → RR D} {sg : Nat} : ∀ {m : Nat} {ps : List D} {i : Nat} {qs : List D} {j : Nat}, pMore L f sg m ps i = .ok qs j → qs.length ≤ ps.length + m ∧ (ps ≠ [] → qs ≠ [] ∧ qs.head? = ps.head?)
  | 0, ps, i, qs, j, h => by cases h; exact ⟨Nat.le_refl _, fun h => ⟨h, rfl⟩⟩
  | m + 1, ps, i, qs, j, h => by
    rw [pMore] at h
    split at h
    · cases h1 : pTake L [32, sg, 32] i with
      | er p => rw [h1] at h; cases h
      | ok u i1 =>
        rw [h1] at h
        have h : (f i1).bind (fun p i2 => pMore L f sg m (ps ++ [p]) i2) = .ok qs j := h
        cases h2 : f i1 with
        | er p => rw [h2] at h; cases h
        | ok p i2 =>
          rw [h2] at h
          obtain ⟨a, b⟩ := pMore_len (m := m) h
          rw [List.length_append, List.length_singleton] at a
          refine ⟨by omega, fun hne => ?_⟩
          obtain ⟨c, d⟩ := b (by simp)
          refine ⟨c, ?_⟩
          rw [d]
          cases ps with
          | nil => exact absurd rfl hne
          | cons a l => rfl
    · cases h
      exact ⟨by omega, fun h => ⟨h, rfl⟩⟩
end
end K15

namespace K15
open PySem PySem.Spec PyProof.Rows L2 Fw
local macro_rules | `(tactic| walk_at "v") => `(tactic| (repeat (first | ((with_reducible apply Fw.v_var); next => exact rfl) | with_reducible refine Fw.v_bin ?_ | with_reducible refine Fw.v_maxD ?_ | with_reducible refine Fw.v_sub ?_ | with_reducible refine Fw.v_cst ?_ | with_reducible refine Fw.v_cons ?_ | with_reducible refine Fw.v_nil ?_ | with_reducible refine Fw.v_cmp ?_ | with_reducible refine Fw.v_blt ?_ | with_reducible refine Fw.v_neg ?_ | with_reducible refine Fw.v_call ?_ | with_reducible refine Fw.v_callK ?_ | with_reducible refine Fw.v_not ?_ | with_reducible refine Fw.v_chain ?_ | with_reducible refine Fw.v_andT ?_ | with_reducible refine Fw.v_orT ?_ | with_reducible refine Fw.v_and ?_ | with_reducible refine Fw.v_or ?_ | with_reducible refine Fw.v_ite ?_ | with_reducible refine Fw.v_tup ?_ | with_reducible refine Fw.v_lst ?_ | with_reducible refine Fw.v_lstM ?_ | with_reducible refine Fw.v_slcH ?_ | with_reducible refine Fw.v_slcL ?_ | with_reducible refine Fw.v_isiT ?_ | with_reducible refine Fw.v_fstr ?_ | with_reducible refine Fw.v_fmt ?_ | with_reducible refine Fw.v_comp0 ?_ | with_reducible refine Fw.v_comp1 ?_ | with_reducible refine Fw.s_t0 ?_ | with_reducible refine Fw.s_t1 ?_ | with_reducible refine Fw.s_t2 ?_ | with_reducible refine Fw.s_l0 ?_ | with_reducible refine Fw.s_l1 ?_ | with_reducible refine Fw.s_l2 ?_ | with_reducible refine Fw.s_not ?_ | with_reducible refine Fw.s_neg ?_ | with_reducible refine Fw.o_add ?_ | with_reducible refine Fw.o_sub ?_ | with_reducible refine Fw.q_lt ?_ | with_reducible refine Fw.q_le ?_ | with_reducible refine Fw.q_gt ?_ | with_reducible refine Fw.q_ge ?_ | with_reducible refine Fw.q_eq ?_ | with_reducible refine Fw.q_ne ?_ | with_reducible refine Fw.q_eqB ?_ | with_reducible refine Fw.q_neB ?_ | with_reducible refine Fw.q_isN ?_ | with_reducible refine Fw.q_notN ?_ | with_reducible refine Fw.sat_cons ?_ | with_reducible refine Fw.w_asg ?_ | with_reducible refine Fw.w_par ?_ | with_reducible refine Fw.w_parT ?_ | with_reducible refine Fw.w_setI ?_ | with_reducible refine Fw.w_exp ?_ | with_reducible refine Fw.w_ret ?_ | with_reducible refine Fw.v_ccst ?_ | with_reducible refine Fw.v_app ?_ | with_reducible refine Fw.v_whyA ?_ | with_reducible refine Fw.v_fld ?_ | with_reducible refine Fw.w_ite ?_ | with_reducible refine Fw.w_for ?_ | with_reducible refine Fw.w_while ?_ | with_reducible refine Fw.v_tst ?_ | with_reducible refine Fw.x_cons ?_ | with_reducible refine Fw.x_asg ?_ | with_reducible refine Fw.x_exp ?_ | with_reducible refine Fw.x_ret ?_ | with_reducible refine Fw.x_ite ?_ | with_reducible refine Fw.x_asgX ?_ | with_reducible refine Fw.x_expX ?_ | with_reducible refine Fw.x_retX ?_ | with_reducible refine Fw.x_asgE ?_ | with_reducible refine Fw.x_expE ?_ | with_reducible refine Fw.x_retE ?_ | with_reducible refine Fw.x_for ?_ | with_reducible refine Fw.x_while ?_ | with_reducible refine Fw.y_p ?_ | with_reducible refine Fw.y_x ?_ | with_reducible refine Fw.y_neg ?_ | with_reducible refine Fw.y_int ?_ | with_reducible refine Fw.y_nil ?_ | with_reducible refine Fw.y_cons ?_ | with_reducible refine Fw.y_tup ?_ | with_reducible refine Fw.y_lstM ?_ | with_reducible refine Fw.v_tupS ?_ | with_reducible refine Fw.v_lstS ?_ | with_reducible refine Fw.v_snil ?_ | with_reducible refine Fw.v_scons ?_ | with_reducible refine Fw.v_slcB ?_ | ((with_reducible apply Fw.q_inT); next => exact rfl) | ((with_reducible apply Fw.s_sub); next => exact rfl) | ((with_reducible apply Fw.s_blt); next => exact rfl) | ((with_reducible apply Fw.s_tst); next => exact rfl) | ((with_reducible apply Fw.s_isi); next => exact rfl) | ((with_reducible apply Fw.s_asm); next => exact rfl) | ((with_reducible apply Fw.s_bnd); next => exact rfl) | ((with_reducible apply Fw.s_wlk); next => exact rfl) | ((with_reducible apply Fw.s_slcH); next => exact rfl) | ((with_reducible apply Fw.s_slcL); next => exact rfl) | ((with_reducible apply Fw.s_slcB); next => exact rfl) | ((with_reducible apply Fw.s_dsp); (next => exact rfl); (next => exact rfl)) | ((with_reducible apply Fw.s_set); (next => exact rfl); (next => exact rfl)) | ((with_reducible apply Fw.q_eqS); (next => first | exact ofStr_ok _ | assumption); (next => first | exact ofStr_ok _ | assumption)) | ((with_reducible refine Fw.o_mul ?_ ?_); next => first | assumption | exact mul_c (by omega) (by omega) | exact mul_cL (by omega) (by omega)) | ((with_reducible refine Fw.o_mod ?_ ?_); next => first | assumption | omega) | ((with_reducible refine Fw.o_div ?_ ?_); next => first | assumption | decide) | ((with_reducible refine Fw.o_pow ?_ ?_); next => decide))))
local macro_rules | `(tactic| walk_at "y") => `(tactic| (refine br (fun _ => ?_) (fun h => absurd h (by first | exact ft_no | exact tf_no | decide | simp)); walk_at "v"))
local macro_rules | `(tactic| walk_at "n") => `(tactic| (refine br (fun h => absurd h (by first | exact ft_no | exact tf_no | decide | simp)) (fun _ => ?_); (try refine sat_nil ?_); walk_at "v"))
/-! ### the whole -/
section
variable {wf k : Nat} {A R : Store} {t : Str} {i o : Nat} {P : Fw.A → Store → Prop} {S : Store}
theorem sgn_plus (sg : Nat) : (sgn sg = ("+" : Str)) ↔ sg = 43 := by
  constructor
  · intro h
    have := congrArg tl h
    rw [tl_sgn, show tl "+" = [43] from rfl] at this
    simpa using this
  · rintro rfl
    rfl
theorem group_ok (ht : TxOk t) (hwf : W0 ≤ wf) {rc : Option (Nat → RR D)} (hrc : RcOk t wf (k + 3) o rc) : SpR A R t o emG (pGroup (tl t) rc i) (callI ft wf (k + 4) F_m_Reader_read_group [.m A.length] (St A R t i o)) := by
  have hw : 100 ≤ wf := Nat.le_trans (by decide) hwf
  have eL : LIM = 100000 := rfl
  refine SpR.body (fn := ⟨1, 3, c_m_Reader_read_group F_m_Reader_fail F_m_Reader_here F_m_Reader_read_all F_m_Reader_take⟩) rfl rfl ?_
  show (Fw.run _ wf (c_m_Reader_read_group F_m_Reader_fail F_m_Reader_here F_m_Reader_read_all F_m_Reader_take) [some (.m A.length), none, none] _).sx _ _ _
  unfold c_m_Reader_read_group
  refine x_cons (x_ite (v_cmp (v_fld (v_var rfl (fl_open (v_cst (q_eq (br (fun h6 => ?_) fun h6 => ?_))))))))
  · have h6 : (o : Int) = 10 := of_decide_eq_true h6
    cases rc with
    | none => exact x_cons (z_fail rfl (rx0 rfl))
    | some f =>
      have := hrc.1
      omega
  have h6 : ¬ (o : Int) = 10 := of_decide_eq_false h6
  cases rc with
  | none =>
    have hrc : o = 10 := hrc
    omega
  | some f =>
    obtain ⟨ho, hf, hhd⟩ := hrc
    refine x_nil (x_cons (z_take ht (by decide +kernel) rfl ?_ ?_))
    rotate_left
    · intro p i' o' h1
      have h1 : pTake (tl t) [40] i = .er p := h1
      exact rx0 (by unfold pGroup; dsimp only; rw [h1]; rfl)
    intro i1 h1
    have h1 : pTake (tl t) [40] i = .ok () i1 := h1
    refine x_cons (x_opP rfl (x_cons (x_asgE (y_lstM (y_cons (y_x (m_call rfl no_all (v_nil ?_))))))))
    refine SpR.use (hf A _ i1) ?_ ?_
    rotate_left
    · intro p i' o' h2
      refine rx0 ?_
      unfold pGroup
      dsimp only
      rw [h1]
      show (f i1).bind _ = _
      rw [h2]
      rfl
    intro p0 i2 h2
    have eG : pGroup (tl t) (some f) i = if (tl t)[i2]? = some 32 then (match (tl t)[i2 + 1]? with
        | some sg => if sg = 43 ∨ sg = 42 then (pTake (tl t) [sg, 32] (i2 + 1)).bind fun _ i3 => (f i3).bind fun p1 i4 => (pMore (tl t) f sg 6 [p0, p1] i4).bind fun ps i5 => (pTake (tl t) [41] i5).bind fun _ i6 => .ok (.tup (.str (if sg = 43 then "plus" else "times") :: ps), false) i6 else .er (i2 + 1)
        | none => .er (i2 + 1))
      else if hdS p0 = "num" ∨ hdS p0 = "power" then (pTake (tl t) [41] i2).bind fun _ i3 => .ok (p0, true) i3 else .er i2 := by
      unfold pGroup
      dsimp only
      rw [h1]
      show (f i1).bind _ = _
      rw [h2]
      rfl
    rw [eG]
    clear eG
    refine y_nil (s_dsp rfl rfl (s_bnd rfl ?_))
    rw [St.app, St.len]
    refine x_cons (x_asg (v_cst (s_bnd rfl ?_)))
    refine x_cons (x_ite (v_cmp (m_here ht rfl (v_cst (q_ch (c := 32) ht rfl (by decide) (br (fun h3 => ?_) fun h3 => ?_))))))
    · have h3 := of_decide_eq_true h3
      rw [if_pos h3]
      refine x_cons (x_at rfl (x_cons (x_asg (m_here ht rfl (s_bnd rfl ?_)))))
      refine x_cons (x_ite (v_cmp (v_var rfl ?_)))
      walk_at "v"
      refine q_nin (cs := [43, 42]) rfl (br (fun h4 => ?_) fun h4 => ?_)
      · have h4 : ¬ (tl t)[i2 + 1]? ∈ [some 43, some 42] := by
          rw [Bool.not_eq_true'] at h4
          exact of_decide_eq_false h4
        refine x_cons (z_fail rfl (rx1 ?_))
        cases hs : (tl t)[i2 + 1]? with
        | none => rfl
        | some sg =>
          rw [hs] at h4
          show (if sg = 43 ∨ sg = 42 then _ else _) = _
          rw [if_neg]
          rintro (z | z) <;> (subst z; exact h4 (by simp))
      · have h4 : (tl t)[i2 + 1]? ∈ [some 43, some 42] := by
          rw [Bool.not_eq_false'] at h4
          exact of_decide_eq_true h4
        obtain ⟨sg, hs, hsg⟩ : ∃ sg, (tl t)[i2 + 1]? = some sg ∧ (sg = 43 ∨ sg = 42) := by
          simp only [List.mem_cons, List.not_mem_nil, or_false] at h4
          rcases h4 with h | h
          · exact ⟨43, h, .inl rfl⟩
          · exact ⟨42, h, .inr rfl⟩
        rw [hs]
        dsimp only
        rw [if_pos hsg]
        show (Fw.run _ wf _ ([some (.m A.length), some (.m (A.length + 1 + R.length)), some (.p (.str (sgn sg)))] : Fw.Env) _).sx _ _ _
        refine x_nil (x_cons (z_takeF (ws := [sg, 32]) ht (by rw [tl_app, tl_app, tl_sgn]; rfl) (by
          intro c hc
          simp only [List.mem_cons, List.not_mem_nil, or_false] at hc
          have := sg_lt hsg
          omega) rfl (f_two rfl) ?_ ?_))
        rotate_left
        · intro p i' o' h5
          exact rx1 (by rw [h5]; rfl)
        intro i3 h5
        rw [h5]
        refine x_cons (x_expE (y_app rfl St.last (y_x (m_call rfl no_all (v_nil ?_)))))
        refine SpR.use (hf A _ i3) ?_ ?_
        rotate_left
        · intro p i' o' h7
          refine rx1 ?_
          show (f i3).bind _ = _
          rw [h7]
          rfl
        intro p1 i4 h7
        refine ⟨_, [p0], rfl, St.last, by show 1 < LIM; decide, ?_⟩
        rw [St.setl]
        have eq : (RR.ok () i3).bind (fun _ i3 => (f i3).bind fun p1 i4 => (pMore (tl t) f sg 6 [p0, p1] i4).bind fun ps i5 => (pTake (tl t) [41] i5).bind fun _ i6 => RR.ok (D.tup (.str (if sg = 43 then "plus" else "times") :: ps), false) i6) = (pMore (tl t) f sg 6 [p0, p1] i4).bind fun ps i5 => (pTake (tl t) [41] i5).bind fun _ i6 => .ok (D.tup (.str (if sg = 43 then "plus" else "times") :: ps), false) i6 := by
          show (f i3).bind _ = _
          rw [h7]
          rfl
        rw [eq]
        clear eq
        have ml := more_loop (wf := wf) (k := k) (A := A) (R := R) (t := t) (o := o) ht hw hf hsg (ps := [p0, p1]) (i0 := i4) rfl
        refine x_cons (Rs.sx_mono ml ?_ (fun _ _ h => h.elim) ?_)
        · rintro ρ S ⟨rfl, qs, i5, h8, rfl⟩
          rw [h8]
          obtain ⟨m1, m2⟩ := pMore_len h8
          obtain ⟨m2, m3⟩ := m2 (by simp)
          refine x_nil (group_end ht m2 (one_ok (sg_lt hsg)) (fun z => ?_) (fun _ => ?_) (by show qs.length ≤ 10; exact Nat.le_trans m1 (by show 2 + 6 ≤ 10; decide)) rfl)
          · have := congrArg (fun s : Str => (tl s).length) z
            cases this
          · by_cases h43 : sg = 43
            · rw [if_pos h43, if_pos ((sgn_plus sg).mpr h43)]
            · rw [if_neg h43, if_neg (fun z => h43 ((sgn_plus sg).mp z))]
        · rintro e S ⟨p, i', o', Q, h8, rfl, rfl⟩
          exact rx1 (by rw [h8]; rfl)
    · have h3 := of_decide_eq_false h3
      rw [if_neg h3]
      obtain ⟨x, l, rfl⟩ := hhd _ _ _ h2
      refine x_cons (x_ite (v_cmp (v_sub (v_sub (v_var rfl (v_cst (sub_m St.last (v_cst (s_t0 ?_)))))))))
      walk_at "v"
      refine ⟨!(([("num" : Str), "power"]).any fun z => z == x), rfl, br (fun h4 => ?_) fun h4 => ?_⟩
      · have h4 : ¬ (hdS (.tup (.str x :: l)) = "num" ∨ hdS (.tup (.str x :: l)) = "power") := by
          show ¬ (x = "num" ∨ x = "power")
          rintro (rfl | rfl)
          · simp at h4
          · simp at h4
        refine x_cons (z_fail rfl (rx1 ?_))
        rw [if_neg h4]
      · have h4 : hdS (.tup (.str x :: l)) = "num" ∨ hdS (.tup (.str x :: l)) = "power" := by
          show x = "num" ∨ x = "power"
          rw [Bool.not_eq_false', List.any_cons, List.any_cons, List.any_nil, Bool.or_false, Bool.or_eq_true, beq_iff_eq, beq_iff_eq] at h4
          rcases h4 with h | h
          · exact .inl h.symm
          · exact .inr h.symm
        rw [if_pos h4]
        exact x_nil (x_nil (group_end ht (by simp) (ofStr_ok _) (fun _ => rfl) (fun z => absurd rfl z) (by show 1 ≤ 10; decide) rfl))
theorem all_tail (ht : TxOk t) (hw : 100 ≤ wf) {d : D} {b : Bool} {i1 : Nat} {r : RR D} {x1 : Option Fw.A} (er : r = if b = true ∨ (tl t)[i1]? = some 94 then (pTake (tl t) [94] i1).bind fun _ i2 => (pRun (tl t) [48, 49, 50, 51, 52] 1 i2).bind fun ds i3 => .ok (.tup [.str "power", d, .int (NumText.digitsVal ds : Nat)]) i3 else .ok d i1) :
    (Fw.run (callI ft wf (k + 4)) wf [.ite (.or (.var 2) (.cmp .Eq (.meth 0 F_m_Reader_here "here" (.var 0) [] []) (.cst (.str "^")))) [.expX (.meth 0 F_m_Reader_take "take" (.var 0) [(.cst (.str "^"))] []), .asgE (.nm 3) (.tup [(.p (.cst (.str "power"))), (.p (.var 3)), (.int (.x (.meth 0 F_m_Reader_read_run "read_run" (.var 0) [(.cst (.str "01234")), (.cst (.int 1))] [])))])] [], .ret (.var 3)] [some (.m A.length), x1, some (.p (.bl b)), some (.p d)] (St A R t i1 o)).sx (fun _ _ => False) (RP A R t o id r) (RX A R t r) := by
  have pw : (b = true ∨ (tl t)[i1]? = some 94) → (Fw.run (callI ft wf (k + 4)) wf [.expX (.meth 0 F_m_Reader_take "take" (.var 0) [(.cst (.str "^"))] []), .asgE (.nm 3) (.tup [(.p (.cst (.str "power"))), (.p (.var 3)), (.int (.x (.meth 0 F_m_Reader_read_run "read_run" (.var 0) [(.cst (.str "01234")), (.cst (.int 1))] [])))])] [some (.m A.length), x1, some (.p (.bl b)), some (.p d)] (St A R t i1 o)).sx (fun ρ1 S1 => (Fw.run (callI ft wf (k + 4)) wf [.ret (.var 3)] ρ1 S1).sx (fun _ _ => False) (RP A R t o id r) (RX A R t r)) (RP A R t o id r) (RX A R t r) := by
    intro hb
    rw [if_pos hb] at er
    refine x_cons (z_take ht (by decide +kernel) rfl ?_ ?_)
    rotate_left
    · intro p i' o' h1
      have h1 : pTake (tl t) [94] i1 = .er p := h1
      exact rx0 (by rw [er, h1]; rfl)
    intro i2 h1
    have h1 : pTake (tl t) [94] i1 = .ok () i2 := h1
    rw [h1] at er
    refine x_cons (x_asgE (y_tup (y_cons (y_p (v_cst (y_cons (y_p (v_var rfl ?_))))))))
    refine y_cons (y_int (y_x (m_call rfl no_run (v_cons (v_cst (v_cons (v_cst (v_nil ?_))))))))
    refine SpR.use (run_ok ht hw (x := "01234") (most := 1) (by decide)) ?_ ?_
    rotate_left
    · intro p i' o' h2
      have h2 : pRun (tl t) [48, 49, 50, 51, 52] 1 i2 = .er p := h2
      refine rx0 ?_
      rw [er]
      show (pRun (tl t) [48, 49, 50, 51, 52] 1 i2).bind _ = _
      rw [h2]
      rfl
    intro ds i3 h2
    have h2 : pRun (tl t) [48, 49, 50, 51, 52] 1 i2 = .ok ds i3 := h2
    obtain ⟨d1, d2, d3⟩ := four_dig (by decide +kernel) h2
    refine int_ok d1 d2 d3 (y_nil (s_dsp rfl rfl (s_bnd rfl (x_nil ?_))))
    refine x_cons (x_ret (v_var rfl (rp0 (a := D.tup [.str "power", d, .int (NumText.digitsVal ds : Nat)]) (emb := id) ?_)))
    rw [er]
    show (pRun (tl t) [48, 49, 50, 51, 52] 1 i2).bind _ = _
    rw [h2]
    rfl
  refine x_cons (x_ite (v_orT (v_tst (v_var rfl (s_tst rfl (br (fun hb => ?_) fun hb => ?_))))))
  · refine br (fun _ => ?_) (fun z => absurd z tf_no)
    exact pw (.inl hb)
  · refine v_cmp (m_here ht rfl (v_cst (q_ch (c := 94) ht rfl (by decide) (br (fun h1 => ?_) fun h1 => ?_))))
    · exact pw (.inr (of_decide_eq_true h1))
    · have h1 := of_decide_eq_false h1
      rw [if_neg (by rintro (z | z); · rw [hb] at z; cases z
                     · exact h1 z)] at er
      exact x_nil (x_cons (x_ret (v_var rfl (rp0 (a := d) (emb := id) er))))
theorem all_ok (ht : TxOk t) (hwf : W0 ≤ wf) {rc : Option (Nat → RR D)} (hrc : RcOk t wf (k + 3) o rc) : SpR A R t o id (pAll (tl t) rc i) (callI ft wf (k + 5) F_m_Reader_read_all [.m A.length] (St A R t i o)) := by
  have hw : 100 ≤ wf := Nat.le_trans (by decide) hwf
  have tail := fun {d : D} {b : Bool} {i1 : Nat} {r : RR D} {x1 : Option Fw.A} er => all_tail (wf := wf) (k := k) (A := A) (R := R) (t := t) (o := o) ht hw (d := d) (b := b) (i1 := i1) (r := r) (x1 := x1) er
  refine SpR.body (fn := ⟨1, 4, c_m_Reader_read_all F_m_Reader_here F_m_Reader_read_group F_m_Reader_read_number F_m_Reader_read_run F_m_Reader_read_test F_m_Reader_read_word F_m_Reader_take⟩) rfl rfl ?_
  show (Fw.run _ wf (c_m_Reader_read_all F_m_Reader_here F_m_Reader_read_group F_m_Reader_read_number F_m_Reader_read_run F_m_Reader_read_test F_m_Reader_read_word F_m_Reader_take) [some (.m A.length), none, none, none] _).sx _ _ _
  unfold c_m_Reader_read_all
  refine x_cons (x_asg (m_here ht rfl (s_bnd rfl (x_cons (x_asg (v_cst (s_bnd rfl ?_)))))))
  have rest : numB (tl t)[i]? = false → (Fw.run (callI ft wf (k + 4)) wf ((c_m_Reader_read_all F_m_Reader_here F_m_Reader_read_group F_m_Reader_read_number F_m_Reader_read_run F_m_Reader_read_test F_m_Reader_read_word F_m_Reader_take).drop 3) [some (.m A.length), some (.p (.str (chS (tl t)[i]?))), some (.p (.bl false)), none] (St A R t i o)).sx (fun _ _ => False) (RP A R t o id (pAll (tl t) rc i)) (RX A R t (pAll (tl t) rc i)) := by
    intro hn
    have eA : pAll (tl t) rc i = (if (tl t)[i]? = some 91 then (pTest (tl t) i).bind fun d i => .ok (d, false) i else if (tl t)[i]? = some 40 then pGroup (tl t) rc i else (pWord (tl t) rc i).bind fun d i => .ok (d, false) i).bind fun fm i1 =>
      if fm.2 = true ∨ (tl t)[i1]? = some 94 then (pTake (tl t) [94] i1).bind fun _ i2 => (pRun (tl t) [48, 49, 50, 51, 52] 1 i2).bind fun ds i3 => .ok (.tup [.str "power", fm.1, .int (NumText.digitsVal ds : Nat)]) i3
      else .ok fm.1 i1 := by
      unfold pAll
      rw [if_neg (by rw [hn]; exact Bool.false_ne_true)]
    rw [eA]
    clear eA
    unfold c_m_Reader_read_all
    dsimp only [List.drop]
    refine x_cons (x_ite (v_cmp (v_var rfl (v_cst (q_ch (c := 91) ht rfl (by decide) (br (fun h1 => ?_) fun h1 => ?_))))))
    · have h1 := of_decide_eq_true h1
      rw [if_pos h1]
      refine x_cons (x_asgX (m_call rfl no_test (v_nil ?_)))
      refine SpR.use (test_ok ht hwf) ?_ ?_
      · intro d i1 h2
        rw [h2]
        exact s_bnd rfl (x_nil (tail rfl))
      · intro p i' o' h2
        exact rx0 (by rw [h2]; rfl)
    · have h1 := of_decide_eq_false h1
      rw [if_neg h1]
      refine x_cons (x_ite (v_cmp (v_var rfl (v_cst (q_ch (c := 40) ht rfl (by decide) (br (fun h2 => ?_) fun h2 => ?_))))))
      · have h2 := of_decide_eq_true h2
        rw [if_pos h2]
        refine x_cons (x_asgX (m_call rfl no_group (v_nil ?_)))
        refine SpR.use (group_ok ht hwf hrc) ?_ ?_
        · rintro ⟨d, b⟩ i1 h3
          rw [h3]
          exact s_bnd rfl (x_nil (x_nil (tail rfl)))
        · intro p i' o' h3
          exact rx0 (by rw [h3]; rfl)
      · have h2 := of_decide_eq_false h2
        rw [if_neg h2]
        refine x_cons (x_asgX (m_call rfl no_word (v_nil ?_)))
        refine SpR.use (rword_ok ht hwf hrc) ?_ ?_
        · intro d i1 h3
          rw [h3]
          exact s_bnd rfl (x_nil (x_nil (tail rfl)))
        · intro p i' o' h3
          exact rx0 (by rw [h3]; rfl)
  refine x_cons (x_ite (v_andT (v_cmp (v_var rfl (v_cst ⟨!(chS (tl t)[i]? == ("" : Str)), ?_, ?_⟩)))))
  · show cmpF .NotEq (.str (chS (tl t)[i]?)) (.str "") = _
    rw [cmp_ne, eqF_str (sOk_ch ht i) (ofStr_ok _)]
    rfl
  cases hh : (tl t)[i]? with
  | none =>
    refine br (fun z => absurd z (by decide)) fun _ => ?_
    refine br (fun z => absurd z ft_no) fun _ => x_nil ?_
    have := rest (by rw [hh]; rfl)
    rw [hh] at this
    exact this
  | some c =>
    refine br (fun _ => ?_) fun z => ?_
    · refine v_cmp (v_var rfl (v_cst ⟨decide (c ∈ ("-0123456789" : Str).cps.toList), rfl, br (fun h2 => ?_) fun h2 => ?_⟩))
      · refine x_cons (x_retX (m_call rfl no_number (v_nil ?_)))
        have eA : pAll (tl t) rc i = pNum (tl t) i := by
          unfold pAll
          rw [if_pos (by rw [hh]; exact h2)]
        rw [eA]
        refine SpR.use (number_ok ht hwf) ?_ ?_
        · intro d i1 h3
          exact rp0 (a := d) (emb := id) h3
        · intro p i' o' h3
          exact rx0 h3
      · have := rest (by rw [hh]; exact h2)
        rw [hh] at this
        exact x_nil this
    · exfalso
      have : ((⟨#[c]⟩ : Str) == ("" : Str)) = false := by
        rw [beq_eq_false_iff_ne]
        intro e
        have := congrArg (fun s : Str => s.cps.toList.length) e
        cases this
      have z : (!((⟨#[c]⟩ : Str) == ("" : Str))) = false := z
      rw [this] at z
      cases z
end
end K15

namespace K15
open PySem PySem.Spec PyProof.Rows L2 Fw
local macro_rules | `(tactic| walk_at "v") => `(tactic| (repeat (first | ((with_reducible apply Fw.v_var); next => exact rfl) | with_reducible refine Fw.v_bin ?_ | with_reducible refine Fw.v_maxD ?_ | with_reducible refine Fw.v_sub ?_ | with_reducible refine Fw.v_cst ?_ | with_reducible refine Fw.v_cons ?_ | with_reducible refine Fw.v_nil ?_ | with_reducible refine Fw.v_cmp ?_ | with_reducible refine Fw.v_blt ?_ | with_reducible refine Fw.v_neg ?_ | with_reducible refine Fw.v_call ?_ | with_reducible refine Fw.v_callK ?_ | with_reducible refine Fw.v_not ?_ | with_reducible refine Fw.v_chain ?_ | with_reducible refine Fw.v_andT ?_ | with_reducible refine Fw.v_orT ?_ | with_reducible refine Fw.v_and ?_ | with_reducible refine Fw.v_or ?_ | with_reducible refine Fw.v_ite ?_ | with_reducible refine Fw.v_tup ?_ | with_reducible refine Fw.v_lst ?_ | with_reducible refine Fw.v_lstM ?_ | with_reducible refine Fw.v_slcH ?_ | with_reducible refine Fw.v_slcL ?_ | with_reducible refine Fw.v_isiT ?_ | with_reducible refine Fw.v_fstr ?_ | with_reducible refine Fw.v_fmt ?_ | with_reducible refine Fw.v_comp0 ?_ | with_reducible refine Fw.v_comp1 ?_ | with_reducible refine Fw.s_t0 ?_ | with_reducible refine Fw.s_t1 ?_ | with_reducible refine Fw.s_t2 ?_ | with_reducible refine Fw.s_l0 ?_ | with_reducible refine Fw.s_l1 ?_ | with_reducible refine Fw.s_l2 ?_ | with_reducible refine Fw.s_not ?_ | with_reducible refine Fw.s_neg ?_ | with_reducible refine Fw.o_add ?_ | with_reducible refine Fw.o_sub ?_ | with_reducible refine Fw.q_lt ?_ | with_reducible refine Fw.q_le ?_ | with_reducible refine Fw.q_gt ?_ | with_reducible refine Fw.q_ge ?_ | with_reducible refine Fw.q_eq ?_ | with_reducible refine Fw.q_ne ?_ | with_reducible refine Fw.q_eqB ?_ | with_reducible refine Fw.q_neB ?_ | with_reducible refine Fw.q_isN ?_ | with_reducible refine Fw.q_notN ?_ | with_reducible refine Fw.sat_cons ?_ | with_reducible refine Fw.w_asg ?_ | with_reducible refine Fw.w_par ?_ | with_reducible refine Fw.w_parT ?_ | with_reducible refine Fw.w_setI ?_ | with_reducible refine Fw.w_exp ?_ | with_reducible refine Fw.w_ret ?_ | with_reducible refine Fw.v_ccst ?_ | with_reducible refine Fw.v_app ?_ | with_reducible refine Fw.v_whyA ?_ | with_reducible refine Fw.v_fld ?_ | with_reducible refine Fw.w_ite ?_ | with_reducible refine Fw.w_for ?_ | with_reducible refine Fw.w_while ?_ | with_reducible refine Fw.v_tst ?_ | with_reducible refine Fw.x_cons ?_ | with_reducible refine Fw.x_asg ?_ | with_reducible refine Fw.x_exp ?_ | with_reducible refine Fw.x_ret ?_ | with_reducible refine Fw.x_ite ?_ | with_reducible refine Fw.x_asgX ?_ | with_reducible refine Fw.x_expX ?_ | with_reducible refine Fw.x_retX ?_ | with_reducible refine Fw.x_asgE ?_ | with_reducible refine Fw.x_expE ?_ | with_reducible refine Fw.x_retE ?_ | with_reducible refine Fw.x_for ?_ | with_reducible refine Fw.x_while ?_ | with_reducible refine Fw.y_p ?_ | with_reducible refine Fw.y_x ?_ | with_reducible refine Fw.y_neg ?_ | with_reducible refine Fw.y_int ?_ | with_reducible refine Fw.y_nil ?_ | with_reducible refine Fw.y_cons ?_ | with_reducible refine Fw.y_tup ?_ | with_reducible refine Fw.y_lstM ?_ | with_reducible refine Fw.v_tupS ?_ | with_reducible refine Fw.v_lstS ?_ | with_reducible refine Fw.v_snil ?_ | with_reducible refine Fw.v_scons ?_ | with_reducible refine Fw.v_slcB ?_ | ((with_reducible apply Fw.q_inT); next => exact rfl) | ((with_reducible apply Fw.s_sub); next => exact rfl) | ((with_reducible apply Fw.s_blt); next => exact rfl) | ((with_reducible apply Fw.s_tst); next => exact rfl) | ((with_reducible apply Fw.s_isi); next => exact rfl) | ((with_reducible apply Fw.s_asm); next => exact rfl) | ((with_reducible apply Fw.s_bnd); next => exact rfl) | ((with_reducible apply Fw.s_wlk); next => exact rfl) | ((with_reducible apply Fw.s_slcH); next => exact rfl) | ((with_reducible apply Fw.s_slcL); next => exact rfl) | ((with_reducible apply Fw.s_slcB); next => exact rfl) | ((with_reducible apply Fw.s_dsp); (next => exact rfl); (next => exact rfl)) | ((with_reducible apply Fw.s_set); (next => exact rfl); (next => exact rfl)) | ((with_reducible apply Fw.q_eqS); (next => first | exact ofStr_ok _ | assumption); (next => first | exact ofStr_ok _ | assumption)) | ((with_reducible refine Fw.o_mul ?_ ?_); next => first | assumption | exact mul_c (by omega) (by omega) | exact mul_cL (by omega) (by omega)) | ((with_reducible refine Fw.o_mod ?_ ?_); next => first | assumption | omega) | ((with_reducible refine Fw.o_div ?_ ?_); next => first | assumption | decide) | ((with_reducible refine Fw.o_pow ?_ ?_); next => decide))))
local macro_rules | `(tactic| walk_at "y") => `(tactic| (refine br (fun _ => ?_) (fun h => absurd h (by first | exact ft_no | exact tf_no | decide | simp)); walk_at "v"))
local macro_rules | `(tactic| walk_at "n") => `(tactic| (refine br (fun h => absurd h (by first | exact ft_no | exact tf_no | decide | simp)) (fun _ => ?_); (try refine sat_nil ?_); walk_at "v"))
/-! ### read_program -/
def Hd (d : D) : Prop := ∃ x l, d = .tup (.str x :: l)
theorem RR.bind_ok {α β : Type} {r : RR α} {f : α → Nat → RR β} {b : β} {j : Nat} (h : r.bind f = .ok b j) : ∃ a i, r = .ok a i ∧ f a i = .ok b j := by
  cases r with
  | ok a i => exact ⟨a, i, rfl, h⟩
  | er p => cases h
theorem num_hd {L : List Nat} {i j : Nat} {d : D} (h : pNum L i = .ok d j) : Hd d := by
  unfold pNum at h
  obtain ⟨top, i1, _, h⟩ := RR.bind_ok h
  unfold pNumT at h
  split at h
  · obtain ⟨bot, i2, _, h⟩ := RR.bind_ok h
    split at h
    · cases h
    · cases h
      exact ⟨_, _, rfl⟩
  · cases h
    exact ⟨_, _, rfl⟩
theorem test_hd {L : List Nat} {i j : Nat} {d : D} (h : pTest L i = .ok d j) : Hd d := by
  unfold pTest at h
  obtain ⟨_, i1, _, h⟩ := RR.bind_ok h
  obtain ⟨one, i2, _, h⟩ := RR.bind_ok h
  split at h
  · obtain ⟨other, i3, _, h⟩ := RR.bind_ok h
    obtain ⟨found, i6, h6, h⟩ := RR.bind_ok h
    obtain ⟨_, i7, _, h⟩ := RR.bind_ok h
    cases h
    split at h6
    · obtain ⟨_, i4, _, h6⟩ := RR.bind_ok h6
      obtain ⟨ds, i5, _, h6⟩ := RR.bind_ok h6
      cases h6
      exact ⟨_, _, rfl⟩
    · split at h6
      · cases h6
        exact ⟨_, _, rfl⟩
      · cases h6
        exact ⟨_, _, rfl⟩
  · cases h
theorem word_hd {L : List Nat} {rc : Option (Nat → RR D)} {i j : Nat} {d : D} (h : pWord L rc i = .ok d j) : Hd d := by
  unfold pWord at h
  obtain ⟨word, i1, _, h⟩ := RR.bind_ok h
  obtain ⟨_, i2, _, h⟩ := RR.bind_ok h
  obtain ⟨nm, i3, _, h⟩ := RR.bind_ok h
  split at h
  · split at h
    · cases h
    · obtain ⟨_, i4, _, h⟩ := RR.bind_ok h
      obtain ⟨body, i5, _, h⟩ := RR.bind_ok h
      obtain ⟨_, i6, _, h⟩ := RR.bind_ok h
      cases h
      exact ⟨_, _, rfl⟩
  · obtain ⟨names, i4, _, h⟩ := RR.bind_ok h
    obtain ⟨_, i5, _, h⟩ := RR.bind_ok h
    cases h
    exact ⟨_, _, rfl⟩
theorem group_hd {L : List Nat} {rc : Option (Nat → RR D)} (hrc : ∀ f, rc = some f → ∀ i d j, f i = .ok d j → Hd d) {i j : Nat} {v : D × Bool} (h : pGroup L rc i = .ok v j) : Hd v.1 := by
  unfold pGroup at h
  split at h
  · cases h
  · rename_i f
    obtain ⟨_, i1, _, h⟩ := RR.bind_ok h
    obtain ⟨p0, i2, h0, h⟩ := RR.bind_ok h
    split at h
    · split at h
      · split at h
        · obtain ⟨_, i3, _, h⟩ := RR.bind_ok h
          obtain ⟨p1, i4, _, h⟩ := RR.bind_ok h
          obtain ⟨ps, i5, _, h⟩ := RR.bind_ok h
          obtain ⟨_, i6, _, h⟩ := RR.bind_ok h
          cases h
          exact ⟨_, _, rfl⟩
        · cases h
      · cases h
    · split at h
      · obtain ⟨_, i3, _, h⟩ := RR.bind_ok h
        cases h
        exact hrc f rfl _ _ _ h0
      · cases h
theorem all_hd {L : List Nat} {rc : Option (Nat → RR D)} (hrc : ∀ f, rc = some f → ∀ i d j, f i = .ok d j → Hd d) {i j : Nat} {d : D} (h : pAll L rc i = .ok d j) : Hd d := by
  unfold pAll at h
  split at h
  · exact num_hd h
  · obtain ⟨fm, i1, h1, h⟩ := RR.bind_ok h
    split at h
    · obtain ⟨_, i2, _, h⟩ := RR.bind_ok h
      obtain ⟨ds, i3, _, h⟩ := RR.bind_ok h
      cases h
      exact ⟨_, _, rfl⟩
    · cases h
      split at h1
      · obtain ⟨d, i2, h2, h1⟩ := RR.bind_ok h1
        cases h1
        exact test_hd h2
      · split at h1
        · exact group_hd hrc h1
        · obtain ⟨d, i2, h2, h1⟩ := RR.bind_ok h1
          cases h1
          exact word_hd h2
theorem rd_hd {L : List Nat} : ∀ n i d j, rd L n i = .ok d j → Hd d
  | 0, i, d, j, h => all_hd (fun f hf => by cases hf) h
  | n + 1, i, d, j, h => all_hd (fun f hf => by cases hf; exact rd_hd n) h
section
variable {wf k : Nat} {A R S : Store} {t : Str} {i o : Nat}
theorem rd_ok (ht : TxOk t) (hwf : W0 ≤ wf) : ∀ (n : Nat), n ≤ 10 → ∀ (A R : Store) (i : Nat), SpR A R t (10 - n) id (rd (tl t) n i) (callI ft wf (k + 5 + 2 * n) F_m_Reader_read_all [.m A.length] (St A R t i (10 - n)))
  | 0, _, A, R, i => by
    rw [rd]
    exact all_ok ht hwf (show RcOk t wf (k + 3) 10 none from rfl)
  | n + 1, hn, A, R, i => by
    rw [rd, show k + 5 + 2 * (n + 1) = (k + 2 + 2 * n) + 5 by omega]
    refine all_ok ht hwf ⟨by omega, fun A R i => ?_, rd_hd n⟩
    have := rd_ok ht hwf n (by omega) A R i
    rw [show 10 - (n + 1) + 1 = 10 - n by omega, show k + 2 + 2 * n + 3 = k + 5 + 2 * n by omega]
    exact this
theorem set_fl {cl : Nat → List Fw.A → Store → Rz Fw.A} {n : Str} {d : D} {ns : List Str} {ds : List D} {ρ : Fw.Env} {cv : C} {PE : Fw.Env → Store → Prop} {PR : Fw.A → Store → Prop} {X : Exn → Store → Prop} (h0 : ρ[0]? = some (some (.m S.length))) (hv : ev cl false cv ρ (S ++ [.ins 0 ns ds]) = .ok (.p d) (S ++ [.ins 0 ns ds])) (hl : ns.length < 900) (k : PE ρ (S ++ [.ins 0 (putN n d ns ds).1 (putN n d ns ds).2])) :
    (run1 cl wf (.setF 0 (.var 0) n cv) ρ (S ++ [.ins 0 ns ds])).sx PE PR X := by
  have hs : (S ++ [MO.ins 0 ns ds])[S.length]? = some (.ins 0 ns ds) := by
    rw [List.getElem?_append_right (Nat.le_refl _), Nat.sub_self]
    rfl
  have e0 : ev cl false (.var 0) ρ (S ++ [.ins 0 ns ds]) = .ok (.m S.length) (S ++ [.ins 0 ns ds]) := sat_val (v_var h0 ⟨rfl, rfl⟩)
  rw [run1, hv]
  show ((ev cl false (.var 0) ρ (S ++ [.ins 0 ns ds])).then fun o S2 => _).sx PE PR X
  rw [e0]
  show ((match (S ++ [MO.ins 0 ns ds])[S.length]? with
      | some (.ins c ns ds) => if c = 0 ∧ ns.length < 900 then Rs.nx ρ ((S ++ [MO.ins 0 _ _]).set S.length (.ins c (putN n d ns ds).1 (putN n d ns ds).2)) else .bad
      | _ => .bad) : Rs).sx PE PR X
  rw [hs]
  dsimp only
  rw [if_pos ⟨rfl, hl⟩, List.set_append_right _ _ (Nat.le_refl _), Nat.sub_self]
  exact k
theorem init_ok : callI ft wf (k + 1) F_m_Reader___init__ [.m S.length, .p (.str t)] (S ++ [.ins 0 [] []]) = .ok (.p .non) (St S [] t 0 0) := by
  have el : (S ++ [MO.ins 0 [] []]).length = (St S [] t 0 0).length := by
    rw [St.len, List.length_append]
    rfl
  refine eq_of_sx (sx_call (i := ⟨2, 2, c_m_Reader___init__⟩) rfl rfl ?_)
  show (Fw.run _ wf c_m_Reader___init__ [some (.m S.length), some (.p (.str t))] _).sx _ _ _
  unfold c_m_Reader___init__
  refine x_cons (set_fl rfl (sat_val (v_var rfl ⟨rfl, rfl⟩)) (by decide) ?_)
  refine x_cons (set_fl rfl (sat_val (v_cst ⟨rfl, rfl⟩)) (by show 1 < 900; decide) ?_)
  refine x_cons (set_fl rfl (sat_val (v_cst ⟨rfl, rfl⟩)) (by show 2 < 900; decide) (x_nil ?_))
  rw [el]
  have : (S ++ [MO.ins 0 (putN "open_now" (.int 0) (putN "at" (.int 0) (putN "text" (.str t) [] []).1 (putN "text" (.str t) [] []).2).1 (putN "at" (.int 0) (putN "text" (.str t) [] []).1 (putN "text" (.str t) [] []).2).2).1 (putN "open_now" (.int 0) (putN "at" (.int 0) (putN "text" (.str t) [] []).1 (putN "text" (.str t) [] []).2).1 (putN "at" (.int 0) (putN "text" (.str t) [] []).1 (putN "text" (.str t) [] []).2).2).2]) = St S [] t 0 0 := by
    unfold St rdr
    congr 2
  rw [this, List.take_length]
theorem prog_ok (ht : TxOk t) (hwf : W0 ≤ wf) : callI ft wf (k + 26) F_g_read_program [.p (.str t)] S = match pProg (tl t) with
    | .ok d _ => .ok (.p d) S
    | .er p => .ex (xT p) S := by
  have hlen : t.length = (tl t).length := (Array.length_toList).symm
  have h5 := ht.len
  have eL : LIM = 100000 := rfl
  have cut : ∀ i o, (St S [] t i o).take S.length = S := fun i o => by
    unfold St
    rw [List.take_left]
  refine eq_of_sx (sx_call (i := ⟨1, 3, c_g_read_program F_m_Reader___init__ F_m_Reader_fail F_m_Reader_read_all⟩) rfl rfl ?_)
  show (Fw.run _ wf (c_g_read_program F_m_Reader___init__ F_m_Reader_fail F_m_Reader_read_all) [some (.p (.str t)), none, none] _).sx _ _ _
  unfold c_g_read_program
  walk_at "v"
  refine br (fun z => absurd z (by decide)) fun _ => x_nil ?_
  walk_at "v"
  have em : appF (callI ft wf (k + 25)) (.makeM 0 F_m_Reader___init__ []) [some (.p (.str t)), none, none] [.p (.str t)] S = .ok (.m S.length) (St S [] t 0 0) := by
    show mkM (callI ft wf (k + 25)) 0 F_m_Reader___init__ [.p (.str t)] S = _
    unfold mkM
    rw [show k + 25 = (k + 24) + 1 from rfl, init_ok]
    dsimp only
    rw [St.at]
    rfl
  refine Rz.sat_eq em (s_bnd rfl ?_)
  refine x_cons (x_asgX (z_meth rfl St.at no_all (v_nil ?_)))
  refine SpR.use (rd_ok (k := k) ht hwf 10 (Nat.le_refl _) S [] 0) ?_ ?_
  · intro d i1 h1
    refine s_bnd rfl ?_
    refine x_cons (x_ite (v_cmp (v_fld (v_var rfl (fl_at (v_blt (v_cons (v_var rfl (v_nil (s_blt (z := .p (.int t.length)) ?_ (q_lt (br (fun h2 => ?_) fun h2 => ?_))))))))))))
    · show (if t.length ≤ LIM then some (Fw.A.p (.int t.length)) else none) = _
      rw [if_pos (by omega)]
    · have h2 : (i1 : Int) < t.length := of_decide_eq_true h2
      refine x_cons (x_expX (z_meth rfl St.at no_fail (v_nil (Rz.sx_ex (fail_ok (k := k + 24)) ?_))))
      have e : pProg (tl t) = .er i1 := by
        unfold pProg
        rw [h1]
        show (if i1 < (tl t).length then _ else _) = _
        rw [if_pos (by omega)]
      rw [e, cut]
    · have h2 : ¬ (i1 : Int) < t.length := of_decide_eq_false h2
      refine x_nil (x_cons (x_ret (v_var rfl ⟨rfl, ?_⟩)))
      have e : pProg (tl t) = .ok d i1 := by
        unfold pProg
        rw [h1]
        show (if i1 < (tl t).length then _ else _) = _
        rw [if_neg (by omega)]
      rw [e, cut]
      rfl
  · intro p i' o' h1
    have e : pProg (tl t) = .er p := by
      unfold pProg
      rw [h1]
      rfl
    rw [e, cut]
def isS : D → Bool
  | .str _ => true
  | _ => false
theorem prog_no {d : D} (hd : ∃ ty, tyF (.p d) S = some ty ∧ isaF ty .tStr = false) : callI ft wf (k + 1) F_g_read_program [.p d] S = .ex (xT 0) S := by
  obtain ⟨ty, h1, h2⟩ := hd
  refine eq_of_sx (sx_call (i := ⟨1, 3, c_g_read_program F_m_Reader___init__ F_m_Reader_fail F_m_Reader_read_all⟩) rfl rfl ?_)
  show (Fw.run _ wf (c_g_read_program F_m_Reader___init__ F_m_Reader_fail F_m_Reader_read_all) [some (.p d), none, none] _).sx _ _ _
  unfold c_g_read_program
  refine x_cons (x_ite (v_not (v_tst (v_blt (v_cons (v_var rfl (v_cons (v_cst (v_nil (s_blt (z := .p (.bl false)) ?_ (s_tst rfl (s_not (br (fun _ => ?_) fun z => absurd z tf_no)))))))))))))
  · show (tyF (.p d) S).map _ = _
    rw [h1]
    show some (Fw.A.p (.bl (isaF ty .tStr))) = _
    rw [h2]
  · refine x_cons (x_raise1 (attr := "position") rfl (v_cst ⟨_, rfl, ?_⟩))
    rw [List.take_length]
    rfl
end
end K15

namespace K15
open PySem PySem.Spec PyProof.Rows L2 Fw
local macro_rules | `(tactic| walk_at "v") => `(tactic| (repeat (first | ((with_reducible apply Fw.v_var); next => exact rfl) | with_reducible refine Fw.v_bin ?_ | with_reducible refine Fw.v_maxD ?_ | with_reducible refine Fw.v_sub ?_ | with_reducible refine Fw.v_cst ?_ | with_reducible refine Fw.v_cons ?_ | with_reducible refine Fw.v_nil ?_ | with_reducible refine Fw.v_cmp ?_ | with_reducible refine Fw.v_blt ?_ | with_reducible refine Fw.v_neg ?_ | with_reducible refine Fw.v_call ?_ | with_reducible refine Fw.v_callK ?_ | with_reducible refine Fw.v_not ?_ | with_reducible refine Fw.v_chain ?_ | with_reducible refine Fw.v_andT ?_ | with_reducible refine Fw.v_orT ?_ | with_reducible refine Fw.v_and ?_ | with_reducible refine Fw.v_or ?_ | with_reducible refine Fw.v_ite ?_ | with_reducible refine Fw.v_tup ?_ | with_reducible refine Fw.v_lst ?_ | with_reducible refine Fw.v_lstM ?_ | with_reducible refine Fw.v_slcH ?_ | with_reducible refine Fw.v_slcL ?_ | with_reducible refine Fw.v_isiT ?_ | with_reducible refine Fw.v_fstr ?_ | with_reducible refine Fw.v_fmt ?_ | with_reducible refine Fw.v_comp0 ?_ | with_reducible refine Fw.v_comp1 ?_ | with_reducible refine Fw.s_t0 ?_ | with_reducible refine Fw.s_t1 ?_ | with_reducible refine Fw.s_t2 ?_ | with_reducible refine Fw.s_l0 ?_ | with_reducible refine Fw.s_l1 ?_ | with_reducible refine Fw.s_l2 ?_ | with_reducible refine Fw.s_not ?_ | with_reducible refine Fw.s_neg ?_ | with_reducible refine Fw.o_add ?_ | with_reducible refine Fw.o_sub ?_ | with_reducible refine Fw.q_lt ?_ | with_reducible refine Fw.q_le ?_ | with_reducible refine Fw.q_gt ?_ | with_reducible refine Fw.q_ge ?_ | with_reducible refine Fw.q_eq ?_ | with_reducible refine Fw.q_ne ?_ | with_reducible refine Fw.q_eqB ?_ | with_reducible refine Fw.q_neB ?_ | with_reducible refine Fw.q_isN ?_ | with_reducible refine Fw.q_notN ?_ | with_reducible refine Fw.sat_cons ?_ | with_reducible refine Fw.w_asg ?_ | with_reducible refine Fw.w_par ?_ | with_reducible refine Fw.w_parT ?_ | with_reducible refine Fw.w_setI ?_ | with_reducible refine Fw.w_exp ?_ | with_reducible refine Fw.w_ret ?_ | with_reducible refine Fw.v_ccst ?_ | with_reducible refine Fw.v_app ?_ | with_reducible refine Fw.v_whyA ?_ | with_reducible refine Fw.v_fld ?_ | with_reducible refine Fw.w_ite ?_ | with_reducible refine Fw.w_for ?_ | with_reducible refine Fw.w_while ?_ | with_reducible refine Fw.v_tst ?_ | with_reducible refine Fw.x_cons ?_ | with_reducible refine Fw.x_asg ?_ | with_reducible refine Fw.x_exp ?_ | with_reducible refine Fw.x_ret ?_ | with_reducible refine Fw.x_ite ?_ | with_reducible refine Fw.x_asgX ?_ | with_reducible refine Fw.x_expX ?_ | with_reducible refine Fw.x_retX ?_ | with_reducible refine Fw.x_asgE ?_ | with_reducible refine Fw.x_expE ?_ | with_reducible refine Fw.x_retE ?_ | with_reducible refine Fw.x_for ?_ | with_reducible refine Fw.x_while ?_ | with_reducible refine Fw.y_p ?_ | with_reducible refine Fw.y_x ?_ | with_reducible refine Fw.y_neg ?_ | with_reducible refine Fw.y_int ?_ | with_reducible refine Fw.y_nil ?_ | with_reducible refine Fw.y_cons ?_ | with_reducible refine Fw.y_tup ?_ | with_reducible refine Fw.y_lstM ?_ | with_reducible refine Fw.v_tupS ?_ | with_reducible refine Fw.v_lstS ?_ | with_reducible refine Fw.v_snil ?_ | with_reducible refine Fw.v_scons ?_ | with_reducible refine Fw.v_slcB ?_ | ((with_reducible apply Fw.q_inT); next => exact rfl) | ((with_reducible apply Fw.s_sub); next => exact rfl) | ((with_reducible apply Fw.s_blt); next => exact rfl) | ((with_reducible apply Fw.s_tst); next => exact rfl) | ((with_reducible apply Fw.s_isi); next => exact rfl) | ((with_reducible apply Fw.s_asm); next => exact rfl) | ((with_reducible apply Fw.s_bnd); next => exact rfl) | ((with_reducible apply Fw.s_wlk); next => exact rfl) | ((with_reducible apply Fw.s_slcH); next => exact rfl) | ((with_reducible apply Fw.s_slcL); next => exact rfl) | ((with_reducible apply Fw.s_slcB); next => exact rfl) | ((with_reducible apply Fw.s_dsp); (next => exact rfl); (next => exact rfl)) | ((with_reducible apply Fw.s_set); (next => exact rfl); (next => exact rfl)) | ((with_reducible apply Fw.q_eqS); (next => first | exact ofStr_ok _ | assumption); (next => first | exact ofStr_ok _ | assumption)) | ((with_reducible refine Fw.o_mul ?_ ?_); next => first | assumption | exact mul_c (by omega) (by omega) | exact mul_cL (by omega) (by omega)) | ((with_reducible refine Fw.o_mod ?_ ?_); next => first | assumption | omega) | ((with_reducible refine Fw.o_div ?_ ?_); next => first | assumption | decide) | ((with_reducible refine Fw.o_pow ?_ ?_); next => decide))))
local macro_rules | `(tactic| walk_at "y") => `(tactic| (refine br (fun _ => ?_) (fun h => absurd h (by first | exact ft_no | exact tf_no | decide | simp)); walk_at "v"))
local macro_rules | `(tactic| walk_at "n") => `(tactic| (refine br (fun h => absurd h (by first | exact ft_no | exact tf_no | decide | simp)) (fun _ => ?_); (try refine sat_nil ?_); walk_at "v"))
/-! ### reading goes by what is left -/
def RR.sh {α : Type} (n : Nat) : RR α → RR α
  | .ok a i => .ok a (n + i)
  | .er p => .er (n + p)
theorem bind_sh {α β : Type} {n : Nat} {r : RR α} {f f' : α → Nat → RR β} (h : ∀ a i, f' a (n + i) = (f a i).sh n) : (r.sh n).bind f' = (r.bind f).sh n := by
  cases r with
  | ok a i => exact h a i
  | er p => rfl
section
variable {L : List Nat} {n : Nat}
theorem at_sh (i : Nat) : L[n + i]? = (L.drop n)[i]? := List.getElem?_drop.symm
theorem take_sh : ∀ (ws : List Nat) (i : Nat), pTake L ws (n + i) = (pTake (L.drop n) ws i).sh n
  | [], i => rfl
  | w :: ws, i => by
    rw [pTake, pTake, at_sh]
    split
    · exact take_sh ws (i + 1)
    · rfl
theorem run_sh (signs : List Nat) (m i : Nat) : pRun L signs m (n + i) = (pRun (L.drop n) signs m i).sh n := by
  unfold pRun
  rw [List.drop_drop]
  split
  · rfl
  · show RR.ok _ _ = RR.ok _ _
    rw [Nat.add_assoc]
theorem name_sh (i : Nat) : pName L (n + i) = (pName (L.drop n) i).sh n := run_sh _ _ i
theorem fig_sh (i : Nat) : pFig L (n + i) = (pFig (L.drop n) i).sh n := by
  unfold pFig
  rw [at_sh]
  split
  · rfl
  · rw [run_sh]
    exact bind_sh fun _ _ => rfl
theorem numT_sh (top : Int) (i : Nat) : pNumT L top (n + i) = (pNumT (L.drop n) top i).sh n := by
  unfold pNumT
  rw [at_sh]
  split
  · rw [Nat.add_assoc, fig_sh]
    refine bind_sh fun a j => ?_
    split
    · rfl
    · rfl
  · rfl
theorem num_sh (i : Nat) : pNum L (n + i) = (pNum (L.drop n) i).sh n := by
  unfold pNum
  rw [at_sh]
  have : (if (L.drop n)[i]? = some 48 then RR.ok (0 : Int) (n + i + 1) else if (L.drop n)[i]? = some 45 then (pFig L (n + i + 1)).bind fun n i => .ok (-(n : Int)) i else (pFig L (n + i)).bind fun n i => .ok (n : Int) i) =
      (if (L.drop n)[i]? = some 48 then RR.ok (0 : Int) (i + 1) else if (L.drop n)[i]? = some 45 then (pFig (L.drop n) (i + 1)).bind fun n i => .ok (-(n : Int)) i else (pFig (L.drop n) i).bind fun n i => .ok (n : Int) i).sh n := by
    split
    · rfl
    · split
      · rw [Nat.add_assoc, fig_sh]
        exact bind_sh fun _ _ => rfl
      · rw [fig_sh]
        exact bind_sh fun _ _ => rfl
  rw [this]
  exact bind_sh fun a j => numT_sh a j
theorem test_sh (i : Nat) : pTest L (n + i) = (pTest (L.drop n) i).sh n := by
  unfold pTest
  rw [take_sh]
  refine bind_sh fun _ i1 => ?_
  rw [name_sh]
  refine bind_sh fun one i2 => ?_
  rw [at_sh]
  split
  · rw [Nat.add_assoc, name_sh]
    refine bind_sh fun other i3 => ?_
    have : (if (L.drop n)[i2]? = some 126 then (pTake L [58] (n + i3)).bind fun _ i4 => (pRun L [48, 49, 50, 51] 1 i4).bind fun ds i5 => .ok (.tup [.str "near", .int (NumText.digitsVal ds : Nat), .str (sS one), .str (sS other)]) i5
         else if (L.drop n)[i2]? = some 61 then .ok (.tup [.str "same", .str (sS one), .str (sS other)]) (n + i3)
         else .ok (.tup [.str (if (L.drop n)[i2]? = some 58 then "part" else "wave"), .str (sS other), .str (sS one)]) (n + i3) : RR D) =
        (if (L.drop n)[i2]? = some 126 then (pTake (L.drop n) [58] i3).bind fun _ i4 => (pRun (L.drop n) [48, 49, 50, 51] 1 i4).bind fun ds i5 => .ok (.tup [.str "near", .int (NumText.digitsVal ds : Nat), .str (sS one), .str (sS other)]) i5
         else if (L.drop n)[i2]? = some 61 then .ok (.tup [.str "same", .str (sS one), .str (sS other)]) i3
         else .ok (.tup [.str (if (L.drop n)[i2]? = some 58 then "part" else "wave"), .str (sS other), .str (sS one)]) i3 : RR D).sh n := by
      split
      · rw [take_sh]
        refine bind_sh fun _ i4 => ?_
        rw [run_sh]
        exact bind_sh fun _ _ => rfl
      · split
        · rfl
        · rfl
    rw [this]
    refine bind_sh fun found i6 => ?_
    rw [take_sh]
    exact bind_sh fun _ _ => rfl
  · rfl
theorem names_sh : ∀ (m : Nat) (acc : List (List Nat)) (i : Nat), pNames L m acc (n + i) = (pNames (L.drop n) m acc i).sh n
  | 0, acc, i => rfl
  | m + 1, acc, i => by
    rw [pNames, pNames, at_sh]
    split
    · rw [Nat.add_assoc, name_sh]
      exact bind_sh fun nm i1 => names_sh m _ i1
    · rfl
def RcSh (n : Nat) : Option (Nat → RR D) → Option (Nat → RR D) → Prop
  | none, none => True
  | some f, some g => ∀ i, f (n + i) = (g i).sh n
  | _, _ => False
theorem word_sh {rf rg : Option (Nat → RR D)} (hr : RcSh n rf rg) (i : Nat) : pWord L rf (n + i) = (pWord (L.drop n) rg i).sh n := by
  unfold pWord
  rw [name_sh]
  refine bind_sh fun word i1 => ?_
  rw [take_sh]
  refine bind_sh fun _ i2 => ?_
  rw [name_sh]
  refine bind_sh fun nm i3 => ?_
  rw [at_sh]
  split
  · cases rf with
    | none =>
      cases rg with
      | none => rfl
      | some g => exact hr.elim
    | some f =>
      cases rg with
      | none => exact hr.elim
      | some g =>
        dsimp only
        rw [take_sh]
        refine bind_sh fun _ i4 => ?_
        rw [hr i4]
        refine bind_sh fun body i5 => ?_
        rw [take_sh]
        exact bind_sh fun _ _ => rfl
  · rw [names_sh]
    refine bind_sh fun names i4 => ?_
    rw [take_sh]
    exact bind_sh fun _ _ => rfl
theorem more_sh {f g : Nat → RR D} (hr : ∀ i, f (n + i) = (g i).sh n) (sg : Nat) : ∀ (m : Nat) (ps : List D) (i : Nat), pMore L f sg m ps (n + i) = (pMore (L.drop n) g sg m ps i).sh n
  | 0, ps, i => rfl
  | m + 1, ps, i => by
    rw [pMore, pMore, at_sh]
    split
    · rw [take_sh]
      refine bind_sh fun _ i1 => ?_
      rw [hr i1]
      exact bind_sh fun p i2 => more_sh hr sg m _ i2
    · rfl
theorem group_sh {rf rg : Option (Nat → RR D)} (hr : RcSh n rf rg) (i : Nat) : pGroup L rf (n + i) = (pGroup (L.drop n) rg i).sh n := by
  unfold pGroup
  cases rf with
  | none =>
    cases rg with
    | none => rfl
    | some g => exact hr.elim
  | some f =>
    cases rg with
    | none => exact hr.elim
    | some g =>
      dsimp only
      rw [take_sh]
      refine bind_sh fun _ i1 => ?_
      rw [hr i1]
      refine bind_sh fun p0 i2 => ?_
      rw [at_sh]
      split
      · rw [Nat.add_assoc, at_sh]
        split
        · split
          · rw [take_sh]
            refine bind_sh fun _ i3 => ?_
            rw [hr i3]
            refine bind_sh fun p1 i4 => ?_
            rw [more_sh hr]
            refine bind_sh fun ps i5 => ?_
            rw [take_sh]
            exact bind_sh fun _ _ => rfl
          · rfl
        · rfl
      · split
        · rw [take_sh]
          exact bind_sh fun _ _ => rfl
        · rfl
theorem all_sh {rf rg : Option (Nat → RR D)} (hr : RcSh n rf rg) (i : Nat) : pAll L rf (n + i) = (pAll (L.drop n) rg i).sh n := by
  unfold pAll
  rw [at_sh]
  split
  · exact num_sh i
  · have : (if (L.drop n)[i]? = some 91 then (pTest L (n + i)).bind fun d i => .ok (d, false) i else if (L.drop n)[i]? = some 40 then pGroup L rf (n + i) else (pWord L rf (n + i)).bind fun d i => .ok (d, false) i : RR (D × Bool)) =
        (if (L.drop n)[i]? = some 91 then (pTest (L.drop n) i).bind fun d i => .ok (d, false) i else if (L.drop n)[i]? = some 40 then pGroup (L.drop n) rg i else (pWord (L.drop n) rg i).bind fun d i => .ok (d, false) i : RR (D × Bool)).sh n := by
      split
      · rw [test_sh]
        exact bind_sh fun _ _ => rfl
      · split
        · exact group_sh hr i
        · rw [word_sh hr]
          exact bind_sh fun _ _ => rfl
    rw [this]
    refine bind_sh fun fm i1 => ?_
    rw [at_sh]
    split
    · rw [take_sh]
      refine bind_sh fun _ i2 => ?_
      rw [run_sh]
      exact bind_sh fun _ _ => rfl
    · rfl
theorem rd_sh (L : List Nat) (n : Nat) : ∀ (m i : Nat), rd L m (n + i) = (rd (L.drop n) m i).sh n
  | 0, i => all_sh (rf := none) (rg := none) trivial i
  | m + 1, i => all_sh (rf := some _) (rg := some _) (rd_sh L n m) i
end
/-! ### a head of a sum ahead of a text -/
theorem run_app {signs : List Nat} : ∀ (m : Nat) (l r : List Nat), (∀ c ∈ l, c ∈ signs) → l.length ≤ m → (∀ c, r.head? = some c → c ∉ signs) → runLen signs m (l ++ r) = l.length
  | m, [], r, _, _, hr => by
    rw [List.nil_append]
    cases m with
    | zero => rfl
    | succ m =>
      cases r with
      | nil => rfl
      | cons c r => rw [runLen, if_neg (hr c rfl)]; rfl
  | 0, c :: l, r, _, hl, _ => by cases hl
  | m + 1, c :: l, r, h, hl, hr => by
    rw [List.cons_append, runLen, if_pos (h c (List.mem_cons_self ..)), run_app m l r (fun d hd => h d (List.mem_cons_of_mem _ hd)) (by rw [List.length_cons] at hl; omega) hr, List.length_cons]
theorem pRun_app {signs : List Nat} {m : Nat} {p l r : List Nat} (h : ∀ c ∈ l, c ∈ signs) (hl : l.length ≤ m) (h0 : l ≠ []) (hr : ∀ c, r.head? = some c → c ∉ signs) : pRun (p ++ (l ++ r)) signs m p.length = .ok l (p.length + l.length) := by
  unfold pRun
  rw [List.drop_left, run_app m l r h hl hr, if_neg (fun z => h0 (List.length_eq_zero_iff.mp z)), List.take_left]
def hdT (nm : List Nat) : List Nat := [115, 117, 109, 40] ++ (nm ++ [58, 32])
structure NmL (nm : List Nat) : Prop where
  abc : ∀ c ∈ nm, c ∈ abcL
  one : nm ≠ []
  len : nm.length ≤ 8
theorem hdT_len (nm : List Nat) : (hdT nm).length = nm.length + 6 := by
  unfold hdT
  rw [List.length_append, List.length_append]
  show 4 + (nm.length + 2) = _
  omega
theorem at_app {p r : List Nat} {c : Nat} : (p ++ c :: r)[p.length]? = some c := by
  rw [List.getElem?_append_right (Nat.le_refl _), Nat.sub_self]
  rfl
theorem word_head {nm : List Nat} (hn : NmL nm) (rest : List Nat) (rc : Option (Nat → RR D)) : pWord (hdT nm ++ rest) rc 0 = match rc with
    | none => .er (4 + nm.length)
    | some f => (f (nm.length + 6)).bind fun body i5 => (pTake (hdT nm ++ rest) [41] i5).bind fun _ i6 => .ok (.tup [.str "sum", .str (sS nm), body]) i6 := by
  have e1 : pName (hdT nm ++ rest) 0 = .ok [115, 117, 109] 3 := by
    have := pRun_app (signs := abcL) (m := 8) (p := []) (l := [115, 117, 109]) (r := 40 :: (nm ++ [58, 32] ++ rest)) (by decide +kernel) (by decide) (by decide) (by intro c hc; cases hc; decide +kernel)
    unfold pName hdT
    rw [List.append_assoc]
    exact this
  have e2 : pTake (hdT nm ++ rest) [40] 3 = .ok () 4 := rfl
  have hl : hdT nm ++ rest = [115, 117, 109, 40] ++ (nm ++ (58 :: 32 :: rest)) := by
    unfold hdT
    rw [List.append_assoc, List.append_assoc]
    rfl
  have e3 : pName (hdT nm ++ rest) 4 = .ok nm (4 + nm.length) := by
    rw [hl]
    exact pRun_app (signs := abcL) (m := 8) (p := [115, 117, 109, 40]) hn.abc hn.len hn.one (by intro c hc; cases hc; decide +kernel)
  have hl2 : hdT nm ++ rest = ([115, 117, 109, 40] ++ nm) ++ 58 :: (32 :: rest) := by rw [hl, List.append_assoc]
  have hl3 : hdT nm ++ rest = ([115, 117, 109, 40] ++ nm ++ [58]) ++ 32 :: rest := by rw [hl2]; simp
  have e4 : (hdT nm ++ rest)[4 + nm.length]? = some 58 := by
    rw [hl2]
    have := at_app (p := [115, 117, 109, 40] ++ nm) (r := 32 :: rest) (c := 58)
    rw [List.length_append] at this
    exact this
  have e5 : (hdT nm ++ rest)[4 + nm.length + 1]? = some 32 := by
    rw [hl3]
    have := at_app (p := [115, 117, 109, 40] ++ nm ++ [58]) (r := rest) (c := 32)
    rw [List.length_append, List.length_append] at this
    exact this
  have e6 : pTake (hdT nm ++ rest) [58, 32] (4 + nm.length) = .ok () (nm.length + 6) := by
    rw [pTake, if_pos e4, pTake, if_pos e5, pTake, show 4 + nm.length + 1 + 1 = nm.length + 6 by omega]
  unfold pWord
  rw [e1]
  dsimp only [RR.bind]
  rw [e2]
  dsimp only [RR.bind]
  rw [e3]
  dsimp only [RR.bind]
  rw [if_pos ⟨rfl, e4⟩]
  cases rc with
  | none => rfl
  | some f =>
    dsimp only
    rw [e6]
theorem all_head {nm rest : List Nat} {rc : Option (Nat → RR D)} : pAll (hdT nm ++ rest) rc 0 = (pWord (hdT nm ++ rest) rc 0).bind fun d i1 =>
    if false = true ∨ (hdT nm ++ rest)[i1]? = some 94 then (pTake (hdT nm ++ rest) [94] i1).bind fun _ i2 => (pRun (hdT nm ++ rest) [48, 49, 50, 51, 52] 1 i2).bind fun ds i3 => .ok (.tup [.str "power", d, .int (NumText.digitsVal ds : Nat)]) i3 else .ok d i1 := by
  have h0 : (hdT nm ++ rest)[0]? = some 115 := rfl
  unfold pAll
  rw [h0, if_neg (by decide +kernel), if_neg (by decide), if_neg (by decide)]
  cases pWord (hdT nm ++ rest) rc 0 with
  | ok d i => rfl
  | er p => rfl
theorem head_er {nm rest : List Nat} (hn : NmL nm) {n p : Nat} (h : rd rest n 0 = .er p) : rd (hdT nm ++ rest) (n + 1) 0 = .er (nm.length + 6 + p) := by
  have hd : (hdT nm ++ rest).drop (nm.length + 6) = rest := by rw [← hdT_len, List.drop_left]
  have h2 := rd_sh (hdT nm ++ rest) (nm.length + 6) n 0
  rw [hd, h, Nat.add_zero] at h2
  rw [rd, all_head, word_head hn]
  dsimp only
  rw [h2]
  rfl
theorem head_ok {nm rest : List Nat} (hn : NmL nm) {n j : Nat} {d : D} (h : rd rest n 0 = .ok d j) (hj : rest[j]? ≠ some 41) : rd (hdT nm ++ rest) (n + 1) 0 = .er (nm.length + 6 + j) := by
  have hd : (hdT nm ++ rest).drop (nm.length + 6) = rest := by rw [← hdT_len, List.drop_left]
  have h2 := rd_sh (hdT nm ++ rest) (nm.length + 6) n 0
  rw [hd, h, Nat.add_zero] at h2
  have h3 : (hdT nm ++ rest)[nm.length + 6 + j]? ≠ some 41 := by
    rw [at_sh, hd]
    exact hj
  rw [rd, all_head, word_head hn]
  dsimp only
  rw [h2]
  show RR.bind ((pTake (hdT nm ++ rest) [41] (nm.length + 6 + j)).bind _) _ = _
  rw [pTake, if_neg h3]
  rfl
def hrep (nm : List Nat) (m : Nat) (T : List Nat) : List Nat := (List.replicate m (hdT nm)).flatten ++ T
theorem hrep_succ (nm : List Nat) (m : Nat) (T : List Nat) : hrep nm (m + 1) T = hdT nm ++ hrep nm m T := by
  unfold hrep
  rw [List.replicate_succ, List.flatten_cons, List.append_assoc]
theorem hrep_er {nm T : List Nat} (hn : NmL nm) {n p : Nat} (h : rd T n 0 = .er p) : ∀ m, rd (hrep nm m T) (n + m) 0 = .er (m * (nm.length + 6) + p)
  | 0 => by
    show rd T n 0 = _
    rw [h, Nat.zero_mul, Nat.zero_add]
  | m + 1 => by
    rw [hrep_succ, ← Nat.add_assoc, head_er hn (hrep_er hn h m), Nat.succ_mul]
    congr 1
    omega
theorem prog_er {L : List Nat} {p : Nat} (h : rd L 10 0 = .er p) : pProg L = .er p := by
  unfold pProg
  rw [h]
  rfl
end K15

namespace K15
open PySem PySem.Spec PyProof.Rows L2 Fw
local macro_rules | `(tactic| walk_at "v") => `(tactic| (repeat (first | ((with_reducible apply Fw.v_var); next => exact rfl) | with_reducible refine Fw.v_bin ?_ | with_reducible refine Fw.v_maxD ?_ | with_reducible refine Fw.v_sub ?_ | with_reducible refine Fw.v_cst ?_ | with_reducible refine Fw.v_cons ?_ | with_reducible refine Fw.v_nil ?_ | with_reducible refine Fw.v_cmp ?_ | with_reducible refine Fw.v_blt ?_ | with_reducible refine Fw.v_neg ?_ | with_reducible refine Fw.v_call ?_ | with_reducible refine Fw.v_callK ?_ | with_reducible refine Fw.v_not ?_ | with_reducible refine Fw.v_chain ?_ | with_reducible refine Fw.v_andT ?_ | with_reducible refine Fw.v_orT ?_ | with_reducible refine Fw.v_and ?_ | with_reducible refine Fw.v_or ?_ | with_reducible refine Fw.v_ite ?_ | with_reducible refine Fw.v_tup ?_ | with_reducible refine Fw.v_lst ?_ | with_reducible refine Fw.v_lstM ?_ | with_reducible refine Fw.v_slcH ?_ | with_reducible refine Fw.v_slcL ?_ | with_reducible refine Fw.v_isiT ?_ | with_reducible refine Fw.v_fstr ?_ | with_reducible refine Fw.v_fmt ?_ | with_reducible refine Fw.v_comp0 ?_ | with_reducible refine Fw.v_comp1 ?_ | with_reducible refine Fw.s_t0 ?_ | with_reducible refine Fw.s_t1 ?_ | with_reducible refine Fw.s_t2 ?_ | with_reducible refine Fw.s_l0 ?_ | with_reducible refine Fw.s_l1 ?_ | with_reducible refine Fw.s_l2 ?_ | with_reducible refine Fw.s_not ?_ | with_reducible refine Fw.s_neg ?_ | with_reducible refine Fw.o_add ?_ | with_reducible refine Fw.o_sub ?_ | with_reducible refine Fw.q_lt ?_ | with_reducible refine Fw.q_le ?_ | with_reducible refine Fw.q_gt ?_ | with_reducible refine Fw.q_ge ?_ | with_reducible refine Fw.q_eq ?_ | with_reducible refine Fw.q_ne ?_ | with_reducible refine Fw.q_eqB ?_ | with_reducible refine Fw.q_neB ?_ | with_reducible refine Fw.q_isN ?_ | with_reducible refine Fw.q_notN ?_ | with_reducible refine Fw.sat_cons ?_ | with_reducible refine Fw.w_asg ?_ | with_reducible refine Fw.w_par ?_ | with_reducible refine Fw.w_parT ?_ | with_reducible refine Fw.w_setI ?_ | with_reducible refine Fw.w_exp ?_ | with_reducible refine Fw.w_ret ?_ | with_reducible refine Fw.v_ccst ?_ | with_reducible refine Fw.v_app ?_ | with_reducible refine Fw.v_whyA ?_ | with_reducible refine Fw.v_fld ?_ | with_reducible refine Fw.w_ite ?_ | with_reducible refine Fw.w_for ?_ | with_reducible refine Fw.w_while ?_ | with_reducible refine Fw.v_tst ?_ | with_reducible refine Fw.x_cons ?_ | with_reducible refine Fw.x_asg ?_ | with_reducible refine Fw.x_exp ?_ | with_reducible refine Fw.x_ret ?_ | with_reducible refine Fw.x_ite ?_ | with_reducible refine Fw.x_asgX ?_ | with_reducible refine Fw.x_expX ?_ | with_reducible refine Fw.x_retX ?_ | with_reducible refine Fw.x_asgE ?_ | with_reducible refine Fw.x_expE ?_ | with_reducible refine Fw.x_retE ?_ | with_reducible refine Fw.x_for ?_ | with_reducible refine Fw.x_while ?_ | with_reducible refine Fw.y_p ?_ | with_reducible refine Fw.y_x ?_ | with_reducible refine Fw.y_neg ?_ | with_reducible refine Fw.y_int ?_ | with_reducible refine Fw.y_nil ?_ | with_reducible refine Fw.y_cons ?_ | with_reducible refine Fw.y_tup ?_ | with_reducible refine Fw.y_lstM ?_ | with_reducible refine Fw.v_tupS ?_ | with_reducible refine Fw.v_lstS ?_ | with_reducible refine Fw.v_snil ?_ | with_reducible refine Fw.v_scons ?_ | with_reducible refine Fw.v_slcB ?_ | ((with_reducible apply Fw.q_inT); next => exact rfl) | ((with_reducible apply Fw.s_sub); next => exact rfl) | ((with_reducible apply Fw.s_blt); next => exact rfl) | ((with_reducible apply Fw.s_tst); next => exact rfl) | ((with_reducible apply Fw.s_isi); next => exact rfl) | ((with_reducible apply Fw.s_asm); next => exact rfl) | ((with_reducible apply Fw.s_bnd); next => exact rfl) | ((with_reducible apply Fw.s_wlk); next => exact rfl) | ((with_reducible apply Fw.s_slcH); next => exact rfl) | ((with_reducible apply Fw.s_slcL); next => exact rfl) | ((with_reducible apply Fw.s_slcB); next => exact rfl) | ((with_reducible apply Fw.s_dsp); (next => exact rfl); (next => exact rfl)) | ((with_reducible apply Fw.s_set); (next => exact rfl); (next => exact rfl)) | ((with_reducible apply Fw.q_eqS); (next => first | exact ofStr_ok _ | assumption); (next => first | exact ofStr_ok _ | assumption)) | ((with_reducible refine Fw.o_mul ?_ ?_); next => first | assumption | exact mul_c (by omega) (by omega) | exact mul_cL (by omega) (by omega)) | ((with_reducible refine Fw.o_mod ?_ ?_); next => first | assumption | omega) | ((with_reducible refine Fw.o_div ?_ ?_); next => first | assumption | decide) | ((with_reducible refine Fw.o_pow ?_ ?_); next => decide))))
local macro_rules | `(tactic| walk_at "y") => `(tactic| (refine br (fun _ => ?_) (fun h => absurd h (by first | exact ft_no | exact tf_no | decide | simp)); walk_at "v"))
local macro_rules | `(tactic| walk_at "n") => `(tactic| (refine br (fun h => absurd h (by first | exact ft_no | exact tf_no | decide | simp)) (fun _ => ?_); (try refine sat_nil ?_); walk_at "v"))
/-! ### written texts -/
def rowsL : List (Str × Nat) := [(("" : Str), (0 : Nat)), ((" 1" : Str), (0 : Nat)), (("01" : Str), (1 : Nat)), (("-0" : Str), (1 : Nat)), (("--1" : Str), (1 : Nat)), (("1/1" : Str), (2 : Nat)), (("2/4" : Str), (2 : Nat)), (("0/3" : Str), (2 : Nat)), (("1/" : Str), (2 : Nat)), (("1/0" : Str), (2 : Nat)), (("3^2" : Str), (1 : Nat)), (("1234567890" : Str), (9 : Nat)), (("1/1234567890" : Str), (11 : Nat)), (("(3)" : Str), (3 : Nat)), (("(3)^5" : Str), (4 : Nat)), (("(3)^" : Str), (4 : Nat)), (("[i=j" : Str), (4 : Nat)), (("[i~j:4]" : Str), (5 : Nat)), (("[i~j]" : Str), (4 : Nat)), (("[i?j]" : Str), (2 : Nat)), (("[i@]" : Str), (3 : Nat)), (("[I=j]" : Str), (1 : Nat)), (("f(i)^2^2" : Str), (6 : Nat)), (("f(i)^" : Str), (5 : Nat)), (("f()" : Str), (2 : Nat)), (("f(i,j,k,l)" : Str), (7 : Nat)), (("f(i ,j)" : Str), (3 : Nat)), (("f(i:1)" : Str), (3 : Nat)), (("sum(i:1)" : Str), (6 : Nat)), (("sum(i: 1" : Str), (8 : Nat)), (("sum(i,j: 1)" : Str), (7 : Nat)), (("(f(i))" : Str), (5 : Nat)), (("(1 - 2)" : Str), (3 : Nat)), (("(1 + 2 * 3)" : Str), (7 : Nat)), (("(1+2)" : Str), (2 : Nat)), (("(1 +2)" : Str), (4 : Nat)), (("(1 + 2" : Str), (6 : Nat)), (("1 + 2" : Str), (1 : Nat)), (("f" : Str), (1 : Nat)), (("abcdefghi(i)" : Str), (8 : Nat)), (("f(abcdefghi)" : Str), (10 : Nat)), (("f(i)\n" : Str), (4 : Nat)), (("F(i)" : Str), (0 : Nat)), (("((3))^2" : Str), (4 : Nat)), (("1.5" : Str), (1 : Nat)), (("[i=j]^0^1" : Str), (7 : Nat))]
def txB (x : Str) : Bool := decide ((tl x).length ≤ 1000) && (tl x).all fun c => decide (c < 128)
theorem tx_of {x : Str} (h : txB x = true) : TxOk x := by
  unfold txB at h
  rw [Bool.and_eq_true, decide_eq_true_eq, List.all_eq_true] at h
  exact ⟨by omega, fun c hc => of_decide_eq_true (h.2 c hc)⟩
def erAt (L : List Nat) (p : Nat) : Bool := match pProg L with
  | .er q => q == p
  | .ok _ _ => false
theorem er_of {L : List Nat} {p : Nat} (h : erAt L p = true) : pProg L = .er p := by
  unfold erAt at h
  split at h
  · rename_i q e
    rw [e, eq_of_beq h]
  · cases h
theorem rows_all : (rowsL.all fun r => txB r.1 && erAt (tl r.1) r.2) = true := by decide +kernel
def okRow (r : Str × Nat) : Bool := decide (r.1 ∉ ([("(3)" : Str), "f(i)\n"])) && decide (r.2 < (tl r.1).length)
theorem few_all : ((List.range 8).all fun n => ((rowsL.drop 6).take 24).all fun r => !okRow r || erAt (List.replicate n 40 ++ tl r.1) (r.2 + n)) = true := by decide +kernel
theorem deep_10 : erAt (List.replicate 10 40 ++ [49]) 11 = true := by decide +kernel
theorem deep_11 : erAt (List.replicate 11 40 ++ [49]) 10 = true := by decide +kernel
def goodT : List Nat := tl "(1 + 1 + 1 + 1 + 1 + 1 + 1 + 1)"
def okB (L : List Nat) : Bool := match pProg L with
  | .ok _ _ => true
  | .er _ => false
theorem good_ok : okB goodT = true := by decide +kernel
theorem good_er : erAt (tl "(1 + 1 + 1 + 1 + 1 + 1 + 1 + 1 + 1)") 30 = true := by decide +kernel
def isOk (L : List Nat) (d : D) : Bool := match pProg L with
  | .ok e _ => D.eqb e d
  | .er _ => false
theorem ok_of {L : List Nat} {d : D} (h : isOk L d = true) : ∃ j, pProg L = .ok d j := by
  unfold isOk at h
  split at h
  · rename_i e j hp
    exact ⟨j, by rw [hp, D.eqb_eq h]⟩
  · cases h
def v1 : D := .tup [.str "trait", .str "sum", .tup [.str "sum"]]
def v2 : D := .tup [.str "sum", .str "sum", v1]
def v3 : D := .tup [.str "power", .tup [.str "num", .int 3, .int 1], .int 2]
def v4 : D := .tup [.str "times", .tup [.str "power", .tup [.str "power", .tup [.str "trait", .str "f", .tup [.str "i"]], .int 2], .int 0], .tup [.str "num", .int (-1), .int 2]]
theorem ok1 : isOk (tl "sum(sum)") v1 = true := by decide +kernel
theorem ok2 : isOk (tl "sum(sum: sum(sum))") v2 = true := by decide +kernel
theorem ok3 : isOk (tl "(3)^2") v3 = true := by decide +kernel
theorem ok4 : isOk (tl "((f(i)^2)^0 * -1/2)") v4 = true := by decide +kernel
theorem base1 : rd [49] 0 0 = .ok (.tup [.str "num", .int 1, .int 1]) 1 := by kernel_rfl
theorem base6 : rd (tl "sum(i)") 0 0 = .ok (.tup [.str "trait", .str (sS [115, 117, 109]), .tup [.str (sS [105])]]) 6 := by kernel_rfl
theorem base5 : rd [40] 0 0 = .er 0 := by kernel_rfl
theorem base4 {nm : List Nat} (hn : NmL nm) : rd (hdT nm) 0 0 = .er (4 + nm.length) := by
  have := word_head hn [] none
  have h2 := all_head (nm := nm) (rest := []) (rc := none)
  rw [List.append_nil] at this h2
  rw [rd, h2, this]
  rfl
theorem tens {nm : List Nat} (hn : NmL nm) : pProg (hrep nm 10 [49]) = .er (10 * (nm.length + 6) + 1) ∧ pProg (hrep nm 10 (hdT nm)) = .er (10 * (nm.length + 6) + (4 + nm.length)) ∧ pProg (hrep nm 10 [40]) = .er (10 * (nm.length + 6)) ∧ pProg (hrep nm 10 (tl "sum(i)")) = .er (10 * (nm.length + 6) + 6) := by
  have two : ∀ {T : List Nat} {d : D} {j : Nat}, rd T 0 0 = .ok d j → T[j]? ≠ some 41 → pProg (hrep nm 10 T) = .er (10 * (nm.length + 6) + j) := by
    intro T d j h hj
    have h1 := head_ok hn h hj
    have h2 := hrep_er hn h1 9
    have e : hrep nm 9 (hdT nm ++ T) = hrep nm 10 T := by
      unfold hrep
      rw [← List.append_assoc]
      congr 1
      have : (List.replicate (9 + 1) (hdT nm)).flatten = (List.replicate 9 (hdT nm)).flatten ++ hdT nm := by
        rw [List.replicate_succ' (n := 9), List.flatten_append, List.flatten_singleton]
      exact this.symm
    rw [e] at h2
    rw [prog_er h2]
    congr 1
    omega
  refine ⟨two base1 (by decide), ?_, ?_, two base6 (by decide +kernel)⟩
  · rw [prog_er (hrep_er hn (base4 hn) 10)]
  · rw [prog_er (hrep_er hn base5 10), Nat.add_zero]
end K15

namespace K15
open PySem PySem.Spec PyProof.Rows L2 Fw
local macro_rules | `(tactic| walk_at "v") => `(tactic| (repeat (first | ((with_reducible apply Fw.v_var); next => exact rfl) | with_reducible refine Fw.v_bin ?_ | with_reducible refine Fw.v_maxD ?_ | with_reducible refine Fw.v_sub ?_ | with_reducible refine Fw.v_cst ?_ | with_reducible refine Fw.v_cons ?_ | with_reducible refine Fw.v_nil ?_ | with_reducible refine Fw.v_cmp ?_ | with_reducible refine Fw.v_blt ?_ | with_reducible refine Fw.v_neg ?_ | with_reducible refine Fw.v_call ?_ | with_reducible refine Fw.v_callK ?_ | with_reducible refine Fw.v_not ?_ | with_reducible refine Fw.v_chain ?_ | with_reducible refine Fw.v_andT ?_ | with_reducible refine Fw.v_orT ?_ | with_reducible refine Fw.v_and ?_ | with_reducible refine Fw.v_or ?_ | with_reducible refine Fw.v_ite ?_ | with_reducible refine Fw.v_tup ?_ | with_reducible refine Fw.v_lst ?_ | with_reducible refine Fw.v_lstM ?_ | with_reducible refine Fw.v_slcH ?_ | with_reducible refine Fw.v_slcL ?_ | with_reducible refine Fw.v_isiT ?_ | with_reducible refine Fw.v_fstr ?_ | with_reducible refine Fw.v_fmt ?_ | with_reducible refine Fw.v_comp0 ?_ | with_reducible refine Fw.v_comp1 ?_ | with_reducible refine Fw.s_t0 ?_ | with_reducible refine Fw.s_t1 ?_ | with_reducible refine Fw.s_t2 ?_ | with_reducible refine Fw.s_l0 ?_ | with_reducible refine Fw.s_l1 ?_ | with_reducible refine Fw.s_l2 ?_ | with_reducible refine Fw.s_not ?_ | with_reducible refine Fw.s_neg ?_ | with_reducible refine Fw.o_add ?_ | with_reducible refine Fw.o_sub ?_ | with_reducible refine Fw.q_lt ?_ | with_reducible refine Fw.q_le ?_ | with_reducible refine Fw.q_gt ?_ | with_reducible refine Fw.q_ge ?_ | with_reducible refine Fw.q_eq ?_ | with_reducible refine Fw.q_ne ?_ | with_reducible refine Fw.q_eqB ?_ | with_reducible refine Fw.q_neB ?_ | with_reducible refine Fw.q_isN ?_ | with_reducible refine Fw.q_notN ?_ | with_reducible refine Fw.sat_cons ?_ | with_reducible refine Fw.w_asg ?_ | with_reducible refine Fw.w_par ?_ | with_reducible refine Fw.w_parT ?_ | with_reducible refine Fw.w_setI ?_ | with_reducible refine Fw.w_exp ?_ | with_reducible refine Fw.w_ret ?_ | with_reducible refine Fw.v_ccst ?_ | with_reducible refine Fw.v_app ?_ | with_reducible refine Fw.v_whyA ?_ | with_reducible refine Fw.v_fld ?_ | with_reducible refine Fw.w_ite ?_ | with_reducible refine Fw.w_for ?_ | with_reducible refine Fw.w_while ?_ | with_reducible refine Fw.v_tst ?_ | with_reducible refine Fw.x_cons ?_ | with_reducible refine Fw.x_asg ?_ | with_reducible refine Fw.x_exp ?_ | with_reducible refine Fw.x_ret ?_ | with_reducible refine Fw.x_ite ?_ | with_reducible refine Fw.x_asgX ?_ | with_reducible refine Fw.x_expX ?_ | with_reducible refine Fw.x_retX ?_ | with_reducible refine Fw.x_asgE ?_ | with_reducible refine Fw.x_expE ?_ | with_reducible refine Fw.x_retE ?_ | with_reducible refine Fw.x_for ?_ | with_reducible refine Fw.x_while ?_ | with_reducible refine Fw.y_p ?_ | with_reducible refine Fw.y_x ?_ | with_reducible refine Fw.y_neg ?_ | with_reducible refine Fw.y_int ?_ | with_reducible refine Fw.y_nil ?_ | with_reducible refine Fw.y_cons ?_ | with_reducible refine Fw.y_tup ?_ | with_reducible refine Fw.y_lstM ?_ | with_reducible refine Fw.v_tupS ?_ | with_reducible refine Fw.v_lstS ?_ | with_reducible refine Fw.v_snil ?_ | with_reducible refine Fw.v_scons ?_ | with_reducible refine Fw.v_slcB ?_ | ((with_reducible apply Fw.q_inT); next => exact rfl) | ((with_reducible apply Fw.s_sub); next => exact rfl) | ((with_reducible apply Fw.s_blt); next => exact rfl) | ((with_reducible apply Fw.s_tst); next => exact rfl) | ((with_reducible apply Fw.s_isi); next => exact rfl) | ((with_reducible apply Fw.s_asm); next => exact rfl) | ((with_reducible apply Fw.s_bnd); next => exact rfl) | ((with_reducible apply Fw.s_wlk); next => exact rfl) | ((with_reducible apply Fw.s_slcH); next => exact rfl) | ((with_reducible apply Fw.s_slcL); next => exact rfl) | ((with_reducible apply Fw.s_slcB); next => exact rfl) | ((with_reducible apply Fw.s_dsp); (next => exact rfl); (next => exact rfl)) | ((with_reducible apply Fw.s_set); (next => exact rfl); (next => exact rfl)) | ((with_reducible apply Fw.q_eqS); (next => first | exact ofStr_ok _ | assumption); (next => first | exact ofStr_ok _ | assumption)) | ((with_reducible refine Fw.o_mul ?_ ?_); next => first | assumption | exact mul_c (by omega) (by omega) | exact mul_cL (by omega) (by omega)) | ((with_reducible refine Fw.o_mod ?_ ?_); next => first | assumption | omega) | ((with_reducible refine Fw.o_div ?_ ?_); next => first | assumption | decide) | ((with_reducible refine Fw.o_pow ?_ ?_); next => decide))))
local macro_rules | `(tactic| walk_at "y") => `(tactic| (refine br (fun _ => ?_) (fun h => absurd h (by first | exact ft_no | exact tf_no | decide | simp)); walk_at "v"))
local macro_rules | `(tactic| walk_at "n") => `(tactic| (refine br (fun h => absurd h (by first | exact ft_no | exact tf_no | decide | simp)) (fun _ => ?_); (try refine sat_nil ?_); walk_at "v"))
/-! ### a code in two parts -/
theorem sat_cut {cl : Nat → List A → Store → Rz A} {wf : Nat} {PE : Fw.Env → Store → Prop} {PR : A → Store → Prop} : ∀ (n : Nat) (l : List Sc) (ρ : Fw.Env) (S : Store), (Fw.run cl wf (l.take n) ρ S).sat (fun ρ1 S1 => (Fw.run cl wf (l.drop n) ρ1 S1).sat PE PR) PR → (Fw.run cl wf l ρ S).sat PE PR
  | 0, l, ρ, S, h => by
    rw [List.take_zero, Fw.run] at h
    exact h
  | n + 1, [], ρ, S, h => h
  | n + 1, c :: l, ρ, S, h => by
    rw [List.take_succ_cons, Fw.run] at h
    rw [Fw.run]
    cases hb : run1 cl wf c ρ S with
    | nx ρ2 S2 =>
      rw [hb] at h
      exact sat_cut n l ρ2 S2 h
    | _ =>
      rw [hb] at h
      exact h
section
variable {wf : Nat}
theorem source_ok {k : Nat} {ns : List Int} : (callI ft wf (k + 1) F_g__law_source [.p (.scr ns)] []).sat fun x S' => x = .m 0 ∧ Src [] S' := by
  refine sat_callG rfl rfl ?_
  show (Fw.run _ wf c_g__law_source [some (.p (.scr ns))] _).sat _ _
  unfold c_g__law_source
  walk_at "v"
  refine ⟨rfl, rfl, (ns.drop (HT.sIx (ns.map D.int).length 0 none)).take (HT.sIx (ns.map D.int).length (ns.map D.int).length (some 63) - HT.sIx (ns.map D.int).length 0 none), 0, 0, 12023, 0, ?_, by decide, by decide, by decide, by decide⟩
  unfold srcO Fw.cutD
  rw [List.map_take, List.map_drop]
  rfl
end
/-! ### plain data -/
theorem pl_mono : ∀ (n m : Nat) (d : D), n ≤ m → Pl n d → Pl m d
  | 0, _, _, _, h => h.elim
  | n + 1, 0, _, h, _ => by omega
  | n + 1, m + 1, d, h, hp => by
    cases d with
    | non => trivial
    | bl _ => trivial
    | int _ => trivial
    | str _ => exact hp
    | tup ds => exact ⟨hp.1, fun d hd => pl_mono n m d (by omega) (hp.2 d hd)⟩
    | lst ds => exact ⟨hp.1, fun d hd => pl_mono n m d (by omega) (hp.2 d hd)⟩
    | _ => exact hp.elim
theorem pl_tup {n : Nat} {ds : List D} (hl : ds.length ≤ 1000) (h : ∀ d ∈ ds, Pl n d) : Pl (n + 1) (.tup ds) := ⟨Nat.lt_of_le_of_lt hl (by decide), h⟩
theorem pl_lst {n : Nat} {ds : List D} (hl : ds.length ≤ 1000) (h : ∀ d ∈ ds, Pl n d) : Pl (n + 1) (.lst ds) := ⟨Nat.lt_of_le_of_lt hl (by decide), h⟩
theorem pl_pair {n : Nat} {a b : D} (ha : Pl n a) (hb : Pl n b) : Pl (n + 1) (.tup [a, b]) := pl_tup (by show 2 ≤ 1000; decide) fun d hd => by
  rcases List.mem_cons.mp hd with rfl | hd
  · exact ha
  · rw [List.mem_singleton.mp hd]
    exact hb
theorem pl_str {n : Nat} {x : Str} (h : PyData.strOk x = true) : Pl (n + 1) (.str x) := h
/-! ### the law -/
theorem fold_app : ∀ (l : List (Array Nat)) (acc : Array Nat), (l.foldl (· ++ ·) acc).toList = acc.toList ++ (l.map Array.toList).flatten
  | [], acc => by simp
  | a :: l, acc => by
    rw [List.foldl_cons, fold_app l, Array.toList_append, List.map_cons, List.flatten_cons, List.append_assoc]
theorem tl_mul (x : Str) (n : Nat) : tl (Txt.mul x (n : Int)) = (List.replicate n (tl x)).flatten := by
  unfold Txt.mul
  by_cases h0 : (n : Int) < 1
  · have : n = 0 := by omega
    subst this
    rw [if_pos h0]
    rfl
  · rw [if_neg h0]
    by_cases h1 : ((n : Int) == 1 || x.length == 0) = true
    · rw [if_pos h1]
      rw [Bool.or_eq_true, beq_iff_eq, beq_iff_eq] at h1
      rcases h1 with h1 | h1
      · have : n = 1 := by omega
        subst this
        simp
      · have e : tl x = [] := by
          refine List.length_eq_zero_iff.mp ?_
          rw [← h1]
          exact Array.length_toList
        rw [e]
        simp
    · rw [if_neg h1, Int.toNat_natCast]
      show ((List.replicate n x.cps).foldl (· ++ ·) #[]).toList = _
      rw [fold_app, List.map_replicate]
      rfl
section
variable {wf k : Nat} {R S : Store} {t : Str} {ρ : Fw.Env} {P : Fw.A → Store → Prop}
theorem o_mulS {x : Str} {n : Nat} (hn : n < 1000) (hx : x.length ≤ 1000) (k : P (.p (.str (Txt.mul x (n : Int)))) S) : OpV .Mult (.p (.str x)) (.p (.int (n : Int))) S P := by
  refine ⟨_, _, .str (Txt.mul x (n : Int)), rfl, rfl, ?_, k⟩
  show (if (n : Int) < 1000 ∧ 0 ≤ (n : Int) ∧ x.length ≤ 1000 then some (D.str (Txt.mul x (n : Int))) else none) = _
  rw [if_pos ⟨by omega, by omega, hx⟩]
theorem why_xT {p : Nat} : whyR (.ex (xT p) S) = .ok (.p (.tup [.str "InvalidText", .int p])) S := by
  dsimp only [whyR]
  have : whyF (xT p) = some (.tup [.str "InvalidText", .int p]) := by kernel_rfl
  rw [this]
  rfl
theorem why_er (ht : TxOk t) (hwf : W0 ≤ wf) {p : Nat} (hp : pProg (tl t) = .er p) : whyR (appF (callI ft wf (k + 26)) (.fn F_g_read_program []) ρ [.p (.str t)] S) = .ok (.p (.tup [.str "InvalidText", .int p])) S := by
  show whyR (callI ft wf (k + 26) F_g_read_program [.p (.str t)] S) = _
  rw [prog_ok ht hwf, hp]
  exact why_xT
theorem why_ok (ht : TxOk t) (hwf : W0 ≤ wf) (hp : okB (tl t) = true) : whyR (appF (callI ft wf (k + 26)) (.fn F_g_read_program []) ρ [.p (.str t)] S) = .ok (.p (.tup [.str "value", .non])) S := by
  show whyR (callI ft wf (k + 26) F_g_read_program [.p (.str t)] S) = _
  rw [prog_ok ht hwf]
  cases h : pProg (tl t) with
  | ok d j => rfl
  | er p =>
    unfold okB at hp
    rw [h] at hp
    cases hp
theorem call_ok (ht : TxOk t) (hwf : W0 ≤ wf) {d : D} (hp : isOk (tl t) d = true) : callI ft wf (k + 26) F_g_read_program [.p (.str t)] S = .ok (.p d) S := by
  obtain ⟨j, h⟩ := ok_of hp
  rw [prog_ok ht hwf, h]
theorem pl_it {s : Str} (hs : PyData.strOk s = true) {n : Int} : Pl 2 (.tup [.str s, .int n]) := pl_pair (n := 1) hs trivial
theorem tx_len {t : Str} (ht : TxOk t) : t.length ≤ 5000 := by
  have : t.length = (tl t).length := (Array.length_toList).symm
  have := ht.len
  omega
theorem tx_ok {t : Str} (ht : TxOk t) : PyData.strOk t = true := strOk_asc ht.ok
def rowD (r : Str × Nat) : D := .tup [.str r.1, .int r.2]
theorem row_f {r : Str × Nat} (hr : r ∈ rowsL) : TxOk r.1 ∧ pProg (tl r.1) = .er r.2 := by
  have := List.all_eq_true.mp rows_all r hr
  rw [Bool.and_eq_true] at this
  exact ⟨tx_of this.1, er_of this.2⟩
def Mid (s0 : Option Fw.A) (nm : Str) (ρ : Fw.Env) (S : Store) : Prop := Src [] S ∧ ∃ x5 x6 x7 x8 x9 x10 x11 x12 x13 x14, ρ = [s0, some (.m 0), some (.p (.str nm)), some (.p (.int nm.length)), some (.p (.lst (rowsL.map rowD))), x5, x6, x7, x8, x9, x10, x11, x12, x13, x14]
theorem tA {s0 : Option Fw.A} {ns : List Int} (hs : s0 = some (.p (.scr ns))) : (Fw.run (callI ft wf (k + 30)) wf (c19.take 4) [s0, none, none, none, none, none, none, none, none, none, none, none, none, none, none] []).sat (fun ρ S => ∃ nm, Nm nm ∧ Mid s0 nm ρ S) fun _ _ => False := by
  subst hs
  have eL : LIM = 100000 := rfl
  unfold c19 c_g_law
  dsimp only [List.take]
  refine sat_cons (w_asg (v_call (v_cons (v_var rfl (v_nil ?_)))))
  refine Rz.sat_mono source_ok ?_
  rintro _ S ⟨rfl, hS⟩
  refine s_bnd rfl (sat_cons (w_asg (v_call (v_cons (v_var rfl (v_cons (v_cst (v_nil ?_))))))))
  refine Rz.sat_mono (word_ok hS) ?_
  rintro _ S ⟨hS, _, rfl, nm, rfl, hn⟩
  refine s_bnd rfl (sat_cons (w_asg (v_blt (v_cons (v_var rfl (v_nil (s_blt (z := .p (.int nm.length)) ?_ (s_bnd rfl ?_))))))))
  · show (if nm.length ≤ LIM then some (Fw.A.p (.int nm.length)) else none) = _
    rw [if_pos (by have := hn.2.1; omega)]
  refine sat_cons (w_asg (Rz.sat_eq (a := .p (.lst (rowsL.map rowD))) (S := S) (by kernel_rfl) (s_bnd rfl (sat_nil ⟨nm, hn, hS, _, _, _, _, _, _, _, _, _, _, rfl⟩))))
theorem tB (hwf : W0 ≤ wf) {s0 : Option Fw.A} {nm : Str} (h : Mid s0 nm ρ S) : (Fw.run (callI ft wf (k + 30)) wf ((c19.drop 4).take 1) ρ S).sat (fun ρ S => Mid s0 nm ρ S) fun _ _ => False := by
  obtain ⟨hS, x5, x6, x7, x8, x9, x10, x11, x12, x13, x14, rfl⟩ := h
  unfold c19 c_g_law
  dsimp only [List.drop, List.take]
  refine sat_cons (w_for (v_cons (v_var rfl (v_nil (s_wlk rfl ?_)))))
  refine Rs.sat_mono (sat_for (R := fun _ _ => False) (fun _ ρ S => Mid s0 nm ρ S) _ 0 _ _ ⟨hS, _, _, _, _, _, _, _, _, _, _, rfl⟩ ?_) (fun ρ S h => sat_nil h) (fun _ _ h => h.elim)
  intro j x ρ S hx hI
  obtain ⟨hS, x5, x6, x7, x8, x9, x10, x11, x12, x13, x14, rfl⟩ := hI
  rw [List.getElem?_map, List.getElem?_map] at hx
  cases hr : rowsL[j]? with
  | none => rw [hr] at hx; cases hx
  | some r =>
    rw [hr] at hx
    cases hx
    obtain ⟨ht, hp⟩ := row_f (List.mem_of_getElem? hr)
    refine ⟨_, rfl, ?_⟩
    refine sat_cons (w_ite (v_not (v_tst (v_call (v_cons (v_whyA (v_cons (v_var rfl (v_nil ?_)))))))))
    refine Rz.sat_eq (why_er (k := k + 4) ht hwf hp) ?_
    walk_at "v"
    refine Rz.sat_eq (same_ok rfl 2 _ (pl_it (ofStr_ok _)) _ (by omega)) ?_
    walk_at "v"
    walk_at "n"
    exact sat_nil ⟨hS, _, _, _, _, _, _, _, _, _, _, rfl⟩
theorem tC (hwf : W0 ≤ wf) {s0 : Option Fw.A} {nm : Str} (h : Mid s0 nm ρ S) : (Fw.run (callI ft wf (k + 30)) wf ((c19.drop 5).take 3) ρ S).sat (fun ρ S => Mid s0 nm ρ S) fun _ _ => False := by
  obtain ⟨hS, x5, x6, x7, x8, x9, x10, x11, x12, x13, x14, rfl⟩ := h
  have eL : LIM = 100000 := rfl
  unfold c19 c_g_law
  dsimp only [List.drop, List.take]
  refine sat_cons (w_asg (v_call (v_cons (v_var rfl (v_cons (v_cst (v_nil ?_)))))))
  refine Rz.sat_mono (draw_ok rfl hS (by decide) (by decide)) ?_
  rintro _ S ⟨hS, n, rfl, hn0, hn1⟩
  obtain ⟨n, rfl⟩ := Int.eq_ofNat_of_zero_le hn0
  refine s_bnd rfl (sat_cons (w_asg (v_call (v_cons (v_var rfl (v_cons (v_slcB (v_var rfl (v_cst (v_cst (s_slcB (z := .lst (((rowsL.drop 6).take 24).map rowD)) (by kernel_rfl) (v_nil ?_))))))))))))
  refine Rz.sat_mono (of_ok (f := F_g__law_draw) (g := F_g__law_of) (ds := ((rowsL.drop 6).take 24).map rowD) rfl rfl hS (by rw [List.length_map]; decide +kernel) (by rw [List.length_map]; decide +kernel)) ?_
  rintro _ S ⟨hS, d, hd, rfl⟩
  obtain ⟨r, hr, rfl⟩ := List.mem_map.mp hd
  obtain ⟨ht, hp⟩ := row_f (List.mem_of_mem_drop (List.mem_of_mem_take hr))
  have hfew := List.all_eq_true.mp (List.all_eq_true.mp few_all n (List.mem_range.mpr (by omega))) r hr
  have htl := tx_len ht
  have hlen : r.1.length = (tl r.1).length := (Array.length_toList).symm
  refine s_bnd rfl ?_
  refine sat_cons (w_ite (v_andT (v_cmp (v_var rfl (v_lst (v_cons (v_cst (v_cons (v_cst (v_nil (s_dsp rfl rfl ?_)))))))))))
  refine ⟨!decide (r.1 ∈ ([("(3)" : Str), "f(i)\n"])), ?_, ?_⟩
  · show (cmpF.inF (.str r.1) (([("(3)" : Str), "f(i)\n"]).map D.str)).map _ = _
    rw [in_strs (tx_ok ht) (by intro y hy; simp only [List.mem_cons, List.not_mem_nil, or_false] at hy; rcases hy with rfl | rfl <;> exact ofStr_ok _)]
    rfl
  refine br (fun h1 => ?_) (fun h1 => ?_)
  · have h1 : r.1 ∉ ([("(3)" : Str), "f(i)\n"]) := by
      rw [Bool.not_eq_true'] at h1
      exact of_decide_eq_false h1
    refine v_cmp (v_var rfl (v_blt (v_cons (v_var rfl (v_nil (s_blt (z := .p (.int r.1.length)) ?_ (q_lt (br (fun h2 => ?_) fun h2 => ?_))))))))
    · show (if r.1.length ≤ LIM then some (Fw.A.p (.int r.1.length)) else none) = _
      rw [if_pos (by omega)]
    · have h2 : (r.2 : Int) < r.1.length := of_decide_eq_true h2
      have hok : okRow r = true := by
        unfold okRow
        rw [decide_eq_true h1, decide_eq_true (show r.2 < (tl r.1).length by omega)]
        rfl
      rw [hok] at hfew
      have hp2 := er_of (show erAt (List.replicate n 40 ++ tl r.1) (r.2 + n) = true from hfew)
      have etl : tl (Txt.mul "(" (n : Int) ++ r.1) = List.replicate n 40 ++ tl r.1 := by
        rw [tl_app, tl_mul, show tl "(" = [40] from rfl]
        congr 1
        clear hfew hp2 hn0 hn1
        induction n with
        | zero => rfl
        | succ n ih => rw [List.replicate_succ, List.flatten_cons, ih, List.replicate_succ]; rfl
      have hm : (Txt.mul "(" (n : Int)).length = n := by
        have : (Txt.mul "(" (n : Int)).length = (tl (Txt.mul "(" (n : Int))).length := (Array.length_toList).symm
        rw [this, tl_mul, show tl "(" = [40] from rfl]
        clear hfew hp2 hn0 hn1 etl this
        induction n with
        | zero => rfl
        | succ n ih => rw [List.replicate_succ, List.flatten_cons, List.length_append, ih]; simp; omega
      have ht2 : TxOk (Txt.mul "(" (n : Int) ++ r.1) := by
        refine ⟨?_, ?_⟩
        · rw [etl, List.length_append, List.length_replicate]
          have := List.all_eq_true.mp rows_all r (List.mem_of_mem_drop (List.mem_of_mem_take hr))
          rw [Bool.and_eq_true] at this
          have := this.1
          unfold txB at this
          rw [Bool.and_eq_true, decide_eq_true_eq] at this
          omega
        · intro c hc
          rw [etl] at hc
          rcases List.mem_append.mp hc with hc | hc
          · rw [(List.mem_replicate.mp hc).2]
            decide
          · exact ht.ok c hc
      refine sat_cons (w_asg (v_bin (v_cst (v_var rfl (o_mulS (by omega) (by decide +kernel) (s_bnd rfl ?_))))))
      refine sat_cons (w_ite (v_not (v_tst (v_call (v_cons (v_whyA (v_cons (v_bin (v_var rfl (v_var rfl (o_str (by rw [hm]; omega) (v_nil ?_))))))))))))
      refine Rz.sat_eq (why_er (k := k + 4) ht2 hwf (p := r.2 + n) (by rw [etl]; exact hp2)) ?_
      walk_at "v"
      refine Rz.sat_eq (same_ok rfl 2 _ (pl_it (ofStr_ok _)) _ (by omega)) ?_
      walk_at "v"
      walk_at "n"
      exact sat_nil (sat_nil ⟨hS, _, _, _, _, _, _, _, _, _, _, rfl⟩)
    · exact sat_nil (sat_nil ⟨hS, _, _, _, _, _, _, _, _, _, _, rfl⟩)
  · walk_at "n"
    exact sat_nil ⟨hS, _, _, _, _, _, _, _, _, _, _, rfl⟩
end
end K15

namespace K15
open PySem PySem.Spec PyProof.Rows L2 Fw
local macro_rules | `(tactic| walk_at "v") => `(tactic| (repeat (first | ((with_reducible apply Fw.v_var); next => exact rfl) | with_reducible refine Fw.v_bin ?_ | with_reducible refine Fw.v_maxD ?_ | with_reducible refine Fw.v_sub ?_ | with_reducible refine Fw.v_cst ?_ | with_reducible refine Fw.v_cons ?_ | with_reducible refine Fw.v_nil ?_ | with_reducible refine Fw.v_cmp ?_ | with_reducible refine Fw.v_blt ?_ | with_reducible refine Fw.v_neg ?_ | with_reducible refine Fw.v_call ?_ | with_reducible refine Fw.v_callK ?_ | with_reducible refine Fw.v_not ?_ | with_reducible refine Fw.v_chain ?_ | with_reducible refine Fw.v_andT ?_ | with_reducible refine Fw.v_orT ?_ | with_reducible refine Fw.v_and ?_ | with_reducible refine Fw.v_or ?_ | with_reducible refine Fw.v_ite ?_ | with_reducible refine Fw.v_tup ?_ | with_reducible refine Fw.v_lst ?_ | with_reducible refine Fw.v_lstM ?_ | with_reducible refine Fw.v_slcH ?_ | with_reducible refine Fw.v_slcL ?_ | with_reducible refine Fw.v_isiT ?_ | with_reducible refine Fw.v_fstr ?_ | with_reducible refine Fw.v_fmt ?_ | with_reducible refine Fw.v_comp0 ?_ | with_reducible refine Fw.v_comp1 ?_ | with_reducible refine Fw.s_t0 ?_ | with_reducible refine Fw.s_t1 ?_ | with_reducible refine Fw.s_t2 ?_ | with_reducible refine Fw.s_l0 ?_ | with_reducible refine Fw.s_l1 ?_ | with_reducible refine Fw.s_l2 ?_ | with_reducible refine Fw.s_not ?_ | with_reducible refine Fw.s_neg ?_ | with_reducible refine Fw.o_add ?_ | with_reducible refine Fw.o_sub ?_ | with_reducible refine Fw.q_lt ?_ | with_reducible refine Fw.q_le ?_ | with_reducible refine Fw.q_gt ?_ | with_reducible refine Fw.q_ge ?_ | with_reducible refine Fw.q_eq ?_ | with_reducible refine Fw.q_ne ?_ | with_reducible refine Fw.q_eqB ?_ | with_reducible refine Fw.q_neB ?_ | with_reducible refine Fw.q_isN ?_ | with_reducible refine Fw.q_notN ?_ | with_reducible refine Fw.sat_cons ?_ | with_reducible refine Fw.w_asg ?_ | with_reducible refine Fw.w_par ?_ | with_reducible refine Fw.w_parT ?_ | with_reducible refine Fw.w_setI ?_ | with_reducible refine Fw.w_exp ?_ | with_reducible refine Fw.w_ret ?_ | with_reducible refine Fw.v_ccst ?_ | with_reducible refine Fw.v_app ?_ | with_reducible refine Fw.v_whyA ?_ | with_reducible refine Fw.v_fld ?_ | with_reducible refine Fw.w_ite ?_ | with_reducible refine Fw.w_for ?_ | with_reducible refine Fw.w_while ?_ | with_reducible refine Fw.v_tst ?_ | with_reducible refine Fw.x_cons ?_ | with_reducible refine Fw.x_asg ?_ | with_reducible refine Fw.x_exp ?_ | with_reducible refine Fw.x_ret ?_ | with_reducible refine Fw.x_ite ?_ | with_reducible refine Fw.x_asgX ?_ | with_reducible refine Fw.x_expX ?_ | with_reducible refine Fw.x_retX ?_ | with_reducible refine Fw.x_asgE ?_ | with_reducible refine Fw.x_expE ?_ | with_reducible refine Fw.x_retE ?_ | with_reducible refine Fw.x_for ?_ | with_reducible refine Fw.x_while ?_ | with_reducible refine Fw.y_p ?_ | with_reducible refine Fw.y_x ?_ | with_reducible refine Fw.y_neg ?_ | with_reducible refine Fw.y_int ?_ | with_reducible refine Fw.y_nil ?_ | with_reducible refine Fw.y_cons ?_ | with_reducible refine Fw.y_tup ?_ | with_reducible refine Fw.y_lstM ?_ | with_reducible refine Fw.v_tupS ?_ | with_reducible refine Fw.v_lstS ?_ | with_reducible refine Fw.v_snil ?_ | with_reducible refine Fw.v_scons ?_ | with_reducible refine Fw.v_slcB ?_ | ((with_reducible apply Fw.q_inT); next => exact rfl) | ((with_reducible apply Fw.s_sub); next => exact rfl) | ((with_reducible apply Fw.s_blt); next => exact rfl) | ((with_reducible apply Fw.s_tst); next => exact rfl) | ((with_reducible apply Fw.s_isi); next => exact rfl) | ((with_reducible apply Fw.s_asm); next => exact rfl) | ((with_reducible apply Fw.s_bnd); next => exact rfl) | ((with_reducible apply Fw.s_wlk); next => exact rfl) | ((with_reducible apply Fw.s_slcH); next => exact rfl) | ((with_reducible apply Fw.s_slcL); next => exact rfl) | ((with_reducible apply Fw.s_slcB); next => exact rfl) | ((with_reducible apply Fw.s_dsp); (next => exact rfl); (next => exact rfl)) | ((with_reducible apply Fw.s_set); (next => exact rfl); (next => exact rfl)) | ((with_reducible apply Fw.q_eqS); (next => first | exact ofStr_ok _ | assumption); (next => first | exact ofStr_ok _ | assumption)) | ((with_reducible refine Fw.o_mul ?_ ?_); next => first | assumption | exact mul_c (by omega) (by omega) | exact mul_cL (by omega) (by omega)) | ((with_reducible refine Fw.o_mod ?_ ?_); next => first | assumption | omega) | ((with_reducible refine Fw.o_div ?_ ?_); next => first | assumption | decide) | ((with_reducible refine Fw.o_pow ?_ ?_); next => decide))))
local macro_rules | `(tactic| walk_at "y") => `(tactic| (refine br (fun _ => ?_) (fun h => absurd h (by first | exact ft_no | exact tf_no | decide | simp)); walk_at "v"))
local macro_rules | `(tactic| walk_at "n") => `(tactic| (refine br (fun h => absurd h (by first | exact ft_no | exact tf_no | decide | simp)) (fun _ => ?_); (try refine sat_nil ?_); walk_at "v"))
/-! ### the law, the rest -/
theorem all_pl {n : Nat} : ∀ {ds : List D}, (∀ d ∈ ds, Pl n d) → ds.length ≤ 1000 → Pl (n + 1) (.lst ds) := fun h hl => pl_lst hl h
theorem len_eq (t : Str) : t.length = (tl t).length := (Array.length_toList).symm
theorem rep_len (l : List Nat) : ∀ n : Nat, ((List.replicate n l).flatten).length = n * l.length
  | 0 => by simp
  | n + 1 => by rw [List.replicate_succ, List.flatten_cons, List.length_append, rep_len l n, Nat.succ_mul, Nat.add_comm]
def posE (L : List Nat) : Nat := match pProg L with
  | .er p => p
  | .ok _ _ => 0
def whyP : Fw.A → D
  | .p (.str s) => .tup [.str "InvalidText", .int (posE (tl s))]
  | _ => .non
def goodS : Str := "(1 + 1 + 1 + 1 + 1 + 1 + 1 + 1)"
def badS : Str := "(1 + 1 + 1 + 1 + 1 + 1 + 1 + 1 + 1)"
def odds : List D := [.non, .int 3, .bl true, .tup [], .lst [.str "1"], .tup [.str "num", .int 1, .int 1]]
theorem nm_L {nm : Str} (h : Nm nm) : NmL (tl nm) := by
  refine ⟨fun c hc => ?_, fun z => ?_, ?_⟩
  · have := List.all_eq_true.mp h.2.2 c hc
    exact of_decide_eq_true this
  · have h1 := h.1
    have : nm.length = (tl nm).length := (Array.length_toList).symm
    rw [z] at this
    rw [this] at h1
    cases h1
  · have : nm.length = (tl nm).length := (Array.length_toList).symm
    have := h.2.1
    omega
section
variable {wf k : Nat} {S : Store} {ρ : Fw.Env}
theorem hd_lt {nm : Str} (h : Nm nm) : ∀ c ∈ hdT (tl nm), c < 128 := by
  intro c hc
  unfold hdT at hc
  rcases List.mem_append.mp hc with hc | hc
  · have : ∀ c ∈ [115, 117, 109, 40], c < 128 := by decide
    exact this c hc
  · rcases List.mem_append.mp hc with hc | hc
    · exact abc_lt c ((nm_L h).abc c hc)
    · have : ∀ c ∈ [58, 32], c < 128 := by decide
      exact this c hc
theorem tD (hwf : W0 ≤ wf) {s0 : Option Fw.A} {nm : Str} (hn : Nm nm) (h : Mid s0 nm ρ S) : (Fw.run (callI ft wf (k + 30)) wf ((c19.drop 8).take 5) ρ S).sat (fun ρ S => Mid s0 nm ρ S) fun _ _ => False := by
  obtain ⟨hS, x5, x6, x7, x8, x9, x10, x11, x12, x13, x14, rfl⟩ := h
  have eL : LIM = 100000 := rfl
  have hN := nm_L hn
  have hl8 := hn.2.1
  have hnl : nm.length = (tl nm).length := (Array.length_toList).symm
  unfold c19 c_g_law
  dsimp only [List.drop, List.take]
  have l4 : (("sum(" : Str) ++ nm).length = 4 + nm.length := by
    rw [len_eq, tl_app, List.length_append, ← hnl]
    rfl
  refine sat_cons (w_asg (v_bin (v_bin (v_cst (v_var rfl (o_str (by show 4 + _ ≤ _; omega) (v_cst (o_str (by rw [l4]; show _ + 2 ≤ _; omega) (s_bnd rfl ?_)))))))))
  generalize eh : ("sum(" : Str) ++ nm ++ ": " = hd
  have thd : tl hd = hdT (tl nm) := by
    rw [← eh, tl_app, tl_app]
    unfold hdT
    rw [List.append_assoc]
    rfl
  have lhd : hd.length = nm.length + 6 := by rw [len_eq, thd, hdT_len, ← hnl]
  have tm : tl (Txt.mul hd ((10 : Nat) : Int)) = (List.replicate 10 (hdT (tl nm))).flatten := by rw [tl_mul, thd]
  have lm : (Txt.mul hd ((10 : Nat) : Int)).length = 10 * (nm.length + 6) := by
    rw [len_eq, tm, rep_len, hdT_len, ← hnl]
  have lp : ∀ n : Nat, (Txt.mul "(" (n : Int)).length = n := fun n => by
    rw [len_eq, tl_mul, rep_len]
    exact Nat.mul_one n
  refine sat_cons (w_asg (v_lst (v_cons (v_bin (v_bin (v_cst (v_cst (o_mulS (n := 10) (by decide) (by decide +kernel) (v_cst (o_str (by rw [lp]; decide) ?_))))))))))
  refine v_cons (v_bin (v_bin (v_var rfl (v_cst (o_mulS (n := 10) (by decide) (by omega) (v_cst (o_str (by rw [lm]; show _ + 1 ≤ _; omega) ?_)))))))
  refine v_cons (v_bin (v_bin (v_cst (v_cst (o_mulS (n := 11) (by decide) (by decide +kernel) (v_cst (o_str (by rw [lp]; decide) ?_)))))))
  refine v_cons (v_bin (v_bin (v_var rfl (v_cst (o_mulS (n := 10) (by decide) (by omega) (v_var rfl (o_str (by rw [lm]; omega) ?_)))))))
  refine v_cons (v_bin (v_bin (v_var rfl (v_cst (o_mulS (n := 10) (by decide) (by omega) (v_cst (o_str (by rw [lm]; show _ + 1 ≤ _; omega) ?_)))))))
  refine v_cons (v_bin (v_bin (v_var rfl (v_cst (o_mulS (n := 10) (by decide) (by omega) (v_cst (o_str (by rw [lm]; show _ + 6 ≤ _; omega) ?_)))))))
  refine v_nil (s_dsp rfl rfl (s_bnd rfl ?_))
  obtain ⟨f2, f4, f5, f6⟩ := tens hN
  have e1 : tl (Txt.mul "(" ((10 : Nat) : Int) ++ "1") = List.replicate 10 40 ++ [49] := by rw [tl_app, tl_mul]; rfl
  have e3 : tl (Txt.mul "(" ((11 : Nat) : Int) ++ "1") = List.replicate 11 40 ++ [49] := by rw [tl_app, tl_mul]; rfl
  have e2 : tl (Txt.mul hd ((10 : Nat) : Int) ++ "1") = hrep (tl nm) 10 [49] := by rw [tl_app, tm]; rfl
  have e4 : tl (Txt.mul hd ((10 : Nat) : Int) ++ hd) = hrep (tl nm) 10 (hdT (tl nm)) := by rw [tl_app, tm, thd]; rfl
  have e5 : tl (Txt.mul hd ((10 : Nat) : Int) ++ "(") = hrep (tl nm) 10 [40] := by rw [tl_app, tm]; rfl
  have e6 : tl (Txt.mul hd ((10 : Nat) : Int) ++ "sum(i)") = hrep (tl nm) 10 (tl "sum(i)") := by rw [tl_app, tm]; rfl
  have hrl : ∀ T : List Nat, (hrep (tl nm) 10 T).length = 10 * (nm.length + 6) + T.length := fun T => by
    unfold hrep
    rw [List.length_append, ← tm, ← len_eq, lm]
  have hrt : ∀ T : List Nat, (∀ c ∈ T, c < 128) → ∀ c ∈ hrep (tl nm) 10 T, c < 128 := fun T hT c hc => by
    unfold hrep at hc
    rcases List.mem_append.mp hc with hc | hc
    · obtain ⟨l, hl, hc⟩ := List.mem_flatten.mp hc
      rw [(List.mem_replicate.mp hl).2] at hc
      exact hd_lt hn c hc
    · exact hT c hc
  have key : ∀ x ∈ [Fw.A.p (.str (Txt.mul "(" ((10 : Nat) : Int) ++ "1")), .p (.str (Txt.mul hd ((10 : Nat) : Int) ++ "1")), .p (.str (Txt.mul "(" ((11 : Nat) : Int) ++ "1")), .p (.str (Txt.mul hd ((10 : Nat) : Int) ++ hd)), .p (.str (Txt.mul hd ((10 : Nat) : Int) ++ "(")), .p (.str (Txt.mul hd ((10 : Nat) : Int) ++ "sum(i)"))], ∃ t p, x = .p (.str t) ∧ TxOk t ∧ pProg (tl t) = .er p := by
    intro x hx
    simp only [List.mem_cons, List.not_mem_nil, or_false] at hx
    rcases hx with rfl | rfl | rfl | rfl | rfl | rfl
    · exact ⟨_, 11, rfl, ⟨by rw [e1]; decide, by rw [e1]; decide⟩, by rw [e1]; exact er_of deep_10⟩
    · exact ⟨_, _, rfl, ⟨by rw [e2, hrl]; show _ + 1 ≤ _; omega, by rw [e2]; exact hrt _ (by decide)⟩, by rw [e2]; exact f2⟩
    · exact ⟨_, 10, rfl, ⟨by rw [e3]; decide, by rw [e3]; decide⟩, by rw [e3]; exact er_of deep_11⟩
    · exact ⟨_, _, rfl, ⟨by rw [e4, hrl, hdT_len, ← hnl]; omega, by rw [e4]; exact hrt _ (hd_lt hn)⟩, by rw [e4]; exact f4⟩
    · exact ⟨_, _, rfl, ⟨by rw [e5, hrl]; show _ + 1 ≤ _; omega, by rw [e5]; exact hrt _ (by decide)⟩, by rw [e5]; exact f5⟩
    · exact ⟨_, _, rfl, ⟨by rw [e6, hrl]; show _ + 6 ≤ _; omega, by rw [e6]; exact hrt _ (by decide +kernel)⟩, by rw [e6]; exact f6⟩
  refine sat_cons (w_asg ?_)
  walk_at "v"
  rw [Fw.comp_map whyP]
  rotate_left
  · intro x hx
    obtain ⟨t, p, rfl, ht, hp⟩ := key x hx
    refine ⟨_, rfl, sat_val (v_whyA (v_cons (v_var rfl (v_nil ?_))))⟩
    refine Rz.sat_eq (why_er (k := k + 4) ht hwf hp) ⟨?_, rfl⟩
    show Fw.A.p _ = Fw.A.p (.tup [.str "InvalidText", .int (posE (tl t))])
    unfold posE
    rw [hp]
  refine Rz.sat_ok ⟨by show 6 < LIM; decide, ?_⟩
  have eP : ([Fw.A.p (.str (Txt.mul "(" ((10 : Nat) : Int) ++ "1")), .p (.str (Txt.mul hd ((10 : Nat) : Int) ++ "1")), .p (.str (Txt.mul "(" ((11 : Nat) : Int) ++ "1")), .p (.str (Txt.mul hd ((10 : Nat) : Int) ++ hd)), .p (.str (Txt.mul hd ((10 : Nat) : Int) ++ "(")), .p (.str (Txt.mul hd ((10 : Nat) : Int) ++ "sum(i)"))]).map whyP = [.int 11, .int (10 * ((nm.length : Int) + 6) + 1), .int 10, .int (10 * ((nm.length : Int) + 6) + 4 + nm.length), .int (10 * ((nm.length : Int) + 6)), .int (10 * ((nm.length : Int) + 6) + 6)].map fun e => D.tup [.str "InvalidText", e] := by
    have pe : ∀ {L : List Nat} {p : Nat}, pProg L = .er p → posE L = p := fun h => by unfold posE; rw [h]
    simp only [List.map_cons, List.map_nil, whyP, e1, e2, e3, e4, e5, e6, pe (er_of deep_10), pe (er_of deep_11), pe f2, pe f4, pe f5, pe f6, ← hnl]
    simp
    omega
  have eP' := eP
  generalize ([Fw.A.p (.str (Txt.mul "(" ((10 : Nat) : Int) ++ "1")), .p (.str (Txt.mul hd ((10 : Nat) : Int) ++ "1")), .p (.str (Txt.mul "(" ((11 : Nat) : Int) ++ "1")), .p (.str (Txt.mul hd ((10 : Nat) : Int) ++ hd)), .p (.str (Txt.mul hd ((10 : Nat) : Int) ++ "(")), .p (.str (Txt.mul hd ((10 : Nat) : Int) ++ "sum(i)"))]).map whyP = L at eP'
  change BndV (Tg.nm 9) (.p (.lst (([Fw.A.p (.str (Txt.mul "(" ((10 : Nat) : Int) ++ "1")), .p (.str (Txt.mul hd ((10 : Nat) : Int) ++ "1")), .p (.str (Txt.mul "(" ((11 : Nat) : Int) ++ "1")), .p (.str (Txt.mul hd ((10 : Nat) : Int) ++ hd)), .p (.str (Txt.mul hd ((10 : Nat) : Int) ++ "(")), .p (.str (Txt.mul hd ((10 : Nat) : Int) ++ "sum(i)"))]).map whyP))) _ _
  rw [eP]
  refine s_bnd rfl ?_
  walk_at "v"
  rw [Fw.comp_map (fun x => match x with
    | .p e => D.tup [.str "InvalidText", e]
    | _ => .non)]
  rotate_left
  · intro x hx
    simp only [List.map_cons, List.map_nil, List.mem_cons, List.not_mem_nil, or_false] at hx
    rcases hx with rfl | rfl | rfl | rfl | rfl | rfl
    all_goals
      refine ⟨_, rfl, sat_val ?_⟩
      walk_at "v"
      exact ⟨rfl, rfl⟩
  refine Rz.sat_ok ⟨by show 6 < LIM; decide, ?_⟩
  refine v_nil ?_
  refine Rz.sat_eq (same_ok rfl 3 (.lst ([.int 11, .int (10 * ((nm.length : Int) + 6) + 1), .int 10, .int (10 * ((nm.length : Int) + 6) + 4 + nm.length), .int (10 * ((nm.length : Int) + 6)), .int (10 * ((nm.length : Int) + 6) + 6)].map fun e => D.tup [.str "InvalidText", e])) ?_ _ (by omega)) ?_
  · refine pl_lst (by show 6 ≤ 1000; decide) fun d hd => ?_
    simp only [List.map_cons, List.map_nil, List.mem_cons, List.not_mem_nil, or_false] at hd
    rcases hd with rfl | rfl | rfl | rfl | rfl | rfl <;> exact pl_it (ofStr_ok _)
  walk_at "v"
  walk_at "n"
  exact sat_nil ⟨hS, _, _, _, _, _, _, _, _, _, _, rfl⟩
end
end K15

namespace K15
open PySem PySem.Spec PyProof.Rows L2 Fw
local macro_rules | `(tactic| walk_at "v") => `(tactic| (repeat (first | ((with_reducible apply Fw.v_var); next => exact rfl) | with_reducible refine Fw.v_bin ?_ | with_reducible refine Fw.v_maxD ?_ | with_reducible refine Fw.v_sub ?_ | with_reducible refine Fw.v_cst ?_ | with_reducible refine Fw.v_cons ?_ | with_reducible refine Fw.v_nil ?_ | with_reducible refine Fw.v_cmp ?_ | with_reducible refine Fw.v_blt ?_ | with_reducible refine Fw.v_neg ?_ | with_reducible refine Fw.v_call ?_ | with_reducible refine Fw.v_callK ?_ | with_reducible refine Fw.v_not ?_ | with_reducible refine Fw.v_chain ?_ | with_reducible refine Fw.v_andT ?_ | with_reducible refine Fw.v_orT ?_ | with_reducible refine Fw.v_and ?_ | with_reducible refine Fw.v_or ?_ | with_reducible refine Fw.v_ite ?_ | with_reducible refine Fw.v_tup ?_ | with_reducible refine Fw.v_lst ?_ | with_reducible refine Fw.v_lstM ?_ | with_reducible refine Fw.v_slcH ?_ | with_reducible refine Fw.v_slcL ?_ | with_reducible refine Fw.v_isiT ?_ | with_reducible refine Fw.v_fstr ?_ | with_reducible refine Fw.v_fmt ?_ | with_reducible refine Fw.v_comp0 ?_ | with_reducible refine Fw.v_comp1 ?_ | with_reducible refine Fw.s_t0 ?_ | with_reducible refine Fw.s_t1 ?_ | with_reducible refine Fw.s_t2 ?_ | with_reducible refine Fw.s_l0 ?_ | with_reducible refine Fw.s_l1 ?_ | with_reducible refine Fw.s_l2 ?_ | with_reducible refine Fw.s_not ?_ | with_reducible refine Fw.s_neg ?_ | with_reducible refine Fw.o_add ?_ | with_reducible refine Fw.o_sub ?_ | with_reducible refine Fw.q_lt ?_ | with_reducible refine Fw.q_le ?_ | with_reducible refine Fw.q_gt ?_ | with_reducible refine Fw.q_ge ?_ | with_reducible refine Fw.q_eq ?_ | with_reducible refine Fw.q_ne ?_ | with_reducible refine Fw.q_eqB ?_ | with_reducible refine Fw.q_neB ?_ | with_reducible refine Fw.q_isN ?_ | with_reducible refine Fw.q_notN ?_ | with_reducible refine Fw.sat_cons ?_ | with_reducible refine Fw.w_asg ?_ | with_reducible refine Fw.w_par ?_ | with_reducible refine Fw.w_parT ?_ | with_reducible refine Fw.w_setI ?_ | with_reducible refine Fw.w_exp ?_ | with_reducible refine Fw.w_ret ?_ | with_reducible refine Fw.v_ccst ?_ | with_reducible refine Fw.v_app ?_ | with_reducible refine Fw.v_whyA ?_ | with_reducible refine Fw.v_fld ?_ | with_reducible refine Fw.w_ite ?_ | with_reducible refine Fw.w_for ?_ | with_reducible refine Fw.w_while ?_ | with_reducible refine Fw.v_tst ?_ | with_reducible refine Fw.x_cons ?_ | with_reducible refine Fw.x_asg ?_ | with_reducible refine Fw.x_exp ?_ | with_reducible refine Fw.x_ret ?_ | with_reducible refine Fw.x_ite ?_ | with_reducible refine Fw.x_asgX ?_ | with_reducible refine Fw.x_expX ?_ | with_reducible refine Fw.x_retX ?_ | with_reducible refine Fw.x_asgE ?_ | with_reducible refine Fw.x_expE ?_ | with_reducible refine Fw.x_retE ?_ | with_reducible refine Fw.x_for ?_ | with_reducible refine Fw.x_while ?_ | with_reducible refine Fw.y_p ?_ | with_reducible refine Fw.y_x ?_ | with_reducible refine Fw.y_neg ?_ | with_reducible refine Fw.y_int ?_ | with_reducible refine Fw.y_nil ?_ | with_reducible refine Fw.y_cons ?_ | with_reducible refine Fw.y_tup ?_ | with_reducible refine Fw.y_lstM ?_ | with_reducible refine Fw.v_tupS ?_ | with_reducible refine Fw.v_lstS ?_ | with_reducible refine Fw.v_snil ?_ | with_reducible refine Fw.v_scons ?_ | with_reducible refine Fw.v_slcB ?_ | ((with_reducible apply Fw.q_inT); next => exact rfl) | ((with_reducible apply Fw.s_sub); next => exact rfl) | ((with_reducible apply Fw.s_blt); next => exact rfl) | ((with_reducible apply Fw.s_tst); next => exact rfl) | ((with_reducible apply Fw.s_isi); next => exact rfl) | ((with_reducible apply Fw.s_asm); next => exact rfl) | ((with_reducible apply Fw.s_bnd); next => exact rfl) | ((with_reducible apply Fw.s_wlk); next => exact rfl) | ((with_reducible apply Fw.s_slcH); next => exact rfl) | ((with_reducible apply Fw.s_slcL); next => exact rfl) | ((with_reducible apply Fw.s_slcB); next => exact rfl) | ((with_reducible apply Fw.s_dsp); (next => exact rfl); (next => exact rfl)) | ((with_reducible apply Fw.s_set); (next => exact rfl); (next => exact rfl)) | ((with_reducible apply Fw.q_eqS); (next => first | exact ofStr_ok _ | assumption); (next => first | exact ofStr_ok _ | assumption)) | ((with_reducible refine Fw.o_mul ?_ ?_); next => first | assumption | exact mul_c (by omega) (by omega) | exact mul_cL (by omega) (by omega)) | ((with_reducible refine Fw.o_mod ?_ ?_); next => first | assumption | omega) | ((with_reducible refine Fw.o_div ?_ ?_); next => first | assumption | decide) | ((with_reducible refine Fw.o_pow ?_ ?_); next => decide))))
local macro_rules | `(tactic| walk_at "y") => `(tactic| (refine br (fun _ => ?_) (fun h => absurd h (by first | exact ft_no | exact tf_no | decide | simp)); walk_at "v"))
local macro_rules | `(tactic| walk_at "n") => `(tactic| (refine br (fun h => absurd h (by first | exact ft_no | exact tf_no | decide | simp)) (fun _ => ?_); (try refine sat_nil ?_); walk_at "v"))
/-! ### the law, its end -/
section
variable {wf k : Nat} {S : Store} {ρ : Fw.Env}
theorem good_tx : TxOk goodS := tx_of (by decide +kernel)
theorem bad_tx : TxOk badS := tx_of (by decide +kernel)
theorem tE (hwf : W0 ≤ wf) {s0 : Option Fw.A} {nm : Str} (h : Mid s0 nm ρ S) : (Fw.run (callI ft wf (k + 30)) wf ((c19.drop 13).take 3) ρ S).sat (fun ρ S => Mid s0 nm ρ S) fun _ _ => False := by
  obtain ⟨hS, x5, x6, x7, x8, x9, x10, x11, x12, x13, x14, rfl⟩ := h
  have eL : LIM = 100000 := rfl
  unfold c19 c_g_law
  dsimp only [List.drop, List.take]
  refine sat_cons (w_asg (Rz.sat_eq (a := .p (.str goodS)) (S := S) (by kernel_rfl) (s_bnd rfl ?_)))
  refine sat_cons (w_asg (v_lst (v_cons (v_whyA (v_cons (v_var rfl (v_nil ?_)))))))
  refine Rz.sat_eq (why_ok (k := k + 4) good_tx hwf good_ok) ?_
  refine v_cons (v_whyA (v_cons (v_bin (v_slcH (v_var rfl (v_neg (v_cst (s_neg ?_))))))))
  refine s_slcH (z := .str "(1 + 1 + 1 + 1 + 1 + 1 + 1 + 1") (by kernel_rfl) (v_cst ?_)
  refine ⟨_, _, .str badS, rfl, rfl, by kernel_rfl, v_nil ?_⟩
  refine Rz.sat_eq (why_er (k := k + 4) bad_tx hwf (p := 30) (er_of good_er)) ?_
  refine v_nil (s_dsp rfl rfl (s_bnd rfl ?_))
  refine sat_cons (w_ite (v_not (v_tst (v_call (v_cons (v_var rfl ?_))))))
  refine v_cons (Rz.sat_eq (a := .p (.lst [.tup [.str "value", .non], .tup [.str "InvalidText", .int 30]])) (S := S) (by kernel_rfl) (v_nil ?_))
  refine Rz.sat_eq (same_ok rfl 3 (.lst [.tup [.str "value", .non], .tup [.str "InvalidText", .int 30]]) ?_ _ (by omega)) ?_
  · refine pl_lst (by show 2 ≤ 1000; decide) fun d hd => ?_
    simp only [List.mem_cons, List.not_mem_nil, or_false] at hd
    rcases hd with rfl | rfl
    · exact pl_pair (n := 1) (ofStr_ok _) trivial
    · exact pl_it (ofStr_ok _)
  walk_at "v"
  walk_at "n"
  exact sat_nil ⟨hS, _, _, _, _, _, _, _, _, _, _, rfl⟩
theorem odd_ty {d : D} (h : d ∈ odds) : ∃ ty, tyF (.p d) S = some ty ∧ isaF ty .tStr = false := by
  unfold odds at h
  simp only [List.mem_cons, List.not_mem_nil, or_false] at h
  rcases h with rfl | rfl | rfl | rfl | rfl | rfl
  all_goals exact ⟨_, rfl, by decide⟩
theorem tF (hwf : W0 ≤ wf) {s0 : Option Fw.A} {nm : Str} (h : Mid s0 nm ρ S) : (Fw.run (callI ft wf (k + 30)) wf (c19.drop 16) ρ S).sat (fun _ _ => False) fun x _ => x = .p (.bl true) := by
  obtain ⟨hS, x5, x6, x7, x8, x9, x10, x11, x12, x13, x14, rfl⟩ := h
  have eL : LIM = 100000 := rfl
  unfold c19 c_g_law
  dsimp only [List.drop]
  refine sat_cons (w_asg (v_call (v_cons (v_var rfl (v_cons (Rz.sat_eq (a := .p (.lst odds)) (S := S) (by kernel_rfl) (v_nil ?_)))))))
  refine Rz.sat_mono (of_ok (f := F_g__law_draw) (g := F_g__law_of) (ds := odds) rfl rfl hS (by decide) (by decide)) ?_
  rintro _ S ⟨hS, d, hd, rfl⟩
  refine s_bnd rfl ?_
  refine sat_cons (w_ret (v_call (v_cons (v_lst (v_cons (v_whyA (v_cons (v_var rfl (v_nil ?_)))))))))
  refine Rz.sat_eq (show whyR (callI ft wf (k + 30) F_g_read_program [.p d] S) = .ok (.p (.tup [.str "InvalidText", .int 0])) S by rw [prog_no (k := k + 29) (odd_ty hd)]; exact why_xT) ?_
  refine v_cons (v_call (v_cons (v_cst (v_nil ?_))))
  refine Rz.sat_eq (call_ok (k := k + 4) (tx_of (by decide +kernel)) hwf ok1) ?_
  refine v_cons (v_call (v_cons (v_cst (v_nil ?_))))
  refine Rz.sat_eq (call_ok (k := k + 4) (tx_of (by decide +kernel)) hwf ok2) ?_
  refine v_cons (v_call (v_cons (v_cst (v_nil ?_))))
  refine Rz.sat_eq (call_ok (k := k + 4) (tx_of (by decide +kernel)) hwf ok3) ?_
  refine v_cons (v_call (v_cons (v_cst (v_nil ?_))))
  refine Rz.sat_eq (call_ok (k := k + 4) (tx_of (by decide +kernel)) hwf ok4) ?_
  refine v_nil (s_dsp rfl rfl (v_cons (Rz.sat_eq (a := .p (.lst [.tup [.str "InvalidText", .int 0], v1, v2, v3, v4])) (S := S) (by kernel_rfl) (v_nil ?_))))
  refine Rz.sat_eq (same_ok rfl 7 (.lst [.tup [.str "InvalidText", .int 0], v1, v2, v3, v4]) ?_ _ (by omega)) rfl
  have two : ∀ {n : Nat} {ds : List D}, ds.length ≤ 1000 → (∀ d ∈ ds, Pl n d) → Pl (n + 1) (.tup ds) := fun h1 h2 => pl_tup h1 h2
  have three : ∀ {n : Nat} {a b c : D}, Pl n a → Pl n b → Pl n c → Pl (n + 1) (.tup [a, b, c]) := fun ha hb hc => pl_tup (by show 3 ≤ 1000; decide) fun d hd => by
    simp only [List.mem_cons, List.not_mem_nil, or_false] at hd
    rcases hd with rfl | rfl | rfl
    · exact ha
    · exact hb
    · exact hc
  have one : ∀ {n : Nat} {a : D}, Pl n a → Pl (n + 1) (.tup [a]) := fun ha => pl_tup (by show 1 ≤ 1000; decide) fun d hd => by
    rw [List.mem_singleton.mp hd]
    exact ha
  have s : ∀ {n : Nat} {x : String}, Pl (n + 1) (.str (Str.ofString x)) := fun {n x} => (ofStr_ok x : PyData.strOk (Str.ofString x) = true)
  have it : ∀ {n : Nat} {x : Int}, Pl (n + 1) (.int x) := fun {n x} => trivial
  have h1 : Pl 5 v1 := three s s (one s)
  have h1' : ∀ n, Pl (n + 3) v1 := fun n => three s s (one s)
  have hnum : ∀ {n : Nat} {a b : Int}, Pl (n + 2) (.tup [.str "num", .int a, .int b]) := fun {n a b} => three s it it
  refine pl_lst (by show 5 ≤ 1000; decide) fun d hd => ?_
  simp only [List.mem_cons, List.not_mem_nil, or_false] at hd
  rcases hd with rfl | rfl | rfl | rfl | rfl
  · exact pl_pair s it
  · exact h1' 3
  · exact three s s (h1' 2)
  · exact three s hnum it
  · exact three s (three s (three s (three s s (one s)) it) it) hnum
theorem law_true {k : Nat} (hk : 40 ≤ k) (ns : List Int) : ∃ S', callI ft 10000000000 (k + 1) 19 [.p (.scr ns)] [] = .ok (.p (.bl true)) S' := by
  obtain ⟨k, rfl⟩ : ∃ m, k = m + 30 := ⟨k - 30, by omega⟩
  have hwf : W0 ≤ 10000000000 := by decide
  have : (callI ft 10000000000 (k + 30 + 1) 19 [.p (.scr ns)] []).sat fun x _ => x = .p (.bl true) := by
    refine sat_callP rfl rfl ?_
    show (Fw.run _ 10000000000 c19 [some (.p (.scr ns)), none, none, none, none, none, none, none, none, none, none, none, none, none, none] _).sat _ _
    refine sat_cut 4 _ _ _ (Rs.sat_mono (tA (ns := ns) rfl) ?_ fun _ _ h => h.elim)
    rintro ρ S ⟨nm, hn, h⟩
    refine sat_cut 1 _ _ _ (Rs.sat_mono (tB hwf h) ?_ fun _ _ h => h.elim)
    intro ρ S h
    rw [List.drop_drop]
    refine sat_cut 3 _ _ _ (Rs.sat_mono (tC hwf h) ?_ fun _ _ h => h.elim)
    intro ρ S h
    rw [List.drop_drop]
    refine sat_cut 5 _ _ _ (Rs.sat_mono (tD hwf hn h) ?_ fun _ _ h => h.elim)
    intro ρ S h
    rw [List.drop_drop]
    refine sat_cut 3 _ _ _ (Rs.sat_mono (tE hwf h) ?_ fun _ _ h => h.elim)
    intro ρ S h
    rw [List.drop_drop]
    refine Rs.sat_mono (tF hwf h) (fun _ _ h => h) ?_
    rintro x S rfl
    exact ⟨rfl, Nat.zero_le _, rfl⟩
  obtain ⟨a, S, e, rfl⟩ := this
  exact ⟨S, e⟩
end
end K15

namespace K15
open PySem PySem.Spec PyProof.Rows L2 Fw
theorem whyB : WhyB "_law_ask7" "_law_told" "_law_e" "FewError" "Missing" "_law_field" (defBody (top 22)) := ⟨_, _, _, _, _, _, _, _, _, _, _, _, _, _, _, _, _, _, _, _, _, _, _, _, _, _, _, _, _, rfl⟩
theorem whyS : FnScope ["_law_ask7", "_law_told", "_law_e"] ["_law_ask7"] (defScope (top 22)) := ⟨rfl, rfl, rfl, by decide +kernel, rfl, by decide +kernel, by decide +kernel⟩
theorem fldS : FnScope ["_law_e"] ["_law_e"] (defScope (top 21)) := ⟨rfl, rfl, rfl, by decide +kernel, rfl, by decide +kernel, by decide +kernel⟩
theorem fldB : FieldB "_law_e" (defBody (top 21)) fldM fldNames :=
  .inn (.cons (.cons (.cons .nil))) (by decide) (.inn (.cons (.cons (.cons (.cons (.cons (.cons .nil)))))) (by decide) (.inn (.cons (.cons (.cons (.cons (.cons .nil))))) (by decide) (.inn (.cons (.cons (.cons .nil))) (by decide) (.inn (.cons (.cons .nil)) (by decide) (.eq (.eq .last))))))
theorem xB0 : ExcBody "self" "position" "InvalidText" "position" (defBody (mem 3 0)) := ⟨_, _, _, _, _, _, _, _, _, rfl⟩
theorem xS0 : FnScope ["self", "position"] ["self", "position"] (defScope (mem 3 0)) := ⟨rfl, rfl, rfl, by decide +kernel, rfl, by decide +kernel, by decide +kernel⟩
theorem facts {K : PySem.W.Frag} {h : Heap} {mg : Str → Option Value} {f0 f1 f2 f3 f4 f5 f6 f7 f8 f9 f10 f11 f12 f13 f14 f15 f16 f17 f18 f19 C0 aFew aMis X0 e0 cL pL gW gF : Addr} (X : K.In h) (G : h.Ns mainGlobals mg)
    {od0 an0 : Option Addr} {sl0 : Array (Option Value)} {oc0 kV0 dc0 pm0 ct0 cd0 : Value} {od1 an1 : Option Addr} {sl1 : Array (Option Value)} {oc1 kV1 dc1 pm1 ct1 cd1 : Value} {od2 an2 : Option Addr} {sl2 : Array (Option Value)} {oc2 kV2 dc2 pm2 ct2 cd2 : Value} {od3 an3 : Option Addr} {sl3 : Array (Option Value)} {oc3 kV3 dc3 pm3 ct3 cd3 : Value} {od4 an4 : Option Addr} {sl4 : Array (Option Value)} {oc4 kV4 dc4 pm4 ct4 cd4 : Value} {od5 an5 : Option Addr} {sl5 : Array (Option Value)} {oc5 kV5 dc5 pm5 ct5 cd5 : Value} {od6 an6 : Option Addr} {sl6 : Array (Option Value)} {oc6 kV6 dc6 pm6 ct6 cd6 : Value} {od7 an7 : Option Addr} {sl7 : Array (Option Value)} {oc7 kV7 dc7 pm7 ct7 cd7 : Value} {od8 an8 : Option Addr} {sl8 : Array (Option Value)} {oc8 kV8 dc8 pm8 ct8 cd8 : Value} {od9 an9 : Option Addr} {sl9 : Array (Option Value)} {oc9 kV9 dc9 pm9 ct9 cd9 : Value} {od10 an10 : Option Addr} {sl10 : Array (Option Value)} {oc10 kV10 dc10 pm10 ct10 cd10 : Value} {od11 an11 : Option Addr} {sl11 : Array (Option Value)} {oc11 kV11 dc11 pm11 ct11 cd11 : Value} {od12 an12 : Option Addr} {sl12 : Array (Option Value)} {oc12 kV12 dc12 pm12 ct12 cd12 : Value} {od13 an13 : Option Addr} {sl13 : Array (Option Value)} {oc13 kV13 dc13 pm13 ct13 cd13 : Value} {od14 an14 : Option Addr} {sl14 : Array (Option Value)} {oc14 kV14 dc14 pm14 ct14 cd14 : Value} {od15 an15 : Option Addr} {sl15 : Array (Option Value)} {oc15 kV15 dc15 pm15 ct15 cd15 : Value} {od16 an16 : Option Addr} {sl16 : Array (Option Value)} {oc16 kV16 dc16 pm16 ct16 cd16 : Value} {od17 an17 : Option Addr} {sl17 : Array (Option Value)} {oc17 kV17 dc17 pm17 ct17 cd17 : Value} {od18 an18 : Option Addr} {sl18 : Array (Option Value)} {oc18 kV18 dc18 pm18 ct18 cd18 : Value} {od19 an19 : Option Addr} {sl19 : Array (Option Value)} {oc19 kV19 dc19 pm19 ct19 : Value} {xnm0 xq0 : Str} {xN0 : Addr} {xbs0 xbm0 xsb0 : List Value} {xsn0 : List Str} {xab0 : Bool} {xcl0 : Option Bool} {xdd0 : Option Addr} {x00 x10 x20 x30 x50 : Option Value} {odx0 anx0 : Option Addr} {slx0 : Array (Option Value)} {ocx0 kVx0 dcx0 pmx0 ctx0 cdx0 : Value} {eL : Value} {ddL : Option Addr} {vsL : Array Value} {slL : Array (Option Value)} {odW anW : Option Addr} {slW : Array (Option Value)} {ocW kVW dcW pmW ctW cdW : Value} {odF anF : Option Addr} {slF : Array (Option Value)} {ocF kVF dcF pmF ctF cdF : Value} {tk0 tk1 tk2 tk3 tk4 : Tok}
    (aC0 : PySem.W.nsIn K mainGlobals "Reader" = some (some (.ref C0))) (pg0 : PySem.W.plainGet K C0 Str.empty = true) (hd0 : PySem.W.hasDictIn K C0 = true) (po0 : PySem.W.plainOver K C0 = true) (sa0 : PySem.W.findIn K (.ref C0) "__setattr__" = some (some (.builtin "object.__setattr__"))) (mk0 : PySem.W.makesIn K C0 = true) (in0 : PySem.W.findIn K (.ref C0) "__init__" = some (some (.ref f7))) (fi0 : PySem.W.isFn K (.ref f7) = true) (kp0 : PySem.W.keepIn K (.ref C0) = true) (me0_0 : PySem.W.findIn K (.ref C0) "fail" = some (some (.ref f9))) (mf0_0 : PySem.W.isFn K (.ref f9) = true) (me0_1 : PySem.W.findIn K (.ref C0) "here" = some (some (.ref f8))) (mf0_1 : PySem.W.isFn K (.ref f8) = true) (me0_2 : PySem.W.findIn K (.ref C0) "read_all" = some (some (.ref f18))) (mf0_2 : PySem.W.isFn K (.ref f18) = true) (me0_3 : PySem.W.findIn K (.ref C0) "read_figures" = some (some (.ref f13))) (mf0_3 : PySem.W.isFn K (.ref f13) = true) (me0_4 : PySem.W.findIn K (.ref C0) "read_group" = some (some (.ref f17))) (mf0_4 : PySem.W.isFn K (.ref f17) = true) (me0_5 : PySem.W.findIn K (.ref C0) "read_name" = some (some (.ref f12))) (mf0_5 : PySem.W.isFn K (.ref f12) = true) (me0_6 : PySem.W.findIn K (.ref C0) "read_number" = some (some (.ref f14))) (mf0_6 : PySem.W.isFn K (.ref f14) = true) (me0_7 : PySem.W.findIn K (.ref C0) "read_run" = some (some (.ref f11))) (mf0_7 : PySem.W.isFn K (.ref f11) = true) (me0_8 : PySem.W.findIn K (.ref C0) "read_test" = some (some (.ref f15))) (mf0_8 : PySem.W.isFn K (.ref f15) = true) (me0_9 : PySem.W.findIn K (.ref C0) "read_word" = some (some (.ref f16))) (mf0_9 : PySem.W.isFn K (.ref f16) = true) (me0_10 : PySem.W.findIn K (.ref C0) "take" = some (some (.ref f10))) (mf0_10 : PySem.W.isFn K (.ref f10) = true) (fl0_0 : PySem.W.findIn K (.ref C0) "at" = some none) (fl0_1 : PySem.W.findIn K (.ref C0) "open_now" = some none) (fl0_2 : PySem.W.findIn K (.ref C0) "text" = some none) (a0 : PySem.W.nsIn K mainGlobals "gcd" = some (some (.ref f0))) (l0 : K.lookup f0 = some ⟨oc0, od0, .func (PySem.W.fnOf "gcd" "gcd" (defArgs (top 6)) (defBody (top 6)) (defScope (top 6)) .none kV0 dc0 pm0 an0 cd0 ct0), sl0⟩) (c0 : PySem.W.codeIn K cd0 "gcd" = true) (k0 : PySem.W.keepIn K (.ref f0) = true) (a1 : PySem.W.nsIn K mainGlobals "read_program" = some (some (.ref f1))) (l1 : K.lookup f1 = some ⟨oc1, od1, .func (PySem.W.fnOf "read_program" "read_program" (defArgs (top 14)) (defBody (top 14)) (defScope (top 14)) .none kV1 dc1 pm1 an1 cd1 ct1), sl1⟩) (c1 : PySem.W.codeIn K cd1 "read_program" = true) (k1 : PySem.W.keepIn K (.ref f1) = true) (a2 : PySem.W.nsIn K mainGlobals "_law_source" = some (some (.ref f2))) (l2 : K.lookup f2 = some ⟨oc2, od2, .func (PySem.W.fnOf "_law_source" "_law_source" (defArgs (top 16)) (defBody (top 16)) (defScope (top 16)) .none kV2 dc2 pm2 an2 cd2 ct2), sl2⟩) (c2 : PySem.W.codeIn K cd2 "_law_source" = true) (k2 : PySem.W.keepIn K (.ref f2) = true) (a3 : PySem.W.nsIn K mainGlobals "_law_draw" = some (some (.ref f3))) (l3 : K.lookup f3 = some ⟨oc3, od3, .func (PySem.W.fnOf "_law_draw" "_law_draw" (defArgs (top 17)) (defBody (top 17)) (defScope (top 17)) .none kV3 dc3 pm3 an3 cd3 ct3), sl3⟩) (c3 : PySem.W.codeIn K cd3 "_law_draw" = true) (k3 : PySem.W.keepIn K (.ref f3) = true) (a4 : PySem.W.nsIn K mainGlobals "_law_of" = some (some (.ref f4))) (l4 : K.lookup f4 = some ⟨oc4, od4, .func (PySem.W.fnOf "_law_of" "_law_of" (defArgs (top 18)) (defBody (top 18)) (defScope (top 18)) .none kV4 dc4 pm4 an4 cd4 ct4), sl4⟩) (c4 : PySem.W.codeIn K cd4 "_law_of" = true) (k4 : PySem.W.keepIn K (.ref f4) = true) (a5 : PySem.W.nsIn K mainGlobals "_law_word" = some (some (.ref f5))) (l5 : K.lookup f5 = some ⟨oc5, od5, .func (PySem.W.fnOf "_law_word" "_law_word" (defArgs (top 19)) (defBody (top 19)) (defScope (top 19)) .none kV5 dc5 pm5 an5 cd5 ct5), sl5⟩) (c5 : PySem.W.codeIn K cd5 "_law_word" = true) (k5 : PySem.W.keepIn K (.ref f5) = true) (a6 : PySem.W.nsIn K mainGlobals "_law_same" = some (some (.ref f6))) (l6 : K.lookup f6 = some ⟨oc6, od6, .func (PySem.W.fnOf "_law_same" "_law_same" (defArgs (top 20)) (defBody (top 20)) (defScope (top 20)) .none kV6 dc6 pm6 an6 cd6 ct6), sl6⟩) (c6 : PySem.W.codeIn K cd6 "_law_same" = true) (k6 : PySem.W.keepIn K (.ref f6) = true) (l7 : K.lookup f7 = some ⟨oc7, od7, .func (PySem.W.fnOf "__init__" "Reader.__init__" (defArgs (mem 13 0)) (defBody (mem 13 0)) (defScope (mem 13 0)) .none kV7 dc7 pm7 an7 cd7 ct7), sl7⟩) (c7 : PySem.W.codeIn K cd7 "Reader.__init__" = true) (k7 : PySem.W.keepIn K (.ref f7) = true) (l8 : K.lookup f8 = some ⟨oc8, od8, .func (PySem.W.fnOf "here" "Reader.here" (defArgs (mem 13 1)) (defBody (mem 13 1)) (defScope (mem 13 1)) .none kV8 dc8 pm8 an8 cd8 ct8), sl8⟩) (c8 : PySem.W.codeIn K cd8 "Reader.here" = true) (k8 : PySem.W.keepIn K (.ref f8) = true) (l9 : K.lookup f9 = some ⟨oc9, od9, .func (PySem.W.fnOf "fail" "Reader.fail" (defArgs (mem 13 2)) (defBody (mem 13 2)) (defScope (mem 13 2)) .none kV9 dc9 pm9 an9 cd9 ct9), sl9⟩) (c9 : PySem.W.codeIn K cd9 "Reader.fail" = true) (k9 : PySem.W.keepIn K (.ref f9) = true) (l10 : K.lookup f10 = some ⟨oc10, od10, .func (PySem.W.fnOf "take" "Reader.take" (defArgs (mem 13 3)) (defBody (mem 13 3)) (defScope (mem 13 3)) .none kV10 dc10 pm10 an10 cd10 ct10), sl10⟩) (c10 : PySem.W.codeIn K cd10 "Reader.take" = true) (k10 : PySem.W.keepIn K (.ref f10) = true) (l11 : K.lookup f11 = some ⟨oc11, od11, .func (PySem.W.fnOf "read_run" "Reader.read_run" (defArgs (mem 13 4)) (defBody (mem 13 4)) (defScope (mem 13 4)) .none kV11 dc11 pm11 an11 cd11 ct11), sl11⟩) (c11 : PySem.W.codeIn K cd11 "Reader.read_run" = true) (k11 : PySem.W.keepIn K (.ref f11) = true) (l12 : K.lookup f12 = some ⟨oc12, od12, .func (PySem.W.fnOf "read_name" "Reader.read_name" (defArgs (mem 13 5)) (defBody (mem 13 5)) (defScope (mem 13 5)) .none kV12 dc12 pm12 an12 cd12 ct12), sl12⟩) (c12 : PySem.W.codeIn K cd12 "Reader.read_name" = true) (k12 : PySem.W.keepIn K (.ref f12) = true) (l13 : K.lookup f13 = some ⟨oc13, od13, .func (PySem.W.fnOf "read_figures" "Reader.read_figures" (defArgs (mem 13 6)) (defBody (mem 13 6)) (defScope (mem 13 6)) .none kV13 dc13 pm13 an13 cd13 ct13), sl13⟩) (c13 : PySem.W.codeIn K cd13 "Reader.read_figures" = true) (k13 : PySem.W.keepIn K (.ref f13) = true) (l14 : K.lookup f14 = some ⟨oc14, od14, .func (PySem.W.fnOf "read_number" "Reader.read_number" (defArgs (mem 13 7)) (defBody (mem 13 7)) (defScope (mem 13 7)) .none kV14 dc14 pm14 an14 cd14 ct14), sl14⟩) (c14 : PySem.W.codeIn K cd14 "Reader.read_number" = true) (k14 : PySem.W.keepIn K (.ref f14) = true) (l15 : K.lookup f15 = some ⟨oc15, od15, .func (PySem.W.fnOf "read_test" "Reader.read_test" (defArgs (mem 13 8)) (defBody (mem 13 8)) (defScope (mem 13 8)) .none kV15 dc15 pm15 an15 cd15 ct15), sl15⟩) (c15 : PySem.W.codeIn K cd15 "Reader.read_test" = true) (k15 : PySem.W.keepIn K (.ref f15) = true) (l16 : K.lookup f16 = some ⟨oc16, od16, .func (PySem.W.fnOf "read_word" "Reader.read_word" (defArgs (mem 13 9)) (defBody (mem 13 9)) (defScope (mem 13 9)) .none kV16 dc16 pm16 an16 cd16 ct16), sl16⟩) (c16 : PySem.W.codeIn K cd16 "Reader.read_word" = true) (k16 : PySem.W.keepIn K (.ref f16) = true) (l17 : K.lookup f17 = some ⟨oc17, od17, .func (PySem.W.fnOf "read_group" "Reader.read_group" (defArgs (mem 13 10)) (defBody (mem 13 10)) (defScope (mem 13 10)) .none kV17 dc17 pm17 an17 cd17 ct17), sl17⟩) (c17 : PySem.W.codeIn K cd17 "Reader.read_group" = true) (k17 : PySem.W.keepIn K (.ref f17) = true) (l18 : K.lookup f18 = some ⟨oc18, od18, .func (PySem.W.fnOf "read_all" "Reader.read_all" (defArgs (mem 13 11)) (defBody (mem 13 11)) (defScope (mem 13 11)) .none kV18 dc18 pm18 an18 cd18 ct18), sl18⟩) (c18 : PySem.W.codeIn K cd18 "Reader.read_all" = true) (k18 : PySem.W.keepIn K (.ref f18) = true) (a19 : PySem.W.nsIn K mainGlobals "law" = some (some (.ref f19))) (l19 : K.lookup f19 = some ⟨oc19, od19, .func (PySem.W.fnOf "law" "law" (defArgs (top 23)) (defBody (top 23)) (defScope (top 23)) .none kV19 dc19 pm19 an19 (.ref cL) ct19), sl19⟩) (c19 : PySem.W.codeIn K (.ref cL) "law" = true) (k19 : PySem.W.keepIn K (.ref f19) = true) (z0 : PySem.W.nsIn K mainGlobals "abs" = some none) (z1 : PySem.W.nsIn K mainGlobals "all" = some none) (z2 : PySem.W.nsIn K mainGlobals "bool" = some none) (z3 : PySem.W.nsIn K mainGlobals "int" = some none) (z4 : PySem.W.nsIn K mainGlobals "isinstance" = some none) (z5 : PySem.W.nsIn K mainGlobals "len" = some none) (z6 : PySem.W.nsIn K mainGlobals "list" = some none) (z7 : PySem.W.nsIn K mainGlobals "range" = some none) (z8 : PySem.W.nsIn K mainGlobals "str" = some none) (z9 : PySem.W.nsIn K mainGlobals "tuple" = some none) (z10 : PySem.W.nsIn K mainGlobals "zip" = some none) (yk0 : PySem.W.nsIn K mainGlobals "DIGITS" = some (some (.str "0123456789" tk0))) (yk1 : PySem.W.nsIn K mainGlobals "MOST_FIGURES" = some (some (.int 9 tk1))) (yk2 : PySem.W.nsIn K mainGlobals "MOST_LETTERS" = some (some (.int 8 tk2))) (yk3 : PySem.W.nsIn K mainGlobals "MOST_OPEN" = some (some (.int 10 tk3))) (yk4 : PySem.W.nsIn K mainGlobals "SMALL" = some (some (.str "abcdefghijklmnopqrstuvwxyz" tk4))) (qFew : PySem.W.nsIn K mainGlobals "FewError" = some (some (.ref aFew))) (qMis : PySem.W.nsIn K mainGlobals "Missing" = some (some (.ref aMis))) (xa0 : PySem.W.nsIn K mainGlobals "InvalidText" = some (some (.ref X0))) (xb0 : K.lookup X0 = some (excClassObj xnm0 xq0 X0 xN0 xbs0 xbm0 true xsn0 xsb0 xab0 xcl0 xdd0 x00 x10 x20 x30 x50 "ValueError.__new__")) (xr0 : PySem.W.excTail [.type "ValueError", .type "Exception", .type "BaseException", .type "object"] xbm0 = true) (xs0 : PySem.W.findIn K (.ref X0) "__setattr__" = some (some (.builtin "object.__setattr__"))) (xu0 : PySem.W.subIn K (.ref X0) (.type "BaseException") = some true) (xy0 : PySem.W.typeIn K (.ref X0) = some (.type "type")) (xz0 : PySem.W.keepIn K (.ref X0) = true) (xc0 : PySem.W.exmAny K (.ref X0) [.ref aFew, .ref aMis] = some true) (xd0 : xfB K X0 = true) (xe0 : ((("code" : Str) :: fldNames).all fun y => decide (PySem.W.findIn K (.ref X0) y = some none)) = true) (xi0 : PySem.W.findIn K (.ref X0) "__init__" = some (some (.ref e0))) (xt0 : PySem.W.typeIn K (.ref e0) = some (.type "function")) (xl0 : K.lookup e0 = some ⟨ocx0, odx0, .func (PySem.W.fnOf "__init__" "InvalidText.__init__" (defArgs (mem 3 0)) (defBody (mem 3 0)) (defScope (mem 3 0)) .none kVx0 dcx0 pmx0 anx0 cdx0 ctx0), slx0⟩) (xo0 : PySem.W.codeIn K cdx0 "InvalidText.__init__" = true) (xk0 : PySem.W.keepIn K (.ref e0) = true) (lc : K.lookup cL = some ⟨eL, ddL, .fields vsL, slL⟩) (lv : vsL[11]? = some (.ref pL)) (lh : PySem.W.codeHdIn K cL pL = true) (ln : K.lookup pL = none) (aW : PySem.W.nsIn K mainGlobals "_law_why" = some (some (.ref gW))) (lW : K.lookup gW = some ⟨ocW, odW, .func (PySem.W.fnOf "_law_why" "_law_why" (defArgs (top 22)) (defBody (top 22)) (defScope (top 22)) .none kVW dcW pmW anW cdW ctW), slW⟩) (cW : PySem.W.codeIn K cdW "_law_why" = true) (kW : PySem.W.keepIn K (.ref gW) = true) (aF : PySem.W.nsIn K mainGlobals "_law_field" = some (some (.ref gF))) (lF : K.lookup gF = some ⟨ocF, odF, .func (PySem.W.fnOf "_law_field" "_law_field" (defArgs (top 21)) (defBody (top 21)) (defScope (top 21)) .none kVF dcF pmF anF cdF ctF), slF⟩) (cF : PySem.W.codeIn K cdF "_law_field" = true) (kF : PySem.W.keepIn K (.ref gF) = true) :
    ∃ fa c P, Facts T ft fa K mg 19 ∧ LamF fa K 19 "law" c P ∧ ∀ fd st N i, Fact T ft fa K mg (decide (19 = 19)) 19 i19 fd st N i → ∀ (s : Shared) (u : Value), BindsTo s fd ⟨[u], []⟩ [("_law_script", u)] := by
  refine ⟨⟨fun i => ([f0, f1, f2, f3, f4, f5, f6, f7, f8, f9, f10, f11, f12, f13, f14, f15, f16, f17, f18, f19] : List Addr).getD i f0, fun i => ([C0, X0, aFew] : List Addr).getD i aFew, aFew, aMis, [(pL, (("law" : Str) ++ ".<locals>." : Str) ++ "<lambda>")]⟩, cL, pL, ⟨?_, ?_, ?_, ?_, ?_, ?_⟩, ⟨⟨_, _, _, _, _, _, _, _, l19, rfl, lc, lv⟩, lh, ln, rfl⟩, fun fd st N i F => bd_of (st := (top 23)) X G a19 l19 (fun v => rfl) _ fd rfl ⟨st, N, i, F⟩⟩
  · intro fi I h
    match fi, h with
    | 0, h =>
      cases h
      have F := fd_mk (st := (top 6)) l0 c0 k0
      have B : Binds K _ ["one", "other"] [] := F.bindsN fun _ _ _ _ _ _ us hl => match us, hl with | [_, _], _ => rfl
      refine ⟨_, (top 6), n0, _, ⟨⟨_, _, F⟩, s0, rfl, rfl, rfl, K15.k0, fun _ => PySem.W.mg_of X G a0, fun _ => ?_, ?_, fun _ => B, (fun z => by cases z)⟩⟩
      · intro n ds hm
        simp only [i0, List.mem_cons, List.not_mem_nil, or_false, Prod.mk.injEq] at hm
        rcases hm with ⟨rfl, rfl⟩
        · exact dfl0 B
      · intro n ks asm hm
        cases hm
    | 1, h =>
      cases h
      have F := fd_mk (st := (top 14)) l1 c1 k1
      have B : Binds K _ ["text"] [] := F.bindsN fun _ _ _ _ _ _ us hl => match us, hl with | [_], _ => rfl
      refine ⟨_, (top 14), n1, _, ⟨⟨_, _, F⟩, s1, rfl, rfl, rfl, K15.k1, fun _ => PySem.W.mg_of X G a1, fun _ => ?_, ?_, fun _ => B, (fun z => by cases z)⟩⟩
      · intro n ds hm
        simp only [i1, List.mem_cons, List.not_mem_nil, or_false, Prod.mk.injEq] at hm
        rcases hm with ⟨rfl, rfl⟩
        · exact dfl0 B
      · intro n ks asm hm
        cases hm
    | 2, h =>
      cases h
      have F := fd_mk (st := (top 16)) l2 c2 k2
      have B : Binds K _ ["_law_script"] [] := F.bindsN fun _ _ _ _ _ _ us hl => match us, hl with | [_], _ => rfl
      refine ⟨_, (top 16), n2, _, ⟨⟨_, _, F⟩, s2, rfl, rfl, rfl, K15.k2, fun _ => PySem.W.mg_of X G a2, fun _ => ?_, ?_, fun _ => B, (fun z => by cases z)⟩⟩
      · intro n ds hm
        simp only [i2, List.mem_cons, List.not_mem_nil, or_false, Prod.mk.injEq] at hm
        rcases hm with ⟨rfl, rfl⟩
        · exact dfl0 B
      · intro n ks asm hm
        cases hm
    | 3, h =>
      cases h
      have F := fd_mk (st := (top 17)) l3 c3 k3
      have B : Binds K _ ["_law_src", "_law_many7"] [] := F.bindsN fun _ _ _ _ _ _ us hl => match us, hl with | [_, _], _ => rfl
      refine ⟨_, (top 17), n3, _, ⟨⟨_, _, F⟩, s3, rfl, rfl, rfl, K15.k3, fun _ => PySem.W.mg_of X G a3, fun _ => ?_, ?_, fun _ => B, (fun z => by cases z)⟩⟩
      · intro n ds hm
        simp only [i3, List.mem_cons, List.not_mem_nil, or_false, Prod.mk.injEq] at hm
        rcases hm with ⟨rfl, rfl⟩
        · exact dfl0 B
      · intro n ks asm hm
        cases hm
    | 4, h =>
      cases h
      have F := fd_mk (st := (top 18)) l4 c4 k4
      have B : Binds K _ ["_law_src", "_law_things7"] [] := F.bindsN fun _ _ _ _ _ _ us hl => match us, hl with | [_, _], _ => rfl
      refine ⟨_, (top 18), n4, _, ⟨⟨_, _, F⟩, s4, rfl, rfl, rfl, K15.k4, fun _ => PySem.W.mg_of X G a4, fun _ => ?_, ?_, fun _ => B, (fun z => by cases z)⟩⟩
      · intro n ds hm
        simp only [i4, List.mem_cons, List.not_mem_nil, or_false, Prod.mk.injEq] at hm
        rcases hm with ⟨rfl, rfl⟩
        · exact dfl0 B
      · intro n ks asm hm
        cases hm
    | 5, h =>
      cases h
      have F := fd_mk (st := (top 19)) l5 c5 k5
      have B : Binds K _ ["_law_src", "_law_most"] [] := F.bindsN fun _ _ _ _ _ _ us hl => match us, hl with | [_, _], _ => rfl
      refine ⟨_, (top 19), n5, _, ⟨⟨_, _, F⟩, s5, rfl, rfl, rfl, K15.k5, fun _ => PySem.W.mg_of X G a5, fun _ => ?_, ?_, fun _ => B, (fun z => by cases z)⟩⟩
      · intro n ds hm
        simp only [i5, List.mem_cons, List.not_mem_nil, or_false, Prod.mk.injEq] at hm
        rcases hm with ⟨rfl, rfl⟩
        · exact dfl0 B
      · intro n ks asm hm
        cases hm
    | 6, h =>
      cases h
      have F := fd_mk (st := (top 20)) l6 c6 k6
      have B : Binds K _ ["_law_found", "_law_due"] [] := F.bindsN fun _ _ _ _ _ _ us hl => match us, hl with | [_, _], _ => rfl
      refine ⟨_, (top 20), n6, _, ⟨⟨_, _, F⟩, s6, rfl, rfl, rfl, K15.k6, fun _ => PySem.W.mg_of X G a6, fun _ => ?_, ?_, fun _ => B, (fun z => by cases z)⟩⟩
      · intro n ds hm
        simp only [i6, List.mem_cons, List.not_mem_nil, or_false, Prod.mk.injEq] at hm
        rcases hm with ⟨rfl, rfl⟩
        · exact dfl0 B
      · intro n ks asm hm
        cases hm
    | 7, h =>
      cases h
      have F := fd_mk (st := (mem 13 0)) l7 c7 k7
      have B : Binds K _ ["self", "text"] [] := F.bindsN fun _ _ _ _ _ _ us hl => match us, hl with | [_, _], _ => rfl
      refine ⟨_, (mem 13 0), n7, _, ⟨⟨_, _, F⟩, s7, rfl, rfl, rfl, K15.k7, (fun z => by cases z), fun _ => ?_, ?_, fun _ => B, (fun z => by cases z)⟩⟩
      · intro n ds hm
        simp only [i7, List.mem_cons, List.not_mem_nil, or_false, Prod.mk.injEq] at hm
        rcases hm with ⟨rfl, rfl⟩
        · exact dfl0 B
      · intro n ks asm hm
        cases hm
    | 8, h =>
      cases h
      have F := fd_mk (st := (mem 13 1)) l8 c8 k8
      have B : Binds K _ ["self"] [] := F.bindsN fun _ _ _ _ _ _ us hl => match us, hl with | [_], _ => rfl
      refine ⟨_, (mem 13 1), n8, _, ⟨⟨_, _, F⟩, s8, rfl, rfl, rfl, K15.k8, (fun z => by cases z), fun _ => ?_, ?_, fun _ => B, (fun z => by cases z)⟩⟩
      · intro n ds hm
        simp only [i8, List.mem_cons, List.not_mem_nil, or_false, Prod.mk.injEq] at hm
        rcases hm with ⟨rfl, rfl⟩
        · exact dfl0 B
      · intro n ks asm hm
        cases hm
    | 9, h =>
      cases h
      have F := fd_mk (st := (mem 13 2)) l9 c9 k9
      have B : Binds K _ ["self"] [] := F.bindsN fun _ _ _ _ _ _ us hl => match us, hl with | [_], _ => rfl
      refine ⟨_, (mem 13 2), n9, _, ⟨⟨_, _, F⟩, s9, rfl, rfl, rfl, K15.k9, (fun z => by cases z), fun _ => ?_, ?_, fun _ => B, (fun z => by cases z)⟩⟩
      · intro n ds hm
        simp only [i9, List.mem_cons, List.not_mem_nil, or_false, Prod.mk.injEq] at hm
        rcases hm with ⟨rfl, rfl⟩
        · exact dfl0 B
      · intro n ks asm hm
        cases hm
    | 10, h =>
      cases h
      have F := fd_mk (st := (mem 13 3)) l10 c10 k10
      have B : Binds K _ ["self", "words"] [] := F.bindsN fun _ _ _ _ _ _ us hl => match us, hl with | [_, _], _ => rfl
      refine ⟨_, (mem 13 3), n10, _, ⟨⟨_, _, F⟩, s10, rfl, rfl, rfl, K15.k10, (fun z => by cases z), fun _ => ?_, ?_, fun _ => B, (fun z => by cases z)⟩⟩
      · intro n ds hm
        simp only [i10, List.mem_cons, List.not_mem_nil, or_false, Prod.mk.injEq] at hm
        rcases hm with ⟨rfl, rfl⟩
        · exact dfl0 B
      · intro n ks asm hm
        cases hm
    | 11, h =>
      cases h
      have F := fd_mk (st := (mem 13 4)) l11 c11 k11
      have B : Binds K _ ["self", "signs", "most"] [] := F.bindsN fun _ _ _ _ _ _ us hl => match us, hl with | [_, _, _], _ => rfl
      refine ⟨_, (mem 13 4), n11, _, ⟨⟨_, _, F⟩, s11, rfl, rfl, rfl, K15.k11, (fun z => by cases z), fun _ => ?_, ?_, fun _ => B, (fun z => by cases z)⟩⟩
      · intro n ds hm
        simp only [i11, List.mem_cons, List.not_mem_nil, or_false, Prod.mk.injEq] at hm
        rcases hm with ⟨rfl, rfl⟩
        · exact dfl0 B
      · intro n ks asm hm
        cases hm
    | 12, h =>
      cases h
      have F := fd_mk (st := (mem 13 5)) l12 c12 k12
      have B : Binds K _ ["self"] [] := F.bindsN fun _ _ _ _ _ _ us hl => match us, hl with | [_], _ => rfl
      refine ⟨_, (mem 13 5), n12, _, ⟨⟨_, _, F⟩, s12, rfl, rfl, rfl, K15.k12, (fun z => by cases z), fun _ => ?_, ?_, fun _ => B, (fun z => by cases z)⟩⟩
      · intro n ds hm
        simp only [i12, List.mem_cons, List.not_mem_nil, or_false, Prod.mk.injEq] at hm
        rcases hm with ⟨rfl, rfl⟩
        · exact dfl0 B
      · intro n ks asm hm
        cases hm
    | 13, h =>
      cases h
      have F := fd_mk (st := (mem 13 6)) l13 c13 k13
      have B : Binds K _ ["self"] [] := F.bindsN fun _ _ _ _ _ _ us hl => match us, hl with | [_], _ => rfl
      refine ⟨_, (mem 13 6), n13, _, ⟨⟨_, _, F⟩, s13, rfl, rfl, rfl, K15.k13, (fun z => by cases z), fun _ => ?_, ?_, fun _ => B, (fun z => by cases z)⟩⟩
      · intro n ds hm
        simp only [i13, List.mem_cons, List.not_mem_nil, or_false, Prod.mk.injEq] at hm
        rcases hm with ⟨rfl, rfl⟩
        · exact dfl0 B
      · intro n ks asm hm
        cases hm
    | 14, h =>
      cases h
      have F := fd_mk (st := (mem 13 7)) l14 c14 k14
      have B : Binds K _ ["self"] [] := F.bindsN fun _ _ _ _ _ _ us hl => match us, hl with | [_], _ => rfl
      refine ⟨_, (mem 13 7), n14, _, ⟨⟨_, _, F⟩, s14, rfl, rfl, rfl, K15.k14, (fun z => by cases z), fun _ => ?_, ?_, fun _ => B, (fun z => by cases z)⟩⟩
      · intro n ds hm
        simp only [i14, List.mem_cons, List.not_mem_nil, or_false, Prod.mk.injEq] at hm
        rcases hm with ⟨rfl, rfl⟩
        · exact dfl0 B
      · intro n ks asm hm
        cases hm
    | 15, h =>
      cases h
      have F := fd_mk (st := (mem 13 8)) l15 c15 k15
      have B : Binds K _ ["self"] [] := F.bindsN fun _ _ _ _ _ _ us hl => match us, hl with | [_], _ => rfl
      refine ⟨_, (mem 13 8), n15, _, ⟨⟨_, _, F⟩, s15, rfl, rfl, rfl, K15.k15, (fun z => by cases z), fun _ => ?_, ?_, fun _ => B, (fun z => by cases z)⟩⟩
      · intro n ds hm
        simp only [i15, List.mem_cons, List.not_mem_nil, or_false, Prod.mk.injEq] at hm
        rcases hm with ⟨rfl, rfl⟩
        · exact dfl0 B
      · intro n ks asm hm
        cases hm
    | 16, h =>
      cases h
      have F := fd_mk (st := (mem 13 9)) l16 c16 k16
      have B : Binds K _ ["self"] [] := F.bindsN fun _ _ _ _ _ _ us hl => match us, hl with | [_], _ => rfl
      refine ⟨_, (mem 13 9), n16, _, ⟨⟨_, _, F⟩, s16, rfl, rfl, rfl, K15.k16, (fun z => by cases z), fun _ => ?_, ?_, fun _ => B, (fun z => by cases z)⟩⟩
      · intro n ds hm
        simp only [i16, List.mem_cons, List.not_mem_nil, or_false, Prod.mk.injEq] at hm
        rcases hm with ⟨rfl, rfl⟩
        · exact dfl0 B
      · intro n ks asm hm
        cases hm
    | 17, h =>
      cases h
      have F := fd_mk (st := (mem 13 10)) l17 c17 k17
      have B : Binds K _ ["self"] [] := F.bindsN fun _ _ _ _ _ _ us hl => match us, hl with | [_], _ => rfl
      refine ⟨_, (mem 13 10), n17, _, ⟨⟨_, _, F⟩, s17, rfl, rfl, rfl, K15.k17, (fun z => by cases z), fun _ => ?_, ?_, fun _ => B, (fun z => by cases z)⟩⟩
      · intro n ds hm
        simp only [i17, List.mem_cons, List.not_mem_nil, or_false, Prod.mk.injEq] at hm
        rcases hm with ⟨rfl, rfl⟩
        · exact dfl0 B
      · intro n ks asm hm
        cases hm
    | 18, h =>
      cases h
      have F := fd_mk (st := (mem 13 11)) l18 c18 k18
      have B : Binds K _ ["self"] [] := F.bindsN fun _ _ _ _ _ _ us hl => match us, hl with | [_], _ => rfl
      refine ⟨_, (mem 13 11), n18, _, ⟨⟨_, _, F⟩, s18, rfl, rfl, rfl, K15.k18, (fun z => by cases z), fun _ => ?_, ?_, fun _ => B, (fun z => by cases z)⟩⟩
      · intro n ds hm
        simp only [i18, List.mem_cons, List.not_mem_nil, or_false, Prod.mk.injEq] at hm
        rcases hm with ⟨rfl, rfl⟩
        · exact dfl0 B
      · intro n ks asm hm
        cases hm
    | 19, h =>
      cases h
      have F := fd_mk (st := (top 23)) l19 c19 k19
      have B : Binds K _ ["_law_script"] [] := F.bindsN fun _ _ _ _ _ _ us hl => match us, hl with | [_], _ => rfl
      refine ⟨_, (top 23), n19, _, ⟨⟨_, _, F⟩, s19, rfl, rfl, rfl, K15.k19, fun _ => PySem.W.mg_of X G a19, fun _ => ?_, ?_, fun _ => B, (fun z => by cases z)⟩⟩
      · intro n ds hm
        simp only [i19, List.mem_cons, List.not_mem_nil, or_false, Prod.mk.injEq] at hm
        rcases hm with ⟨rfl, rfl⟩
        · exact dfl0 B
      · intro n ks asm hm
        cases hm
    | n + 20, h => cases h
  · intro x hx
    simp only [T, List.mem_cons, List.not_mem_nil, or_false] at hx
    rcases hx with rfl | rfl | rfl | rfl | rfl | rfl | rfl | rfl | rfl | rfl | rfl
    · exact PySem.W.mg_none_of X G z0
    · exact PySem.W.mg_none_of X G z1
    · exact PySem.W.mg_none_of X G z2
    · exact PySem.W.mg_none_of X G z3
    · exact PySem.W.mg_none_of X G z4
    · exact PySem.W.mg_none_of X G z5
    · exact PySem.W.mg_none_of X G z6
    · exact PySem.W.mg_none_of X G z7
    · exact PySem.W.mg_none_of X G z8
    · exact PySem.W.mg_none_of X G z9
    · exact PySem.W.mg_none_of X G z10
  · intro x d hx
    simp only [T, List.mem_cons, List.not_mem_nil, or_false, Prod.mk.injEq] at hx
    rcases hx with ⟨rfl, rfl⟩ | ⟨rfl, rfl⟩ | ⟨rfl, rfl⟩ | ⟨rfl, rfl⟩ | ⟨rfl, rfl⟩
    · exact ⟨_, .str "0123456789", PySem.W.mg_of X G yk0, ⟨_, rfl⟩, fun _ => rfl⟩
    · exact ⟨_, .int 9, PySem.W.mg_of X G yk1, ⟨_, rfl⟩, fun _ => rfl⟩
    · exact ⟨_, .int 8, PySem.W.mg_of X G yk2, ⟨_, rfl⟩, fun _ => rfl⟩
    · exact ⟨_, .int 10, PySem.W.mg_of X G yk3, ⟨_, rfl⟩, fun _ => rfl⟩
    · exact ⟨_, .str "abcdefghijklmnopqrstuvwxyz", PySem.W.mg_of X G yk4, ⟨_, rfl⟩, fun _ => rfl⟩
  · intro ci c h
    match ci, h with
    | 0, h =>
      cases h
      refine ⟨PySem.W.mg_of X G aC0, ⟨pg0, hd0, po0, sa0⟩, fun fi hf => ?_, fun m fi hm => ?_, fun n hn => ?_, fun n d hm => ?_, fun m fi hm => ?_⟩
      · cases hf
        exact ⟨mk0, in0, fi0, kp0⟩
      · simp only [y0, List.mem_cons, List.not_mem_nil, or_false, Prod.mk.injEq] at hm
        rcases hm with ⟨rfl, rfl⟩ | ⟨rfl, rfl⟩ | ⟨rfl, rfl⟩ | ⟨rfl, rfl⟩ | ⟨rfl, rfl⟩ | ⟨rfl, rfl⟩ | ⟨rfl, rfl⟩ | ⟨rfl, rfl⟩ | ⟨rfl, rfl⟩ | ⟨rfl, rfl⟩ | ⟨rfl, rfl⟩
        · exact ⟨me0_0, mf0_0, k9⟩
        · exact ⟨me0_1, mf0_1, k8⟩
        · exact ⟨me0_2, mf0_2, k18⟩
        · exact ⟨me0_3, mf0_3, k13⟩
        · exact ⟨me0_4, mf0_4, k17⟩
        · exact ⟨me0_5, mf0_5, k12⟩
        · exact ⟨me0_6, mf0_6, k14⟩
        · exact ⟨me0_7, mf0_7, k11⟩
        · exact ⟨me0_8, mf0_8, k15⟩
        · exact ⟨me0_9, mf0_9, k16⟩
        · exact ⟨me0_10, mf0_10, k10⟩
      · simp only [y0, List.mem_cons, List.not_mem_nil, or_false] at hn
        rcases hn with rfl | rfl | rfl
        · exact fl0_0
        · exact fl0_1
        · exact fl0_2
      · cases hm
      · cases hm
    | n + 1, h => cases h
  · intro e he
    simp only [T, List.mem_cons, List.not_mem_nil, or_false] at he
    rcases he with rfl
    · refine ⟨PySem.W.mg_of X G xa0, ⟨⟨_, _, _, _, _, _, _, _, _, _, _, _, _, _, _, _, _, _, _, xb_VE, xb0, xr0⟩, xs0, xu0, xy0, xz0⟩, ⟨xc0, xfB_ok xd0, of_decide_eq_true (List.all_eq_true.mp xe0 _ (List.mem_cons_self ..)), fun y hy => of_decide_eq_true (List.all_eq_true.mp xe0 y (List.mem_cons_of_mem _ hy))⟩, fun attr ha => ?_⟩
      cases ha
      have F := fd_mk (st := (mem 3 0)) xl0 xo0 xk0
      exact ⟨e0, _, (mem 3 0), "self", "position", _, _, xi0, xt0, F, xS0, xB0, of_decide_eq_true (List.all_eq_true.mp xe0 _ (by decide)), F.bindsN fun _ _ _ _ _ _ us hl => match us, hl with | [_, _], _ => rfl, by decide⟩
  · intro x hx
    cases hx
    have FW := fd_mk (st := top 22) lW cW kW
    have FF := fd_mk (st := top 21) lF cF kF
    exact ⟨gW, defArgs (top 22), defBody (top 22), defScope (top 22), _, _, _, _, _, _, _, _, _, _, "_law_ask7", "_law_told", "_law_e", "FewError", "Missing", "_law_field", "_law_e", PySem.W.mg_of X G aW, kW, lW, cW,
      FW.bindsN fun _ _ _ _ _ _ us hl => match us, hl with | [_], _ => rfl, whyS, whyB, ⟨⟨gF, defArgs (top 21), defBody (top 21), defScope (top 21), _, _, _, _, _, _, _, _, _, _, lF, cF, fldS, FF.bindsN fun _ _ _ _ _ _ us hl => match us, hl with | [_], _ => rfl, PySem.W.mg_of X G aF, kF, fldB⟩, by decide, by decide, by decide⟩,
      by decide +kernel, by decide +kernel, by decide +kernel, by decide +kernel, by decide +kernel, by decide +kernel, PySem.W.mg_of X G qFew, PySem.W.mg_of X G qMis, by decide⟩
end K15

set_option pp.maxSteps 400
set_option pp.deepTerms false
open PySem PySem.W PyProof.Rows
set_option maxRecDepth 100000 in
set_option maxHeartbeats 0 in
theorem PySem.Challenge.cw_fewtell_k15_texts_that_are_no_programs_holds : PySem.Challenge.rw_fewtell_k15_texts_that_are_no_programs.Holds := by
  w_on; o_law; k_head; (case hw => w_witness2)
  k_fill
  refine Fw.walk (l := PySem.Challenge.rw_fewtell_k15_texts_that_are_no_programs) (T := K15.T) (ft := K15.ft) (wf := 10000000000) (k := 40) (li := 19) (I := K15.i19) (x := "_law_script") rfl rfl ⟨rfl, by decide, by decide⟩ (by decide +kernel) (fun w h Y => by first | exact PySem.W.km_in_of Y | exact PySem.W.kIn_of Y) rfl rfl rfl rfl (fun ns _ => K15.law_true (Nat.le_refl _) ns) ?F
  case F =>
    intro w mg h KX G
    refine' K15.facts KX G ?aC0 ?pg0 ?hd0 ?po0 ?sa0 ?mk0 ?in0 ?fi0 ?kp0 ?me0_0 ?mf0_0 ?me0_1 ?mf0_1 ?me0_2 ?mf0_2 ?me0_3 ?mf0_3 ?me0_4 ?mf0_4 ?me0_5 ?mf0_5 ?me0_6 ?mf0_6 ?me0_7 ?mf0_7 ?me0_8 ?mf0_8 ?me0_9 ?mf0_9 ?me0_10 ?mf0_10 ?fl0_0 ?fl0_1 ?fl0_2 ?a0 ?l0 ?c0 ?k0 ?a1 ?l1 ?c1 ?k1 ?a2 ?l2 ?c2 ?k2 ?a3 ?l3 ?c3 ?k3 ?a4 ?l4 ?c4 ?k4 ?a5 ?l5 ?c5 ?k5 ?a6 ?l6 ?c6 ?k6 ?l7 ?c7 ?k7 ?l8 ?c8 ?k8 ?l9 ?c9 ?k9 ?l10 ?c10 ?k10 ?l11 ?c11 ?k11 ?l12 ?c12 ?k12 ?l13 ?c13 ?k13 ?l14 ?c14 ?k14 ?l15 ?c15 ?k15 ?l16 ?c16 ?k16 ?l17 ?c17 ?k17 ?l18 ?c18 ?k18 ?a19 ?l19 ?c19 ?k19 ?z0 ?z1 ?z2 ?z3 ?z4 ?z5 ?z6 ?z7 ?z8 ?z9 ?z10 ?yk0 ?yk1 ?yk2 ?yk3 ?yk4 ?qFew ?qMis ?xa0 ?xb0 ?xr0 ?xs0 ?xu0 ?xy0 ?xz0 ?xc0 ?xd0 ?xe0 ?xi0 ?xt0 ?xl0 ?xo0 ?xk0 ?lc ?lv ?lh ?ln ?aW ?lW ?cW ?kW ?aF ?lF ?cF ?kF
    (case aC0 => k_is); (case pg0 => k_is); (case hd0 => k_is); (case po0 => k_is); (case sa0 => k_is); (case mk0 => k_is)
    (case in0 => k_is); (case fi0 => k_is); (case kp0 => k_is); (case me0_0 => k_is); (case mf0_0 => k_is); (case me0_1 => k_is)
    (case mf0_1 => k_is); (case me0_2 => k_is); (case mf0_2 => k_is); (case me0_3 => k_is); (case mf0_3 => k_is); (case me0_4 => k_is)
    (case mf0_4 => k_is); (case me0_5 => k_is); (case mf0_5 => k_is); (case me0_6 => k_is); (case mf0_6 => k_is); (case me0_7 => k_is)
    (case mf0_7 => k_is); (case me0_8 => k_is); (case mf0_8 => k_is); (case me0_9 => k_is); (case mf0_9 => k_is); (case me0_10 => k_is)
    (case mf0_10 => k_is); (case fl0_0 => k_is); (case fl0_1 => k_is); (case fl0_2 => k_is); (case a0 => k_is); (case l0 => k_is)
    (case c0 => k_is); (case k0 => k_is); (case a1 => k_is); (case l1 => k_is); (case c1 => k_is); (case k1 => k_is)
    (case a2 => k_is); (case l2 => k_is); (case c2 => k_is); (case k2 => k_is); (case a3 => k_is); (case l3 => k_is)
    (case c3 => k_is); (case k3 => k_is); (case a4 => k_is); (case l4 => k_is); (case c4 => k_is); (case k4 => k_is)
    (case a5 => k_is); (case l5 => k_is); (case c5 => k_is); (case k5 => k_is); (case a6 => k_is); (case l6 => k_is)
    (case c6 => k_is); (case k6 => k_is); (case l7 => k_is); (case c7 => k_is); (case k7 => k_is); (case l8 => k_is)
    (case c8 => k_is); (case k8 => k_is); (case l9 => k_is); (case c9 => k_is); (case k9 => k_is); (case l10 => k_is)
    (case c10 => k_is); (case k10 => k_is); (case l11 => k_is); (case c11 => k_is); (case k11 => k_is); (case l12 => k_is)
    (case c12 => k_is); (case k12 => k_is); (case l13 => k_is); (case c13 => k_is); (case k13 => k_is); (case l14 => k_is)
    (case c14 => k_is); (case k14 => k_is); (case l15 => k_is); (case c15 => k_is); (case k15 => k_is); (case l16 => k_is)
    (case c16 => k_is); (case k16 => k_is); (case l17 => k_is); (case c17 => k_is); (case k17 => k_is); (case l18 => k_is)
    (case c18 => k_is); (case k18 => k_is); (case a19 => k_is); (case l19 => k_is); (case c19 => k_is); (case k19 => k_is)
    (case z0 => k_is); (case z1 => k_is); (case z2 => k_is); (case z3 => k_is); (case z4 => k_is); (case z5 => k_is)
    (case z6 => k_is); (case z7 => k_is); (case z8 => k_is); (case z9 => k_is); (case z10 => k_is); (case yk0 => k_is)
    (case yk1 => k_is); (case yk2 => k_is); (case yk3 => k_is); (case yk4 => k_is); (case qFew => k_is); (case qMis => k_is)
    (case xa0 => k_is); (case xb0 => k_is); (case xr0 => rfl); (case xs0 => k_is); (case xu0 => k_is); (case xy0 => k_is)
    (case xz0 => k_is); (case xc0 => first | kernel_rfl | rfl); (case xd0 => first | kernel_rfl | rfl); (case xe0 => first | kernel_rfl | rfl); (case xi0 => k_is); (case xt0 => k_is)
    (case xl0 => k_is); (case xo0 => k_is); (case xk0 => k_is); (case lc => k_is); (case lv => rfl); (case lh => first | kernel_rfl | rfl)
    (case ln => first | kernel_rfl | rfl); (case aW => k_is); (case lW => k_is); (case cW => k_is); (case kW => k_is); (case aF => k_is)
    (case lF => k_is); (case cF => k_is); (case kF => k_is)
