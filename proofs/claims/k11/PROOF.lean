import PyProof.Rows.All
import Wide.All
import OpenK.AllK
import Wide.FinOn
import HandS.ForMost
import HandS.Wide
import HandS.Deep
import HandS.IsInst
import HandS.FStr
import HandS.Flow
import HandS.Conv
import HandS.Zip
import HandS.Defaults
import HandS.TupAny
import HandS.SortKw
import KE.DataMinMax
import PySem.Challenge.RW_fewtell_k11_measures_of_programs
set_option Elab.async false
set_option linter.all false
set_option maxRecDepth 100000
set_option maxHeartbeats 4000000
/-! Values without addresses, a small store of what may change, and what both stand for in the layer's heap. -/
namespace Fw
open PySem PySem.Spec PyProof.Rows L2

inductive Ty where
  | tNone | tBool | tInt | tStr | tTup | tLst
  deriving DecidableEq, Inhabited
def Ty.nm : Ty → String
  | .tNone => "NoneType" | .tBool => "bool" | .tInt => "int" | .tStr => "str" | .tTup => "tuple" | .tLst => "list"
/-- data that never changes -/
inductive D where
  | non | bl (b : Bool) | int (i : Int) | str (x : Str) | tup (ds : List D) | lst (ds : List D) | scr (ns : List Int) | fn (i : Nat) | ty (n : Ty)
  deriving Inhabited
/-- a value: data, or a place of the store -/
inductive A where
  | p (d : D) | m (i : Nat)
/-- what stands in the store -/
inductive MO where
  | lst (xs : List D) | dead
abbrev Store := List MO
/-- where the store's things stand; E: lists that are being made, which nobody knows yet -/
structure Bk where
  l : List Addr
  E : List Addr
structure Z where
  B : Bk
  S : Store
  H : Hp

def live (B : Bk) (S : Store) (a : Addr) : Prop := (∃ (i : Nat) (xs : List D), B.l[i]? = some a ∧ S[i]? = some (MO.lst xs)) ∨ a ∈ B.E
/-- what is fixed: the written part, where the defs stand -/
structure G where
  K : PySem.W.Frag
  fa : Nat → Addr

/-- a list of the written part -/
def KL (K : PySem.W.Frag) (a : Addr) (xs : List V) : Prop :=
  ∃ (o : Obj) (its : Array Value) (n : Nat), K.lookup a = some o ∧ o.cls = .type "list" ∧ o.dict = none ∧ o.data = .seq its n ∧ its.size ≤ sizeLine ∧ Vals xs its.toList
mutual
def Dat (g : G) (z : Z) : D → V → Prop
  | .non, v => v = .non
  | .bl b, v => v = .bl b
  | .int i, v => v = .int i
  | .str x, v => v = .str x
  | .tup ds, v => ∃ a vs, v = .ref a ∧ SqT g.K z.H a vs ∧ DatL g z ds vs
  | .lst ds, v => ∃ a vs, v = .ref a ∧ z.H a = some (.lst vs) ∧ ¬ live z.B z.S a ∧ DatL g z ds vs
  | .scr ns, v => ∃ a, v = .ref a ∧ ((∃ o, z.H a = some (.frz o (.lst (ns.map V.int)))) ∨ KL g.K a (ns.map V.int))
  | .fn i, v => v = .ref (g.fa i)
  | .ty n, v => v = .ty n.nm
def DatL (g : G) (z : Z) : List D → List V → Prop
  | [], vs => vs = []
  | d :: ds, vs => ∃ v r, vs = v :: r ∧ Dat g z d v ∧ DatL g z ds r
end
def DatA (g : G) (z : Z) : A → V → Prop
  | .p d, v => Dat g z d v
  | .m i, v => ∃ a, z.B.l[i]? = some a ∧ v = .ref a
def DatAL (g : G) (z : Z) : List A → List V → Prop
  | [], vs => vs = []
  | d :: ds, vs => ∃ v r, vs = v :: r ∧ DatA g z d v ∧ DatAL g z ds r

section
variable {g : G} {z z' z'' : Z}
mutual
theorem Dat.mono (ht : ∀ a vs, SqT g.K z.H a vs → SqT g.K z'.H a vs) (hl : ∀ a vs, z.H a = some (.lst vs) → ¬ live z.B z.S a → z'.H a = some (.lst vs) ∧ ¬ live z'.B z'.S a) (hf : ∀ a o u, z.H a = some (.frz o u) → z'.H a = some (.frz o u)) :
    ∀ (d : D) (v : V), Dat g z d v → Dat g z' d v
  | .non, _, h => h
  | .bl _, _, h => h
  | .int _, _, h => h
  | .str _, _, h => h
  | .tup ds, _, h => by
    obtain ⟨a, vs, e, t, l⟩ := h
    exact ⟨a, vs, e, ht a vs t, Dat.monoL ht hl hf ds vs l⟩
  | .lst ds, _, h => by
    obtain ⟨a, vs, e, t, n, l⟩ := h
    exact ⟨a, vs, e, (hl a vs t n).1, (hl a vs t n).2, Dat.monoL ht hl hf ds vs l⟩
  | .scr ns, _, h => by
    obtain ⟨a, e, t⟩ := h
    refine ⟨a, e, ?_⟩
    rcases t with ⟨o, t⟩ | t
    · exact .inl ⟨o, hf a o _ t⟩
    · exact .inr t
  | .fn _, _, h => h
  | .ty _, _, h => h
theorem Dat.monoL (ht : ∀ a vs, SqT g.K z.H a vs → SqT g.K z'.H a vs) (hl : ∀ a vs, z.H a = some (.lst vs) → ¬ live z.B z.S a → z'.H a = some (.lst vs) ∧ ¬ live z'.B z'.S a) (hf : ∀ a o u, z.H a = some (.frz o u) → z'.H a = some (.frz o u)) :
    ∀ (ds : List D) (vs : List V), DatL g z ds vs → DatL g z' ds vs
  | [], _, h => h
  | d :: ds, _, h => by
    obtain ⟨v, r, e, a, b⟩ := h
    exact ⟨v, r, e, Dat.mono ht hl hf d v a, Dat.monoL ht hl hf ds r b⟩
end

/-- what was known is known -/
structure Stab (g : G) (z z' : Z) : Prop where
  dat : ∀ d v, Dat g z d v → Dat g z' d v
  pre : ∀ (i : Nat) a, z.B.l[i]? = some a → z'.B.l[i]? = some a
  same : z'.B.E = z.B.E
  keep : ∀ a ∈ z.B.E, z'.H a = z.H a
theorem Stab.refl : Stab g z z := ⟨fun _ _ h => h, fun _ _ h => h, rfl, fun _ _ => rfl⟩
theorem Stab.trans (a : Stab g z z') (b : Stab g z' z'') : Stab g z z'' := ⟨fun d v h => b.dat d v (a.dat d v h), fun i c h => b.pre i c (a.pre i c h), b.same.trans a.same, fun c h => (b.keep c (by rw [a.same]; exact h)).trans (a.keep c h)⟩
theorem Stab.datL (s : Stab g z z') : ∀ {ds : List D} {vs : List V}, DatL g z ds vs → DatL g z' ds vs
  | [], _, h => h
  | d :: ds, _, ⟨v, r, e, a, b⟩ => ⟨v, r, e, s.dat d v a, s.datL b⟩
theorem Stab.datA (s : Stab g z z') : ∀ {x : A} {v : V}, DatA g z x v → DatA g z' x v
  | .p d, v, h => s.dat d v h
  | .m i, v, ⟨a, h, e⟩ => ⟨a, s.pre i a h, e⟩
theorem Stab.datAL (s : Stab g z z') : ∀ {ds : List A} {vs : List V}, DatAL g z ds vs → DatAL g z' ds vs
  | [], _, h => h
  | d :: ds, _, ⟨v, r, e, a, b⟩ => ⟨v, r, e, s.datA a, s.datAL b⟩

structure StoreOk (g : G) (z : Z) : Prop where
  len : z.B.l.length = z.S.length
  nd : z.B.l.Nodup
  ob : ∀ (i : Nat) a xs, z.B.l[i]? = some a → z.S[i]? = some (.lst xs) → ∃ vs, z.H a = some (.lst vs) ∧ DatL g z xs vs
  has : ∀ (i : Nat) a, z.B.l[i]? = some a → ∃ o, z.H a = some o
  ex : ∀ a ∈ z.B.E, (∃ o, z.H a = some o) ∧ a ∉ z.B.l

/-! ### the steps -/
theorem sqT_upd {K : PySem.W.Frag} {H : Hp} {p a : Addr} {o : HO} {vs : List V} (hp : H p = none) (h : SqT K H a vs) : SqT K (upd H p o) a vs := by
  rcases h with (h | ⟨u, h⟩) | h
  · exact .inl (.inl (by rw [upd_ne (ne_of_none h hp)]; exact h))
  · exact .inl (.inr ⟨u, by rw [upd_ne (ne_of_none h hp)]; exact h⟩)
  · exact .inr h
theorem at_upd {H : Hp} {p a : Addr} {o u : HO} (hp : H p = none) (h : H a = some u) : upd H p o a = some u := by
  rw [upd_ne (ne_of_none h hp)]
  exact h
/-- a new thing that never changes -/
theorem StoreOk.exne {B : Bk} {S : Store} {H : Hp} {p : Addr} (k : StoreOk g ⟨B, S, H⟩) (hp : H p = none) : ∀ a ∈ B.E, a ≠ p := fun a ha => by
  obtain ⟨⟨o, e⟩, _⟩ := k.ex a ha
  exact ne_of_none (show H a = some o from e) hp
theorem Stab.new {B : Bk} {S : Store} {H : Hp} {p : Addr} {o : HO} (k : StoreOk g ⟨B, S, H⟩) (hp : H p = none) : Stab g ⟨B, S, H⟩ ⟨B, S, upd H p o⟩ :=
  ⟨Dat.mono (fun a vs h => sqT_upd hp h) (fun a vs h n => ⟨at_upd hp h, n⟩) fun a o u h => at_upd hp h, fun _ _ h => h, rfl, fun a ha => upd_ne (k.exne hp a ha)⟩
theorem StoreOk.new {B : Bk} {S : Store} {H : Hp} {p : Addr} {o : HO} (k : StoreOk g ⟨B, S, H⟩) (hp : H p = none) : StoreOk g ⟨B, S, upd H p o⟩ where
  len := k.len
  nd := k.nd
  ob := fun i a xs h1 h2 => by
    obtain ⟨vs, e, d⟩ := k.ob i a xs h1 h2
    exact ⟨vs, by show upd H p o a = _; rw [upd_ne (ne_of_none e hp)]; exact e, (Stab.new k hp).datL d⟩
  has := fun i a h => by
    obtain ⟨u, e⟩ := k.has i a h
    exact ⟨u, by show upd H p o a = _; rw [upd_ne (ne_of_none e hp)]; exact e⟩
  ex := fun a ha => ⟨by
    obtain ⟨u, e⟩ := (k.ex a ha).1
    exact ⟨u, by show upd H p o a = _; rw [upd_ne (ne_of_none e hp)]; exact e⟩, (k.ex a ha).2⟩
theorem StoreOk.fresh {B : Bk} {S : Store} {H : Hp} {p : Addr} (k : StoreOk g ⟨B, S, H⟩) (hp : H p = none) : ¬ live B S p := fun h => by
  rcases h with ⟨i, xs, h1, h2⟩ | h
  · obtain ⟨u, e⟩ := k.has i p h1
    have e' : H p = some u := e
    rw [hp] at e'
    cases e'
  · exact k.exne hp p h rfl
theorem StoreOk.notIn {B : Bk} {S : Store} {H : Hp} {p : Addr} (k : StoreOk g ⟨B, S, H⟩) (hp : H p = none) : p ∉ B.l := fun h => by
  obtain ⟨i, hi⟩ := List.getElem?_of_mem h
  obtain ⟨u, e⟩ := k.has i p hi
  have e' : H p = some u := e
  rw [hp] at e'
  cases e'
/-- one more thing in the store -/
def Bk.add (B : Bk) (p : Addr) : Bk := ⟨B.l ++ [p], B.E⟩
theorem live_app {B : Bk} {S : Store} {p a : Addr} {o : MO} (hl : B.l.length = S.length) (hn : a ≠ p) (h : live (B.add p) (S ++ [o]) a) : live B S a := by
  rcases h with ⟨i, xs, h1, h2⟩ | h
  · refine .inl ?_
    have h1 : (B.l ++ [p])[i]? = some a := h1
    by_cases hi : i < B.l.length
    · rw [List.getElem?_append_left hi] at h1
      rw [List.getElem?_append_left (by omega)] at h2
      exact ⟨i, xs, h1, h2⟩
    · rw [List.getElem?_append_right (by omega)] at h1
      have : i - B.l.length = 0 := by
        by_cases z : i - B.l.length = 0
        · exact z
        · rw [List.getElem?_eq_none (by simp; omega)] at h1; cases h1
      rw [this] at h1
      have e : p = a := Option.some.inj h1
      exact absurd e.symm hn
  · exact .inr h
/-- a new thing of the store -/
theorem Stab.alloc {B : Bk} {S : Store} {H : Hp} {p : Addr} {u : HO} {o : MO} (k : StoreOk g ⟨B, S, H⟩) (hp : H p = none) : Stab g ⟨B, S, H⟩ ⟨B.add p, S ++ [o], upd H p u⟩ :=
  ⟨Dat.mono (fun a vs h => sqT_upd hp h) (fun a vs h n => ⟨at_upd hp h, fun q => n (live_app k.len (ne_of_none h hp) q)⟩) fun a o u h => at_upd hp h, fun i a h => by
    have h' : B.l[i]? = some a := h
    show (B.l ++ [p])[i]? = some a
    rw [List.getElem?_append_left (List.getElem?_eq_some_iff.mp h').1]
    exact h', rfl, fun a ha => upd_ne (k.exne hp a ha)⟩
theorem StoreOk.alloc {B : Bk} {S : Store} {H : Hp} {p : Addr} {xs : List D} {vs : List V} (k : StoreOk g ⟨B, S, H⟩) (hp : H p = none) (d : DatL g ⟨B, S, H⟩ xs vs) : StoreOk g ⟨B.add p, S ++ [.lst xs], upd H p (.lst vs)⟩ := by
  have hl : B.l.length = S.length := k.len
  have st : Stab g ⟨B, S, H⟩ ⟨B.add p, S ++ [.lst xs], upd H p (.lst vs)⟩ := Stab.alloc k hp
  refine ⟨by show (B.l ++ [p]).length = (S ++ [MO.lst xs]).length; simp [hl], ?_, fun i a ys h1 h2 => ?_, fun i a h1 => ?_, fun a ha => ?_⟩
  · show (B.l ++ [p]).Nodup
    rw [List.nodup_append]
    refine ⟨k.nd, by simp, fun a ha b hb => ?_⟩
    rw [List.mem_singleton] at hb
    intro e
    subst hb
    subst e
    exact k.notIn hp ha
  · have h1' : (B.l ++ [p])[i]? = some a := h1
    have h2' : (S ++ [MO.lst xs])[i]? = some (.lst ys) := h2
    by_cases hi : i < B.l.length
    · rw [List.getElem?_append_left hi] at h1'
      rw [List.getElem?_append_left (by omega)] at h2'
      obtain ⟨ws, e, q⟩ := k.ob i a ys h1' h2'
      exact ⟨ws, by show upd H p _ a = _; rw [upd_ne (ne_of_none e hp)]; exact e, st.datL q⟩
    · have hi' : i = B.l.length := by
        have := (List.getElem?_eq_some_iff.mp h1').1
        rw [List.length_append, List.length_singleton] at this
        omega
      subst hi'
      rw [List.getElem?_append_right (Nat.le_refl _), Nat.sub_self] at h1'
      rw [List.getElem?_append_right (by omega), hl, Nat.sub_self] at h2'
      have e1 : p = a := Option.some.inj h1'
      have e2 : MO.lst xs = .lst ys := Option.some.inj h2'
      cases e2
      subst e1
      exact ⟨vs, upd_same, st.datL d⟩
  · have h1' : (B.l ++ [p])[i]? = some a := h1
    by_cases hi : i < B.l.length
    · rw [List.getElem?_append_left hi] at h1'
      obtain ⟨u, e⟩ := k.has i a h1'
      exact ⟨u, by show upd H p _ a = _; rw [upd_ne (ne_of_none e hp)]; exact e⟩
    · have hi' : i = B.l.length := by
        have := (List.getElem?_eq_some_iff.mp h1').1
        rw [List.length_append, List.length_singleton] at this
        omega
      subst hi'
      rw [List.getElem?_append_right (Nat.le_refl _), Nat.sub_self] at h1'
      have e1 : p = a := Option.some.inj h1'
      subst e1
      exact ⟨_, upd_same⟩
  · have ha : a ∈ B.E := ha
    obtain ⟨⟨u, e⟩, n⟩ := k.ex a ha
    refine ⟨⟨u, by show upd H p _ a = _; rw [upd_ne (ne_of_none e hp)]; exact e⟩, fun q => ?_⟩
    have q : a ∈ B.l ++ [p] := q
    rcases List.mem_append.mp q with q | q
    · exact n q
    · exact k.exne hp a ha (List.mem_singleton.mp q)
theorem nodup_at {α : Type} {l : List α} (hN : l.Nodup) {i j : Nat} {x : α} (a : l[i]? = some x) (b : l[j]? = some x) : i = j := by
  obtain ⟨h1, e1⟩ := List.getElem?_eq_some_iff.mp a
  obtain ⟨h2, e2⟩ := List.getElem?_eq_some_iff.mp b
  exact (List.getElem_inj hN).mp (e1.trans e2.symm)
/-- a thing of the store is changed -/
theorem Stab.put {B : Bk} {S : Store} {H : Hp} {i : Nat} {a : Addr} {xs ys : List D} {vs : List V} (k : StoreOk g ⟨B, S, H⟩) (hb : B.l[i]? = some a) (hs : S[i]? = some (.lst xs)) : Stab g ⟨B, S, H⟩ ⟨B, S.set i (.lst ys), upd H a (.lst vs)⟩ := by
  obtain ⟨ws, e, _⟩ := k.ob i a xs hb hs
  have e : H a = some (.lst ws) := e
  refine ⟨Dat.mono (fun b us h => ?_) (fun b us h n => ?_) fun b o u h => (by show upd H a _ b = _; rw [upd_ne (ne_of (show H b = _ from h) e (by intro z; cases z))]; exact h), fun _ _ h => h, rfl, fun b hb' => upd_ne fun z => (k.ex b hb').2 (by rw [z]; exact List.mem_of_getElem? hb)⟩
  · rcases h with (h | ⟨u, h⟩) | h
    · have h : H b = _ := h
      exact .inl (.inl (by show upd H a _ b = _; rw [upd_ne (ne_of h e (by intro z; cases z))]; exact h))
    · have h : H b = _ := h
      exact .inl (.inr ⟨u, by show upd H a _ b = _; rw [upd_ne (ne_of h e (by intro z; cases z))]; exact h⟩)
    · exact .inr h
  · have nb : b ≠ a := fun z => n (.inl ⟨i, xs, by rw [z]; exact hb, hs⟩)
    refine ⟨?_, fun q => ?_⟩
    · show upd H a _ b = _
      rw [upd_ne nb]
      exact h
    · rcases q with ⟨j, zs, h1, h2⟩ | q
      · have h2 : (S.set i (.lst ys))[j]? = some (.lst zs) := h2
        by_cases hij : i = j
        · subst hij
          have h1 : B.l[i]? = some b := h1
          rw [hb] at h1
          exact nb (Option.some.inj h1).symm
        · rw [List.getElem?_set_ne hij] at h2
          exact n (.inl ⟨j, zs, h1, h2⟩)
      · exact n (.inr q)
theorem StoreOk.put {B : Bk} {S : Store} {H : Hp} {i : Nat} {a : Addr} {xs ys : List D} {vs : List V} (k : StoreOk g ⟨B, S, H⟩) (hb : B.l[i]? = some a) (hs : S[i]? = some (.lst xs)) (d : DatL g ⟨B, S, H⟩ ys vs) :
    StoreOk g ⟨B, S.set i (.lst ys), upd H a (.lst vs)⟩ := by
  have st : Stab g ⟨B, S, H⟩ ⟨B, S.set i (.lst ys), upd H a (.lst vs)⟩ := Stab.put k hb hs
  refine ⟨by show B.l.length = (S.set i _).length; rw [List.length_set]; exact k.len, k.nd, fun j b zs h1 h2 => ?_, fun j b h1 => ?_, fun b hb' => ⟨?_, (k.ex b hb').2⟩⟩
  rotate_right
  · obtain ⟨u, e⟩ := (k.ex b hb').1
    exact ⟨u, by show upd H a _ b = _; rw [upd_ne fun z => (k.ex b hb').2 (by rw [z]; exact List.mem_of_getElem? hb)]; exact e⟩
  · have h1 : B.l[j]? = some b := h1
    have h2 : (S.set i (.lst ys))[j]? = some (.lst zs) := h2
    by_cases hij : i = j
    · subst hij
      rw [hb] at h1
      cases h1
      rw [List.getElem?_set_self (List.getElem?_eq_some_iff.mp hs).1] at h2
      cases h2
      exact ⟨vs, upd_same, st.datL d⟩
    · rw [List.getElem?_set_ne hij] at h2
      obtain ⟨ws, e, q⟩ := k.ob j b zs h1 h2
      have nb : b ≠ a := fun z => hij (nodup_at k.nd hb (by rw [← z]; exact h1))
      exact ⟨ws, by show upd H a _ b = _; rw [upd_ne nb]; exact e, st.datL q⟩
  · have h1 : B.l[j]? = some b := h1
    by_cases nb : b = a
    · subst nb
      exact ⟨_, upd_same⟩
    · obtain ⟨u, e⟩ := k.has j b h1
      exact ⟨u, by show upd H a _ b = _; rw [upd_ne nb]; exact e⟩
theorem live_dead {B : Bk} {S : Store} {i : Nat} {a : Addr} (h : live B (S.set i .dead) a) : live B S a := by
  rcases h with ⟨j, xs, h1, h2⟩ | h
  · by_cases hij : i = j
    · subst hij
      by_cases hl : i < S.length
      · rw [List.getElem?_set_self hl] at h2
        cases h2
      · rw [List.getElem?_eq_none (by rw [List.length_set]; omega)] at h2
        cases h2
    · rw [List.getElem?_set_ne hij] at h2
      exact .inl ⟨j, xs, h1, h2⟩
  · exact .inr h
/-- a thing of the store is data from now on -/
theorem Stab.freeze {B : Bk} {S : Store} {H : Hp} {i : Nat} : Stab g ⟨B, S, H⟩ ⟨B, S.set i .dead, H⟩ :=
  ⟨Dat.mono (fun _ _ h => h) (fun _ _ h n => ⟨h, fun q => n (live_dead q)⟩) fun _ _ _ h => h, fun _ _ h => h, rfl, fun _ _ => rfl⟩
theorem StoreOk.freeze {B : Bk} {S : Store} {H : Hp} {i : Nat} (k : StoreOk g ⟨B, S, H⟩) : StoreOk g ⟨B, S.set i .dead, H⟩ := by
  refine ⟨by show B.l.length = (S.set i _).length; rw [List.length_set]; exact k.len, k.nd, fun j b zs h1 h2 => ?_, k.has, k.ex⟩
  have h2 : (S.set i .dead)[j]? = some (.lst zs) := h2
  by_cases hij : i = j
  · subst hij
    by_cases hl : i < S.length
    · rw [List.getElem?_set_self hl] at h2
      cases h2
    · rw [List.getElem?_eq_none (by rw [List.length_set]; omega)] at h2
      cases h2
  · rw [List.getElem?_set_ne hij] at h2
    obtain ⟨ws, e, q⟩ := k.ob j b zs h1 h2
    exact ⟨ws, e, Stab.freeze.datL q⟩
theorem freeze_dead {B : Bk} {S : Store} {H : Hp} {i : Nat} {a : Addr} (k : StoreOk g ⟨B, S, H⟩) (hb : B.l[i]? = some a) : ¬ live B (S.set i .dead) a := fun h => by
  rcases h with ⟨j, xs, h1, h2⟩ | h
  · have hij : i = j := nodup_at k.nd hb h1
    subst hij
    by_cases hl : i < S.length
    · rw [List.getElem?_set_self hl] at h2
      cases h2
    · rw [List.getElem?_eq_none (by rw [List.length_set]; omega)] at h2
      cases h2
  · exact (k.ex a h).2 (List.mem_of_getElem? hb)
/-- what is dead behind the n-th place is forgotten -/
def allDead (S : Store) : Bool := S.all fun o => match o with
  | .dead => true
  | .lst _ => false
def Bk.take (B : Bk) (n : Nat) : Bk := ⟨B.l.take n, B.E⟩
theorem live_take {B : Bk} {S : Store} {n : Nat} {a : Addr} (h : live (B.take n) (S.take n) a) : live B S a := by
  rcases h with ⟨i, xs, h1, h2⟩ | h
  · have h1 : (B.l.take n)[i]? = some a := h1
    have hi : i < n := by
      have := (List.getElem?_eq_some_iff.mp h1).1
      rw [List.length_take] at this
      omega
    rw [List.getElem?_take_of_lt hi] at h1 h2
    exact .inl ⟨i, xs, h1, h2⟩
  · exact .inr h
theorem Stab.cut {B : Bk} {S : Store} {H : Hp} {n : Nat} {z0 : Z} (s : Stab g z0 ⟨B, S, H⟩) (hn : z0.B.l.length ≤ n) : Stab g z0 ⟨B.take n, S.take n, H⟩ :=
  ⟨fun d v h => Dat.mono (z := ⟨B, S, H⟩) (z' := ⟨B.take n, S.take n, H⟩) (fun _ _ h => h) (fun _ _ h m => ⟨h, fun q => m (live_take (n := n) q)⟩) (fun _ _ _ h => h) d v (s.dat d v h), fun i a h => by
    have hi : i < n := Nat.lt_of_lt_of_le (List.getElem?_eq_some_iff.mp h).1 hn
    show (B.l.take n)[i]? = some a
    rw [List.getElem?_take_of_lt hi]
    exact s.pre i a h, s.same, s.keep⟩
theorem StoreOk.cut {B : Bk} {S : Store} {H : Hp} {n : Nat} (k : StoreOk g ⟨B, S, H⟩) : StoreOk g ⟨B.take n, S.take n, H⟩ := by
  have mn : ∀ d v, Dat g ⟨B, S, H⟩ d v → Dat g ⟨B.take n, S.take n, H⟩ d v := Dat.mono (z := ⟨B, S, H⟩) (z' := ⟨B.take n, S.take n, H⟩) (fun _ _ h => h) (fun _ _ h m => ⟨h, fun q => m (live_take (n := n) q)⟩) (fun _ _ _ h => h)
  have mnL : ∀ (ds : List D) (vs : List V), DatL g ⟨B, S, H⟩ ds vs → DatL g ⟨B.take n, S.take n, H⟩ ds vs := Dat.monoL (z := ⟨B, S, H⟩) (z' := ⟨B.take n, S.take n, H⟩) (fun _ _ h => h) (fun _ _ h m => ⟨h, fun q => m (live_take (n := n) q)⟩) (fun _ _ _ h => h)
  have lt : ∀ {α : Type} {l : List α} {i : Nat} {a : α}, (l.take n)[i]? = some a → l[i]? = some a := fun {α l i a} h => by
    have hi : i < n := by
      have := (List.getElem?_eq_some_iff.mp h).1
      rw [List.length_take] at this
      omega
    rw [List.getElem?_take_of_lt hi] at h
    exact h
  refine ⟨by show (B.l.take n).length = (S.take n).length; rw [List.length_take, List.length_take, show B.l.length = S.length from k.len], ?_, fun i a xs h1 h2 => ?_, fun i a h1 => k.has i a (lt (show (B.l.take n)[i]? = some a from h1)), fun a ha => ⟨(k.ex a ha).1, fun q => (k.ex a ha).2 (List.mem_of_mem_take q)⟩⟩
  · exact k.nd.sublist (List.take_sublist _ _)
  · obtain ⟨vs, e, d⟩ := k.ob i a xs (lt (show (B.l.take n)[i]? = some a from h1)) (lt (show (S.take n)[i]? = some _ from h2))
    exact ⟨vs, e, mnL _ _ d⟩
theorem Dat.cut {B : Bk} {S : Store} {H : Hp} {n : Nat} {d : D} {v : V} (h : Dat g ⟨B, S, H⟩ d v) : Dat g ⟨B.take n, S.take n, H⟩ d v :=
  Dat.mono (z := ⟨B, S, H⟩) (z' := ⟨B.take n, S.take n, H⟩) (fun _ _ h => h) (fun _ _ h m => ⟨h, fun q => m (live_take (n := n) q)⟩) (fun _ _ _ h => h) d v h
end
end Fw

/-! The small language: its codes and its evaluator. -/
namespace Fw
open PySem PySem.Spec PyProof.Rows L2

abbrev Env := List (Option A)
structure Exn where
  c : Nat
  fs : List (Str × D)
inductive Rz (α : Type) where
  | ok (a : α) (S : Store) | ex (e : Exn) (S : Store) | bad
def Rz.bind {α β : Type} (r : Rz α) (f : α → Store → Rz β) : Rz β := match r with
  | .ok a S => f a S
  | .ex e S => .ex e S
  | .bad => .bad
theorem Rz.bind_ok {α β : Type} {r : Rz α} {f : α → Store → Rz β} {b : β} {S' : Store} (h : r.bind f = .ok b S') : ∃ a S1, r = .ok a S1 ∧ f a S1 = .ok b S' := by
  cases r with
  | ok a S => exact ⟨a, S, rfl, h⟩
  | ex e S => cases h
  | bad => cases h
def Rz.of {α : Type} (o : Option α) (S : Store) : Rz α := match o with
  | some a => .ok a S
  | none => .bad
@[simp] theorem Rz.of_some {α : Type} (a : α) (S : Store) : Rz.of (some a) S = .ok a S := rfl
@[simp] theorem Rz.of_none {α : Type} (S : Store) : (Rz.of none S : Rz α) = .bad := rfl
theorem Rz.of_ok {α : Type} {o : Option α} {S S' : Store} {a : α} (h : Rz.of o S = .ok a S') : o = some a ∧ S' = S := by
  cases o with
  | none => cases h
  | some b => cases h; exact ⟨rfl, rfl⟩

def LIM : Nat := 100000
theorem lim_line : LIM ≤ sizeLine := by decide

/-! ### data -/
mutual
def D.py : D → Option PyData
  | .non => some .none
  | .bl b => some (.bool b)
  | .int i => some (.int i)
  | .str x => some (.str x)
  | .tup ds => (D.pyL ds).map .tuple
  | .lst ds => (D.pyL ds).map .list
  | .scr _ => none
  | .fn _ => none
  | .ty _ => none
def D.pyL : List D → Option (List PyData)
  | [] => some []
  | d :: ds => match d.py, D.pyL ds with
    | some a, some b => some (a :: b)
    | _, _ => none
end
/-- == -/
def eqF (d e : D) : Option Bool := match d.py, e.py with
  | some a, some b => if SeqAt.shaped a && SeqAt.shaped b then some (PyData.eqv a b) else none
  | _, _ => none
def D.ints : List D → Option (List Int)
  | [] => some []
  | .int i :: ds => (D.ints ds).map (i :: ·)
  | _ :: _ => none
def D.bls : List D → Option (List Bool)
  | [] => some []
  | .bl i :: ds => (D.bls ds).map (i :: ·)
  | _ :: _ => none
def D.strs : List D → Option (List Str)
  | [] => some []
  | .str i :: ds => (D.strs ds).map (i :: ·)
  | _ :: _ => none
def mulOk (i j : Int) : Bool := decide ((-(2 ^ 64) < i ∧ i < 2 ^ 64) ∨ (-(2 ^ 64) < j ∧ j < 2 ^ 64) ∨ i.natAbs.log2 + j.natAbs.log2 < 1000000)
def divOk (j : Int) : Bool := decide (j ≠ 0 ∧ j.natAbs.log2 < 9000)
def powOk (i j : Int) : Bool := decide (0 ≤ j ∧ j ≤ 1000000 ∧ i.natAbs < 2 ^ 64)
def intStr (i : Int) : Str := toString i

/-! ### operators -/
def binF (op : Operator) (x y : D) : Option D := match op, x, y with
  | .Add, .int i, .int j => some (.int (i + j))
  | .Sub, .int i, .int j => some (.int (i - j))
  | .Mult, .int i, .int j => if mulOk i j then some (.int (i * j)) else none
  | .FloorDiv, .int i, .int j => if divOk j then some (.int (i.fdiv j)) else none
  | .Mod, .int i, .int j => if j = 0 then none else some (.int (i.fmod j))
  | .Pow, .int i, .int j => if powOk i j then some (.int (i ^ j.toNat)) else none
  | .Add, .str i, .str j => if i.length + j.length ≤ LIM then some (.str (i ++ j)) else none
  | .Add, .tup xs, .tup ys => if xs.length + ys.length ≤ LIM then some (.tup (xs ++ ys)) else none
  | .Add, .lst xs, .lst ys => if xs.length + ys.length ≤ LIM then some (.lst (xs ++ ys)) else none
  | .Mult, .lst xs, .int k => if k < 1000000 ∧ -1000000 < k ∧ xs.length * k.toNat ≤ LIM then some (.lst (List.replicate k.toNat xs).flatten) else none
  | _, _, _ => none
def cmpF (op : CmpOp) (x y : D) : Option Bool := match op, x, y with
  | .Eq, x, y => eqF x y
  | .NotEq, x, y => (eqF x y).map (! ·)
  | .Lt, .int i, .int j => some (decide (i < j))
  | .LtE, .int i, .int j => some (decide (i ≤ j))
  | .Gt, .int i, .int j => some (decide (j < i))
  | .GtE, .int i, .int j => some (decide (j ≤ i))
  | .Lt, .str i, .str j => some (decide (i.cps.toList < j.cps.toList))
  | .LtE, .str i, .str j => some (!decide (j.cps.toList < i.cps.toList))
  | .Gt, .str i, .str j => some (decide (j.cps.toList < i.cps.toList))
  | .GtE, .str i, .str j => some (!decide (i.cps.toList < j.cps.toList))
  | .In, .str i, .str j => signIn i j
  | .NotIn, .str i, .str j => (signIn i j).map (! ·)
  | .In, x, .lst ds => (inF x ds)
  | .NotIn, x, .lst ds => (inF x ds).map (! ·)
  | .In, x, .tup ds => (inFT x ds)
  | .NotIn, x, .tup ds => (inFT x ds).map (! ·)
  | _, _, _ => none
where
  signIn (i j : Str) : Option Bool := match i.cps.toList with
    | [c] => some (decide (c ∈ j.cps.toList))
    | _ => none
  inF (x : D) (ds : List D) : Option Bool := match x.py, D.pyL ds with
    | some a, some bs => if SeqAt.shaped a && SeqAt.shaped (.list bs) then some (bs.any fun z => PyData.eqv z a) else none
    | _, _ => none
  inFT (x : D) (ds : List D) : Option Bool := match x, D.strs ds with
    | .str a, some bs => some (bs.any fun z => z == a)
    | _, _ => none
def isF (x : A) : Bool := match x with
  | .p .non => true
  | _ => false
def cmpA (op : CmpOp) (x y : A) : Option Bool := match op, x, y with
  | .Is, x, .p .non => some (isF x)
  | .IsNot, x, .p .non => some (!isF x)
  | op, .p x, .p y => cmpF op x y
  | _, _, _ => none
def truF (x : D) : Option Bool := match x with
  | .non => some false
  | .bl b => some b
  | .int i => some (i != 0)
  | .str y => if y.length ≤ LIM then some ((y.length : Int) != 0) else none
  | .tup ds => some (!ds.isEmpty)
  | .lst ds => some (!ds.isEmpty)
  | _ => none
def subF (x y : A) (S : Store) : Option A := match x, y with
  | .p (.lst ds), .p (.int i) => (atI ds i).map .p
  | .p (.tup ds), .p (.int i) => (atI ds i).map .p
  | .p (.str z), .p (.int i) => if z.length ≤ LIM then (atI z.cps.toList i).map fun c => .p (.str ⟨#[c]⟩) else none
  | .m j, .p (.int i) => match S[j]? with
    | some (.lst xs) => (atI xs i).map .p
    | _ => none
  | _, _ => none
def cutD {α : Type} (xs : List α) (lo hi : Option Int) : List α := (xs.drop (HT.sIx xs.length 0 lo)).take (HT.sIx xs.length xs.length hi - HT.sIx xs.length 0 lo)
def slcF (x : D) (lo hi : Option Int) : Option D := match x with
  | .lst ds => some (.lst (cutD ds lo hi))
  | .scr ns => some (.lst (cutD (ns.map .int) lo hi))
  | .tup ds => some (.tup (cutD ds lo hi))
  | .str z => if z.length ≤ LIM then some (.str (cutS z lo hi)) else none
  | _ => none

/-! ### calls of what is built in -/
inductive Blt where
  | len | abs | int | str | isi | all | any | sum | max | min | list | tuple
  deriving DecidableEq
def tyF (x : A) (S : Store) : Option Ty := match x with
  | .p .non => some .tNone
  | .p (.bl _) => some .tBool
  | .p (.int _) => some .tInt
  | .p (.str _) => some .tStr
  | .p (.tup _) => some .tTup
  | .p (.lst _) => some .tLst
  | .p (.scr _) => some .tLst
  | .m j => match S[j]? with
    | some (.lst _) => some .tLst
    | _ => none
  | _ => none
def isaF (t c : Ty) : Bool := t == c || (t == .tBool && c == .tInt)
def D.tys : List D → Option (List Ty)
  | [] => some []
  | .ty i :: ds => (D.tys ds).map (i :: ·)
  | _ :: _ => none
def maxI : List Int → Int
  | [] => 0
  | [x] => x
  | x :: xs => max x (maxI xs)
def minI : List Int → Int
  | [] => 0
  | [x] => x
  | x :: xs => min x (minI xs)
def maxDf (d : Int) : List Int → Int
  | [] => d
  | n :: ns => ns.foldl max n
def bltF (b : Blt) (xs : List A) (S : Store) : Option A := match b, xs with
  | .len, [.p (.lst ds)] => some (.p (.int ds.length))
  | .len, [.p (.tup ds)] => some (.p (.int ds.length))
  | .len, [.p (.scr ds)] => some (.p (.int ds.length))
  | .len, [.p (.str x)] => if x.length ≤ LIM then some (.p (.int x.length)) else none
  | .len, [.m j] => match S[j]? with
    | some (.lst ys) => some (.p (.int ys.length))
    | _ => none
  | .abs, [.p (.int i)] => some (.p (.int (if i < 0 then -i else i)))
  | .int, [.p (.int i)] => some (.p (.int i))
  | .int, [.p (.bl b)] => some (.p (.int (if b then 1 else 0)))
  | .str, [.p (.int i)] => if i.natAbs.log2 < 1920 then some (.p (.str (intStr i))) else none
  | .isi, [x, .p (.ty c)] => (tyF x S).map fun t => .p (.bl (isaF t c))
  | .all, [.p (.lst ds)] => (D.bls ds).map fun bs => .p (.bl (bs.all id))
  | .any, [.p (.lst ds)] => (D.bls ds).map fun bs => .p (.bl (bs.any id))
  | .sum, [.p (.lst ds)] => (D.ints ds).map fun ns => .p (.int ns.sum)
  | .max, [.p (.lst ds)] => match D.ints ds with
    | some (n :: ns) => some (.p (.int (maxI (n :: ns))))
    | _ => none
  | .min, [.p (.lst ds)] => match D.ints ds with
    | some (n :: ns) => some (.p (.int (minI (n :: ns))))
    | _ => none
  | .list, [.p (.lst ds)] => some (.p (.lst ds))
  | .list, [.p (.tup ds)] => some (.p (.lst ds))
  | .tuple, [.p (.lst ds)] => some (.p (.tup ds))
  | .tuple, [.p (.tup ds)] => some (.p (.tup ds))
  | _, _ => none
def maxF (x y : A) : Option A := match x, y with
  | .p (.lst ds), .p (.int d) => (D.ints ds).map fun ns => .p (.int (maxDf d ns))
  | _, _ => none
def fmtF (x : A) : Option A := match x with
  | .p (.str y) => if y.length ≤ LIM then some (.p (.str y)) else none
  | .p (.int i) => if i.natAbs.log2 < 1920 then some (.p (.str (intStr i))) else none
  | _ => none
/-- the texts one behind the other -/
def catF : Str → List A → Option Str
  | acc, [] => some acc
  | acc, .p (.str y) :: r => if acc.length + y.length ≤ LIM then catF (acc ++ y) r else none
  | _, _ :: _ => none

/-! ### what is walked -/
inductive ItK where
  | seq | range1 | range2 | zip | enum
  deriving DecidableEq
def walkF (k : ItK) (xs : List A) : Option (List A) := match k, xs with
  | .seq, [.p (.lst ds)] => some (ds.map .p)
  | .seq, [.p (.tup ds)] => some (ds.map .p)
  | .seq, [.p (.str x)] => some (x.cps.toList.map fun c => .p (.str ⟨#[c]⟩))
  | .range1, [.p (.int j)] => if -(2 ^ 62) ≤ j ∧ j < 2 ^ 62 then some ((List.range j.toNat).map fun i => .p (.int (0 + (i : Nat)))) else none
  | .range2, [.p (.int i), .p (.int j)] => if -(2 ^ 62) ≤ i ∧ i < 2 ^ 62 ∧ -(2 ^ 62) ≤ j ∧ j < 2 ^ 62 then some ((List.range (j - i).toNat).map fun n => .p (.int (i + (n : Nat)))) else none
  | .zip, [.p (.lst ds), .p (.lst es)] => some (List.zipWith (fun a b => .p (.tup [a, b])) ds es)
  | .zip, [.p (.tup ds), .p (.tup es)] => some (List.zipWith (fun a b => .p (.tup [a, b])) ds es)
  | .enum, [.p (.lst ds)] => some (ds.zipIdx.map fun (d, i) => .p (.tup [.int (i : Nat), d]))
  | _, _ => none
/-- where a value goes -/
inductive Tg where
  | nm (i : Nat) | tp (ts : List Tg)
mutual
def bindT : Tg → A → Env → Option Env
  | .nm i, x, ρ => some (ρ.set i (some x))
  | .tp ts, .p (.tup ds), ρ => bindTs ts ds ρ
  | .tp _, _, _ => none
def bindTs : List Tg → List D → Env → Option Env
  | [], [], ρ => some ρ
  | t :: ts, d :: ds, ρ => match bindT t (.p d) ρ with
    | some ρ1 => bindTs ts ds ρ1
    | none => none
  | _, _, _ => none
end
def wipeE (ρ : Env) : List Nat → Env
  | [] => ρ
  | v :: vs => (wipeE ρ vs).set v none

/-! ### methods -/
inductive Mth where
  | append | join
  deriving DecidableEq
def mthF (m : Mth) (o : A) (xs : List A) (S : Store) : Rz A := match m, o, xs with
  | .append, .m j, [.p x] => match S[j]? with
    | some (.lst ys) => if ys.length < LIM then .ok (.p .non) (S.set j (.lst (ys ++ [x]))) else .bad
    | _ => .bad
  | .join, .p (.str a), [.p (.lst ds)] => match D.strs ds with
    | some ys => if (ys.map (·.length)).sum + ys.length * a.length ≤ LIM then .ok (.p (.str (Txt.join a ys))) S else .bad
    | none => .bad
  | _, _, _ => .bad

/-- the method is the one that is meant -/
def mthTy (m : Mth) (o : A) (S : Store) : Bool := match m, o with
  | .append, .m j => match S[j]? with
    | some (.lst _) => true
    | _ => false
  | .join, .p (.str _) => true
  | _, _ => false
/-! ### codes -/
inductive C where
  | var (i : Nat) | cst (d : D)
  | bin (op : Operator) (a b : C) | neg (a : C)
  | cmp (op : CmpOp) (a b : C) | chain (op op' : CmpOp) (a b c : C)
  | and (a b : C) | or (a b : C) | not (a : C) | ite (t a b : C)
  | tup (cs : List C) | lst (cs : List C) | lstM (cs : List C)
  | sub (a b : C) | slcL (a lo : C) | slcH (a hi : C) | slcB (a lo hi : C)
  | call (f : Nat) (cs : List C) (ds : List D)
  | callK (f : Nat) (cs : List C) (ks : List C) (asm : List (Nat ⊕ D))
  | blt (b : Blt) (cs : List C)
  | mth (m : Mth) (o : C) (cs : List C)
  | comp (k : ItK) (its : List C) (t : Tg) (own : List Nat) (cond : Option C) (e : C)
  | fstr (cs : List C) | fmt (c : C) | isiT (a : C) (cs : List Ty) | maxD (a d : C)
def asmF (asm : List (Nat ⊕ D)) (xs : List A) : Option (List A) := match asm with
  | [] => some []
  | .inl i :: r => match xs[i]?, asmF r xs with
    | some x, some ys => some (x :: ys)
    | _, _ => none
  | .inr d :: r => (asmF r xs).map (.p d :: ·)
def datas : List A → Option (List D)
  | [] => some []
  | .p d :: xs => (datas xs).map (d :: ·)
  | .m _ :: _ => none
/-- the value as a test, or as it is -/
def tst (t : Bool) (x : A) (S : Store) : Rz A := if t then (match x with
  | .p d => Rz.of ((truF d).map fun b => .p (.bl b)) S
  | .m _ => .bad) else .ok x S
def compL (bnd : A → Option Env) (cond : Env → Store → Rz A) (elt : Env → Store → Rz A) : List A → Store → Rz (List D)
  | [], S => .ok [] S
  | x :: xs, S => match bnd x with
    | none => .bad
    | some ρ => (cond ρ S).bind fun b S1 => match b with
      | .p (.bl true) => (elt ρ S1).bind fun y S2 => match y with
        | .p d => (compL bnd cond elt xs S2).bind fun ds S3 => .ok (d :: ds) S3
        | .m _ => .bad
      | .p (.bl false) => compL bnd cond elt xs S1
      | _ => .bad
mutual
def ev (cl : Nat → List A → Store → Rz A) (t : Bool) : C → Env → Store → Rz A
  | .var i, ρ, S => match ρ[i]? with
    | some (some x) => tst t x S
    | _ => .bad
  | .cst d, _, S => tst t (.p d) S
  | .bin op a b, ρ, S => (ev cl false a ρ S).bind fun x S1 => (ev cl false b ρ S1).bind fun y S2 => match x, y with
    | .p x, .p y => (Rz.of (binF op x y) S2).bind fun z S3 => tst t (.p z) S3
    | _, _ => .bad
  | .neg a, ρ, S => (ev cl false a ρ S).bind fun x S1 => match x with
    | .p (.int i) => tst t (.p (.int (-i))) S1
    | _ => .bad
  | .cmp op a b, ρ, S => (ev cl false a ρ S).bind fun x S1 => (ev cl false b ρ S1).bind fun y S2 => (Rz.of (cmpA op x y) S2).bind fun z S3 => .ok (.p (.bl z)) S3
  | .chain op op' a b c, ρ, S => (ev cl false a ρ S).bind fun x S1 => (ev cl false b ρ S1).bind fun y S2 => (Rz.of (cmpA op x y) S2).bind fun z S3 =>
      if z then (ev cl false c ρ S3).bind fun w S4 => (Rz.of (cmpA op' y w) S4).bind fun z S5 => .ok (.p (.bl z)) S5 else .ok (.p (.bl false)) S3
  | .and a b, ρ, S => if t then (ev cl true a ρ S).bind fun x S1 => match x with
      | .p (.bl true) => ev cl true b ρ S1
      | .p (.bl false) => .ok (.p (.bl false)) S1
      | _ => .bad
    else (ev cl false a ρ S).bind fun x S1 => (tst true x S1).bind fun y S1 => match y with
      | .p (.bl true) => ev cl false b ρ S1
      | .p (.bl false) => .ok x S1
      | _ => .bad
  | .or a b, ρ, S => if t then (ev cl true a ρ S).bind fun x S1 => match x with
      | .p (.bl false) => ev cl true b ρ S1
      | .p (.bl true) => .ok (.p (.bl true)) S1
      | _ => .bad
    else (ev cl false a ρ S).bind fun x S1 => (tst true x S1).bind fun y S1 => match y with
      | .p (.bl false) => ev cl false b ρ S1
      | .p (.bl true) => .ok x S1
      | _ => .bad
  | .not a, ρ, S => (ev cl true a ρ S).bind fun x S1 => match x with
      | .p (.bl b) => .ok (.p (.bl (!b))) S1
      | _ => .bad
  | .ite c a b, ρ, S => (ev cl true c ρ S).bind fun x S1 => match x with
      | .p (.bl true) => ev cl t a ρ S1
      | .p (.bl false) => ev cl t b ρ S1
      | _ => .bad
  | .tup cs, ρ, S => (evs cl cs ρ S).bind fun xs S1 => match datas xs with
      | some ds => if ds.length ≤ LIM then tst t (.p (.tup ds)) S1 else .bad
      | none => .bad
  | .lst cs, ρ, S => (evs cl cs ρ S).bind fun xs S1 => match datas xs with
      | some ds => if ds.length ≤ LIM then tst t (.p (.lst ds)) S1 else .bad
      | none => .bad
  | .lstM cs, ρ, S => (evs cl cs ρ S).bind fun xs S1 => match datas xs with
      | some ds => if ds.length ≤ LIM && !t then .ok (.m S1.length) (S1 ++ [.lst ds]) else .bad
      | none => .bad
  | .sub a b, ρ, S => (ev cl false a ρ S).bind fun x S1 => (ev cl false b ρ S1).bind fun y S2 => (Rz.of (subF x y S2) S2).bind fun z S3 => tst t z S3
  | .slcL a lo, ρ, S => (ev cl false a ρ S).bind fun x S1 => (ev cl false lo ρ S1).bind fun l S2 => match x, l with
      | .p x, .p (.int l) => (Rz.of (slcF x (some l) none) S2).bind fun z S3 => tst t (.p z) S3
      | _, _ => .bad
  | .slcH a hi, ρ, S => (ev cl false a ρ S).bind fun x S1 => (ev cl false hi ρ S1).bind fun l S2 => match x, l with
      | .p x, .p (.int l) => (Rz.of (slcF x none (some l)) S2).bind fun z S3 => tst t (.p z) S3
      | _, _ => .bad
  | .slcB a lo hi, ρ, S => (ev cl false a ρ S).bind fun x S1 => (ev cl false lo ρ S1).bind fun l S2 => (ev cl false hi ρ S2).bind fun h S3 => match x, l, h with
      | .p x, .p (.int l), .p (.int h) => (Rz.of (slcF x (some l) (some h)) S3).bind fun z S4 => tst t (.p z) S4
      | _, _, _ => .bad
  | .call f cs ds, ρ, S => (evs cl cs ρ S).bind fun xs S1 => (cl f (xs ++ ds.map .p) S1).bind fun z S2 => tst t z S2
  | .callK f cs ks asm, ρ, S => (evs cl cs ρ S).bind fun xs S1 => (evs cl ks ρ S1).bind fun ys S2 => (Rz.of (asmF asm (xs ++ ys)) S2).bind fun zs S3 => (cl f zs S3).bind fun z S4 => tst t z S4
  | .blt b cs, ρ, S => (evs cl cs ρ S).bind fun xs S1 => (Rz.of (bltF b xs S1) S1).bind fun z S2 => tst t z S2
  | .mth m o cs, ρ, S => (ev cl false o ρ S).bind fun x S1 => if mthTy m x S1 then (evs cl cs ρ S1).bind fun xs S2 => (mthF m x xs S2).bind fun z S3 => tst t z S3 else .bad
  | .comp k its tg own cond e, ρ, S => (evs cl its ρ S).bind fun xs S1 => (Rz.of (walkF k xs) S1).bind fun items S1 =>
      (compL (fun x => bindT tg x (wipeE ρ own)) (match cond with
        | none => fun _ S => .ok (.p (.bl true)) S
        | some c => ev cl true c) (ev cl false e) items S1).bind fun ds S2 => if ds.length < LIM then tst t (.p (.lst ds)) S2 else .bad
  | .fstr cs, ρ, S => (evs cl cs ρ S).bind fun xs S1 => (Rz.of (catF Str.empty xs) S1).bind fun z S2 => tst t (.p (.str z)) S2
  | .isiT a cs, ρ, S => (ev cl false a ρ S).bind fun x S1 => match tyF x S1 with
      | some t => .ok (.p (.bl (cs.any fun c => isaF t c))) S1
      | none => .bad
  | .maxD a d, ρ, S => (ev cl false a ρ S).bind fun x S1 => (ev cl false d ρ S1).bind fun y S2 => (Rz.of (maxF x y) S2).bind fun z S3 => tst t z S3
  | .fmt c, ρ, S => (ev cl false c ρ S).bind fun x S1 => (Rz.of (fmtF x) S1).bind fun z S2 => tst t z S2
def evs (cl : Nat → List A → Store → Rz A) : List C → Env → Store → Rz (List A)
  | [], _, S => .ok [] S
  | c :: cs, ρ, S => (ev cl false c ρ S).bind fun x S1 => (evs cl cs ρ S1).bind fun xs S2 => .ok (x :: xs) S2
end

/-! ### statements -/
inductive Sc where
  | asg (t : Tg) (c : C) | par (i j : Nat) (a b : C) | setI (o i v : C)
  | exp (c : C) | ret (c : C) | retN | ite (c : C) (a b : List Sc)
  | for (k : ItK) (its : List C) (t : Tg) (body : List Sc) | while (c : C) (body : List Sc)
  | frz (i : Nat) | pass | brk | cnt
inductive Rs where
  | nx (ρ : Env) (S : Store) | rt (x : A) (S : Store) | bk (ρ : Env) (S : Store) | ct (ρ : Env) (S : Store) | ex (e : Exn) (S : Store) | bad
def Rz.then {α : Type} (r : Rz α) (f : α → Store → Rs) : Rs := match r with
  | .ok a S => f a S
  | .ex e S => .ex e S
  | .bad => .bad
def Rs.then (r : Rs) (f : Env → Store → Rs) : Rs := match r with
  | .nx ρ S => f ρ S
  | r => r
def forL (bnd : A → Env → Option Env) (body : Env → Store → Rs) : List A → Env → Store → Rs
  | [], ρ, S => .nx ρ S
  | x :: xs, ρ, S => match bnd x ρ with
    | none => .bad
    | some ρ1 => match body ρ1 S with
      | .nx ρ2 S2 => forL bnd body xs ρ2 S2
      | .ct ρ2 S2 => forL bnd body xs ρ2 S2
      | .bk ρ2 S2 => .nx ρ2 S2
      | r => r
def whileL (cond : Env → Store → Rz A) (body : Env → Store → Rs) : Nat → Env → Store → Rs
  | 0, _, _ => .bad
  | n + 1, ρ, S => (cond ρ S).then fun x S1 => match x with
    | .p (.bl false) => .nx ρ S1
    | .p (.bl true) => match body ρ S1 with
      | .nx ρ2 S2 => whileL cond body n ρ2 S2
      | .ct ρ2 S2 => whileL cond body n ρ2 S2
      | .bk ρ2 S2 => .nx ρ2 S2
      | r => r
    | _ => .bad
mutual
def run1 (cl : Nat → List A → Store → Rz A) (wf : Nat) : Sc → Env → Store → Rs
  | .asg t c, ρ, S => (ev cl false c ρ S).then fun x S1 => match bindT t x ρ with
    | some ρ1 => .nx ρ1 S1
    | none => .bad
  | .par i j a b, ρ, S => (ev cl false a ρ S).then fun x S1 => (ev cl false b ρ S1).then fun y S2 => .nx ((ρ.set i (some x)).set j (some y)) S2
  | .setI o i v, ρ, S => (ev cl false v ρ S).then fun x S1 => (ev cl false o ρ S1).then fun o S2 => (ev cl false i ρ S2).then fun i S3 => match o, i with
    | .m j, .p (.int k) => match S3[j]?, x with
      | some (.lst ys), .p x => match ixN ys.length k with
        | some n => .nx ρ (S3.set j (.lst (ys.set n x)))
        | none => .bad
      | _, _ => .bad
    | _, _ => .bad
  | .exp c, ρ, S => (ev cl false c ρ S).then fun _ S1 => .nx ρ S1
  | .ret c, ρ, S => (ev cl false c ρ S).then fun x S1 => .rt x S1
  | .retN, _, S => .rt (.p .non) S
  | .ite c a b, ρ, S => (ev cl true c ρ S).then fun x S1 => match x with
    | .p (.bl true) => run cl wf a ρ S1
    | .p (.bl false) => run cl wf b ρ S1
    | _ => .bad
  | .for k its t body, ρ, S => (evs cl its ρ S).then fun xs S1 => (Rz.of (walkF k xs) S1).then fun items S1 => forL (bindT t) (run cl wf body) items ρ S1
  | .while c body, ρ, S => whileL (ev cl true c) (run cl wf body) wf ρ S
  | .frz i, ρ, S => match ρ[i]? with
    | some (some (.m j)) => match S[j]? with
      | some (.lst ds) => .nx (ρ.set i (some (.p (.lst ds)))) (S.set j .dead)
      | _ => .bad
    | _ => .bad
  | .pass, ρ, S => .nx ρ S
  | .brk, ρ, S => .bk ρ S
  | .cnt, ρ, S => .ct ρ S
def run (cl : Nat → List A → Store → Rz A) (wf : Nat) : List Sc → Env → Store → Rs
  | [], ρ, S => .nx ρ S
  | c :: cs, ρ, S => (run1 cl wf c ρ S).then fun ρ1 S1 => run cl wf cs ρ1 S1
end
/-- a def: how many parameters, how many names, its code -/
structure Fn where
  np : Nat
  nn : Nat
  code : List Sc
def isP : A → Bool
  | .p _ => true
  | .m _ => false
/-- the store behind a call -/
def fin (n : Nat) (x : A) (S' : Store) : Rz A := if S'.length = n then .ok x S' else if allDead (S'.drop n) && isP x then .ok x (S'.take n) else .ok x S'
def callI (ft : List Fn) (wf : Nat) : Nat → Nat → List A → Store → Rz A
  | 0, _, _, _ => .bad
  | k + 1, f, xs, S => match ft[f]? with
    | none => .bad
    | some i => if xs.length = i.np then (match run (callI ft wf k) wf i.code (xs.map some ++ List.replicate (i.nn - i.np) none) S with
      | .rt x S' => fin S.length x S'
      | .nx _ S' => fin S.length (.p .non) S'
      | .ex e S' => .bad
      | _ => .bad) else .bad
end Fw

/-! What the evaluator's answers are worth: the operators. -/
namespace Fw
open PySem PySem.Spec PyProof.Rows L2

structure EnvOk (g : G) (z : Z) (ρ : Env) (σ : L2.St) : Prop where
  len : ρ.length = σ.length
  get : ∀ (i : Nat) x, ρ[i]? = some (some x) → ∃ v, σ[i]? = some (some v) ∧ DatA g z x v
section
variable {g : G} {B B' : Bk} {S S' : Store} {H H' : Hp} {ρ : Env} {σ : L2.St} {z z' : Z}
theorem EnvOk.mono (e : EnvOk g z ρ σ) (s : Stab g z z') : EnvOk g z' ρ σ := ⟨e.len, fun i x h => by
  obtain ⟨v, a, b⟩ := e.get i x h
  exact ⟨v, a, s.datA b⟩⟩
theorem EnvOk.set (e : EnvOk g z ρ σ) {i : Nat} {x : A} {v : V} (d : DatA g z x v) : EnvOk g z (ρ.set i (some x)) (σ.set i (some v)) := by
  refine ⟨by rw [List.length_set, List.length_set]; exact e.len, fun j y h => ?_⟩
  by_cases hij : i = j
  · subst hij
    by_cases hl : i < ρ.length
    · rw [List.getElem?_set_self hl] at h
      cases h
      exact ⟨v, by rw [List.getElem?_set_self (by rw [← e.len]; exact hl)], d⟩
    · rw [List.getElem?_eq_none (by rw [List.length_set]; omega)] at h
      cases h
  · rw [List.getElem?_set_ne hij] at h
    obtain ⟨w, a, b⟩ := e.get j y h
    exact ⟨w, by rw [List.getElem?_set_ne hij]; exact a, b⟩
theorem EnvOk.none (e : EnvOk g z ρ σ) {i : Nat} : EnvOk g z (ρ.set i Option.none) (σ.set i Option.none) := by
  refine ⟨by rw [List.length_set, List.length_set]; exact e.len, fun j y h => ?_⟩
  by_cases hij : i = j
  · subst hij
    by_cases hl : i < ρ.length
    · rw [List.getElem?_set_self hl] at h
      cases h
    · rw [List.getElem?_eq_none (by rw [List.length_set]; omega)] at h
      cases h
  · rw [List.getElem?_set_ne hij] at h
    obtain ⟨w, a, b⟩ := e.get j y h
    exact ⟨w, by rw [List.getElem?_set_ne hij]; exact a, b⟩
theorem EnvOk.wipe (e : EnvOk g z ρ σ) : ∀ vs : List Nat, EnvOk g z (wipeE ρ vs) (L2.wipe σ vs)
  | [] => e
  | v :: vs => (e.wipe vs).none
end

/-! ### the readings -/
def tE (g : G) (m : Env → Store → Rz A) : TE := fun σ H Q => ∃ B S ρ x S', EnvOk g ⟨B, S, H⟩ ρ σ ∧ StoreOk g ⟨B, S, H⟩ ∧ m ρ S = .ok x S' ∧
  ∀ v B' H', StoreOk g ⟨B', S', H'⟩ → Stab g ⟨B, S, H⟩ ⟨B', S', H'⟩ → DatA g ⟨B', S', H'⟩ x v → Q v H'
def tT (g : G) (m : Env → Store → Rz A) : TT := fun σ H Q => ∃ B S ρ b S', EnvOk g ⟨B, S, H⟩ ρ σ ∧ StoreOk g ⟨B, S, H⟩ ∧ m ρ S = .ok (.p (.bl b)) S' ∧
  ∀ B' H', StoreOk g ⟨B', S', H'⟩ → Stab g ⟨B, S, H⟩ ⟨B', S', H'⟩ → Q b H'
def tA (g : G) (m : Env → Store → Rz (List A)) : TA := fun σ H Q => ∃ B S ρ xs S', EnvOk g ⟨B, S, H⟩ ρ σ ∧ StoreOk g ⟨B, S, H⟩ ∧ m ρ S = .ok xs S' ∧
  ∀ vs B' H', StoreOk g ⟨B', S', H'⟩ → Stab g ⟨B, S, H⟩ ⟨B', S', H'⟩ → DatAL g ⟨B', S', H'⟩ xs vs → Q vs H'
abbrev gx (X : Cx) (fa : Nat → Addr) : G := ⟨X.K, fa⟩
section
variable {g : G} {B : Bk} {S S' : Store} {H : Hp} {ρ : Env} {σ : L2.St}
theorem tE.use {m : Env → Store → Rz A} {x : A} {Q : VK} (eo : EnvOk g ⟨B, S, H⟩ ρ σ) (so : StoreOk g ⟨B, S, H⟩) (hm : m ρ S = .ok x S')
    (k : ∀ v B' H', StoreOk g ⟨B', S', H'⟩ → Stab g ⟨B, S, H⟩ ⟨B', S', H'⟩ → EnvOk g ⟨B', S', H'⟩ ρ σ → DatA g ⟨B', S', H'⟩ x v → Q v H') : tE g m σ H Q :=
  ⟨B, S, ρ, x, S', eo, so, hm, fun v B' H' so' st dv => k v B' H' so' st (eo.mono st) dv⟩
theorem tT.use {m : Env → Store → Rz A} {b : Bool} {Q : Bool → Hp → Prop} (eo : EnvOk g ⟨B, S, H⟩ ρ σ) (so : StoreOk g ⟨B, S, H⟩) (hm : m ρ S = .ok (.p (.bl b)) S')
    (k : ∀ B' H', StoreOk g ⟨B', S', H'⟩ → Stab g ⟨B, S, H⟩ ⟨B', S', H'⟩ → EnvOk g ⟨B', S', H'⟩ ρ σ → Q b H') : tT g m σ H Q :=
  ⟨B, S, ρ, b, S', eo, so, hm, fun B' H' so' st => k B' H' so' st (eo.mono st)⟩
theorem tA.use {m : Env → Store → Rz (List A)} {xs : List A} {Q : List V → Hp → Prop} (eo : EnvOk g ⟨B, S, H⟩ ρ σ) (so : StoreOk g ⟨B, S, H⟩) (hm : m ρ S = .ok xs S')
    (k : ∀ vs B' H', StoreOk g ⟨B', S', H'⟩ → Stab g ⟨B, S, H⟩ ⟨B', S', H'⟩ → EnvOk g ⟨B', S', H'⟩ ρ σ → DatAL g ⟨B', S', H'⟩ xs vs → Q vs H') : tA g m σ H Q :=
  ⟨B, S, ρ, xs, S', eo, so, hm, fun vs B' H' so' st dv => k vs B' H' so' st (eo.mono st) dv⟩
end

/-! ### lists of data -/
section
variable {g : G} {z : Z}
theorem DatL.len : ∀ {ds : List D} {vs : List V}, DatL g z ds vs → vs.length = ds.length
  | [], _, h => by
    rw [h]
    rfl
  | d :: ds, _, ⟨v, r, e, _, b⟩ => by
    rw [e, List.length_cons, List.length_cons, b.len]
theorem DatAL.len : ∀ {ds : List A} {vs : List V}, DatAL g z ds vs → vs.length = ds.length
  | [], _, h => by
    rw [h]
    rfl
  | d :: ds, _, ⟨v, r, e, _, b⟩ => by
    rw [e, List.length_cons, List.length_cons, b.len]
theorem DatL.get : ∀ {ds : List D} {vs : List V} {i : Nat} {d : D}, DatL g z ds vs → ds[i]? = some d → ∃ v, vs[i]? = some v ∧ Dat g z d v
  | [], _, i, d, _, h => by simp at h
  | c :: ds, _, 0, d, ⟨v, r, e, a, _⟩, h => by
    simp at h
    subst h
    exact ⟨v, by rw [e]; rfl, a⟩
  | c :: ds, _, i + 1, d, ⟨v, r, e, _, b⟩, h => by
    obtain ⟨w, h1, h2⟩ := DatL.get (i := i) (d := d) b (by simpa using h)
    exact ⟨w, by rw [e]; simpa using h1, h2⟩
theorem DatAL.get : ∀ {ds : List A} {vs : List V} {i : Nat} {d : A}, DatAL g z ds vs → ds[i]? = some d → ∃ v, vs[i]? = some v ∧ DatA g z d v
  | [], _, i, d, _, h => by simp at h
  | c :: ds, _, 0, d, ⟨v, r, e, a, _⟩, h => by
    simp at h
    subst h
    exact ⟨v, by rw [e]; rfl, a⟩
  | c :: ds, _, i + 1, d, ⟨v, r, e, _, b⟩, h => by
    obtain ⟨w, h1, h2⟩ := DatAL.get (i := i) (d := d) b (by simpa using h)
    exact ⟨w, by rw [e]; simpa using h1, h2⟩
theorem DatL.app : ∀ {ds es : List D} {vs ws : List V}, DatL g z ds vs → DatL g z es ws → DatL g z (ds ++ es) (vs ++ ws)
  | [], es, _, ws, h, k => by
    rw [h]
    exact k
  | d :: ds, es, _, ws, ⟨v, r, e, a, b⟩, k => ⟨v, r ++ ws, by rw [e]; rfl, a, b.app k⟩
theorem DatAL.app : ∀ {ds es : List A} {vs ws : List V}, DatAL g z ds vs → DatAL g z es ws → DatAL g z (ds ++ es) (vs ++ ws)
  | [], es, _, ws, h, k => by
    rw [h]
    exact k
  | d :: ds, es, _, ws, ⟨v, r, e, a, b⟩, k => ⟨v, r ++ ws, by rw [e]; rfl, a, b.app k⟩
theorem DatL.drop : ∀ {ds : List D} {vs : List V} (n : Nat), DatL g z ds vs → DatL g z (ds.drop n) (vs.drop n)
  | _, _, 0, h => h
  | [], _, n + 1, h => by
    rw [h]
    rfl
  | d :: ds, _, n + 1, ⟨v, r, e, a, b⟩ => by
    rw [e]
    exact b.drop n
theorem DatL.take : ∀ {ds : List D} {vs : List V} (n : Nat), DatL g z ds vs → DatL g z (ds.take n) (vs.take n)
  | _, _, 0, h => rfl
  | [], _, n + 1, h => by
    rw [h]
    rfl
  | d :: ds, _, n + 1, ⟨v, r, e, a, b⟩ => ⟨v, r.take n, by rw [e]; rfl, a, b.take n⟩
theorem DatL.cut {ds : List D} {vs : List V} (h : DatL g z ds vs) (lo hi : Option Int) : DatL g z (cutD ds lo hi) (cutV vs lo hi) := by
  unfold cutD cutV
  rw [h.len]
  exact (h.drop _).take _
theorem DatL.rep {ds : List D} {vs : List V} (h : DatL g z ds vs) : ∀ k : Nat, DatL g z (List.replicate k ds).flatten (List.replicate k vs).flatten
  | 0 => rfl
  | k + 1 => by
    rw [List.replicate_succ, List.replicate_succ, List.flatten_cons, List.flatten_cons]
    exact h.app (h.rep k)
theorem DatL.ofInts : ∀ ns : List Int, DatL g z (ns.map D.int) (ns.map V.int)
  | [] => rfl
  | n :: ns => ⟨.int n, ns.map V.int, rfl, rfl, DatL.ofInts ns⟩
theorem DatL.ints : ∀ {ds : List D} {ns : List Int} {vs : List V}, D.ints ds = some ns → DatL g z ds vs → vs = ns.map V.int
  | [], ns, vs, e, h => by
    cases e
    exact h
  | .int i :: ds, ns, vs, e, ⟨v, r, e1, a, b⟩ => by
    rw [D.ints] at e
    cases h : D.ints ds with
    | none => rw [h] at e; cases e
    | some ms =>
      rw [h] at e
      cases e
      rw [e1, show v = V.int i from a, DatL.ints h b]
      rfl
theorem DatL.bls : ∀ {ds : List D} {ns : List Bool} {vs : List V}, D.bls ds = some ns → DatL g z ds vs → vs = ns.map V.bl
  | [], ns, vs, e, h => by
    cases e
    exact h
  | .bl i :: ds, ns, vs, e, ⟨v, r, e1, a, b⟩ => by
    rw [D.bls] at e
    cases h : D.bls ds with
    | none => rw [h] at e; cases e
    | some ms =>
      rw [h] at e
      cases e
      rw [e1, show v = V.bl i from a, DatL.bls h b]
      rfl
theorem DatL.strs : ∀ {ds : List D} {ns : List Str} {vs : List V}, D.strs ds = some ns → DatL g z ds vs → vs = ns.map V.str
  | [], ns, vs, e, h => by
    cases e
    exact h
  | .str i :: ds, ns, vs, e, ⟨v, r, e1, a, b⟩ => by
    rw [D.strs] at e
    cases h : D.strs ds with
    | none => rw [h] at e; cases e
    | some ms =>
      rw [h] at e
      cases e
      rw [e1, show v = V.str i from a, DatL.strs h b]
      rfl
theorem DatAL.datas : ∀ {xs : List A} {ds : List D} {vs : List V}, datas xs = some ds → DatAL g z xs vs → DatL g z ds vs
  | [], ds, vs, e, h => by
    cases e
    exact h
  | .p d :: xs, ds, vs, e, ⟨v, r, e1, a, b⟩ => by
    rw [Fw.datas] at e
    cases h : Fw.datas xs with
    | none => rw [h] at e; cases e
    | some ms =>
      rw [h] at e
      cases e
      exact ⟨v, r, e1, a, DatAL.datas h b⟩
theorem DatL.ofP : ∀ {ds : List D} {vs : List V}, DatL g z ds vs → DatAL g z (ds.map A.p) vs
  | [], _, h => h
  | d :: ds, _, ⟨v, r, e, a, b⟩ => ⟨v, r, e, a, b.ofP⟩
theorem DatL.at {ds : List D} {vs : List V} {i : Int} {d : D} (h : DatL g z ds vs) (e : atI ds i = some d) : ∃ v, atI vs i = some v ∧ Dat g z d v := by
  unfold atI at e ⊢
  rw [h.len]
  cases q : ixN ds.length i with
  | none => rw [q] at e; cases e
  | some j =>
    rw [q] at e
    exact h.get e
theorem DatAL.at {ds : List A} {vs : List V} {i : Int} {d : A} (h : DatAL g z ds vs) (e : atI ds i = some d) : ∃ v, atI vs i = some v ∧ DatA g z d v := by
  unfold atI at e ⊢
  rw [h.len]
  cases q : ixN ds.length i with
  | none => rw [q] at e; cases e
  | some j =>
    rw [q] at e
    exact h.get e
mutual
theorem Dat.dp : ∀ (d : D) (v : V) (a : PyData), d.py = some a → Dat g z d v → Dp g.K z.H v a
  | .non, v, a, e, h => by
    simp only [D.py, Option.some.injEq] at e
    subst e
    rw [show v = V.non from h]
    exact .non
  | .bl b, v, a, e, h => by
    simp only [D.py, Option.some.injEq] at e
    subst e
    rw [show v = V.bl b from h]
    exact .bl b
  | .int b, v, a, e, h => by
    simp only [D.py, Option.some.injEq] at e
    subst e
    rw [show v = V.int b from h]
    exact .int b
  | .str b, v, a, e, h => by
    simp only [D.py, Option.some.injEq] at e
    subst e
    rw [show v = V.str b from h]
    exact .str b
  | .tup ds, v, a, e, h => by
    obtain ⟨p, vs, rfl, t, l⟩ := h
    simp only [D.py] at e
    cases q : D.pyL ds with
    | none => rw [q] at e; cases e
    | some as =>
      rw [q] at e
      cases e
      exact .tup t (Dat.dpL ds vs as q l)
  | .lst ds, v, a, e, h => by
    obtain ⟨p, vs, rfl, t, _, l⟩ := h
    simp only [D.py] at e
    cases q : D.pyL ds with
    | none => rw [q] at e; cases e
    | some as =>
      rw [q] at e
      cases e
      exact .lst (SqL.of t) (Dat.dpL ds vs as q l)
  | .scr _, _, _, e, _ => by simp [D.py] at e
  | .fn _, _, _, e, _ => by simp [D.py] at e
  | .ty _, _, _, e, _ => by simp [D.py] at e
theorem Dat.dpL : ∀ (ds : List D) (vs : List V) (as : List PyData), D.pyL ds = some as → DatL g z ds vs → DpAll g.K z.H vs as
  | [], vs, as, e, h => by
    simp only [D.pyL, Option.some.injEq] at e
    subst e
    rw [show vs = [] from h]
    exact .nil
  | d :: ds, vs, as, e, h => by
    obtain ⟨v, r, rfl, a, b⟩ := h
    simp only [D.pyL] at e
    cases q : d.py with
    | none => rw [q] at e; cases e
    | some x =>
      cases q2 : D.pyL ds with
      | none => rw [q, q2] at e; cases e
      | some xs =>
        rw [q, q2] at e
        cases e
        exact .cons (Dat.dp d v x q a) (Dat.dpL ds r xs q2 b)
end
end
/-! ### the operators on data -/
theorem lim_le {n : Nat} (h : n ≤ LIM) : n ≤ sizeLine := Nat.le_trans h lim_line
theorem mulOk.ok {i j : Int} (h : mulOk i j = true) : IntMulOk i j := by
  unfold mulOk at h
  rcases of_decide_eq_true h with h | h | h
  · exact CMul.ok (.inl h)
  · exact CMul.ok (.inr h)
  · exact CMulW.ok h
theorem op_mulA {X : Cx} : OpR X (binaryOp .Mult) (rI (fun i j => mulOk i j = true) fun i j => .int (i * j)) := opI fun _ _ _ _ _ _ _ hc q => mul_int q (mulOk.ok hc)
theorem op_fdivA {X : Cx} : OpR X (binaryOp .FloorDiv) (rI (fun _ j => divOk j = true) fun i j => .int (i.fdiv j)) := opI fun i j _ _ _ _ _ hc q => by
  have h := of_decide_eq_true hc
  exact floordiv_int h.1 q (.inl (PyProof.noPylong_of_log2 h.2))
theorem op_powA {X : Cx} : OpR X (binaryOp .Pow) (rI (fun i j => powOk i j = true) fun i j => .int (i ^ j.toNat)) := opI fun _ _ _ _ _ _ _ hc q => by
  have h := of_decide_eq_true hc
  exact pow_int_small h.1 h.2.1 h.2.2 q
section
variable {X : Cx} {fa : Nat → Addr}
/-- what an operator's answer on data is worth -/
def BinOk (X : Cx) (fa : Nat → Addr) (f : Value → Value → Sem Value) (x y z : D) : Prop := ∃ r : R2, OpR X f r ∧
  ∀ v w B S H (Q : VK), StoreOk (gx X fa) ⟨B, S, H⟩ → Dat (gx X fa) ⟨B, S, H⟩ x v → Dat (gx X fa) ⟨B, S, H⟩ y w →
    (∀ u H', StoreOk (gx X fa) ⟨B, S, H'⟩ → Stab (gx X fa) ⟨B, S, H⟩ ⟨B, S, H'⟩ → Dat (gx X fa) ⟨B, S, H'⟩ z u → Q u H') → r v w H Q
theorem new_tup {g : G} {B : Bk} {S : Store} {H : Hp} {p : Addr} {ds : List D} {vs : List V} (so : StoreOk g ⟨B, S, H⟩) (hp : H p = none) (dl : DatL g ⟨B, S, H⟩ ds vs) : Dat g ⟨B, S, upd H p (.tup vs)⟩ (.tup ds) (.ref p) :=
  ⟨p, vs, rfl, SqT.of upd_same, (Stab.new so hp).datL dl⟩
theorem new_lst {g : G} {B : Bk} {S : Store} {H : Hp} {p : Addr} {ds : List D} {vs : List V} (so : StoreOk g ⟨B, S, H⟩) (hp : H p = none) (dl : DatL g ⟨B, S, H⟩ ds vs) : Dat g ⟨B, S, upd H p (.lst vs)⟩ (.lst ds) (.ref p) :=
  ⟨p, vs, rfl, upd_same, so.fresh hp, (Stab.new so hp).datL dl⟩
theorem bin_ok {op : Operator} {x y z : D} (h : binF op x y = some z) : BinOk X fa (binaryOp op) x y z := by
  unfold binF at h
  split at h
  case h_1 i j =>
    cases h
    exact ⟨_, op_add, fun v w B S H Q so d1 d2 k => ⟨i, j, d1, d2, k _ H so Stab.refl rfl⟩⟩
  case h_2 i j =>
    cases h
    exact ⟨_, op_sub, fun v w B S H Q so d1 d2 k => ⟨i, j, d1, d2, k _ H so Stab.refl rfl⟩⟩
  case h_3 i j =>
    split at h
    · rename_i hc
      cases h
      exact ⟨_, op_mulA, fun v w B S H Q so d1 d2 k => ⟨i, j, d1, d2, hc, k _ H so Stab.refl rfl⟩⟩
    · cases h
  case h_4 i j =>
    split at h
    · rename_i hc
      cases h
      exact ⟨_, op_fdivA, fun v w B S H Q so d1 d2 k => ⟨i, j, d1, d2, hc, k _ H so Stab.refl rfl⟩⟩
    · cases h
  case h_5 i j =>
    split at h
    · cases h
    · rename_i hc
      cases h
      exact ⟨_, op_modN, fun v w B S H Q so d1 d2 k => ⟨i, j, d1, d2, hc, k _ H so Stab.refl rfl⟩⟩
  case h_6 i j =>
    split at h
    · rename_i hc
      cases h
      exact ⟨_, op_powA, fun v w B S H Q so d1 d2 k => ⟨i, j, d1, d2, hc, k _ H so Stab.refl rfl⟩⟩
    · cases h
  case h_7 i j =>
    split at h
    · rename_i hc
      cases h
      exact ⟨_, op_add_str, fun v w B S H Q so d1 d2 k => ⟨i, j, d1, d2, lim_le hc, k _ H so Stab.refl rfl⟩⟩
    · cases h
  case h_8 xs ys =>
    split at h
    · rename_i hc
      cases h
      refine ⟨_, op_catA, fun v w B S H Q so d1 d2 k => ?_⟩
      obtain ⟨a, vs, rfl, t1, l1⟩ := d1
      obtain ⟨b, ws, rfl, t2, l2⟩ := d2
      refine ⟨a, b, vs, ws, rfl, rfl, t1, t2, by rw [l1.len, l2.len]; exact lim_le hc, fun e => ?_, fun _ e => ?_, fun _ _ p hp => ?_⟩
      · refine k _ H so Stab.refl ⟨b, ws, rfl, t2, ?_⟩
        have := l1.app l2
        rw [e, List.nil_append] at this
        exact this
      · refine k _ H so Stab.refl ⟨a, vs, rfl, t1, ?_⟩
        have := l1.app l2
        rw [e, List.append_nil] at this
        exact this
      · exact k _ _ (so.new hp) (Stab.new so hp) (new_tup so hp (l1.app l2))
    · cases h
  case h_9 xs ys =>
    split at h
    · rename_i hc
      cases h
      refine ⟨_, op_cat, fun v w B S H Q so d1 d2 k => ?_⟩
      obtain ⟨a, vs, rfl, t1, n1, l1⟩ := d1
      obtain ⟨b, ws, rfl, t2, n2, l2⟩ := d2
      exact ⟨a, b, vs, ws, rfl, rfl, t1, t2, by rw [l1.len, l2.len]; exact lim_le hc, fun p hp => k _ _ (so.new hp) (Stab.new so hp) (new_lst so hp (l1.app l2))⟩
    · cases h
  case h_10 xs n =>
    split at h
    · rename_i hc
      cases h
      refine ⟨_, op_rep, fun v w B S H Q so d1 d2 k => ?_⟩
      obtain ⟨a, vs, rfl, t1, n1, l1⟩ := d1
      exact ⟨a, n, vs, rfl, d2, t1, by omega, by omega, by rw [l1.len]; exact lim_le hc.2.2, fun p hp => k _ _ (so.new hp) (Stab.new so hp) (new_lst so hp (l1.rep _))⟩
    · cases h
  case h_11 => cases h
end
end Fw

/-! What the evaluator's answers are worth: comparisons, truth, items, slices, built-in calls. -/
namespace Fw
open PySem PySem.Spec PyProof.Rows L2
section
variable {X : Cx} {fa : Nat → Addr}
/-- what a comparison's answer is worth -/
def CmpOk (X : Cx) (fa : Nat → Addr) (f : Value → Value → Sem Value) (x y : A) (b : Bool) : Prop := ∃ r : R2, OpR X f r ∧
  ∀ v w B S H (Q : VK), StoreOk (gx X fa) ⟨B, S, H⟩ → DatA (gx X fa) ⟨B, S, H⟩ x v → DatA (gx X fa) ⟨B, S, H⟩ y w → Q (.bl b) H → r v w H Q
theorem any_eqv : ∀ {bs : List Str} {a : Str}, (bs.map V.str).any (fun y => eqV y (.str a)) = bs.any fun z => z == a
  | [], _ => rfl
  | b :: bs, a => by
    rw [List.map_cons, List.any_cons, List.any_cons, any_eqv]
    rfl
theorem flat_strs : ∀ bs : List Str, (bs.map V.str).all flatV = true
  | [] => rfl
  | b :: bs => by
    rw [List.map_cons, List.all_cons, flat_strs bs]
    rfl
theorem sign_eq {i : Str} {c : Nat} (h : i.cps.toList = [c]) : i = ⟨#[c]⟩ := by
  obtain ⟨a⟩ := i
  have : a = #[c] := by
    have h' : a.toList = (#[c] : Array Nat).toList := h
    exact Array.toList_inj.mp h'
  rw [this]
theorem cmpF_ok {op : CmpOp} {x y : D} {b : Bool} {k : Nat} (hr : Room k X.A) (h : cmpF op x y = some b) : CmpOk X fa (compareOp op) (.p x) (.p y) b := by
  have hu : X.A.units + 65 < cLine := by have := hr.un; omega
  unfold cmpF at h
  split at h
  case h_1 x y =>
    unfold eqF at h
    split at h
    · rename_i a c ha hc
      split at h
      · rename_i hs
        cases h
        rw [Bool.and_eq_true] at hs
        exact ⟨_, op_eqD (by omega), fun v w B S H Q so d1 d2 q => ⟨a, c, Dat.dp _ v a ha d1, Dat.dp _ w c hc d2, hs.1, hs.2, q⟩⟩
      · cases h
    · cases h
  case h_2 x y =>
    unfold eqF at h
    split at h
    · rename_i a c ha hc
      split at h
      · rename_i hs
        cases h
        rw [Bool.and_eq_true] at hs
        exact ⟨_, op_neD (by omega), fun v w B S H Q so d1 d2 q => ⟨a, c, Dat.dp _ v a ha d1, Dat.dp _ w c hc d2, hs.1, hs.2, q⟩⟩
      · cases h
    · cases h
  case h_3 i j => cases h; exact ⟨_, op_lt, fun v w B S H Q so d1 d2 q => ⟨i, j, d1, d2, q⟩⟩
  case h_4 i j => cases h; exact ⟨_, op_le, fun v w B S H Q so d1 d2 q => ⟨i, j, d1, d2, q⟩⟩
  case h_5 i j => cases h; exact ⟨_, op_gt, fun v w B S H Q so d1 d2 q => ⟨i, j, d1, d2, q⟩⟩
  case h_6 i j => cases h; exact ⟨_, op_ge, fun v w B S H Q so d1 d2 q => ⟨i, j, d1, d2, q⟩⟩
  case h_7 i j => cases h; exact ⟨_, op_lt_str, fun v w B S H Q so d1 d2 q => ⟨i, j, d1, d2, q⟩⟩
  case h_8 i j => cases h; exact ⟨_, op_le_str, fun v w B S H Q so d1 d2 q => ⟨i, j, d1, d2, q⟩⟩
  case h_9 i j => cases h; exact ⟨_, op_gt_str, fun v w B S H Q so d1 d2 q => ⟨i, j, d1, d2, q⟩⟩
  case h_10 i j => cases h; exact ⟨_, op_ge_str, fun v w B S H Q so d1 d2 q => ⟨i, j, d1, d2, q⟩⟩
  case h_11 i j =>
    unfold cmpF.signIn at h
    split at h
    · rename_i c hc
      cases h
      exact ⟨_, op_in_sign, fun v w B S H Q so d1 d2 q => ⟨c, j, by rw [show v = V.str i from d1, sign_eq hc], d2, q⟩⟩
    · cases h
  case h_12 i j =>
    unfold cmpF.signIn at h
    split at h
    · rename_i c hc
      cases h
      exact ⟨_, op_notIn_sign, fun v w B S H Q so d1 d2 q => ⟨c, j, by rw [show v = V.str i from d1, sign_eq hc], d2, q⟩⟩
    · cases h
  case h_13 x ds _ =>
    unfold cmpF.inF at h
    split at h
    · rename_i a bs ha hb
      split at h
      · rename_i hs
        cases h
        rw [Bool.and_eq_true] at hs
        refine ⟨_, op_inD hu, fun v w B S H Q so d1 d2 q => ⟨a, bs, Dat.dp _ v a ha d1, Dat.dp (.lst _) w (.list bs) (by simp only [D.py, hb, Option.map_some]) d2, hs.1, hs.2, q⟩⟩
      · cases h
    · cases h
  case h_14 x ds _ =>
    unfold cmpF.inF at h
    split at h
    · rename_i a bs ha hb
      split at h
      · rename_i hs
        cases h
        rw [Bool.and_eq_true] at hs
        refine ⟨_, op_notInD hu, fun v w B S H Q so d1 d2 q => ⟨a, bs, Dat.dp _ v a ha d1, Dat.dp (.lst _) w (.list bs) (by simp only [D.py, hb, Option.map_some]) d2, hs.1, hs.2, q⟩⟩
      · cases h
    · cases h
  case h_15 x ds _ =>
    unfold cmpF.inFT at h
    split at h
    · rename_i a bs ha
      cases h
      refine ⟨_, op_in_seq, fun v w B S H Q so d1 d2 q => ?_⟩
      obtain ⟨p, vs, rfl, t, l⟩ := d2
      have e := l.strs ha
      subst e
      refine ⟨p, _, rfl, .inr t, by rw [show v = V.str a from d1]; rfl, flat_strs bs, ?_⟩
      rw [show v = V.str a from d1]
      show Q (.bl ((bs.map V.str).any fun y => eqV y (.str a))) H
      rw [any_eqv]
      exact q
    · cases h
  case h_16 x ds _ =>
    unfold cmpF.inFT at h
    split at h
    · rename_i a bs ha
      cases h
      refine ⟨_, op_notIn_seq, fun v w B S H Q so d1 d2 q => ?_⟩
      obtain ⟨p, vs, rfl, t, l⟩ := d2
      have e := l.strs ha
      subst e
      refine ⟨p, _, rfl, .inr t, by rw [show v = V.str a from d1]; rfl, flat_strs bs, ?_⟩
      rw [show v = V.str a from d1]
      show Q (.bl (!(bs.map V.str).any fun y => eqV y (.str a))) H
      rw [any_eqv]
      exact q
    · cases h
  case h_17 => cases h
theorem isF_ok {g : G} {z : Z} {x : A} {v : V} (h : DatA g z x v) : decide (v = V.non) = isF x := by
  cases x with
  | m i =>
    obtain ⟨a, _, rfl⟩ := h
    rfl
  | p d =>
    cases d with
    | non => rw [show v = V.non from h]; rfl
    | bl b => rw [show v = V.bl b from h]; rfl
    | int b => rw [show v = V.int b from h]; rfl
    | str b => rw [show v = V.str b from h]; rfl
    | tup ds => obtain ⟨a, vs, rfl, _⟩ := h; rfl
    | lst ds => obtain ⟨a, vs, rfl, _⟩ := h; rfl
    | scr ds => obtain ⟨a, rfl, _⟩ := h; rfl
    | fn b => rw [show v = V.ref _ from h]; rfl
    | ty b => rw [show v = V.ty _ from h]; rfl
theorem cmp_ok {op : CmpOp} {x y : A} {b : Bool} {k : Nat} (hr : Room k X.A) (h : cmpA op x y = some b) : CmpOk X fa (compareOp op) x y b := by
  unfold cmpA at h
  split at h
  · cases h
    exact ⟨_, op_isN, fun v w B S H Q so d1 d2 q => ⟨d2, by rw [isF_ok d1]; exact q⟩⟩
  · cases h
    exact ⟨_, op_notN, fun v w B S H Q so d1 d2 q => ⟨d2, by rw [isF_ok d1]; exact q⟩⟩
  · exact cmpF_ok hr h
  · cases h
theorem tru_dat {B : Bk} {S : Store} {H : Hp} {d : D} {v : V} {b : Bool} (h : truF d = some b) (dv : Dat (gx X fa) ⟨B, S, H⟩ d v) : TruV X.K v H b := by
  cases d with
  | non => cases h; rw [show v = V.non from dv]; rfl
  | bl c => cases h; rw [show v = V.bl _ from dv]; rfl
  | int i => cases h; rw [show v = V.int i from dv]; rfl
  | str x =>
    rw [show v = V.str x from dv]
    unfold truF at h
    dsimp only at h
    split at h
    · rename_i hl
      cases h
      exact ⟨lim_le hl, rfl⟩
    · cases h
  | tup ds =>
    cases h
    obtain ⟨a, vs, rfl, t, l⟩ := dv
    refine .inr (.inl ⟨vs, t, ?_⟩)
    have := l.len
    cases ds <;> cases vs <;> first | rfl | (simp at this)
  | lst ds =>
    cases h
    obtain ⟨a, vs, rfl, t, _, l⟩ := dv
    refine .inl ⟨vs, SqL.of t, ?_⟩
    have := l.len
    cases ds <;> cases vs <;> first | rfl | (simp at this)
  | scr _ => cases h
  | fn _ => cases h
  | ty _ => cases h

/-- an item -/
def SubOk (X : Cx) (fa : Nat → Addr) (S : Store) (x y z : A) : Prop := ∃ r : R2, IxR X r ∧
  ∀ v w B H (Q : VK), StoreOk (gx X fa) ⟨B, S, H⟩ → DatA (gx X fa) ⟨B, S, H⟩ x v → DatA (gx X fa) ⟨B, S, H⟩ y w → (∀ u, DatA (gx X fa) ⟨B, S, H⟩ z u → Q u H) → r v w H Q
theorem sub_ok {S : Store} {x y z : A} (h : subF x y S = some z) : SubOk X fa S x y z := by
  unfold subF at h
  split at h
  · rename_i ds i
    cases q : atI ds i with
    | none => rw [q] at h; cases h
    | some d =>
      rw [q] at h
      cases h
      refine ⟨_, ix_list, fun v w B H Q so d1 d2 k => ?_⟩
      obtain ⟨p, vs, rfl, t, _, l⟩ := d1
      obtain ⟨u, e, du⟩ := l.at q
      exact ⟨p, vs, i, u, rfl, d2, SqL.of t, e, k u du⟩
  · rename_i ds i
    cases q : atI ds i with
    | none => rw [q] at h; cases h
    | some d =>
      rw [q] at h
      cases h
      refine ⟨_, ix_tup, fun v w B H Q so d1 d2 k => ?_⟩
      obtain ⟨p, vs, rfl, t, l⟩ := d1
      obtain ⟨u, e, du⟩ := l.at q
      exact ⟨p, vs, i, u, rfl, d2, t, e, k u du⟩
  · rename_i s i
    split at h
    · rename_i hl
      cases q : atI s.cps.toList i with
      | none => rw [q] at h; cases h
      | some c =>
        rw [q] at h
        cases h
        exact ⟨_, ix_str, fun v w B H Q so d1 d2 k => ⟨s, i, c, d1, d2, lim_le hl, q, k _ rfl⟩⟩
    · cases h
  · rename_i j i
    split at h
    · rename_i xs hs
      cases q : atI xs i with
      | none => rw [q] at h; cases h
      | some d =>
        rw [q] at h
        cases h
        refine ⟨_, ix_list, fun v w B H Q so d1 d2 k => ?_⟩
        obtain ⟨a, hb, rfl⟩ := d1
        obtain ⟨vs, e, l⟩ := so.ob j a xs hb hs
        obtain ⟨u, e2, du⟩ := l.at q
        exact ⟨a, vs, i, u, rfl, d2, SqL.of e, e2, k u du⟩
    · cases h
  · cases h
/-- a slice -/
def SlcOk (X : Cx) (fa : Nat → Addr) (x : D) (lo hi : Option Int) (z : D) : Prop := ∃ r, SlR X r ∧
  ∀ v B S H (Q : VK), StoreOk (gx X fa) ⟨B, S, H⟩ → Dat (gx X fa) ⟨B, S, H⟩ x v →
    (∀ u H', StoreOk (gx X fa) ⟨B, S, H'⟩ → Stab (gx X fa) ⟨B, S, H⟩ ⟨B, S, H'⟩ → Dat (gx X fa) ⟨B, S, H'⟩ z u → Q u H') → r v lo hi H Q
theorem slc_ok {x z : D} {lo hi : Option Int} (h : slcF x lo hi = some z) : SlcOk X fa x lo hi z := by
  unfold slcF at h
  split at h
  · rename_i ds
    cases h
    refine ⟨_, sl_list, fun v B S H Q so d k => ?_⟩
    obtain ⟨a, vs, rfl, t, _, l⟩ := d
    exact ⟨a, vs, rfl, SqL.of t, fun p hp => k _ _ (so.new hp) (Stab.new so hp) (new_lst so hp (l.cut lo hi))⟩
  · rename_i ns
    cases h
    refine ⟨_, sl_list, fun v B S H Q so d k => ?_⟩
    obtain ⟨a, rfl, t⟩ := d
    refine ⟨a, ns.map V.int, rfl, ?_, fun p hp => k _ _ (so.new hp) (Stab.new so hp) (new_lst so hp ((DatL.ofInts ns).cut lo hi))⟩
    rcases t with ⟨o, t⟩ | t
    · exact .inl (.inr ⟨o, t⟩)
    · exact .inr t
  · rename_i ds
    cases h
    refine ⟨_, sl_tupA, fun v B S H Q so d k => ?_⟩
    obtain ⟨a, vs, rfl, t, l⟩ := d
    refine ⟨a, vs, rfl, t, fun e => k _ _ so Stab.refl ⟨a, vs, rfl, t, ?_⟩, fun _ p hp => k _ _ (so.new hp) (Stab.new so hp) (new_tup so hp (l.cut lo hi))⟩
    have c := l.cut lo hi
    have ec : cutV vs lo hi = vs := by
      unfold cutV
      rw [e.1, e.2, List.drop_zero, Nat.sub_zero, List.take_length]
    rw [ec] at c
    exact c
  · rename_i s
    split at h
    · rename_i hl
      cases h
      exact ⟨_, sl_str, fun v B S H Q so d k => ⟨s, d, lim_le hl, k _ _ so Stab.refl rfl⟩⟩
    · cases h
  · cases h
end
end Fw

/-! What the evaluator's answers are worth: built-in calls. -/
namespace Fw
open PySem PySem.Spec PyProof.Rows L2
def Blt.val : Blt → Value
  | .len => .builtin "len" | .abs => .builtin "abs" | .int => .type "int" | .str => .type "str" | .isi => .builtin "isinstance" | .all => .builtin "all" | .any => .builtin "any"
  | .sum => .builtin "sum" | .max => .builtin "max" | .min => .builtin "min" | .list => .type "list" | .tuple => .type "tuple"
def Blt.nm : Blt → Str
  | .len => "len" | .abs => "abs" | .int => "int" | .str => "str" | .isi => "isinstance" | .all => "all" | .any => "any"
  | .sum => "sum" | .max => "max" | .min => "min" | .list => "list" | .tuple => "tuple"
theorem Blt.boot (b : Blt) : bootBuiltins b.nm = some b.val := by cases b <;> decide +kernel
theorem Blt.nn (b : Blt) : b.nm ≠ "__name__" := by cases b <;> decide +kernel
theorem Blt.nd (b : Blt) : (b.nm == ("__debug__" : Str)) = false := by cases b <;> decide +kernel
theorem kit_isa (t c : Ty) : kitB t.nm c.nm = some (isaF t c) := by cases t <;> cases c <;> decide +kernel
theorem maxI_mem : ∀ {n : Int} {ns : List Int}, maxI (n :: ns) ∈ n :: ns
  | n, [] => by simp [maxI]
  | n, m :: ns => by
    have ih := maxI_mem (n := m) (ns := ns)
    show max n (maxI (m :: ns)) ∈ _
    rcases Int.le_total n (maxI (m :: ns)) with h | h
    · rw [Int.max_eq_right h]
      exact List.mem_cons_of_mem _ ih
    · rw [Int.max_eq_left h]
      exact List.mem_cons_self ..
theorem maxI_ge : ∀ {n : Int} {ns : List Int} {y : Int}, y ∈ n :: ns → y ≤ maxI (n :: ns)
  | n, [], y, h => by
    rw [List.mem_singleton.mp h]
    exact Int.le_refl _
  | n, m :: ns, y, h => by
    show y ≤ max n (maxI (m :: ns))
    rcases List.mem_cons.mp h with h | h
    · rw [h]
      exact Int.le_max_left ..
    · exact Int.le_trans (maxI_ge h) (Int.le_max_right ..)
theorem minI_mem : ∀ {n : Int} {ns : List Int}, minI (n :: ns) ∈ n :: ns
  | n, [] => by simp [minI]
  | n, m :: ns => by
    have ih := minI_mem (n := m) (ns := ns)
    show min n (minI (m :: ns)) ∈ _
    rcases Int.le_total n (minI (m :: ns)) with h | h
    · rw [Int.min_eq_left h]
      exact List.mem_cons_self ..
    · rw [Int.min_eq_right h]
      exact List.mem_cons_of_mem _ ih
theorem minI_le : ∀ {n : Int} {ns : List Int} {y : Int}, y ∈ n :: ns → minI (n :: ns) ≤ y
  | n, [], y, h => by
    rw [List.mem_singleton.mp h]
    exact Int.le_refl _
  | n, m :: ns, y, h => by
    show min n (minI (m :: ns)) ≤ y
    rcases List.mem_cons.mp h with h | h
    · rw [h]
      exact Int.min_le_left ..
    · exact Int.le_trans (Int.min_le_right ..) (minI_le h)
section
variable {X : Cx} {fa : Nat → Addr}
theorem sqT_tyX {K : PySem.W.Frag} {H : Hp} {a : Addr} {xs : List V} (h : SqT K H a xs) : TyX K H (.ref a) (.type "tuple") := by
  rcases h with (h | ⟨o, h⟩) | ⟨o, its, n, h, c, _⟩
  · exact .base (.tup h)
  · exact .fTuple h
  · exact .kTuple h c
theorem ty_ok {B : Bk} {S : Store} {H : Hp} {x : A} {v : V} {t : Ty} (so : StoreOk (gx X fa) ⟨B, S, H⟩) (h : tyF x S = some t) (d : DatA (gx X fa) ⟨B, S, H⟩ x v) : TyX X.K H v (.type t.nm) := by
  unfold tyF at h
  split at h
  · cases h; rw [show v = V.non from d]; exact .base .non
  · cases h; rw [show v = V.bl _ from d]; exact .base (.bl _)
  · cases h; rw [show v = V.int _ from d]; exact .base (.int _)
  · cases h; rw [show v = V.str _ from d]; exact .base (.str _)
  · cases h
    obtain ⟨a, vs, rfl, t, _⟩ := d
    exact sqT_tyX t
  · cases h
    obtain ⟨a, vs, rfl, t, _⟩ := d
    exact .base (.lst t)
  · cases h
    obtain ⟨a, rfl, t⟩ := d
    rcases t with ⟨o, t⟩ | ⟨o, its, n, e, c, _⟩
    · exact .base (.frz t)
    · exact .kList e c
  · rename_i j
    split at h
    · rename_i xs hs
      cases h
      obtain ⟨a, hb, rfl⟩ := d
      obtain ⟨vs, e, _⟩ := so.ob j a xs hb hs
      exact .base (.lst e)
    · cases h
  · cases h
def BltOk (X : Cx) (fa : Nat → Addr) (f : Value) (S : Store) (xs : List A) (z : A) : Prop := ∃ r, CallR X f r ∧
  ∀ vs B H (Q : VK), StoreOk (gx X fa) ⟨B, S, H⟩ → DatAL (gx X fa) ⟨B, S, H⟩ xs vs →
    (∀ u H', StoreOk (gx X fa) ⟨B, S, H'⟩ → Stab (gx X fa) ⟨B, S, H⟩ ⟨B, S, H'⟩ → DatA (gx X fa) ⟨B, S, H'⟩ z u → Q u H') → r vs H Q
theorem DatAL.one {g : G} {z : Z} {x : A} {vs : List V} (h : DatAL g z [x] vs) : ∃ v, vs = [v] ∧ DatA g z x v := by
  obtain ⟨v, r, e, d, e2⟩ := h
  exact ⟨v, by rw [e, show r = [] from e2], d⟩
theorem DatAL.two {g : G} {z : Z} {x y : A} {vs : List V} (h : DatAL g z [x, y] vs) : ∃ v w, vs = [v, w] ∧ DatA g z x v ∧ DatA g z y w := by
  obtain ⟨v, r, e, d, h2⟩ := h
  obtain ⟨w, rfl, d2⟩ := DatAL.one h2
  exact ⟨v, w, e, d, d2⟩
theorem blt_ok {b : Blt} {S : Store} {xs : List A} {z : A} (hc : X.calm = true) (h : bltF b xs S = some z) : BltOk X fa b.val S xs z := by
  unfold bltF at h
  split at h
  case h_1 ds =>
    cases h
    refine ⟨_, call_len_seq, fun vs B H Q so d k => ?_⟩
    obtain ⟨v, rfl, a, ws, rfl, t, _, l⟩ := d.one
    refine ⟨a, ws, rfl, .inl (SqL.of t), ?_⟩
    rw [l.len]
    exact k _ H so Stab.refl rfl
  case h_2 ds =>
    cases h
    refine ⟨_, call_len_seq, fun vs B H Q so d k => ?_⟩
    obtain ⟨v, rfl, a, ws, rfl, t, l⟩ := d.one
    refine ⟨a, ws, rfl, .inr t, ?_⟩
    rw [l.len]
    exact k _ H so Stab.refl rfl
  case h_3 ds =>
    cases h
    refine ⟨_, call_len_seq, fun vs B H Q so d k => ?_⟩
    obtain ⟨v, rfl, a, rfl, t⟩ := d.one
    refine ⟨a, ds.map V.int, rfl, .inl ?_, ?_⟩
    · rcases t with ⟨o, t⟩ | t
      · exact .inl (.inr ⟨o, t⟩)
      · exact .inr t
    · rw [List.length_map]
      exact k _ H so Stab.refl rfl
  case h_4 x =>
    split at h
    · rename_i hl
      cases h
      refine ⟨_, call_len_str, fun vs B H Q so d k => ?_⟩
      obtain ⟨v, rfl, e⟩ := d.one
      exact ⟨x, by rw [show v = V.str x from e], lim_le hl, k _ H so Stab.refl rfl⟩
    · cases h
  case h_5 j =>
    split at h
    · rename_i ys hs
      cases h
      refine ⟨_, call_len_seq, fun vs B H Q so d k => ?_⟩
      obtain ⟨v, rfl, a, hb, rfl⟩ := d.one
      obtain ⟨ws, e, l⟩ := so.ob j a ys hb hs
      refine ⟨a, ws, rfl, .inl (SqL.of e), ?_⟩
      rw [l.len]
      exact k _ H so Stab.refl rfl
    · cases h
  case h_6 i =>
    cases h
    refine ⟨_, call_abs, fun vs B H Q so d k => ?_⟩
    obtain ⟨v, rfl, e⟩ := d.one
    exact ⟨i, by rw [show v = V.int i from e], k _ H so Stab.refl rfl⟩
  case h_7 i =>
    cases h
    refine ⟨_, call_int1, fun vs B H Q so d k => ?_⟩
    obtain ⟨v, rfl, e⟩ := d.one
    exact .inl ⟨i, by rw [show v = V.int i from e], k _ H so Stab.refl rfl⟩
  case h_8 b =>
    cases h
    refine ⟨_, call_int1, fun vs B H Q so d k => ?_⟩
    obtain ⟨v, rfl, e⟩ := d.one
    exact .inr ⟨b, by rw [show v = V.bl b from e], k _ H so Stab.refl rfl⟩
  case h_9 i =>
    split at h
    · rename_i hl
      cases h
      refine ⟨_, call_str_int, fun vs B H Q so d k => ?_⟩
      obtain ⟨v, rfl, e⟩ := d.one
      exact ⟨i, by rw [show v = V.int i from e], hl, k _ H so Stab.refl rfl⟩
    · cases h
  case h_10 x c =>
    cases q : tyF x S with
    | none => rw [q] at h; cases h
    | some t =>
      rw [q] at h
      cases h
      refine ⟨_, call_isi, fun vs B H Q so d k => ?_⟩
      obtain ⟨v, w, rfl, d1, d2⟩ := d.two
      exact ⟨v, w, .type t.nm, .type c.nm, isaF t c, rfl, by rw [show w = V.ty c.nm from d2]; exact .ty _, ty_ok so q d1, kit_ty (kit_isa t c), k _ H so Stab.refl rfl⟩
  case h_11 ds =>
    cases q : D.bls ds with
    | none => rw [q] at h; cases h
    | some bs =>
      rw [q] at h
      cases h
      refine ⟨_, cr_all hc, fun vs B H Q so d k => ?_⟩
      obtain ⟨v, rfl, a, ws, rfl, t, _, l⟩ := d.one
      exact ⟨a, bs, rfl, by rw [← l.bls q]; exact SqL.of t, k _ H so Stab.refl rfl⟩
  case h_12 ds =>
    cases q : D.bls ds with
    | none => rw [q] at h; cases h
    | some bs =>
      rw [q] at h
      cases h
      refine ⟨_, cr_any hc, fun vs B H Q so d k => ?_⟩
      obtain ⟨v, rfl, a, ws, rfl, t, _, l⟩ := d.one
      exact ⟨a, bs, rfl, by rw [← l.bls q]; exact SqL.of t, k _ H so Stab.refl rfl⟩
  case h_13 ds =>
    cases q : D.ints ds with
    | none => rw [q] at h; cases h
    | some bs =>
      rw [q] at h
      cases h
      refine ⟨_, cr_sum hc, fun vs B H Q so d k => ?_⟩
      obtain ⟨v, rfl, a, ws, rfl, t, _, l⟩ := d.one
      exact ⟨a, bs, rfl, by rw [← l.ints q]; exact SqL.of t, k _ H so Stab.refl rfl⟩
  case h_14 ds =>
    split at h
    · rename_i n ns q
      cases h
      refine ⟨_, cr_max hc, fun vs B H Q so d k => ?_⟩
      obtain ⟨v, rfl, a, ws, rfl, t, _, l⟩ := d.one
      refine ⟨a, n :: ns, rfl, by rw [← l.ints q]; exact SqL.of t, Nat.succ_pos _, fun m hm hy => ?_⟩
      have : m = maxI (n :: ns) := Int.le_antisymm (maxI_ge hm) (hy _ maxI_mem)
      rw [this]
      exact k _ H so Stab.refl rfl
    · cases h
  case h_15 ds =>
    split at h
    · rename_i n ns q
      cases h
      refine ⟨_, cr_min hc, fun vs B H Q so d k => ?_⟩
      obtain ⟨v, rfl, a, ws, rfl, t, _, l⟩ := d.one
      refine ⟨a, n :: ns, rfl, by rw [← l.ints q]; exact SqL.of t, Nat.succ_pos _, fun m hm hy => ?_⟩
      have : m = minI (n :: ns) := Int.le_antisymm (hy _ minI_mem) (minI_le hm)
      rw [this]
      exact k _ H so Stab.refl rfl
    · cases h
  case h_16 ds =>
    cases h
    refine ⟨_, call_list_of, fun vs B H Q so d k => ?_⟩
    obtain ⟨v, rfl, a, ws, rfl, t, _, l⟩ := d.one
    exact ⟨a, ws, rfl, .inl (SqL.of t), fun p hp => k _ _ (so.new hp) (Stab.new so hp) (new_lst so hp l)⟩
  case h_17 ds =>
    cases h
    refine ⟨_, call_list_of, fun vs B H Q so d k => ?_⟩
    obtain ⟨v, rfl, a, ws, rfl, t, l⟩ := d.one
    exact ⟨a, ws, rfl, .inr t, fun p hp => k _ _ (so.new hp) (Stab.new so hp) (new_lst so hp l)⟩
  case h_18 ds =>
    cases h
    refine ⟨_, call_tuple_of, fun vs B H Q so d k => ?_⟩
    obtain ⟨v, rfl, a, ws, rfl, t, _, l⟩ := d.one
    exact ⟨a, ws, rfl, .inl ⟨SqL.of t, fun p hp => k _ _ (so.new hp) (Stab.new so hp) (new_tup so hp l)⟩⟩
  case h_19 ds =>
    cases h
    refine ⟨_, call_tuple_of, fun vs B H Q so d k => ?_⟩
    obtain ⟨v, rfl, a, ws, rfl, t, l⟩ := d.one
    exact ⟨a, ws, rfl, .inr ⟨t, k _ H so Stab.refl ⟨a, ws, rfl, t, l⟩⟩⟩
  case h_20 => cases h
end
end Fw

/-! Expressions. -/
namespace Fw
open PySem PySem.Spec PyProof.Rows L2
abbrev SE (fa : Nat → Addr) (cl : Nat → List A → Store → Rz A) (X : Cx) (e : Expr) (c : C) : Prop := PE X e (tE (gx X fa) (ev cl false c))
abbrev ST (fa : Nat → Addr) (cl : Nat → List A → Store → Rz A) (X : Cx) (e : Expr) (c : C) : Prop := PT X e (tT (gx X fa) (ev cl true c))
abbrev SW (fa : Nat → Addr) (cl : Nat → List A → Store → Rz A) (X : Cx) (e : Expr) (c : C) : Prop := PW X e (tT (gx X fa) (ev cl true c))
abbrev SA (fa : Nat → Addr) (cl : Nat → List A → Store → Rz A) (X : Cx) (es : List Expr) (cs : List C) : Prop := PA X es (tA (gx X fa) (evs cl cs))
theorem _root_.L2.PE.imp {X : Cx} {e : Expr} {t t' : TE} (h : PE X e t) (f : ∀ σ H Q, t' σ H Q → t σ H Q) : PE X e t' := ⟨fun pins s σ H Q I q => h.run pins s σ H Q I (f σ H Q q)⟩
theorem _root_.L2.PT.imp {X : Cx} {e : Expr} {t t' : TT} (h : PT X e t) (f : ∀ σ H Q, t' σ H Q → t σ H Q) : PT X e t' := ⟨fun pins s σ H Q I q => h.run pins s σ H Q I (f σ H Q q)⟩
theorem _root_.L2.PW.imp {X : Cx} {e : Expr} {t t' : TT} (h : PW X e t) (f : ∀ σ H Q, t' σ H Q → t σ H Q) : PW X e t' := ⟨fun w pins s σ H Q I q => h.run w pins s σ H Q I (f σ H Q q)⟩
theorem _root_.L2.PA.imp {X : Cx} {e : List Expr} {t t' : TA} (h : PA X e t) (f : ∀ σ H Q, t' σ H Q → t σ H Q) : PA X e t' := ⟨fun p pins s σ H Q I q => h.run p pins s σ H Q I (f σ H Q q)⟩
theorem tst_f {x : A} {S : Store} : tst false x S = .ok x S := rfl
theorem tst_t {x : A} {S S' : Store} {y : A} (h : tst true x S = .ok y S') : ∃ d b, x = .p d ∧ truF d = some b ∧ y = .p (.bl b) ∧ S' = S := by
  cases x with
  | m i => cases h
  | p d =>
    have h' : Rz.of ((truF d).map fun b => A.p (.bl b)) S = .ok y S' := h
    obtain ⟨e, rfl⟩ := Rz.of_ok h'
    cases q : truF d with
    | none => rw [q] at e; cases e
    | some b =>
      rw [q] at e
      cases e
      exact ⟨d, b, rfl, q, rfl, rfl⟩
section
variable {fa : Nat → Addr} {cl : Nat → List A → Store → Rz A} {X : Cx} {e a b : Expr} {c ca cb : C} {pos : Pos} {k : Nat}
/-- a value as a test -/
theorem st_of (h : SE fa cl X e c) (ht : ∀ ρ S, ev cl true c ρ S = (ev cl false c ρ S).bind (tst true)) (he : ∀ whole, isTrue e X.env whole = (do let v ← whole; standAt e.pos; holding [v] (truthy v))) : ST fa cl X e c :=
  (pt_truth h he).imp fun σ H Q q => by
    obtain ⟨B, S, ρ, b, S', eo, so, hm, k⟩ := q
    rw [ht] at hm
    obtain ⟨x, S1, hx, h2⟩ := Rz.bind_ok hm
    obtain ⟨d, b', rfl, hb, e2, rfl⟩ := tst_t h2
    cases e2
    exact tE.use eo so hx fun v B' H' so' st _ dv => ⟨b, tru_dat hb dv, k B' H' so' st⟩
theorem se_var {i : Nat} {x : Str} (hN : X.N[i]? = some x) (hv : Vis X.env.scope x) (hd : (x == ("__debug__" : Str)) = false) (hcd : (x == ("__classdict__" : Str)) = false) : SE fa cl X (.Name x pos) (.var i) :=
  (pe_var hN hv hd hcd).imp fun σ H Q q => by
    obtain ⟨B, S, ρ, x, S', eo, so, hm, k⟩ := q
    rw [ev] at hm
    split at hm
    · rename_i y hy
      rw [tst_f] at hm
      cases hm
      obtain ⟨v, hv, dv⟩ := eo.get i _ hy
      exact ⟨v, hv, k v B H so Stab.refl dv⟩
    · cases hm
theorem se_cst {d : D} {v : V} (h : PE X e (tC v)) (hd : ∀ z, Dat (gx X fa) z d v) : SE fa cl X e (.cst d) := h.imp fun σ H Q q => by
  obtain ⟨B, S, ρ, x, S', eo, so, hm, k⟩ := q
  rw [ev, tst_f] at hm
  cases hm
  exact k v B H so Stab.refl (hd _)
theorem se_bin {op : Operator} (ha : SE fa cl X a ca) (hb : SE fa cl X b cb) : SE fa cl X (.BinOp a op b pos) (.bin op ca cb) := by
  refine ⟨fun pins s σ H Q I q => ?_⟩
  obtain ⟨B, S, ρ, z, S', eo, so, hm, k⟩ := q
  rw [ev] at hm
  obtain ⟨x, S1, hx, hm1⟩ := Rz.bind_ok hm
  obtain ⟨y, S2, hy, hm2⟩ := Rz.bind_ok hm1
  split at hm2
  · rename_i x y
    obtain ⟨w, S3, hw, hm3⟩ := Rz.bind_ok hm2
    obtain ⟨gw, rfl⟩ := Rz.of_ok hw
    rw [tst_f] at hm3
    cases hm3
    obtain ⟨r, hr, ok⟩ := bin_ok (X := X) (fa := fa) gw
    refine (pe_op hr ha hb).run pins s σ H Q I ?_
    refine tE.use eo so hx fun v1 B1 H1 so1 st1 eo1 d1 => tE.use eo1 so1 hy fun v2 B2 H2 so2 st2 eo2 d2 => ?_
    exact ok v1 v2 B2 _ H2 Q so2 (st2.dat _ _ d1) d2 fun u H' so' st' du => k u B2 H' so' ((st1.trans st2).trans st') du
  · cases hm2
theorem se_neg (ha : SE fa cl X a ca) : SE fa cl X (.UnaryOp .USub a pos) (.neg ca) := by
  refine (pe_un un_neg ha).imp fun σ H Q q => ?_
  obtain ⟨B, S, ρ, z, S', eo, so, hm, k⟩ := q
  rw [ev] at hm
  obtain ⟨x, S1, hx, hm1⟩ := Rz.bind_ok hm
  split at hm1
  · rename_i i
    rw [tst_f] at hm1
    cases hm1
    exact tE.use eo so hx fun v1 B1 H1 so1 st1 eo1 d1 => ⟨i, d1, k _ B1 H1 so1 st1 rfl⟩
  · cases hm1
theorem notSet_marks {op : CmpOp} {b : Expr} (h : ∀ es k p, b ≠ .Set es k p) : behindInMarks op b = false := by
  unfold behindInMarks
  split
  · rename_i es k p
    exact absurd rfl (h es k p)
  · rfl
theorem cmp_run {x y : A} {z : Bool} {S S1 S2 : Store} {B : Bk} {ρ : Env} {σ : L2.St} {H : Hp} {r : R2} {Q : VK} (eo : EnvOk (gx X fa) ⟨B, S, H⟩ ρ σ) (so : StoreOk (gx X fa) ⟨B, S, H⟩)
    (hx : ev cl false ca ρ S = .ok x S1) (hy : ev cl false cb ρ S1 = .ok y S2)
    (ok : ∀ v w B S H (Q : VK), StoreOk (gx X fa) ⟨B, S, H⟩ → DatA (gx X fa) ⟨B, S, H⟩ x v → DatA (gx X fa) ⟨B, S, H⟩ y w → Q (.bl z) H → r v w H Q)
    (k : ∀ B' H', StoreOk (gx X fa) ⟨B', S2, H'⟩ → Stab (gx X fa) ⟨B, S, H⟩ ⟨B', S2, H'⟩ → Q (.bl z) H') : tOp r (tE (gx X fa) (ev cl false ca)) (tE (gx X fa) (ev cl false cb)) σ H Q :=
  tE.use eo so hx fun v1 B1 H1 so1 st1 eo1 d1 => tE.use eo1 so1 hy fun v2 B2 H2 so2 st2 eo2 d2 => ok v1 v2 B2 S2 H2 Q so2 (st2.datA d1) d2 (k B2 H2 so2 (st1.trans st2))
theorem se_cmp {op : CmpOp} (hr : Room k X.A) (ha : SE fa cl X a ca) (hb : SE fa cl X b cb) (hs : ∀ es k p, b ≠ .Set es k p) : SE fa cl X (.Compare a [op] [b] pos) (.cmp op ca cb) := by
  refine ⟨fun pins s σ H Q I q => ?_⟩
  obtain ⟨B, S, ρ, z, S', eo, so, hm, k⟩ := q
  rw [ev] at hm
  obtain ⟨x, S1, hx, hm1⟩ := Rz.bind_ok hm
  obtain ⟨y, S2, hy, hm2⟩ := Rz.bind_ok hm1
  obtain ⟨w, S3, hw, hm3⟩ := Rz.bind_ok hm2
  obtain ⟨gw, rfl⟩ := Rz.of_ok hw
  cases hm3
  obtain ⟨r, hop, ok⟩ := cmp_ok (X := X) (fa := fa) hr gw
  exact (pe_cmpR hop ha hb (notSet_marks hs)).run pins s σ H Q I (cmp_run eo so hx hy ok fun B' H' so' st => k _ B' H' so' st rfl)
theorem st_cmp {op : CmpOp} (hr : Room k X.A) (ha : SE fa cl X a ca) (hb : SE fa cl X b cb) (hs : ∀ es k p, b ≠ .Set es k p) : ST fa cl X (.Compare a [op] [b] pos) (.cmp op ca cb) := by
  refine ⟨fun pins s σ H Q I q => ?_⟩
  obtain ⟨B, S, ρ, z, S', eo, so, hm, k⟩ := q
  rw [ev] at hm
  obtain ⟨x, S1, hx, hm1⟩ := Rz.bind_ok hm
  obtain ⟨y, S2, hy, hm2⟩ := Rz.bind_ok hm1
  obtain ⟨w, S3, hw, hm3⟩ := Rz.bind_ok hm2
  obtain ⟨gw, rfl⟩ := Rz.of_ok hw
  cases hm3
  obtain ⟨r, hop, ok⟩ := cmp_ok (X := X) (fa := fa) hr gw
  exact (pt_cmpR hop ha hb (notSet_marks hs)).run pins s σ H Q I (cmp_run eo so hx hy ok fun B' H' so' st => ⟨_, rfl, k B' H' so' st⟩)
theorem chain_run {op op' : CmpOp} {x : A} {S S' : Store} {B : Bk} {ρ : Env} {σ : L2.St} {H : Hp} {z : Bool} (hr : Room k X.A) (eo : EnvOk (gx X fa) ⟨B, S, H⟩ ρ σ) (so : StoreOk (gx X fa) ⟨B, S, H⟩) {cc : C}
    (hm : ev cl false (.chain op op' ca cb cc) ρ S = .ok (.p (.bl z)) S') : ∃ r r', OpR X (compareOp op) r ∧ OpR X (compareOp op') r' ∧ ∀ Q : VK, (∀ B' H', StoreOk (gx X fa) ⟨B', S', H'⟩ → Stab (gx X fa) ⟨B, S, H⟩ ⟨B', S', H'⟩ → Q (.bl z) H') →
      tChain r r' (tE (gx X fa) (ev cl false ca)) (tE (gx X fa) (ev cl false cb)) (tE (gx X fa) (ev cl false cc)) σ H Q := by
  rw [ev] at hm
  obtain ⟨x, S1, hx, hm1⟩ := Rz.bind_ok hm
  obtain ⟨y, S2, hy, hm2⟩ := Rz.bind_ok hm1
  obtain ⟨w, S3, hw, hm3⟩ := Rz.bind_ok hm2
  obtain ⟨gw, rfl⟩ := Rz.of_ok hw
  obtain ⟨r, hop, ok⟩ := cmp_ok (X := X) (fa := fa) hr gw
  cases w with
  | true =>
    simp only [if_true] at hm3
    obtain ⟨w2, S4, hw2, hm4⟩ := Rz.bind_ok hm3
    obtain ⟨z2, S5, hz2, hm5⟩ := Rz.bind_ok hm4
    obtain ⟨gz2, rfl⟩ := Rz.of_ok hz2
    cases hm5
    obtain ⟨r', hop', ok'⟩ := cmp_ok (X := X) (fa := fa) hr gz2
    refine ⟨r, r', hop, hop', fun Q k => ?_⟩
    refine tE.use eo so hx fun v1 B1 H1 so1 st1 eo1 d1 => tE.use eo1 so1 hy fun v2 B2 H2 so2 st2 eo2 d2 => ?_
    refine ok v1 v2 B2 _ H2 _ so2 (st2.datA d1) d2 ⟨true, rfl, ?_⟩
    simp only [if_true]
    exact tE.use eo2 so2 hw2 fun v3 B3 H3 so3 st3 eo3 d3 => ok' v2 v3 B3 _ H3 Q so3 (st3.datA d2) d3 (k B3 H3 so3 ((st1.trans st2).trans st3))
  | false =>
    simp only [Bool.false_eq_true, if_false] at hm3
    cases hm3
    refine ⟨r, fun _ _ _ _ => False, hop, fun _ _ _ _ _ _ _ _ _ _ _ _ f => f.elim, fun Q k => ?_⟩
    refine tE.use eo so hx fun v1 B1 H1 so1 st1 eo1 d1 => tE.use eo1 so1 hy fun v2 B2 H2 so2 st2 eo2 d2 => ?_
    refine ok v1 v2 B2 _ H2 _ so2 (st2.datA d1) d2 ⟨false, rfl, ?_⟩
    simp only [Bool.false_eq_true, if_false]
    exact k B2 H2 so2 (st1.trans st2)
theorem chain_bl {t : Bool} {op op' : CmpOp} {cc : C} {ρ : Env} {S S' : Store} {x : A} (h : ev cl t (.chain op op' ca cb cc) ρ S = .ok x S') : ev cl false (.chain op op' ca cb cc) ρ S = .ok x S' ∧ ∃ b, x = .p (.bl b) := by
  rw [ev] at h
  refine ⟨by rw [ev]; exact h, ?_⟩
  obtain ⟨x, S1, hx, hm1⟩ := Rz.bind_ok h
  obtain ⟨y, S2, hy, hm2⟩ := Rz.bind_ok hm1
  obtain ⟨w, S3, hw, hm3⟩ := Rz.bind_ok hm2
  split at hm3
  · obtain ⟨w2, S4, hw2, hm4⟩ := Rz.bind_ok hm3
    obtain ⟨z2, S5, hz2, hm5⟩ := Rz.bind_ok hm4
    cases hm5
    exact ⟨_, rfl⟩
  · cases hm3
    exact ⟨_, rfl⟩
theorem notSet_last {op op' : CmpOp} {b c : Expr} (h : ∀ es k p, c ≠ .Set es k p) : lastMarks [op, op'] [b, c] = false := by
  show lastMarks [op'] [c] = false
  exact notSet_marks h
theorem se_chain {op op' : CmpOp} {d : Expr} {cd : C} (hr : Room k X.A) (ha : SE fa cl X a ca) (hb : SE fa cl X b cb) (hd : SE fa cl X d cd) (hs : ∀ es k p, d ≠ .Set es k p) : SE fa cl X (.Compare a [op, op'] [b, d] pos) (.chain op op' ca cb cd) := by
  refine ⟨fun pins s σ H Q I q => ?_⟩
  obtain ⟨B, S, ρ, z, S', eo, so, hm, k⟩ := q
  obtain ⟨hm, b', rfl⟩ := chain_bl hm
  obtain ⟨r, r', h1, h2, rd⟩ := chain_run (x := .m 0) hr eo so hm
  exact (pe_chain h1 h2 ha hb hd (notSet_last hs)).run pins s σ H Q I (rd Q fun B' H' so' st => k _ B' H' so' st rfl)
theorem st_chain {op op' : CmpOp} {d : Expr} {cd : C} (hr : Room k X.A) (ha : SE fa cl X a ca) (hb : SE fa cl X b cb) (hd : SE fa cl X d cd) (hs : ∀ es k p, d ≠ .Set es k p) : ST fa cl X (.Compare a [op, op'] [b, d] pos) (.chain op op' ca cb cd) := by
  refine ⟨fun pins s σ H Q I q => ?_⟩
  obtain ⟨B, S, ρ, z, S', eo, so, hm, k⟩ := q
  obtain ⟨hm, b', hb'⟩ := chain_bl hm
  obtain ⟨r, r', h1, h2, rd⟩ := chain_run (x := .m 0) hr eo so hm
  exact (pt_chain h1 h2 ha hb hd (notSet_last hs)).run pins s σ H Q I (rd _ fun B' H' so' st => ⟨_, rfl, k B' H' so' st⟩)
/-! ### and, or, not -/
variable {rest : List Expr}
theorem se_andC (ha : SE fa cl X a ca) (hb : SE fa cl X (.BoolOp .And (b :: rest) pos) cb) : SE fa cl X (.BoolOp .And (a :: b :: rest) pos) (.and ca cb) := by
  refine (pe_andT ha hb).imp fun σ H Q q => ?_
  obtain ⟨B, S, ρ, z, S', eo, so, hm, k⟩ := q
  rw [ev] at hm
  simp only [Bool.false_eq_true, if_false] at hm
  obtain ⟨x, S1, hx, hm1⟩ := Rz.bind_ok hm
  obtain ⟨y, S2, hy, hm2⟩ := Rz.bind_ok hm1
  obtain ⟨d, b', rfl, hb', rfl, rfl⟩ := tst_t hy
  refine tE.use eo so hx fun v1 B1 H1 so1 st1 eo1 d1 => ⟨b', tru_dat hb' d1, ?_⟩
  cases b' with
  | true =>
    simp only [if_true]
    exact tE.use eo1 so1 hm2 fun v2 B2 H2 so2 st2 eo2 d2 => k v2 B2 H2 so2 (st1.trans st2) d2
  | false =>
    simp only [Bool.false_eq_true, if_false]
    cases hm2
    exact k v1 B1 H1 so1 st1 d1
theorem se_orC (ha : SE fa cl X a ca) (hb : SE fa cl X (.BoolOp .Or (b :: rest) pos) cb) : SE fa cl X (.BoolOp .Or (a :: b :: rest) pos) (.or ca cb) := by
  refine (pe_orT ha hb).imp fun σ H Q q => ?_
  obtain ⟨B, S, ρ, z, S', eo, so, hm, k⟩ := q
  rw [ev] at hm
  simp only [Bool.false_eq_true, if_false] at hm
  obtain ⟨x, S1, hx, hm1⟩ := Rz.bind_ok hm
  obtain ⟨y, S2, hy, hm2⟩ := Rz.bind_ok hm1
  obtain ⟨d, b', rfl, hb', rfl, rfl⟩ := tst_t hy
  refine tE.use eo so hx fun v1 B1 H1 so1 st1 eo1 d1 => ⟨b', tru_dat hb' d1, ?_⟩
  cases b' with
  | false =>
    simp only [Bool.false_eq_true, if_false]
    exact tE.use eo1 so1 hm2 fun v2 B2 H2 so2 st2 eo2 d2 => k v2 B2 H2 so2 (st1.trans st2) d2
  | true =>
    simp only [if_true]
    cases hm2
    exact k v1 B1 H1 so1 st1 d1
theorem se_one {op : BoolOp} (ha : SE fa cl X a ca) : SE fa cl X (.BoolOp op [a] pos) ca := pe_one ha
theorem sw_and1 (ha : ST fa cl X a ca) : SW fa cl X (.BoolOp .And [a] pos) ca := pw_and1 ha
theorem sw_or1 (ha : ST fa cl X a ca) : SW fa cl X (.BoolOp .Or [a] pos) ca := pw_or1 ha
theorem ev_bl {x : A} {S' : Store} {ρ : Env} {S : Store} {cc : C} (h : ev cl true cc ρ S = .ok x S') : True := trivial
theorem sw_andC (ha : ST fa cl X a ca) (hb : SW fa cl X (.BoolOp .And (b :: rest) pos) cb) : SW fa cl X (.BoolOp .And (a :: b :: rest) pos) (.and ca cb) := by
  refine (pw_and ha hb).imp fun σ H Q q => ?_
  obtain ⟨B, S, ρ, z, S', eo, so, hm, k⟩ := q
  rw [ev] at hm
  simp only [if_true] at hm
  obtain ⟨x, S1, hx, hm1⟩ := Rz.bind_ok hm
  split at hm1
  · refine tT.use eo so hx fun B1 H1 so1 st1 eo1 => ?_
    simp only [if_true]
    exact tT.use eo1 so1 hm1 fun B2 H2 so2 st2 eo2 => k B2 H2 so2 (st1.trans st2)
  · cases hm1
    refine tT.use eo so hx fun B1 H1 so1 st1 eo1 => ?_
    simp only [Bool.false_eq_true, if_false]
    exact k B1 H1 so1 st1
  · cases hm1
theorem sw_orC (ha : ST fa cl X a ca) (hb : SW fa cl X (.BoolOp .Or (b :: rest) pos) cb) : SW fa cl X (.BoolOp .Or (a :: b :: rest) pos) (.or ca cb) := by
  refine (pw_or ha hb).imp fun σ H Q q => ?_
  obtain ⟨B, S, ρ, z, S', eo, so, hm, k⟩ := q
  rw [ev] at hm
  simp only [if_true] at hm
  obtain ⟨x, S1, hx, hm1⟩ := Rz.bind_ok hm
  split at hm1
  · refine tT.use eo so hx fun B1 H1 so1 st1 eo1 => ?_
    simp only [Bool.false_eq_true, if_false]
    exact tT.use eo1 so1 hm1 fun B2 H2 so2 st2 eo2 => k B2 H2 so2 (st1.trans st2)
  · cases hm1
    refine tT.use eo so hx fun B1 H1 so1 st1 eo1 => ?_
    simp only [if_true]
    exact k B1 H1 so1 st1
  · cases hm1
theorem st_not (ha : ST fa cl X a ca) : ST fa cl X (.UnaryOp .Not a pos) (.not ca) := by
  refine (pt_not ha).imp fun σ H Q q => ?_
  obtain ⟨B, S, ρ, z, S', eo, so, hm, k⟩ := q
  rw [ev] at hm
  obtain ⟨x, S1, hx, hm1⟩ := Rz.bind_ok hm
  split at hm1
  · cases hm1
    exact tT.use eo so hx fun B1 H1 so1 st1 eo1 => k B1 H1 so1 st1
  · cases hm1
theorem not_run {pins : List (Addr × Obj)} {s : Shared} {Q : Value → Shared → Prop} (h : wpAny (model X.prog X.w) X.A (isTrue a X.env (eval a X.env)) (fun b s1 => Q (.bool (!b)) s1) X.xe s) : True := trivial
theorem se_ite {t : Expr} {ct : C} (ht : ST fa cl X t ct) (ha : SE fa cl X a ca) (hb : SE fa cl X b cb) : SE fa cl X (.IfExp t a b pos) (.ite ct ca cb) := by
  refine (pe_ifExp ht ha hb).imp fun σ H Q q => ?_
  obtain ⟨B, S, ρ, z, S', eo, so, hm, k⟩ := q
  rw [ev] at hm
  obtain ⟨x, S1, hx, hm1⟩ := Rz.bind_ok hm
  split at hm1
  · refine tT.use eo so hx fun B1 H1 so1 st1 eo1 => ?_
    simp only [if_true]
    exact tE.use eo1 so1 hm1 fun v2 B2 H2 so2 st2 eo2 d2 => k v2 B2 H2 so2 (st1.trans st2) d2
  · refine tT.use eo so hx fun B1 H1 so1 st1 eo1 => ?_
    simp only [Bool.false_eq_true, if_false]
    exact tE.use eo1 so1 hm1 fun v2 B2 H2 so2 st2 eo2 d2 => k v2 B2 H2 so2 (st1.trans st2) d2
  · cases hm1
/-! ### arguments, displays -/
variable {es : List Expr} {cs : List C}
theorem sa_nil : SA fa cl X [] [] := pa_nil.imp fun σ H Q q => by
  obtain ⟨B, S, ρ, z, S', eo, so, hm, k⟩ := q
  rw [evs] at hm
  cases hm
  exact k [] B H so Stab.refl rfl
theorem sa_cons (ha : SE fa cl X e c) (hr : SA fa cl X es cs) (hs : starEach (e :: es) X.env = (false, eval e X.env) :: starEach es X.env) : SA fa cl X (e :: es) (c :: cs) := (pa_cons ha hr hs).imp fun σ H Q q => by
  obtain ⟨B, S, ρ, z, S', eo, so, hm, k⟩ := q
  rw [evs] at hm
  obtain ⟨x, S1, hx, hm1⟩ := Rz.bind_ok hm
  obtain ⟨xs, S2, hy, hm2⟩ := Rz.bind_ok hm1
  cases hm2
  exact tE.use eo so hx fun v1 B1 H1 so1 st1 eo1 d1 => tA.use eo1 so1 hy fun vs B2 H2 so2 st2 eo2 d2 => k _ B2 H2 so2 (st1.trans st2) ⟨v1, vs, rfl, st2.datA d1, d2⟩
theorem se_tup {x1 : Nat} (h : SA fa cl X es cs) : SE fa cl X (.Tuple es x1 pos) (.tup cs) := (pe_tup h).imp fun σ H Q q => by
  obtain ⟨B, S, ρ, z, S', eo, so, hm, k⟩ := q
  rw [ev] at hm
  obtain ⟨xs, S1, hx, hm1⟩ := Rz.bind_ok hm
  split at hm1
  · rename_i ds hd
    split at hm1
    · rename_i hl
      rw [tst_f] at hm1
      cases hm1
      refine tA.use eo so hx fun vs B1 H1 so1 st1 eo1 d1 => ?_
      have dl := DatAL.datas hd d1
      exact ⟨by rw [dl.len]; exact lim_le hl, fun p hp => k _ B1 _ (so1.new hp) (st1.trans (Stab.new so1 hp)) (new_tup so1 hp dl)⟩
    · cases hm1
  · cases hm1
theorem se_lst (h : SA fa cl X es cs) : SE fa cl X (.List es pos) (.lst cs) := (pe_lst h).imp fun σ H Q q => by
  obtain ⟨B, S, ρ, z, S', eo, so, hm, k⟩ := q
  rw [ev] at hm
  obtain ⟨xs, S1, hx, hm1⟩ := Rz.bind_ok hm
  split at hm1
  · rename_i ds hd
    split at hm1
    · rename_i hl
      rw [tst_f] at hm1
      cases hm1
      refine tA.use eo so hx fun vs B1 H1 so1 st1 eo1 d1 => ?_
      have dl := DatAL.datas hd d1
      exact ⟨by rw [dl.len]; exact lim_le hl, fun p hp => k _ B1 _ (so1.new hp) (st1.trans (Stab.new so1 hp)) (new_lst so1 hp dl)⟩
    · cases hm1
  · cases hm1
theorem se_lstM (h : SA fa cl X es cs) : SE fa cl X (.List es pos) (.lstM cs) := (pe_lst h).imp fun σ H Q q => by
  obtain ⟨B, S, ρ, z, S', eo, so, hm, k⟩ := q
  rw [ev] at hm
  obtain ⟨xs, S1, hx, hm1⟩ := Rz.bind_ok hm
  split at hm1
  · rename_i ds hd
    split at hm1
    · rename_i hl
      cases hm1
      rw [Bool.and_eq_true] at hl
      refine tA.use eo so hx fun vs B1 H1 so1 st1 eo1 d1 => ?_
      have dl := DatAL.datas hd d1
      refine ⟨by rw [dl.len]; exact lim_le (of_decide_eq_true hl.1), fun p hp => k _ (B1.add p) _ (so1.alloc hp dl) (st1.trans (Stab.alloc so1 hp)) ⟨p, ?_, rfl⟩⟩
      show (B1.l ++ [p])[S1.length]? = some p
      rw [← show B1.l.length = S1.length from so1.len, List.getElem?_append_right (Nat.le_refl _), Nat.sub_self]
      rfl
    · cases hm1
  · cases hm1
/-! ### items, slices -/
theorem se_sub (ha : SE fa cl X a ca) (hb : SE fa cl X b cb) (hs : PlainIx b) : SE fa cl X (.Subscript a b pos) (.sub ca cb) := by
  refine ⟨fun pins s σ H Q I q => ?_⟩
  obtain ⟨B, S, ρ, z, S', eo, so, hm, k⟩ := q
  rw [ev] at hm
  obtain ⟨x, S1, hx, hm1⟩ := Rz.bind_ok hm
  obtain ⟨y, S2, hy, hm2⟩ := Rz.bind_ok hm1
  obtain ⟨w, S3, hw, hm3⟩ := Rz.bind_ok hm2
  obtain ⟨gw, rfl⟩ := Rz.of_ok hw
  rw [tst_f] at hm3
  cases hm3
  obtain ⟨r, hr, ok⟩ := sub_ok (X := X) (fa := fa) gw
  refine (pe_ix hr ha hb hs).run pins s σ H Q I ?_
  exact tE.use eo so hx fun v1 B1 H1 so1 st1 eo1 d1 => tE.use eo1 so1 hy fun v2 B2 H2 so2 st2 eo2 d2 => ok v1 v2 B2 H2 Q so2 (st2.datA d1) d2 fun u du => k u B2 H2 so2 (st1.trans st2) du
theorem slc_fin {x z : D} {lo hi : Option Int} {v : V} {B B2 : Bk} {S S2 : Store} {H H2 : Hp} {Q : VK} {r : V → Option Int → Option Int → Hp → VK → Prop}
    (ok : ∀ v B S H (Q : VK), StoreOk (gx X fa) ⟨B, S, H⟩ → Dat (gx X fa) ⟨B, S, H⟩ x v → (∀ u H', StoreOk (gx X fa) ⟨B, S, H'⟩ → Stab (gx X fa) ⟨B, S, H⟩ ⟨B, S, H'⟩ → Dat (gx X fa) ⟨B, S, H'⟩ z u → Q u H') → r v lo hi H Q)
    (so : StoreOk (gx X fa) ⟨B2, S2, H2⟩) (st : Stab (gx X fa) ⟨B, S, H⟩ ⟨B2, S2, H2⟩) (d : Dat (gx X fa) ⟨B2, S2, H2⟩ x v)
    (k : ∀ v B' H', StoreOk (gx X fa) ⟨B', S2, H'⟩ → Stab (gx X fa) ⟨B, S, H⟩ ⟨B', S2, H'⟩ → DatA (gx X fa) ⟨B', S2, H'⟩ (.p z) v → Q v H') : r v lo hi H2 Q :=
  ok v B2 S2 H2 Q so d fun u H' so' st' du => k u B2 H' so' (st.trans st') du
theorem se_slcL {p2 : Pos} (ha : SE fa cl X a ca) (hb : SE fa cl X b cb) : SE fa cl X (.Subscript a (.Slice (some b) none none p2) pos) (.slcL ca cb) := by
  refine ⟨fun pins s σ H Q I q => ?_⟩
  obtain ⟨B, S, ρ, z, S', eo, so, hm, k⟩ := q
  rw [ev] at hm
  obtain ⟨x, S1, hx, hm1⟩ := Rz.bind_ok hm
  obtain ⟨y, S2, hy, hm2⟩ := Rz.bind_ok hm1
  split at hm2
  · rename_i x l
    obtain ⟨w, S3, hw, hm3⟩ := Rz.bind_ok hm2
    obtain ⟨gw, rfl⟩ := Rz.of_ok hw
    rw [tst_f] at hm3
    cases hm3
    obtain ⟨r, hr, ok⟩ := slc_ok (X := X) (fa := fa) gw
    refine (pe_slice hr ha (po_some hb) po_none).run pins s σ H Q I ?_
    exact tE.use eo so hx fun v1 B1 H1 so1 st1 eo1 d1 => tE.use eo1 so1 hy fun v2 B2 H2 so2 st2 eo2 d2 => ⟨l, d2, slc_fin ok so2 (st1.trans st2) (st2.dat _ _ d1) k⟩
  · cases hm2
theorem se_slcH {p2 : Pos} (ha : SE fa cl X a ca) (hb : SE fa cl X b cb) : SE fa cl X (.Subscript a (.Slice none (some b) none p2) pos) (.slcH ca cb) := by
  refine ⟨fun pins s σ H Q I q => ?_⟩
  obtain ⟨B, S, ρ, z, S', eo, so, hm, k⟩ := q
  rw [ev] at hm
  obtain ⟨x, S1, hx, hm1⟩ := Rz.bind_ok hm
  obtain ⟨y, S2, hy, hm2⟩ := Rz.bind_ok hm1
  split at hm2
  · rename_i x l
    obtain ⟨w, S3, hw, hm3⟩ := Rz.bind_ok hm2
    obtain ⟨gw, rfl⟩ := Rz.of_ok hw
    rw [tst_f] at hm3
    cases hm3
    obtain ⟨r, hr, ok⟩ := slc_ok (X := X) (fa := fa) gw
    refine (pe_slice hr ha po_none (po_some hb)).run pins s σ H Q I ?_
    exact tE.use eo so hx fun v1 B1 H1 so1 st1 eo1 d1 => tE.use eo1 so1 hy fun v2 B2 H2 so2 st2 eo2 d2 => ⟨l, d2, slc_fin ok so2 (st1.trans st2) (st2.dat _ _ d1) k⟩
  · cases hm2
theorem se_slcB {p2 : Pos} {d : Expr} {cd : C} (ha : SE fa cl X a ca) (hb : SE fa cl X b cb) (hd : SE fa cl X d cd) : SE fa cl X (.Subscript a (.Slice (some b) (some d) none p2) pos) (.slcB ca cb cd) := by
  refine ⟨fun pins s σ H Q I q => ?_⟩
  obtain ⟨B, S, ρ, z, S', eo, so, hm, k⟩ := q
  rw [ev] at hm
  obtain ⟨x, S1, hx, hm1⟩ := Rz.bind_ok hm
  obtain ⟨y, S2, hy, hm2⟩ := Rz.bind_ok hm1
  obtain ⟨y2, S2', hy2, hm3⟩ := Rz.bind_ok hm2
  split at hm3
  · rename_i x l h
    obtain ⟨w, S3, hw, hm4⟩ := Rz.bind_ok hm3
    obtain ⟨gw, rfl⟩ := Rz.of_ok hw
    rw [tst_f] at hm4
    cases hm4
    obtain ⟨r, hr, ok⟩ := slc_ok (X := X) (fa := fa) gw
    refine (pe_slice hr ha (po_some hb) (po_some hd)).run pins s σ H Q I ?_
    exact tE.use eo so hx fun v1 B1 H1 so1 st1 eo1 d1 => tE.use eo1 so1 hy fun v2 B2 H2 so2 st2 eo2 d2 => ⟨l, d2, tE.use eo2 so2 hy2 fun v3 B3 H3 so3 st3 eo3 d3 => ⟨h, d3, slc_fin ok so3 ((st1.trans st2).trans st3) (st3.dat _ _ (st2.dat _ _ d1)) k⟩⟩
  · cases hm3
/-! ### built-in calls -/
theorem se_blt {f : Blt} {p : Pos} (hc : X.calm = true) (hg : Gl X f.nm) (hmg : X.mg f.nm = none) (h : SA fa cl X (e :: es) (c :: cs)) (he : starEach (e :: es) X.env = (false, eval e X.env) :: starEach es X.env) (hpl : (backTo pos (starEach es X.env)).any (·.1) = false) :
    SE fa cl X (.Call (.Name f.nm p) (e :: es) [] pos) (.blt f (c :: cs)) := by
  refine ⟨fun pins s σ H Q I q => ?_⟩
  obtain ⟨B, S, ρ, z, S', eo, so, hm, k⟩ := q
  rw [ev] at hm
  obtain ⟨xs, S1, hx, hm1⟩ := Rz.bind_ok hm
  obtain ⟨w, S3, hw, hm2⟩ := Rz.bind_ok hm1
  obtain ⟨gw, rfl⟩ := Rz.of_ok hw
  rw [tst_f] at hm2
  cases hm2
  obtain ⟨r, hr, ok⟩ := blt_ok (X := X) (fa := fa) hc gw
  have rd : tCB r (tA (gx X fa) (evs cl (c :: cs))) σ H Q := tA.use eo so hx fun vs B1 H1 so1 st1 eo1 d1 => ok vs B1 H1 Q so1 d1 fun u H' so' st' du => k u B1 H' so' (st1.trans st') du
  have hv : (∃ id, f.val = .builtin id) ∨ ∃ T, f.val = .type T := by cases f <;> first | exact .inl ⟨_, rfl⟩ | exact .inr ⟨_, rfl⟩
  rcases hv with ⟨id, hv⟩ | ⟨T, hv⟩
  · rw [hv] at hr
    exact (pe_callB hr hg hmg (f.boot.trans (by rw [hv])) h f.nn f.nd he hpl).run pins s σ H Q I rd
  · rw [hv] at hr
    exact (pe_callTy hr hg hmg (f.boot.trans (by rw [hv])) h f.nn f.nd he hpl).run pins s σ H Q I rd
/-! ### texts -/
theorem se_fmt (ha : SE fa cl X a ca) : SE fa cl X (.FormattedValue a (-1) none pos) (.fmt ca) := (pe_fmt ha).imp fun σ H Q q => by
  obtain ⟨B, S, ρ, z, S', eo, so, hm, k⟩ := q
  rw [ev] at hm
  obtain ⟨x, S1, hx, hm1⟩ := Rz.bind_ok hm
  obtain ⟨w, S3, hw, hm2⟩ := Rz.bind_ok hm1
  obtain ⟨gw, rfl⟩ := Rz.of_ok hw
  rw [tst_f] at hm2
  cases hm2
  refine tE.use eo so hx fun v1 B1 H1 so1 st1 eo1 d1 => ?_
  unfold fmtF at gw
  split at gw
  · rename_i y
    split at gw
    · rename_i hl
      cases gw
      exact .inl ⟨y, d1, lim_le hl, k _ B1 H1 so1 st1 rfl⟩
    · cases gw
  · rename_i i
    split at gw
    · rename_i hl
      cases gw
      exact .inr ⟨i, d1, hl, k _ B1 H1 so1 st1 rfl⟩
    · cases gw
  · cases gw
/-- the parts of an f-string -/
inductive SJ (fa : Nat → Addr) (cl : Nat → List A → Store → Rz A) (X : Cx) : List Expr → List C → Prop where
  | nil : SJ fa cl X [] []
  | cons {e : Expr} {c : C} {es : List Expr} {cs : List C} (h : SE fa cl X e c) (r : SJ fa cl X es cs) : SJ fa cl X (e :: es) (c :: cs)
theorem SJ.pj : ∀ {es : List Expr} {cs : List C}, SJ fa cl X es cs → PJ X es (cs.map fun c => tE (gx X fa) (ev cl false c))
  | _, _, .nil => .nil
  | _, _, .cons h r => .cons h r.pj
theorem tJs_run {out : Str} {S' : Store} {σ : L2.St} {ρ : Env} : ∀ (cs : List C) (acc : Str) (S : Store) (B : Bk) (H : Hp) (xs : List A) (Q : Str → Hp → Prop), EnvOk (gx X fa) ⟨B, S, H⟩ ρ σ → StoreOk (gx X fa) ⟨B, S, H⟩ → evs cl cs ρ S = .ok xs S' → catF acc xs = some out →
    (∀ B' H', StoreOk (gx X fa) ⟨B', S', H'⟩ → Stab (gx X fa) ⟨B, S, H⟩ ⟨B', S', H'⟩ → Q out H') → tJs (cs.map fun c => tE (gx X fa) (ev cl false c)) acc σ H Q
  | [], acc, S, B, H, xs, Q, eo, so, hx, hc, k => by
    rw [evs] at hx
    cases hx
    cases hc
    exact k B H so Stab.refl
  | c :: cs, acc, S, B, H, xs, Q, eo, so, hx, hc, k => by
    rw [evs] at hx
    obtain ⟨x, S1, h1, hx⟩ := Rz.bind_ok hx
    obtain ⟨ys, S2, h2, hx⟩ := Rz.bind_ok hx
    cases hx
    show tE (gx X fa) (ev cl false c) σ H _
    refine tE.use eo so h1 fun v1 B1 H1 so1 st1 eo1 d1 => ?_
    cases x with
    | m j => simp [catF] at hc
    | p d =>
      cases d with
      | str y =>
        rw [catF] at hc
        split at hc
        · rename_i hl
          refine ⟨y, d1, ?_, tJs_run cs (acc ++ y) S1 B1 H1 ys Q eo1 so1 h2 hc fun B' H' so' st' => k B' H' so' (st1.trans st')⟩
          have : (acc ++ y).length = acc.length + y.length := by
            first | exact Str.length_append .. | (show (acc.cps ++ y.cps).size = _; exact Array.size_append ..)
          rw [this]
          exact lim_le hl
        · cases hc
      | _ => simp [catF] at hc
theorem se_fstr {v1 v2 : Expr} {es : List Expr} (h : SJ fa cl X (v1 :: v2 :: es) cs) : SE fa cl X (.JoinedStr (v1 :: v2 :: es) pos) (.fstr cs) := (pe_joined h.pj).imp fun σ H Q q => by
  obtain ⟨B, S, ρ, z, S', eo, so, hm, k⟩ := q
  rw [ev] at hm
  obtain ⟨xs, S1, hx, hm1⟩ := Rz.bind_ok hm
  obtain ⟨w, S3, hw, hm2⟩ := Rz.bind_ok hm1
  obtain ⟨gw, rfl⟩ := Rz.of_ok hw
  rw [tst_f] at hm2
  cases hm2
  exact tJs_run cs Str.empty S B H xs _ eo so hx gw fun B' H' so' st' => k _ B' H' so' st' rfl
end
end Fw

/-! Tests and values, calls, targets, what is walked, comprehensions. -/
namespace Fw
open PySem PySem.Spec PyProof.Rows L2
theorem tst_bl {t b : Bool} {S : Store} : tst t (.p (.bl b)) S = .ok (.p (.bl b)) S := by cases t <;> rfl
theorem bind_tst {r : Rz A} : (r.bind fun x S => tst true x S) = r.bind (tst true) := rfl
theorem Rz.assoc {α β γ : Type} (r : Rz α) (f : α → Store → Rz β) (g : β → Store → Rz γ) : (r.bind f).bind g = r.bind fun a S => (f a S).bind g := by cases r <;> rfl
theorem Rz.ext {α β : Type} (r : Rz α) {f g : α → Store → Rz β} (h : ∀ a S, f a S = g a S) : r.bind f = r.bind g := by
  cases r with
  | ok a S => exact h a S
  | ex e S => rfl
  | bad => rfl
/-- a test is the truth of the value -/
theorem ev_tst {cl : Nat → List A → Store → Rz A} : ∀ (c : C) (ρ : Env) (S : Store), ev cl true c ρ S = (ev cl false c ρ S).bind (tst true)
  | .var i, ρ, S => by
    rw [ev, ev]
    split <;> rfl
  | .cst d, ρ, S => by
    rw [ev, ev]
    rfl
  | .bin op a b, ρ, S => by
    rw [ev, ev, Rz.assoc]
    refine Rz.ext _ fun x S1 => ?_
    rw [Rz.assoc]
    refine Rz.ext _ fun y S2 => ?_
    cases x <;> cases y <;> first | rfl | (dsimp only; rw [Rz.assoc]; rfl)
  | .neg a, ρ, S => by
    rw [ev, ev, Rz.assoc]
    refine Rz.ext _ fun x S1 => ?_
    split <;> rfl
  | .cmp op a b, ρ, S => by
    rw [ev, ev, Rz.assoc]
    refine Rz.ext _ fun x S1 => ?_
    rw [Rz.assoc]
    refine Rz.ext _ fun y S2 => ?_
    rw [Rz.assoc]
    rfl
  | .chain op op' a b c, ρ, S => by
    rw [ev, ev, Rz.assoc]
    refine Rz.ext _ fun x S1 => ?_
    rw [Rz.assoc]
    refine Rz.ext _ fun y S2 => ?_
    rw [Rz.assoc]
    refine Rz.ext _ fun z S3 => ?_
    split
    · rw [Rz.assoc]
      refine Rz.ext _ fun w S4 => ?_
      rw [Rz.assoc]
      rfl
    · rfl
  | .and a b, ρ, S => by
    rw [ev, ev]
    simp only [if_true, Bool.false_eq_true, if_false]
    rw [ev_tst a, Rz.assoc, Rz.assoc]
    refine Rz.ext _ fun x S1 => ?_
    rw [Rz.assoc]
    cases h : tst true x S1 with
    | ex e S => rfl
    | bad => rfl
    | ok y S2 =>
      obtain ⟨d, b', rfl, hb, rfl, rfl⟩ := tst_t h
      cases b' with
      | true => exact ev_tst b ρ _
      | false => exact h.symm
  | .or a b, ρ, S => by
    rw [ev, ev]
    simp only [if_true, Bool.false_eq_true, if_false]
    rw [ev_tst a, Rz.assoc, Rz.assoc]
    refine Rz.ext _ fun x S1 => ?_
    rw [Rz.assoc]
    cases h : tst true x S1 with
    | ex e S => rfl
    | bad => rfl
    | ok y S2 =>
      obtain ⟨d, b', rfl, hb, rfl, rfl⟩ := tst_t h
      cases b' with
      | false => exact ev_tst b ρ _
      | true => exact h.symm
  | .not a, ρ, S => by
    rw [ev, ev, Rz.assoc]
    refine Rz.ext _ fun x S1 => ?_
    split <;> rfl
  | .ite c a b, ρ, S => by
    rw [ev, ev, Rz.assoc]
    refine Rz.ext _ fun x S1 => ?_
    split
    · exact ev_tst a ρ _
    · exact ev_tst b ρ _
    · rfl
  | .tup cs, ρ, S => by
    rw [ev, ev, Rz.assoc]
    refine Rz.ext _ fun x S1 => ?_
    split
    · split <;> rfl
    · rfl
  | .lst cs, ρ, S => by
    rw [ev, ev, Rz.assoc]
    refine Rz.ext _ fun x S1 => ?_
    split
    · split <;> rfl
    · rfl
  | .lstM cs, ρ, S => by
    rw [ev, ev, Rz.assoc]
    refine Rz.ext _ fun x S1 => ?_
    split
    · rename_i ds _
      cases h : decide (ds.length ≤ LIM) <;> simp [h] <;> rfl
    · rfl
  | .sub a b, ρ, S => by
    rw [ev, ev, Rz.assoc]
    refine Rz.ext _ fun x S1 => ?_
    rw [Rz.assoc]
    refine Rz.ext _ fun y S2 => ?_
    rw [Rz.assoc]
    rfl
  | .slcL a b, ρ, S => by
    rw [ev, ev, Rz.assoc]
    refine Rz.ext _ fun x S1 => ?_
    rw [Rz.assoc]
    refine Rz.ext _ fun y S2 => ?_
    split
    · rw [Rz.assoc]
      rfl
    · rfl
  | .slcH a b, ρ, S => by
    rw [ev, ev, Rz.assoc]
    refine Rz.ext _ fun x S1 => ?_
    rw [Rz.assoc]
    refine Rz.ext _ fun y S2 => ?_
    split
    · rw [Rz.assoc]
      rfl
    · rfl
  | .slcB a b c, ρ, S => by
    rw [ev, ev, Rz.assoc]
    refine Rz.ext _ fun x S1 => ?_
    rw [Rz.assoc]
    refine Rz.ext _ fun y S2 => ?_
    rw [Rz.assoc]
    refine Rz.ext _ fun w S3 => ?_
    split
    · rw [Rz.assoc]
      rfl
    · rfl
  | .call f cs ds, ρ, S => by
    rw [ev, ev, Rz.assoc]
    refine Rz.ext _ fun x S1 => ?_
    rw [Rz.assoc]
    rfl
  | .callK f cs ks asm, ρ, S => by
    rw [ev, ev, Rz.assoc]
    refine Rz.ext _ fun x S1 => ?_
    rw [Rz.assoc]
    refine Rz.ext _ fun y S2 => ?_
    rw [Rz.assoc]
    refine Rz.ext _ fun w S3 => ?_
    rw [Rz.assoc]
    rfl
  | .blt b cs, ρ, S => by
    rw [ev, ev, Rz.assoc]
    refine Rz.ext _ fun x S1 => ?_
    rw [Rz.assoc]
    rfl
  | .mth m o cs, ρ, S => by
    rw [ev, ev, Rz.assoc]
    refine Rz.ext _ fun x S1 => ?_
    split
    · rw [Rz.assoc]
      refine Rz.ext _ fun y S2 => ?_
      rw [Rz.assoc]
      rfl
    · rfl
  | .comp k its tg own none e, ρ, S => by
    rw [ev, ev, Rz.assoc]
    refine Rz.ext _ fun x S1 => ?_
    rw [Rz.assoc]
    refine Rz.ext _ fun y S2 => ?_
    rw [Rz.assoc]
    refine Rz.ext _ fun w S3 => ?_
    split <;> rfl
  | .comp k its tg own (some c) e, ρ, S => by
    rw [ev, ev, Rz.assoc]
    refine Rz.ext _ fun x S1 => ?_
    rw [Rz.assoc]
    refine Rz.ext _ fun y S2 => ?_
    rw [Rz.assoc]
    refine Rz.ext _ fun w S3 => ?_
    split <;> rfl
  | .fstr cs, ρ, S => by
    rw [ev, ev, Rz.assoc]
    refine Rz.ext _ fun x S1 => ?_
    rw [Rz.assoc]
    rfl
  | .maxD a d, ρ, S => by
    rw [ev, ev, Rz.assoc]
    refine Rz.ext _ fun x S1 => ?_
    rw [Rz.assoc]
    refine Rz.ext _ fun y S2 => ?_
    rw [Rz.assoc]
    rfl
  | .fmt c, ρ, S => by
    rw [ev, ev, Rz.assoc]
    refine Rz.ext _ fun x S1 => ?_
    rw [Rz.assoc]
    rfl
  | .isiT a cs, ρ, S => by
    rw [ev, ev, Rz.assoc]
    refine Rz.ext _ fun x S1 => ?_
    split <;> rfl
section
variable {fa : Nat → Addr} {cl : Nat → List A → Store → Rz A} {X : Cx} {e a b : Expr} {c ca cb : C} {pos : Pos} {k : Nat} {es : List Expr} {cs : List C}
theorem se_not (ha : SE fa cl X a ca) : SE fa cl X (.UnaryOp .Not a pos) (.not ca) := (pe_notT ha).imp fun σ H Q q => by
  obtain ⟨B, S, ρ, z, S', eo, so, hm, k⟩ := q
  rw [ev, ev_tst, Rz.assoc] at hm
  obtain ⟨x, S1, hx, hm1⟩ := Rz.bind_ok hm
  obtain ⟨y, S2, hy, hm2⟩ := Rz.bind_ok hm1
  obtain ⟨d, b', rfl, hb', rfl, rfl⟩ := tst_t hy
  cases hm2
  exact tE.use eo so hx fun v1 B1 H1 so1 st1 eo1 d1 => ⟨b', tru_dat hb' d1, k _ B1 H1 so1 st1 rfl⟩
/-! ### calls -/
def spF (g : G) (np : Nat) (m : List A → Store → Rz A) : Sp := fun vs H Q _ => ∃ B S xs x S', StoreOk g ⟨B, S, H⟩ ∧ DatAL g ⟨B, S, H⟩ xs vs ∧ xs.length = np ∧ m xs S = .ok x S' ∧
  ∀ v B' H', StoreOk g ⟨B', S', H'⟩ → Stab g ⟨B, S, H⟩ ⟨B', S', H'⟩ → DatA g ⟨B', S', H'⟩ x v → Q v H'
theorem se_call {f : Addr} {fd : FuncData} {ps : List Str} {fi : Nat} {x : Str} {p : Pos} {dsV : List Value} {dvs : List V} {ds : List D} {np : Nat} (F : FnOk X.prog X.w X.K X.mg X.base CX0 k f fd ps (spF (gx X fa) np (cl fi))) (hr : Room k X.A) (hg : Gl X x) (hmg : X.mg x = some (.ref f))
    (hk : PySem.W.keepIn X.K (.ref f) = true) (hb : Binds X.K fd ps dsV) (hd : Vals dvs dsV) (hdd : ∀ z, DatL (gx X fa) z ds dvs) (hn : cs.length + ds.length + 1 = np) (hx : Passes CX0 X E0) (ha : SA fa cl X (e :: es) (c :: cs))
    (hdb : (x == ("__debug__" : Str)) = false) (he : starEach (e :: es) X.env = (false, eval e X.env) :: starEach es X.env) (hpl : (backTo pos (starEach es X.env)).any (·.1) = false) : SE fa cl X (.Call (.Name x p) (e :: es) [] pos) (.call fi (c :: cs) ds) :=
  (pe_call F hr hg hmg hk hb hd hx ha hdb he hpl).imp fun σ H Q q => by
    obtain ⟨B, S, ρ, z, S', eo, so, hm, k⟩ := q
    rw [ev] at hm
    obtain ⟨xs, S1, hxs, hm1⟩ := Rz.bind_ok hm
    obtain ⟨y, S2, hy, hm2⟩ := Rz.bind_ok hm1
    rw [tst_f] at hm2
    cases hm2
    refine tA.use eo so hxs fun vs B1 H1 so1 st1 eo1 d1 => ⟨B1, S1, xs ++ ds.map A.p, z, S', so1, d1.app (hdd _).ofP, ?_, hy, fun v B' H' so' st' dv => k v B' H' so' (st1.trans st') dv⟩
    have : xs.length = (c :: cs).length := by
      have l : ∀ (cs : List C) (S S1 : Store) (xs : List A), evs cl cs ρ S = .ok xs S1 → xs.length = cs.length := by
        intro cs
        induction cs with
        | nil => intro S S1 xs h; rw [evs] at h; cases h; rfl
        | cons c cs ih =>
          intro S S1 xs h
          rw [evs] at h
          obtain ⟨x, S2, _, h1⟩ := Rz.bind_ok h
          obtain ⟨ys, S3, h2, h3⟩ := Rz.bind_ok h1
          cases h3
          rw [List.length_cons, List.length_cons, ih _ _ _ h2]
      exact l _ _ _ _ hxs
    rw [List.length_append, List.length_map, this, List.length_cons]
    omega
theorem se_call0 {f : Addr} {fd : FuncData} {ps : List Str} {fi : Nat} {x : Str} {p : Pos} {dsV : List Value} {dvs : List V} {ds : List D} {np : Nat} (F : FnOk X.prog X.w X.K X.mg X.base CX0 k f fd ps (spF (gx X fa) np (cl fi))) (hr : Room k X.A) (hg : Gl X x) (hmg : X.mg x = some (.ref f))
    (hk : PySem.W.keepIn X.K (.ref f) = true) (hb : Binds X.K fd ps dsV) (hd : Vals dvs dsV) (hdd : ∀ z, DatL (gx X fa) z ds dvs) (hn : ds.length = np) (hx : Passes CX0 X E0)
    (hdb : (x == ("__debug__" : Str)) = false) : SE fa cl X (.Call (.Name x p) [] [] pos) (.call fi [] ds) :=
  (pe_call0 F hr hg hmg hk hb hd hx hdb).imp fun σ H Q q => by
    obtain ⟨B, S, ρ, z, S', eo, so, hm, k⟩ := q
    rw [ev, evs] at hm
    obtain ⟨xs, S1, hxs, hm1⟩ := Rz.bind_ok hm
    cases hxs
    obtain ⟨y, S2, hy, hm2⟩ := Rz.bind_ok hm1
    rw [tst_f] at hm2
    cases hm2
    exact ⟨B, S, [] ++ ds.map A.p, z, S', so, (hdd _).ofP, by rw [List.nil_append, List.length_map]; exact hn, hy, fun v B' H' so' st' dv => k v B' H' so' st' dv⟩
/-- how a call with keywords binds -/
def KBA (g : G) (fd : FuncData) (ps : List Str) (n : Nat) (ks : List Str) (asm : List (Nat ⊕ D)) : Prop :=
  ∀ (s : Shared) (us ws : List Value) (vs zs : List V) (xs ys qs : List A) (z : Z), g.K.In s.heap → DatAL g z xs vs → DatAL g z ys zs → Vals vs us → Vals zs ws → asmF asm (xs ++ ys) = some qs → us.length = n → ws.length = ks.length →
    ∃ os rs, BindsTo s fd ⟨us, ks.zip ws⟩ (ps.zip os) ∧ Vals rs os ∧ DatAL g z qs rs ∧ rs.length = ps.length
/-- the keywords' values, from the left -/
inductive SK (fa : Nat → Addr) (cl : Nat → List A → Store → Rz A) (X : Cx) : List Keyword → List C → Prop where
  | nil : SK fa cl X [] []
  | cons {nm : Option Str} {e : Expr} {p : Pos} {c : C} {ks : List Keyword} {cs : List C} (h : SE fa cl X e c) (r : SK fa cl X ks cs) : SK fa cl X (⟨nm, e, p⟩ :: ks) (c :: cs)
theorem SK.pk : ∀ {kws : List Keyword} {cs : List C}, SK fa cl X kws cs → PK X kws (tA (gx X fa) (evs cl cs))
  | _, _, .nil => ⟨fun pos pins s σ H Q I h => pk_nil.run pos pins s σ H Q I (by
      obtain ⟨B, S, ρ, z, S', eo, so, hm, k⟩ := h
      rw [evs] at hm
      cases hm
      exact k [] B H so Stab.refl rfl)⟩
  | _, _, .cons h r => ⟨fun pos pins s σ H Q I h' => (pk_cons h r.pk).run pos pins s σ H Q I (by
      obtain ⟨B, S, ρ, z, S', eo, so, hm, k⟩ := h'
      rw [evs] at hm
      obtain ⟨x, S1, hx, hm1⟩ := Rz.bind_ok hm
      obtain ⟨xs, S2, hy, hm2⟩ := Rz.bind_ok hm1
      cases hm2
      exact tE.use eo so hx fun v1 B1 H1 so1 st1 eo1 d1 => tA.use eo1 so1 hy fun vs B2 H2 so2 st2 eo2 d2 => k _ B2 H2 so2 (st1.trans st2) ⟨v1, vs, rfl, st2.datA d1, d2⟩)⟩
theorem evs_len : ∀ {cs : List C} {ρ : Env} {S S1 : Store} {xs : List A}, evs cl cs ρ S = .ok xs S1 → xs.length = cs.length
  | [], ρ, S, S1, xs, h => by
    rw [evs] at h
    cases h
    rfl
  | c :: cs, ρ, S, S1, xs, h => by
    rw [evs] at h
    obtain ⟨x, S2, _, h1⟩ := Rz.bind_ok h
    obtain ⟨ys, S3, h2, h3⟩ := Rz.bind_ok h1
    cases h3
    rw [List.length_cons, List.length_cons, evs_len h2]
/-- f(.., k = v): run on values -/
theorem runK {f : Addr} {fd : FuncData} {ps ks : List Str} {fi n : Nat} {asm : List (Nat ⊕ D)} {pins : List (Addr × Obj)} {σ : L2.St} {H : Hp} {s : Shared} {Q : VK} {us ws : List Value} {vs zs : List V} {xs ys : List A} {z : A} {B : Bk} {S S' : Store} {qs : List A}
    (F : FnOk X.prog X.w X.K X.mg X.base CX0 k f fd ps (spF (gx X fa) ps.length (cl fi))) (hr : Room k X.A) (hb : KBA (gx X fa) fd ps n ks asm) (hx : Passes CX0 X E0) (I : Inv X pins σ H s) (r : Vals vs us) (rz : Vals zs ws)
    (so : StoreOk (gx X fa) ⟨B, S, H⟩) (d1 : DatAL (gx X fa) ⟨B, S, H⟩ xs vs) (d2 : DatAL (gx X fa) ⟨B, S, H⟩ ys zs) (ha : asmF asm (xs ++ ys) = some qs) (l1 : us.length = n) (l2 : ws.length = ks.length) (hm : cl fi qs S = .ok z S')
    (k' : ∀ v B' H', StoreOk (gx X fa) ⟨B', S', H'⟩ → Stab (gx X fa) ⟨B, S, H⟩ ⟨B', S', H'⟩ → DatA (gx X fa) ⟨B', S', H'⟩ z v → Q v H') : wpAny (model X.prog X.w) X.A (call (.ref f) us (ks.zip ws)) (EP X pins σ Q) X.xe s := by
  obtain ⟨os, rs, bt, vr, dr, lr⟩ := hb s us ws vs zs xs ys qs ⟨B, S, H⟩ I.kIn d1 d2 r rz ha l1 l2
  refine wpAny_call (codeAny_mono (F.run X.A X.stack s H ⟨us, ks.zip ws⟩ os rs Q E0 hr I.env0 bt vr ⟨B, S, qs, z, S', so, dr, by rw [← dr.len]; exact lr, hm, k'⟩) fun r s' hq => ?_)
  cases r with
  | error e => exact hx pins σ H s e s' I hq
  | ok fl =>
    cases fl with
    | ret u => exact I.after hq
    | next => exact False.elim hq
    | brk => exact False.elim hq
    | cont => exact False.elim hq
theorem se_callK {f : Addr} {fd : FuncData} {ps ks : List Str} {fi : Nat} {x : Str} {p : Pos} {asm : List (Nat ⊕ D)} {kws : List Keyword} {kcs : List C} (F : FnOk X.prog X.w X.K X.mg X.base CX0 k f fd ps (spF (gx X fa) ps.length (cl fi))) (hr : Room k X.A) (hg : Gl X x) (hmg : X.mg x = some (.ref f))
    (hk : PySem.W.keepIn X.K (.ref f) = true) (hb : KBA (gx X fa) fd ps (cs.length + 1) ks asm) (hx : Passes CX0 X E0) (ha : SA fa cl X (e :: es) (c :: cs)) (hkw : SK fa cl X kws kcs) (hlk : kcs.length = ks.length)
    (hall : (backToKw pos (keywordEach kws X.env)).all (·.1.isSome) = true) (hks : (backToKw pos (keywordEach kws X.env)).filterMap (·.1) = ks)
    (hdb : (x == ("__debug__" : Str)) = false) (he : starEach (e :: es) X.env = (false, eval e X.env) :: starEach es X.env)
    (hpl : ((backTo pos (starEach (e :: es) X.env)).any (·.1) || (backToKw pos (keywordEach kws X.env)).any (·.1.isNone)) = false) : SE fa cl X (.Call (.Name x p) (e :: es) kws pos) (.callK fi (c :: cs) kcs asm) := by
  refine ⟨fun pins s σ H Q I q => ?_⟩
  obtain ⟨B, S, ρ, z, S', eo, so, hm, k⟩ := q
  rw [ev] at hm
  obtain ⟨xs, S1, hxs, hm1⟩ := Rz.bind_ok hm
  obtain ⟨ys, S2, hys, hm2⟩ := Rz.bind_ok hm1
  obtain ⟨qs, S3, hqs, hm3⟩ := Rz.bind_ok hm2
  obtain ⟨gqs, rfl⟩ := Rz.of_ok hqs
  obtain ⟨y, S4, hy, hm4⟩ := Rz.bind_ok hm3
  rw [tst_f] at hm4
  cases hm4
  refine wpAny_Call_Name_kw (ld_glob I hg hmg ?_ hdb)
  refine PySem.W.callWith_KW (h₀ := X.base) I.ok.mod.kin hk hall (thn (ha.run pos pins s σ H (fun vs H1 => ∃ B1, StoreOk (gx X fa) ⟨B1, S1, H1⟩ ∧ Stab (gx X fa) ⟨B, S, H⟩ ⟨B1, S1, H1⟩ ∧ DatAL (gx X fa) ⟨B1, S1, H1⟩ xs vs) I
    (tA.use eo so hxs fun vs B1 H1 so1 st1 eo1 d1 => ⟨B1, so1, st1, d1⟩)) fun us s1 ⟨vs, H1, I1, r, B1, so1, st1, d1⟩ => ?_) hpl he
  refine thn (hkw.pk.run pos pins s1 σ H1 (fun zs H2 => ∃ B2, StoreOk (gx X fa) ⟨B2, S3, H2⟩ ∧ Stab (gx X fa) ⟨B1, S1, H1⟩ ⟨B2, S3, H2⟩ ∧ DatAL (gx X fa) ⟨B2, S3, H2⟩ ys zs) I1
    (tA.use (eo.mono st1) so1 hys fun vs B1 H1 so1 st1 eo1 d1 => ⟨B1, so1, st1, d1⟩)) fun ws s2 ⟨zs, H2, I2, rz, B2, so2, st2, d2⟩ => ⟨I2.kIn, ?_⟩
  rw [hks]
  refine runK F hr hb hx I2 r rz so2 (st2.datAL d1) d2 gqs ?_ ?_ hy fun v B' H' so' st' dv => k v B' H' so' ((st1.trans st2).trans st') dv
  · show us.length = _
    rw [← r.length, d1.len, evs_len hxs]
    rfl
  · rw [← rz.length, d2.len, evs_len hys, hlk]
theorem se_callK0 {f : Addr} {fd : FuncData} {ps ks : List Str} {fi : Nat} {x : Str} {p : Pos} {asm : List (Nat ⊕ D)} {kws : List Keyword} {kcs : List C} (F : FnOk X.prog X.w X.K X.mg X.base CX0 k f fd ps (spF (gx X fa) ps.length (cl fi))) (hr : Room k X.A) (hg : Gl X x) (hmg : X.mg x = some (.ref f))
    (hk : PySem.W.keepIn X.K (.ref f) = true) (hb : KBA (gx X fa) fd ps 0 ks asm) (hx : Passes CX0 X E0) (hkw : SK fa cl X kws kcs) (hlk : kcs.length = ks.length)
    (hall : (backToKw pos (keywordEach kws X.env)).all (·.1.isSome) = true) (hks : (backToKw pos (keywordEach kws X.env)).filterMap (·.1) = ks)
    (hdb : (x == ("__debug__" : Str)) = false)
    (hpl : ((backTo pos (starEach [] X.env)).any (·.1) || (backToKw pos (keywordEach kws X.env)).any (·.1.isNone)) = false) : SE fa cl X (.Call (.Name x p) [] kws pos) (.callK fi [] kcs asm) := by
  refine ⟨fun pins s σ H Q I q => ?_⟩
  obtain ⟨B, S, ρ, z, S', eo, so, hm, k⟩ := q
  rw [ev, evs] at hm
  obtain ⟨xs, S1, hxs, hm1⟩ := Rz.bind_ok hm
  cases hxs
  obtain ⟨ys, S2, hys, hm2⟩ := Rz.bind_ok hm1
  obtain ⟨qs, S3, hqs, hm3⟩ := Rz.bind_ok hm2
  obtain ⟨gqs, rfl⟩ := Rz.of_ok hqs
  obtain ⟨y, S4, hy, hm4⟩ := Rz.bind_ok hm3
  rw [tst_f] at hm4
  cases hm4
  refine wpAny_Call_Name_kw (ld_glob I hg hmg ?_ hdb)
  refine PySem.W.callWith_KW0 (h₀ := X.base) I.ok.mod.kin hk hall (thn (hkw.pk.run pos pins s σ H (fun zs H2 => ∃ B2, StoreOk (gx X fa) ⟨B2, S3, H2⟩ ∧ Stab (gx X fa) ⟨B, S, H⟩ ⟨B2, S3, H2⟩ ∧ DatAL (gx X fa) ⟨B2, S3, H2⟩ ys zs) I
    (tA.use eo so hys fun vs B1 H1 so1 st1 eo1 d1 => ⟨B1, so1, st1, d1⟩)) fun ws s2 ⟨zs, H2, I2, rz, B2, so2, st2, d2⟩ => ⟨I2.kIn, ?_⟩) hpl
  rw [hks]
  refine runK (us := []) (vs := []) (xs := []) F hr hb hx I2 .nil rz so2 rfl d2 gqs rfl ?_ hy fun v B' H' so' st' dv => k v B' H' so' (st2.trans st') dv
  rw [← rz.length, d2.len, evs_len hys, hlk]
end
end Fw

/-! max of a list of ints with a default. -/
namespace Fw
open PySem PySem.Spec PyProof.Rows L2
def rMaxDf (K : PySem.W.Frag) : List V → List V → Hp → VK → Prop := fun vs zs H Q => ∃ (a : Addr) (ns : List Int) (d : Int), vs = [V.ref a] ∧ zs = [V.int d] ∧ SqL K H a (ns.map V.int) ∧ Q (.int (maxDf d ns)) H
theorem reads_ints {h : Heap} : ∀ {ns : List Int} {its : List Value}, Vals (ns.map V.int) its → ∃ as, ReadsAll h its (ns.map .int) as
  | [], _, .nil => ⟨_, .nil⟩
  | n :: ns, _, .cons ⟨t, e⟩ r => by
    subst e
    obtain ⟨as, ih⟩ := reads_ints (h := h) r
    exact ⟨_, .cons (.int n t) ih⟩
theorem depth_ints : ∀ ns : List Int, PyData.depthAll (ns.map .int) ≤ 1
  | [] => by simp [PyData.depthAll]
  | n :: ns => by
    have := depth_ints ns
    simp [PyData.depthAll, PyData.depth] at this ⊢
    omega
theorem cr_maxDf {X : Cx} {k : Nat} (hc : X.calm = true) (hr : Room k X.A) : CallRK X (.builtin "max") ["default"] (rMaxDf X.K) := by
  intro pins s σ H vs zs us ws Q I r rz h
  obtain ⟨a, ns, d, rfl, rfl, hs, q⟩ := h
  obtain ⟨its, rv, hl, _⟩ := I.list hs
  rw [Vals.ref1 r]
  obtain ⟨wd, rfl, td, rfl⟩ := Vals.one rz
  obtain ⟨as, ra⟩ := reads_ints (h := s.heap) rv
  have hu : X.A.units + 65 < cLine := by have := hr.un; omega
  have hdp := depth_ints ns
  refine PySem.W.max_list_default (I.ok.hd hc) hl.isList (xs := ns.map .int) ra ⟨fun x hx y hy => ?_, fun x hx => ?_⟩ (by omega) (fun e h' tk hk => ?_) fun y ys i v h' tk bs e hv rd hk => ?_
  · obtain ⟨i, _, rfl⟩ := List.mem_map.mp hx
    obtain ⟨j, _, rfl⟩ := List.mem_map.mp hy
    rfl
  · obtain ⟨i, _, rfl⟩ := List.mem_map.mp hx
    intro z
    cases z
  · have e := List.map_eq_nil_iff.mp e
    subst e
    exact ⟨.int d, H, I.kept hk, ⟨_, rfl⟩, q⟩
  · cases ns with
    | nil => cases e
    | cons n ns =>
      rw [List.map_cons] at e
      injection e with e1 e2
      subst e1
      subst e2
      rw [PySem.W.maxD_ints] at rd
      cases rd with
      | int _ t => exact ⟨.int _, H, I.kept hk, ⟨_, rfl⟩, q⟩
section
variable {fa : Nat → Addr} {cl : Nat → List A → Store → Rz A} {X : Cx} {k : Nat} {a d : Expr} {ca cd : C} {p kp pos : Pos}
theorem se_maxD (hc : X.calm = true) (hr : Room k X.A) (hg : Gl X "max") (hmg : X.mg "max" = none) (he : starEach [a] X.env = (false, eval a X.env) :: starEach [] X.env) (ha : SA fa cl X [a] [ca]) (hd : SE fa cl X d cd) : SE fa cl X (.Call (.Name "max" p) [a] [⟨some "default", d, kp⟩] pos) (.maxD ca cd) := by
  have hp := pe_callBK (p := p) (pos := pos) (cr_maxDf hc hr) hg hmg (by rfl) ha (SK.cons (nm := some "default") (p := kp) hd .nil).pk (by decide) (by decide) (by rw [he]; rfl) (by rw [he]; rfl) rfl rfl rfl
  refine hp.imp fun σ H Q q => ?_
  obtain ⟨B, S, ρ, z, S', eo, so, hm, k⟩ := q
  rw [ev] at hm
  obtain ⟨x, S1, hx, hm1⟩ := Rz.bind_ok hm
  obtain ⟨y, S2, hy, hm2⟩ := Rz.bind_ok hm1
  obtain ⟨w, S3, hw, hm3⟩ := Rz.bind_ok hm2
  obtain ⟨gw, rfl⟩ := Rz.of_ok hw
  rw [tst_f] at hm3
  cases hm3
  have ex : evs cl [ca] ρ S = .ok [x] S1 := by rw [evs, hx]; rfl
  have ey : evs cl [cd] ρ S1 = .ok [y] S' := by rw [evs, hy]; rfl
  refine tA.use eo so ex fun vs B1 H1 so1 st1 eo1 d1 => tA.use eo1 so1 ey fun zs B2 H2 so2 st2 eo2 d2 => ?_
  unfold maxF at gw
  split at gw
  · rename_i ds dd
    cases hq : D.ints ds with
    | none => rw [hq] at gw; cases gw
    | some ns =>
      rw [hq] at gw
      cases gw
      obtain ⟨v, rfl, l, ws, rfl, t, _, hl⟩ := (st2.datAL d1).one
      obtain ⟨u, rfl, hu⟩ := d2.one
      exact ⟨l, ns, dd, rfl, by rw [show u = V.int dd from hu], by rw [← hl.ints hq]; exact SqL.of t, k _ B2 H2 so2 (st1.trans st2) rfl⟩
  · cases gw
end
end Fw

/-! Targets, what is walked, comprehensions, methods. -/
namespace Fw
open PySem PySem.Spec PyProof.Rows L2
/-! ### a weaker step: what was known is known -/
structure Sub (g : G) (z z' : Z) : Prop where
  dat : ∀ d v, Dat g z d v → Dat g z' d v
  pre : ∀ (i : Nat) a, z.B.l[i]? = some a → z'.B.l[i]? = some a
section
variable {g : G} {z z' z'' : Z} {ρ : Env} {σ : L2.St}
theorem Stab.sub (s : Stab g z z') : Sub g z z' := ⟨s.dat, s.pre⟩
theorem Sub.trans (a : Sub g z z') (b : Sub g z' z'') : Sub g z z'' := ⟨fun d v h => b.dat d v (a.dat d v h), fun i c h => b.pre i c (a.pre i c h)⟩
theorem Sub.datL (s : Sub g z z') : ∀ {ds : List D} {vs : List V}, DatL g z ds vs → DatL g z' ds vs
  | [], _, h => h
  | d :: ds, _, ⟨v, r, e, a, b⟩ => ⟨v, r, e, s.dat d v a, s.datL b⟩
theorem Sub.datA (s : Sub g z z') : ∀ {x : A} {v : V}, DatA g z x v → DatA g z' x v
  | .p d, v, h => s.dat d v h
  | .m i, v, ⟨a, h, e⟩ => ⟨a, s.pre i a h, e⟩
theorem EnvOk.sub (e : EnvOk g z ρ σ) (s : Sub g z z') : EnvOk g z' ρ σ := ⟨e.len, fun i x h => by
  obtain ⟨v, a, b⟩ := e.get i x h
  exact ⟨v, a, s.datA b⟩⟩
end
/-! ### a list that is being made -/
def Bk.opn (B : Bk) (p : Addr) : Bk := ⟨B.l, p :: B.E⟩
section
variable {g : G} {B : Bk} {S : Store} {H : Hp} {p : Addr}
theorem live_opn {a : Addr} (h : live (B.opn p) S a) (hn : a ≠ p) : live B S a := by
  rcases h with h | h
  · exact .inl h
  · rcases List.mem_cons.mp h with h | h
    · exact absurd h hn
    · exact .inr h
theorem Sub.open {o : HO} (hp : H p = none) : Sub g ⟨B, S, H⟩ ⟨B.opn p, S, upd H p o⟩ :=
  ⟨Dat.mono (fun a vs h => sqT_upd hp h) (fun a vs h n => ⟨at_upd hp h, fun q => n (live_opn q (ne_of_none h hp))⟩) fun a o u h => at_upd hp h, fun _ _ h => h⟩
theorem StoreOk.open {xs : List V} (k : StoreOk g ⟨B, S, H⟩) (hp : H p = none) : StoreOk g ⟨B.opn p, S, upd H p (.lst xs)⟩ := by
  refine ⟨k.len, k.nd, fun i a ys h1 h2 => ?_, fun i a h1 => ?_, fun a ha => ?_⟩
  · obtain ⟨ws, e, q⟩ := k.ob i a ys h1 h2
    exact ⟨ws, by show upd H p _ a = _; rw [upd_ne (ne_of_none e hp)]; exact e, (Sub.open hp).datL q⟩
  · obtain ⟨u, e⟩ := k.has i a h1
    exact ⟨u, by show upd H p _ a = _; rw [upd_ne (ne_of_none e hp)]; exact e⟩
  · rcases List.mem_cons.mp ha with rfl | ha
    · exact ⟨⟨_, upd_same⟩, k.notIn hp⟩
    · obtain ⟨⟨u, e⟩, n⟩ := k.ex a ha
      exact ⟨⟨u, by show upd H p _ a = _; rw [upd_ne (ne_of_none e hp)]; exact e⟩, n⟩
theorem live_mono_opn {a : Addr} (h : live B S a) : live (B.opn p) S a := by
  rcases h with h | h
  · exact .inl h
  · exact .inr (List.mem_cons_of_mem _ h)
theorem Sub.close : Sub g ⟨B.opn p, S, H⟩ ⟨B, S, H⟩ := ⟨Dat.mono (fun _ _ h => h) (fun _ _ h n => ⟨h, fun q => n (live_mono_opn q)⟩) fun _ _ _ h => h, fun _ _ h => h⟩
theorem StoreOk.close (k : StoreOk g ⟨B.opn p, S, H⟩) : StoreOk g ⟨B, S, H⟩ :=
  ⟨k.len, k.nd, fun i a ys h1 h2 => by
    obtain ⟨ws, e, q⟩ := k.ob i a ys h1 h2
    exact ⟨ws, e, Sub.close.datL q⟩, k.has, fun a ha => k.ex a (List.mem_cons_of_mem _ ha)⟩
/-- one more item -/
theorem Sub.push {xs : List V} {ys : List V} (k : StoreOk g ⟨B.opn p, S, H⟩) (h : H p = some (.lst xs)) : Sub g ⟨B.opn p, S, H⟩ ⟨B.opn p, S, upd H p (.lst ys)⟩ := by
  refine ⟨Dat.mono (fun b us q => ?_) (fun b us q n => ?_) fun b o u q => ?_, fun _ _ q => q⟩
  · rcases q with (q | ⟨u, q⟩) | q
    · have q : H b = _ := q
      exact .inl (.inl (by show upd H p _ b = _; rw [upd_ne (ne_of q h (by intro z; cases z))]; exact q))
    · have q : H b = _ := q
      exact .inl (.inr ⟨u, by show upd H p _ b = _; rw [upd_ne (ne_of q h (by intro z; cases z))]; exact q⟩)
    · exact .inr q
  · have nb : b ≠ p := fun z => n (.inr (by rw [z]; exact List.mem_cons_self ..))
    exact ⟨by show upd H p _ b = _; rw [upd_ne nb]; exact q, n⟩
  · have q : H b = _ := q
    show upd H p _ b = _
    rw [upd_ne (ne_of q h (by intro z; cases z))]
    exact q
theorem StoreOk.push {xs ys : List V} (k : StoreOk g ⟨B.opn p, S, H⟩) (h : H p = some (.lst xs)) : StoreOk g ⟨B.opn p, S, upd H p (.lst ys)⟩ := by
  have np : p ∉ B.l := (k.ex p (List.mem_cons_self ..)).2
  refine ⟨k.len, k.nd, fun i a zs h1 h2 => ?_, fun i a h1 => ?_, fun a ha => ?_⟩
  · obtain ⟨ws, e, q⟩ := k.ob i a zs h1 h2
    have na : a ≠ p := fun z => np (by rw [← z]; exact List.mem_of_getElem? h1)
    exact ⟨ws, by show upd H p _ a = _; rw [upd_ne na]; exact e, (Sub.push k h).datL q⟩
  · obtain ⟨u, e⟩ := k.has i a h1
    have na : a ≠ p := fun z => np (by rw [← z]; exact List.mem_of_getElem? h1)
    exact ⟨u, by show upd H p _ a = _; rw [upd_ne na]; exact e⟩
  · obtain ⟨⟨u, e⟩, n⟩ := k.ex a ha
    by_cases na : a = p
    · subst na
      exact ⟨⟨_, upd_same⟩, n⟩
    · exact ⟨⟨u, by show upd H p _ a = _; rw [upd_ne na]; exact e⟩, n⟩
end
/-! ### targets -/
mutual
def Tg.slots : Tg → List Nat
  | .nm i => [i]
  | .tp ts => Tg.slotsL ts
def Tg.slotsL : List Tg → List Nat
  | [] => []
  | t :: ts => t.slots ++ Tg.slotsL ts
end
def Off (vs : List Nat) (σ σ' : L2.St) : Prop := σ'.length = σ.length ∧ ∀ i, i ∉ vs → σ'[i]? = σ[i]?
def gT (g : G) (t : Tg) : TG := fun v σ H Q => ∃ B S ρ x ρ', EnvOk g ⟨B, S, H⟩ ρ σ ∧ StoreOk g ⟨B, S, H⟩ ∧ DatA g ⟨B, S, H⟩ x v ∧ bindT t x ρ = some ρ' ∧ ∀ σ', EnvOk g ⟨B, S, H⟩ ρ' σ' → Off t.slots σ σ' → Q σ' H
def gTs (g : G) (ts : List Tg) : TGs := fun vs σ H Q => ∃ B S ρ ds ρ', EnvOk g ⟨B, S, H⟩ ρ σ ∧ StoreOk g ⟨B, S, H⟩ ∧ DatL g ⟨B, S, H⟩ ds vs ∧ bindTs ts ds ρ = some ρ' ∧ ∀ σ', EnvOk g ⟨B, S, H⟩ ρ' σ' → Off (Tg.slotsL ts) σ σ' → Q σ' H
theorem _root_.L2.PG.imp {X : Cx} {e : Expr} {t t' : TG} (h : PG X e t) (f : ∀ v σ H Q, t' v σ H Q → t v σ H Q) : PG X e t' := ⟨fun pins s σ H v u Q I r q => h.run pins s σ H v u Q I r (f v σ H Q q)⟩
theorem _root_.L2.PGs.imp {X : Cx} {e : List Expr} {t t' : TGs} (h : PGs X e t) (f : ∀ v σ H Q, t' v σ H Q → t v σ H Q) : PGs X e t' := ⟨fun pins s σ H v u Q I r q => h.run pins s σ H v u Q I r (f v σ H Q q)⟩
theorem Off.refl {vs : List Nat} {σ : L2.St} : Off vs σ σ := ⟨rfl, fun _ _ => rfl⟩
theorem bindTs_len {ts : List Tg} : ∀ {ds : List D} {ρ ρ' : Env}, bindTs ts ds ρ = some ρ' → ds.length = ts.length := by
  induction ts with
  | nil =>
    intro ds ρ ρ' h
    cases ds with
    | nil => rfl
    | cons d ds => simp [bindTs] at h
  | cons t ts ih =>
    intro ds ρ ρ' h
    cases ds with
    | nil => simp [bindTs] at h
    | cons d ds =>
      rw [bindTs] at h
      split at h
      · rw [List.length_cons, List.length_cons, ih h]
      · cases h
section
variable {fa : Nat → Addr} {cl : Nat → List A → Store → Rz A} {X : Cx} {e a b tg : Expr} {c ca cb : C} {pos : Pos} {k : Nat} {es : List Expr} {cs : List C}
abbrev SG (fa : Nat → Addr) (X : Cx) (e : Expr) (t : Tg) : Prop := PG X e (gT (gx X fa) t)
abbrev SGs (fa : Nat → Addr) (X : Cx) (e : List Expr) (t : List Tg) : Prop := PGs X e (gTs (gx X fa) t)
theorem sg_name {i : Nat} {x : Str} (hN : X.N.Nodup) (hi : X.N[i]? = some x) (hx : Loc X.env.scope x) (hf : X.fn x = true ∨ X.env.scope.names.lookup x = some .local) : SG fa X (.Name x pos) (.nm i) :=
  (pg_name hN hi hx hf).imp fun v σ H Q q => by
    obtain ⟨B, S, ρ, x, ρ', eo, so, dv, hb, k⟩ := q
    rw [bindT] at hb
    cases hb
    refine k _ (eo.set dv) ⟨by rw [List.length_set], fun j hj => ?_⟩
    rw [List.getElem?_set_ne]
    intro h
    exact hj (by rw [← h]; exact List.mem_singleton.mpr rfl)
theorem sgs_nil : SGs fa X [] [] := pgs_nil.imp fun vs σ H Q q => by
  obtain ⟨B, S, ρ, ds, ρ', eo, so, dv, hb, k⟩ := q
  cases ds with
  | nil =>
    rw [bindTs] at hb
    cases hb
    exact ⟨dv, k σ eo Off.refl⟩
  | cons d ds => simp [bindTs] at hb
theorem sgs_cons {t : Tg} {ts : List Tg} (h1 : SG fa X e t) (h2 : SGs fa X es ts) (hs : (assignEach (e :: es) X.env).map (·.2) = assign e X.env :: (assignEach es X.env).map (·.2)) : SGs fa X (e :: es) (t :: ts) :=
  (pgs_cons h1 h2 hs).imp fun vs σ H Q q => by
    obtain ⟨B, S, ρ, ds, ρ', eo, so, dv, hb, k⟩ := q
    cases ds with
    | nil => simp [bindTs] at hb
    | cons d ds =>
      obtain ⟨v, r, rfl, d1, d2⟩ := dv
      rw [bindTs] at hb
      split at hb
      · rename_i ρ1 h1
        refine ⟨v, r, rfl, B, S, ρ, .p d, ρ1, eo, so, d1, h1, fun σ' eo' off => ?_⟩
        refine ⟨B, S, ρ1, ds, ρ', eo', so, d2, hb, fun σ2 eo2 off2 => k σ2 eo2 ⟨off2.1.trans off.1, fun i hi => ?_⟩⟩
        have hi' : i ∉ t.slots ++ Tg.slotsL ts := hi
        rw [List.mem_append] at hi'
        rw [off2.2 i fun z => hi' (.inr z), off.2 i fun z => hi' (.inl z)]
      · cases hb
theorem sg_tup {ts : List Tg} {kk : Nat} (hc : X.calm = true) (h : SGs fa X es ts) (hn : (assignEach es X.env).length = ts.length) (hst : (assignEach es X.env).findIdx? (·.1) = none) : SG fa X (.Tuple es kk pos) (.tp ts) :=
  (pg_tup hc h hn hst).imp fun v σ H Q q => by
    obtain ⟨B, S, ρ, x, ρ', eo, so, dv, hb, k⟩ := q
    cases x with
    | m i => simp [bindT] at hb
    | p d =>
      cases d with
      | tup ds =>
        rw [bindT] at hb
        obtain ⟨a, vs, rfl, t, l⟩ := dv
        exact ⟨a, vs, rfl, t, by rw [l.len, bindTs_len hb], B, S, ρ, ds, ρ', eo, so, l, hb, k⟩
      | _ => simp [bindT] at hb
/-! ### what is walked -/
structure Walks (g : G) (J : It) (z0 : Z) (items : List A) : Prop where
  go : ∀ (i : Nat) B S H, Sub g z0 ⟨B, S, H⟩ → StoreOk g ⟨B, S, H⟩ → i < items.length → J.go i H
  yld : ∀ (i : Nat) B S H x H' y, Sub g z0 ⟨B, S, H⟩ → StoreOk g ⟨B, S, H⟩ → items[i]? = some y → J.yld i H x H' → StoreOk g ⟨B, S, H'⟩ ∧ Stab g ⟨B, S, H⟩ ⟨B, S, H'⟩ ∧ DatA g ⟨B, S, H'⟩ y x
  stop : ∀ B S H, Sub g z0 ⟨B, S, H⟩ → StoreOk g ⟨B, S, H⟩ → J.stop items.length H
def iW (g : G) (cl : Nat → List A → Store → Rz A) (k : ItK) (its : List C) : TI := fun σ H R => ∃ B S ρ xs S' items, EnvOk g ⟨B, S, H⟩ ρ σ ∧ StoreOk g ⟨B, S, H⟩ ∧ evs cl its ρ S = .ok xs S' ∧ walkF k xs = some items ∧
  ∀ J B' H', StoreOk g ⟨B', S', H'⟩ → Stab g ⟨B, S, H⟩ ⟨B', S', H'⟩ → Walks g J ⟨B', S', H'⟩ items → R J H'
abbrev SI (fa : Nat → Addr) (cl : Nat → List A → Store → Rz A) (X : Cx) (tg e : Expr) (k : ItK) (its : List C) : Prop := PI X tg e (iW (gx X fa) cl k its)
theorem map_p {ds : List D} {i : Nat} {y : A} (h : (ds.map A.p)[i]? = some y) : ∃ d, ds[i]? = some d ∧ y = .p d := by
  rw [List.getElem?_map] at h
  cases q : ds[i]? with
  | none => rw [q] at h; cases h
  | some d =>
    rw [q] at h
    cases h
    exact ⟨d, rfl, rfl⟩
theorem walks_list {g : G} {z : Z} {a : Addr} {ds : List D} (d : Dat g z (.lst ds) (.ref a)) : Walks g (Itl g.K a) z (ds.map .p) := by
  have at_ : ∀ B S H, Sub g z ⟨B, S, H⟩ → ∃ vs, H a = some (.lst vs) ∧ DatL g ⟨B, S, H⟩ ds vs := fun B S H s => by
    obtain ⟨a', vs, e, t, _, l⟩ := s.dat _ _ d
    cases e
    exact ⟨vs, t, l⟩
  refine ⟨fun i B S H s so hi => ?_, fun i B S H x H' y s so hy q => ?_, fun B S H s so => ?_⟩
  · obtain ⟨vs, t, l⟩ := at_ B S H s
    rw [List.length_map] at hi
    obtain ⟨v, hv, _⟩ := l.get (List.getElem?_eq_getElem hi)
    exact ⟨vs, v, SqL.of t, hv⟩
  · obtain ⟨vs, t, l⟩ := at_ B S H s
    obtain ⟨rfl, q⟩ := q
    obtain ⟨d', hd', rfl⟩ := map_p hy
    obtain ⟨v, hv, dv⟩ := l.get hd'
    have := (q vs (SqL.of t)).symm.trans hv
    cases this
    exact ⟨so, Stab.refl, dv⟩
  · obtain ⟨vs, t, l⟩ := at_ B S H s
    exact ⟨vs, SqL.of t, by rw [List.length_map, l.len]; exact Nat.le_refl _⟩
theorem walks_tup {g : G} {z : Z} {a : Addr} {ds : List D} (d : Dat g z (.tup ds) (.ref a)) : Walks g (Itt g.K a) z (ds.map .p) := by
  have at_ : ∀ B S H, Sub g z ⟨B, S, H⟩ → ∃ vs, SqT g.K H a vs ∧ DatL g ⟨B, S, H⟩ ds vs := fun B S H s => by
    obtain ⟨a', vs, e, t, l⟩ := s.dat _ _ d
    cases e
    exact ⟨vs, t, l⟩
  refine ⟨fun i B S H s so hi => ?_, fun i B S H x H' y s so hy q => ?_, fun B S H s so => ?_⟩
  · obtain ⟨vs, t, l⟩ := at_ B S H s
    rw [List.length_map] at hi
    obtain ⟨v, hv, _⟩ := l.get (List.getElem?_eq_getElem hi)
    exact ⟨vs, v, t, hv⟩
  · obtain ⟨vs, t, l⟩ := at_ B S H s
    obtain ⟨rfl, q⟩ := q
    obtain ⟨d', hd', rfl⟩ := map_p hy
    obtain ⟨v, hv, dv⟩ := l.get hd'
    have := (q vs t).symm.trans hv
    cases this
    exact ⟨so, Stab.refl, dv⟩
  · obtain ⟨vs, t, l⟩ := at_ B S H s
    exact ⟨vs, t, by rw [List.length_map, l.len]; exact Nat.le_refl _⟩
theorem walks_range {g : G} {z : Z} {lo : Int} {n : Nat} : Walks g (Itr lo n) z ((List.range n).map fun (i : Nat) => .p (.int (lo + i))) := by
  refine ⟨fun i B S H s so hi => ?_, fun i B S H x H' y s so hy q => ?_, fun B S H s so => ?_⟩
  · rw [List.length_map, List.length_range] at hi
    exact hi
  · obtain ⟨rfl, rfl⟩ := q
    rw [List.getElem?_map] at hy
    cases h : (List.range n)[i]? with
    | none => rw [h] at hy; cases hy
    | some j =>
      rw [h] at hy
      cases hy
      have : j = i := by
        obtain ⟨hl, e⟩ := List.getElem?_eq_some_iff.mp h
        rw [List.getElem_range] at e
        exact e.symm
      rw [this]
      exact ⟨so, Stab.refl, rfl⟩
  · show n ≤ _
    rw [List.length_map, List.length_range]
    exact Nat.le_refl _
theorem walks_str {g : G} {z : Z} {x : Str} : Walks g (Its x) z (x.cps.toList.map fun c => .p (.str ⟨#[c]⟩)) := by
  refine ⟨fun i B S H s so hi => ?_, fun i B S H v H' y s so hy q => ?_, fun B S H s so => ?_⟩
  · rw [List.length_map, Array.length_toList] at hi
    exact hi
  · obtain ⟨rfl, c, hc, rfl⟩ := q
    rw [List.getElem?_map, Array.getElem?_toList, hc] at hy
    cases hy
    exact ⟨so, Stab.refl, rfl⟩
  · show x.cps.size ≤ _
    rw [List.length_map, Array.length_toList]
    exact Nat.le_refl _
theorem walks_zip {g : G} {z : Z} {a b : Addr} {ds es : List D} (d1 : Dat g z (.lst ds) (.ref a)) (d2 : Dat g z (.lst es) (.ref b)) : Walks g (Itz g.K a b) z (List.zipWith (fun a b => .p (.tup [a, b])) ds es) := by
  have at_ : ∀ {a ds}, Dat g z (.lst ds) (.ref a) → ∀ B S H, Sub g z ⟨B, S, H⟩ → ∃ vs, H a = some (.lst vs) ∧ DatL g ⟨B, S, H⟩ ds vs := fun {a ds} d B S H s => by
    obtain ⟨a', vs, e, t, _, l⟩ := s.dat _ _ d
    cases e
    exact ⟨vs, t, l⟩
  refine ⟨fun i B S H s so hi => ?_, fun i B S H x H' y s so hy q => ?_, fun B S H s so => ?_⟩
  · obtain ⟨vs, t1, l1⟩ := at_ d1 B S H s
    obtain ⟨ws, t2, l2⟩ := at_ d2 B S H s
    rw [List.length_zipWith] at hi
    have i1 : i < ds.length := by omega
    have i2 : i < es.length := by omega
    obtain ⟨v, hv, _⟩ := l1.get (List.getElem?_eq_getElem i1)
    obtain ⟨w, hw, _⟩ := l2.get (List.getElem?_eq_getElem i2)
    exact ⟨vs, ws, v, w, SqL.of t1, SqL.of t2, hv, hw⟩
  · obtain ⟨vs, t1, l1⟩ := at_ d1 B S H s
    obtain ⟨ws, t2, l2⟩ := at_ d2 B S H s
    obtain ⟨T, v, w, rfl, nT, rfl, q1, q2⟩ := q
    rw [List.getElem?_zipWith] at hy
    cases h1 : ds[i]? with
    | none => rw [h1] at hy; cases hy
    | some x1 =>
      cases h2 : es[i]? with
      | none => rw [h1, h2] at hy; cases hy
      | some x2 =>
        rw [h1, h2] at hy
        cases hy
        obtain ⟨v', hv, dv⟩ := l1.get h1
        obtain ⟨w', hw, dw⟩ := l2.get h2
        have e1 := (q1 vs (SqL.of t1)).symm.trans hv
        have e2 := (q2 ws (SqL.of t2)).symm.trans hw
        cases e1
        cases e2
        exact ⟨so.new nT, Stab.new so nT, new_tup so nT ⟨v, [w], rfl, dv, w, [], rfl, dw, rfl⟩⟩
  · obtain ⟨vs, t1, l1⟩ := at_ d1 B S H s
    obtain ⟨ws, t2, l2⟩ := at_ d2 B S H s
    refine ⟨vs, ws, SqL.of t1, SqL.of t2, ?_⟩
    rw [List.length_zipWith, l1.len, l2.len]
    omega
theorem walks_zipT {g : G} {z : Z} {a b : Addr} {ds es : List D} (d1 : Dat g z (.tup ds) (.ref a)) (d2 : Dat g z (.tup es) (.ref b)) : Walks g (RZ.ItzT g.K a b) z (List.zipWith (fun a b => .p (.tup [a, b])) ds es) := by
  have at_ : ∀ {a ds}, Dat g z (.tup ds) (.ref a) → ∀ B S H, Sub g z ⟨B, S, H⟩ → ∃ vs, SqT g.K H a vs ∧ DatL g ⟨B, S, H⟩ ds vs := fun {a ds} d B S H s => by
    obtain ⟨a', vs, e, t, l⟩ := s.dat _ _ d
    cases e
    exact ⟨vs, t, l⟩
  refine ⟨fun i B S H s so hi => ?_, fun i B S H x H' y s so hy q => ?_, fun B S H s so => ?_⟩
  · obtain ⟨vs, t1, l1⟩ := at_ d1 B S H s
    obtain ⟨ws, t2, l2⟩ := at_ d2 B S H s
    rw [List.length_zipWith] at hi
    have i1 : i < ds.length := by omega
    have i2 : i < es.length := by omega
    obtain ⟨v, hv, _⟩ := l1.get (List.getElem?_eq_getElem i1)
    obtain ⟨w, hw, _⟩ := l2.get (List.getElem?_eq_getElem i2)
    exact ⟨vs, ws, v, w, t1, t2, hv, hw⟩
  · obtain ⟨vs, t1, l1⟩ := at_ d1 B S H s
    obtain ⟨ws, t2, l2⟩ := at_ d2 B S H s
    obtain ⟨T, v, w, rfl, nT, rfl, q1, q2⟩ := q
    rw [List.getElem?_zipWith] at hy
    cases h1 : ds[i]? with
    | none => rw [h1] at hy; cases hy
    | some x1 =>
      cases h2 : es[i]? with
      | none => rw [h1, h2] at hy; cases hy
      | some x2 =>
        rw [h1, h2] at hy
        cases hy
        obtain ⟨v', hv, dv⟩ := l1.get h1
        obtain ⟨w', hw, dw⟩ := l2.get h2
        have e1 := (q1 vs t1).symm.trans hv
        have e2 := (q2 ws t2).symm.trans hw
        cases e1
        cases e2
        exact ⟨so.new nT, Stab.new so nT, new_tup so nT ⟨v, [w], rfl, dv, w, [], rfl, dw, rfl⟩⟩
  · obtain ⟨vs, t1, l1⟩ := at_ d1 B S H s
    obtain ⟨ws, t2, l2⟩ := at_ d2 B S H s
    refine ⟨vs, ws, t1, t2, ?_⟩
    rw [List.length_zipWith, l1.len, l2.len]
    omega
theorem walks_enum {g : G} {z : Z} {a : Addr} {ds : List D} (d : Dat g z (.lst ds) (.ref a)) : Walks g (Ite g.K a) z (ds.zipIdx.map fun (d, i) => .p (.tup [.int (i : Nat), d])) := by
  have at_ : ∀ B S H, Sub g z ⟨B, S, H⟩ → ∃ vs, H a = some (.lst vs) ∧ DatL g ⟨B, S, H⟩ ds vs := fun B S H s => by
    obtain ⟨a', vs, e, t, _, l⟩ := s.dat _ _ d
    cases e
    exact ⟨vs, t, l⟩
  refine ⟨fun i B S H s so hi => ?_, fun i B S H x H' y s so hy q => ?_, fun B S H s so => ?_⟩
  · obtain ⟨vs, t, l⟩ := at_ B S H s
    rw [List.length_map, List.length_zipIdx] at hi
    obtain ⟨v, hv, _⟩ := l.get (List.getElem?_eq_getElem hi)
    exact ⟨vs, v, SqL.of t, hv⟩
  · obtain ⟨vs, t, l⟩ := at_ B S H s
    obtain ⟨T, v, rfl, nT, rfl, q1⟩ := q
    rw [List.getElem?_map, List.getElem?_zipIdx] at hy
    cases h1 : ds[i]? with
    | none => rw [h1] at hy; cases hy
    | some x1 =>
      rw [h1] at hy
      simp only [Option.map_some, Option.some.injEq] at hy
      subst hy
      obtain ⟨v', hv, dv⟩ := l.get h1
      have e1 := (q1 vs (SqL.of t)).symm.trans hv
      cases e1
      refine ⟨so.new nT, Stab.new so nT, ?_⟩
      have : (0 + i : Nat) = i := Nat.zero_add i
      rw [this]
      exact new_tup so nT ⟨.int (i : Nat), [v], rfl, rfl, v, [], rfl, dv, rfl⟩
  · obtain ⟨vs, t, l⟩ := at_ B S H s
    exact ⟨vs, SqL.of t, by rw [List.length_map, List.length_zipIdx, l.len]; exact Nat.le_refl _⟩
theorem _root_.L2.PI.imp {X : Cx} {tg e : Expr} {t t' : TI} (h : PI X tg e t) (f : ∀ σ H R, t' σ H R → t σ H R) : PI X tg e t' := ⟨fun pins s σ H R I q => h.run pins s σ H R I (f σ H R q)⟩
theorem si_seq (h : SE fa cl X e c) : SI fa cl X tg e .seq [c] := by
  refine ⟨fun pins s σ H R I q => ?_⟩
  obtain ⟨B, S, ρ, xs, S', items, eo, so, hm, hw, k⟩ := q
  rw [evs] at hm
  obtain ⟨x, S1, hx, hm1⟩ := Rz.bind_ok hm
  rw [evs] at hm1
  cases hm1
  cases x with
  | m i => simp [walkF] at hw
  | p d =>
    cases d with
    | lst ds =>
      simp only [walkF, Option.some.injEq] at hw
      subst hw
      refine (pi_list h).run pins s σ H R I ?_
      refine tE.use eo so hx fun v1 B1 H1 so1 st1 eo1 d1 => ?_
      obtain ⟨a, vs, rfl, t, n, l⟩ := id d1
      exact ⟨a, rfl, ⟨vs, SqL.of t⟩, k _ B1 H1 so1 st1 (walks_list d1)⟩
    | tup ds =>
      simp only [walkF, Option.some.injEq] at hw
      subst hw
      refine (pi_tup h).run pins s σ H R I ?_
      refine tE.use eo so hx fun v1 B1 H1 so1 st1 eo1 d1 => ?_
      obtain ⟨a, vs, rfl, t, l⟩ := id d1
      exact ⟨a, rfl, ⟨vs, t⟩, k _ B1 H1 so1 st1 (walks_tup d1)⟩
    | str x =>
      simp only [walkF, Option.some.injEq] at hw
      subst hw
      refine (pi_str h).run pins s σ H R I ?_
      exact tE.use eo so hx fun v1 B1 H1 so1 st1 eo1 d1 => ⟨x, d1, k _ B1 H1 so1 st1 walks_str⟩
    | _ => simp [walkF] at hw
theorem si_range1 {p : Pos} (hg : Gl X "range") (hmg : X.mg "range" = none) (h : SA fa cl X [e] [c]) (hs : starEach [e] X.env = [(false, eval e X.env)]) : SI fa cl X tg (.Call (.Name "range" p) [e] [] pos) .range1 [c] :=
  (pi_range1 hg hmg h hs).imp fun σ H R q => by
    obtain ⟨B, S, ρ, xs, S', items, eo, so, hm, hw, k⟩ := q
    refine tA.use eo so hm fun vs B1 H1 so1 st1 eo1 d1 => ?_
    unfold walkF at hw
    split at hw <;> try (cases hw)
    all_goals (rename_i heq; try (cases heq))
    rename_i j
    split at hw
    · rename_i hj
      cases hw
      obtain ⟨v, rfl, d⟩ := d1.one
      exact ⟨j, by rw [show v = V.int j from d], hj.1, hj.2, k _ B1 H1 so1 st1 walks_range⟩
    · cases hw
theorem si_range2 {p : Pos} {e2 : Expr} {c2 : C} (hg : Gl X "range") (hmg : X.mg "range" = none) (h : SA fa cl X [e, e2] [c, c2]) (hs : starEach [e, e2] X.env = [(false, eval e X.env), (false, eval e2 X.env)]) (hs2 : starEach [e2] X.env = [(false, eval e2 X.env)]) :
    SI fa cl X tg (.Call (.Name "range" p) [e, e2] [] pos) .range2 [c, c2] :=
  (pi_range2 hg hmg h hs hs2).imp fun σ H R q => by
    obtain ⟨B, S, ρ, xs, S', items, eo, so, hm, hw, k⟩ := q
    refine tA.use eo so hm fun vs B1 H1 so1 st1 eo1 d1 => ?_
    unfold walkF at hw
    split at hw <;> try (cases hw)
    all_goals (rename_i heq; try (cases heq))
    rename_i i j
    split at hw
    · rename_i hj
      cases hw
      obtain ⟨v, w, rfl, d1, d2⟩ := d1.two
      exact ⟨i, j, by rw [show v = V.int i from d1, show w = V.int j from d2], hj, k _ B1 H1 so1 st1 walks_range⟩
    · cases hw
theorem si_zip {p tpos : Pos} {e2 : Expr} {c2 : C} {elts : List Expr} {kk : Nat} (hg : Gl X "zip") (hmg : X.mg "zip" = none) (h : SA fa cl X [e, e2] [c, c2]) (hs : starEach [e, e2] X.env = (false, eval e X.env) :: starEach [e2] X.env) (hpl : (backTo pos (starEach [e2] X.env)).any (·.1) = false) :
    SI fa cl X (.Tuple elts kk tpos) (.Call (.Name "zip" p) [e, e2] [] pos) .zip [c, c2] :=
  (RZ.pi_zipA hg hmg h hs hpl).imp fun σ H R q => by
    obtain ⟨B, S, ρ, xs, S', items, eo, so, hm, hw, k⟩ := q
    refine tA.use eo so hm fun vs B1 H1 so1 st1 eo1 d1 => ?_
    unfold walkF at hw
    split at hw <;> try (cases hw)
    all_goals (rename_i heq; try (cases heq))
    · obtain ⟨v, w, rfl, e1, e2⟩ := d1.two
      obtain ⟨a, vs, rfl, t1, n1, l1⟩ := id e1
      obtain ⟨b, ws, rfl, t2, n2, l2⟩ := id e2
      exact ⟨a, b, vs, ws, rfl, .inl ⟨SqL.of t1, SqL.of t2, k _ B1 H1 so1 st1 (walks_zip e1 e2)⟩⟩
    · obtain ⟨v, w, rfl, e1, e2⟩ := d1.two
      obtain ⟨a, vs, rfl, t1, l1⟩ := id e1
      obtain ⟨b, ws, rfl, t2, l2⟩ := id e2
      exact ⟨a, b, vs, ws, rfl, .inr ⟨t1, t2, k _ B1 H1 so1 st1 (walks_zipT e1 e2)⟩⟩
theorem si_enum {p tpos : Pos} {elts : List Expr} {kk : Nat} (hg : Gl X "enumerate") (hmg : X.mg "enumerate" = none) (h : SA fa cl X [e] [c]) (hs : starEach [e] X.env = [(false, eval e X.env)]) :
    SI fa cl X (.Tuple elts kk tpos) (.Call (.Name "enumerate" p) [e] [] pos) .enum [c] :=
  (pi_enum hg hmg h hs).imp fun σ H R q => by
    obtain ⟨B, S, ρ, xs, S', items, eo, so, hm, hw, k⟩ := q
    refine tA.use eo so hm fun vs B1 H1 so1 st1 eo1 d1 => ?_
    unfold walkF at hw
    split at hw <;> try (cases hw)
    all_goals (rename_i heq; try (cases heq))
    · obtain ⟨v, rfl, e1⟩ := d1.one
      obtain ⟨a, vs, rfl, t1, n1, l1⟩ := id e1
      exact ⟨a, vs, rfl, SqL.of t1, k _ B1 H1 so1 st1 (walks_enum e1)⟩
/-! ### comprehensions -/
theorem wipe_in {σ : L2.St} {i : Nat} : ∀ {vs : List Nat}, i ∈ vs → i < σ.length → (L2.wipe σ vs)[i]? = some none
  | v :: vs, h, hl => by
    show ((L2.wipe σ vs).set v none)[i]? = some none
    by_cases hv : v = i
    · subst hv
      rw [List.getElem?_set_self (by rw [wipe_length]; exact hl)]
    · rw [List.getElem?_set_ne hv]
      rcases List.mem_cons.mp h with h | h
      · exact absurd h.symm hv
      · exact wipe_in h hl
theorem Off.wipe {vs own : List Nat} {σ σ' : L2.St} (h : Off vs σ σ') (hs : ∀ i ∈ vs, i ∈ own) : L2.wipe σ' own = L2.wipe σ own := by
  apply List.ext_getElem?
  intro i
  by_cases hi : i ∈ own
  · by_cases hl : i < σ.length
    · rw [wipe_in hi hl, wipe_in hi (by rw [h.1]; exact hl)]
    · rw [List.getElem?_eq_none (by rw [wipe_length, h.1]; omega), List.getElem?_eq_none (by rw [wipe_length]; omega)]
  · rw [wipe_out hi, wipe_out hi, h.2 i fun z => hi (hs i z)]
theorem wipe_wipe {σ : L2.St} {own : List Nat} : L2.wipe (L2.wipe σ own) own = L2.wipe σ own := by
  apply List.ext_getElem?
  intro i
  by_cases hi : i ∈ own
  · by_cases hl : i < σ.length
    · rw [wipe_in hi (by rw [wipe_length]; exact hl), wipe_in hi hl]
    · rw [List.getElem?_eq_none (by rw [wipe_length, wipe_length]; omega), List.getElem?_eq_none (by rw [wipe_length]; omega)]
  · rw [wipe_out hi]
/-- the reading of a comprehension's turns -/
theorem lc_run {g : G} {wi : TI} {tt : TT} {te : TE} {t : Tg} {own : List Nat} {bnd : A → Option Env} {cond elt : Env → Store → Rz A} {ρ : Env} {σ : L2.St} {items : List A} {S1 S2 : Store} {ds : List D} {J : It} {B1 : Bk} {H1 : Hp} {Q : VK} {D0 : Addr}
    (hbnd : bnd = fun x => bindT t x (wipeE ρ own)) (hsl : ∀ i ∈ t.slots, i ∈ own)
    (ht : ∀ σ H Q, tT g cond σ H Q → tt σ H Q) (he : ∀ σ H Q, tE g elt σ H Q → te σ H Q)
    (eo : EnvOk g ⟨B1, S1, H1⟩ ρ σ) (so : StoreOk g ⟨B1, S1, H1⟩) (hw : Walks g J ⟨B1, S1, H1⟩ items) (hc : compL bnd cond elt items S1 = .ok ds S2) (hl : ds.length < LIM) (hD : H1 D0 = none)
    (k : ∀ B' H', StoreOk g ⟨B', S2, H'⟩ → Stab g ⟨B1, S1, H1⟩ ⟨B', S2, H'⟩ → Dat g ⟨B', S2, H'⟩ (.lst ds) (.ref D0) → Q (.ref D0) H') :
    ∃ W : Nat → Nat → Hp → Prop, (∃ m, W 0 m (upd H1 D0 (.lst []))) ∧ ∀ i m H, W i m H →
      (J.stop i H ∧ Q (.ref D0) H) ∨ (J.go i H ∧ ∃ Nx : Hp → Prop, (∀ H', Nx H' → ∃ m', m' < m ∧ W (i + 1) m' H') ∧ ∀ x H', J.yld i H x H' → gT g t x (L2.wipe σ own) H' fun σ2 H2 => L2.wipe σ2 own = L2.wipe σ own ∧ tt σ2 H2 fun b H3 =>
        if b = true then te σ2 H3 fun y H4 => ∃ acc, H4 D0 = some (.lst acc) ∧ acc.length < sizeLine ∧ Nx (upd H4 D0 (.lst (acc ++ [y]))) else Nx H3) := by
  let W : Nat → Nat → Hp → Prop := fun i m H => ∃ (B : Bk) (S : Store) (acc rest : List D) (vs : List V), i ≤ items.length ∧ m = items.length - i ∧ StoreOk g ⟨B.opn D0, S, H⟩ ∧ Sub g ⟨B1, S1, H1⟩ ⟨B.opn D0, S, H⟩ ∧ B.E = B1.E ∧ (∀ a ∈ B1.E, H a = H1 a) ∧
    H D0 = some (.lst vs) ∧ DatL g ⟨B.opn D0, S, H⟩ acc vs ∧ compL bnd cond elt (items.drop i) S = .ok rest S2 ∧ acc ++ rest = ds
  refine ⟨W, ⟨items.length, B1, S1, [], ds, [], Nat.zero_le _, by omega, so.open hD, Sub.open hD, rfl, fun a ha => upd_ne (so.exne hD a ha), upd_same, rfl, hc, rfl⟩, fun i m H hW => ?_⟩
  obtain ⟨B, S, acc, rest, vs, hi, hm, soW, sub, eE, kE, eD, dl, hr, ea⟩ := hW
  by_cases hlt : i < items.length
  · refine .inr ⟨hw.go i _ _ _ sub soW hlt, fun H' => ∃ m', m' < m ∧ W (i + 1) m' H', fun H' h => h, fun x H' hy => ?_⟩
    obtain ⟨soY, stY, dY⟩ := hw.yld i _ _ _ x H' items[i] sub soW (List.getElem?_eq_getElem hlt) hy
    rw [List.drop_eq_getElem_cons hlt] at hr
    rw [compL] at hr
    split at hr
    · cases hr
    · rename_i ρ1 hb
      have subY : Sub g ⟨B1, S1, H1⟩ ⟨B.opn D0, S, H'⟩ := sub.trans stY.sub
      have eoY : EnvOk g ⟨B.opn D0, S, H'⟩ (wipeE ρ own) (L2.wipe σ own) := (eo.wipe own).sub subY
      rw [hbnd] at hb
      refine ⟨B.opn D0, S, wipeE ρ own, items[i], ρ1, eoY, soY, dY, hb, fun σ2 eo2 off => ⟨by rw [off.wipe hsl, wipe_wipe], ?_⟩⟩
      obtain ⟨bv, S3, hcond, hr1⟩ := Rz.bind_ok hr
      split at hr1
      · refine ht _ _ _ (tT.use eo2 soY hcond fun B3 H3 so3 st3 eo3 => ?_)
        simp only [if_true]
        obtain ⟨y, S4, hy4, hr2⟩ := Rz.bind_ok hr1
        split at hr2
        · rename_i d
          obtain ⟨ds', S5, hrest, hr3⟩ := Rz.bind_ok hr2
          cases hr3
          refine he _ _ _ (tE.use eo3 so3 hy4 fun v4 B4 H4 so4 st4 eo4 d4 => ?_)
          have stA : Stab g ⟨B.opn D0, S, H⟩ ⟨B4, S4, H4⟩ := (stY.trans st3).trans st4
          have eB : B4 = (⟨B4.l, B.E⟩ : Bk).opn D0 := by
            have : B4.E = D0 :: B.E := stA.same
            show B4 = ⟨B4.l, D0 :: B.E⟩
            rw [← this]
          have e4 : H4 D0 = some (.lst vs) := (stA.keep D0 (List.mem_cons_self ..)).trans eD
          have lv : vs.length = acc.length := dl.len
          have la : acc.length < LIM := by
            have : (acc ++ d :: ds').length = ds.length := by rw [ea]
            rw [List.length_append, List.length_cons] at this
            omega
          refine ⟨vs, e4, by rw [lv]; exact Nat.lt_of_lt_of_le la lim_line, items.length - (i + 1), by omega, ⟨B4.l, B.E⟩, S4, acc ++ [d], ds', vs ++ [v4], hlt, rfl, ?_⟩
          rw [eB] at so4 d4 stA
          refine ⟨so4.push e4, (sub.trans stA.sub).trans (Sub.push so4 e4), eE, fun a ha => ?_, upd_same, ?_, hrest, by rw [List.append_assoc]; exact ea⟩
          · have na : a ≠ D0 := so.exne hD a ha
            rw [upd_ne na, ← kE a ha]
            exact stA.keep a (List.mem_cons_of_mem _ (by rw [eE]; exact ha))
          · exact (Sub.push so4 e4).datL ((stA.sub.datL dl).app ⟨v4, [], rfl, d4, rfl⟩)
        · cases hr2
      · refine ht _ _ _ (tT.use eo2 soY hcond fun B3 H3 so3 st3 eo3 => ?_)
        simp only [Bool.false_eq_true, if_false]
        have stA : Stab g ⟨B.opn D0, S, H⟩ ⟨B3, S3, H3⟩ := stY.trans st3
        have eB : B3 = (⟨B3.l, B.E⟩ : Bk).opn D0 := by
          have : B3.E = D0 :: B.E := stA.same
          show B3 = ⟨B3.l, D0 :: B.E⟩
          rw [← this]
        have e3 : H3 D0 = some (.lst vs) := (stA.keep D0 (List.mem_cons_self ..)).trans eD
        refine ⟨items.length - (i + 1), by omega, ⟨B3.l, B.E⟩, S3, acc, rest, vs, hlt, rfl, ?_⟩
        rw [eB] at so3 stA
        refine ⟨so3, sub.trans stA.sub, eE, fun a ha => ?_, e3, stA.sub.datL dl, hr1, ea⟩
        rw [← kE a ha]
        exact stA.keep a (List.mem_cons_of_mem _ (by rw [eE]; exact ha))
      · cases hr1
  · have ei : i = items.length := by omega
    subst ei
    refine .inl ⟨hw.stop _ _ _ sub soW, ?_⟩
    rw [List.drop_length, compL] at hr
    cases hr
    rw [List.append_nil] at ea
    subst ea
    have hB : B = ⟨B.l, B1.E⟩ := by rw [← eE]
    refine k B H soW.close ⟨fun d v h => Sub.close.dat d v (sub.dat d v h), fun i a h => sub.pre i a h, eE, kE⟩ ⟨D0, vs, rfl, eD, fun q => ?_, Sub.close.datL dl⟩
    rcases q with ⟨j, xs, h1, _⟩ | q
    · exact (soW.ex D0 (List.mem_cons_self ..)).2 (List.mem_of_getElem? h1)
    · rw [eE] at q
      exact so.exne hD D0 q rfl
/-- the tests of a comprehension -/
def tCond (g : G) (cl : Nat → List A → Store → Rz A) : Option C → TT
  | none => tYes
  | some cc => tT g (ev cl true cc)
theorem comp_rd {g : G} {kk : ItK} {its : List C} {t : Tg} {own : List Nat} {cond : Option C} (hsl : ∀ i ∈ t.slots, i ∈ own) (σ : L2.St) (H : Hp) (Q : VK) (q : tE g (ev cl false (.comp kk its t own cond c)) σ H Q) :
    tLc (iW g cl kk its) (gT g t) (tCond g cl cond) (tE g (ev cl false c)) own σ H Q := by
  obtain ⟨B, S, ρ, z, S', eo, so, hm, k⟩ := q
  cases cond with
  | none =>
    rw [ev] at hm
    obtain ⟨xs, S1, hxs, hm1⟩ := Rz.bind_ok hm
    obtain ⟨items, S2, hit, hm2⟩ := Rz.bind_ok hm1
    obtain ⟨git, rfl⟩ := Rz.of_ok hit
    obtain ⟨ds, S3, hcl, hm3⟩ := Rz.bind_ok hm2
    split at hm3
    · rename_i hl
      rw [tst_f] at hm3
      cases hm3
      refine ⟨B, S, ρ, xs, S2, items, eo, so, hxs, git, fun J B1 H1 so1 st1 hw D0 hD => ?_⟩
      refine lc_run (wi := iW g cl kk its) rfl hsl (fun σ H Q q => ?_) (fun σ H Q q => q) (eo.mono st1) so1 hw hcl hl hD fun B' H' so' st' dv => k _ B' H' so' (st1.trans st') dv
      obtain ⟨B, S, ρ, b, S', eo, so, hm, k⟩ := q
      cases hm
      exact k B H so Stab.refl
    · cases hm3
  | some cc =>
    rw [ev] at hm
    obtain ⟨xs, S1, hxs, hm1⟩ := Rz.bind_ok hm
    obtain ⟨items, S2, hit, hm2⟩ := Rz.bind_ok hm1
    obtain ⟨git, rfl⟩ := Rz.of_ok hit
    obtain ⟨ds, S3, hcl, hm3⟩ := Rz.bind_ok hm2
    split at hm3
    · rename_i hl
      rw [tst_f] at hm3
      cases hm3
      refine ⟨B, S, ρ, xs, S2, items, eo, so, hxs, git, fun J B1 H1 so1 st1 hw D0 hD => ?_⟩
      exact lc_run (wi := iW g cl kk its) rfl hsl (fun σ H Q q => q) (fun σ H Q q => q) (eo.mono st1) so1 hw hcl hl hD fun B' H' so' st' dv => k _ B' H' so' (st1.trans st') dv
    · cases hm3
def SCond (fa : Nat → Addr) (cl : Nat → List A → Store → Rz A) (X : Cx) (ifs : List Expr) (cond : Option C) : Prop := PTs X ifs (tCond (gx X fa) cl cond)
theorem sc_none : SCond fa cl X [] none := pts_nil
theorem sc_some (h : ST fa cl X e c) : SCond fa cl X [e] (some c) := pts_one h
section
variable {kk : ItK} {its : List C} {t : Tg} {own : List (Str × Nat)} {iter elt : Expr} {ifs : List Expr} {scope : Scope} {cond : Option C}
theorem se_comp (hc : X.calm = true) (hN : X.N.Nodup) (hi : SI fa cl X tg iter kk its) (ok : BlkOk X.N X.env.scope scope own)
    (hg : ∀ (s : Shared) (H : Hp) (C : Addr) (cls : List (Str × Addr)) (fp : List Addr), SG fa (X.blk s H scope (compEnvC scope cls C X.env) fp) tg t)
    (ht : ∀ (s : Shared) (H : Hp) (C : Addr) (cls : List (Str × Addr)) (fp : List Addr), SCond fa cl (X.blk s H scope (compEnvC scope cls C X.env) fp) ifs cond)
    (he : ∀ (s : Shared) (H : Hp) (C : Addr) (cls : List (Str × Addr)) (fp : List Addr), SE fa cl (X.blk s H scope (compEnvC scope cls C X.env) fp) elt c)
    (hsl : ∀ i ∈ t.slots, i ∈ own.map (·.2)) (hs : ∀ x, foldedSetIterable iter X.env x = pure x) : SE fa cl X (.ListComp elt [⟨tg, iter, ifs, 0⟩] scope pos) (.comp kk its t (own.map (·.2)) cond c) :=
  (pe_lc (g := gT (gx X fa) t) (tt := tCond (gx X fa) cl cond) (te := tE (gx X fa) (ev cl false c)) hc hN hi ok hg ht he hs).imp (comp_rd hsl)
theorem _root_.L2.PS.imp {X : Cx} {e : Stmt} {t t' : TS} (h : PS X e t) (f : ∀ D σ H, t' D σ H → t D σ H) : PS X e t' := ⟨fun pins s σ H D I q => h.run pins s σ H D I (f D σ H q)⟩
theorem _root_.L2.PSs.imp {X : Cx} {e : List Stmt} {t t' : TS} (h : PSs X e t) (f : ∀ D σ H, t' D σ H → t D σ H) : PSs X e t' := ⟨fun pins s σ H D I q => h.run pins s σ H D I (f D σ H q)⟩
/-- name = [..] on one line -/
theorem ss_setLc {i : Nat} {y : Str} {py spos : Pos} (hc : X.calm = true) (hN : X.N.Nodup) (hy : X.N[i]? = some y) (hyl : X.env.scope.names.lookup y = some .local)
    (hsw : swapsWith (.ListComp elt [⟨tg, iter, ifs, 0⟩] scope pos) (some (.Name y py)) spos.line X.env = pure true) (hi : SI fa cl X tg iter kk its) (ok : BlkOk X.N X.env.scope scope own)
    (hg : ∀ (s : Shared) (H : Hp) (C : Addr) (cls : List (Str × Addr)) (fp : List Addr), SG fa (X.blk s H scope (compEnvC scope cls C X.env) fp) tg t)
    (ht : ∀ (s : Shared) (H : Hp) (C : Addr) (cls : List (Str × Addr)) (fp : List Addr), SCond fa cl (X.blk s H scope (compEnvC scope cls C X.env) fp) ifs cond)
    (he : ∀ (s : Shared) (H : Hp) (C : Addr) (cls : List (Str × Addr)) (fp : List Addr), SE fa cl (X.blk s H scope (compEnvC scope cls C X.env) fp) elt c)
    (hsl : ∀ i ∈ t.slots, i ∈ own.map (·.2)) (hs : ∀ x, foldedSetIterable iter X.env x = pure x) :
    PS X (.Assign [.Name y py] (.ListComp elt [⟨tg, iter, ifs, 0⟩] scope pos) spos) (tAsg (tE (gx X fa) (ev cl false (.comp kk its t (own.map (·.2)) cond c))) (gName i)) :=
  (ps_setLc (g := gT (gx X fa) t) (tt := tCond (gx X fa) cl cond) (te := tE (gx X fa) (ev cl false c)) hc hN hy hyl hsw hi ok hg ht he hs).imp fun D σ H q => comp_rd hsl σ H _ q
end
/-! ### methods -/
theorem se_append {apos : Pos} {o : Expr} {co : C} (ho : SE fa cl X o co) (ha : SA fa cl X [e] [c]) (hbase : attributeBase o "append" X.env (eval o X.env) = eval o X.env)
    (hfew : ((backTo pos (starEach [e] X.env)).all (fun x => !x.1) && (backToKw pos (keywordEach [] X.env)).all (fun x => x.1.isSome) && decide (([e] : List Expr).length + ([] : List Keyword).length + (if ([] : List Keyword).isEmpty then 0 else 1) < 30)) = true)
    (hline : (apos.endLine == pos.line) = true) (hs : starEach [e] X.env = (false, eval e X.env) :: starEach [] X.env) (hplain : (backTo pos (starEach [] X.env)).any (·.1) = false) :
    SE fa cl X (.Call (.Attribute o "append" apos) [e] [] pos) (.mth .append co [c]) :=
  (pe_bm PySem.F.plainAttrs_list PySem.F.slot_list_append PySem.F.type_list_append mt_append ho ha hbase hfew hline hs hplain).imp fun σ H Q q => by
    obtain ⟨B, S, ρ, z, S', eo, so, hm, k⟩ := q
    rw [ev] at hm
    obtain ⟨x, S1, hx, hm1⟩ := Rz.bind_ok hm
    split at hm1
    · rename_i hty
      obtain ⟨xs, S2, hxs, hm2⟩ := Rz.bind_ok hm1
      obtain ⟨w, S3, hw, hm3⟩ := Rz.bind_ok hm2
      rw [tst_f] at hm3
      cases hm3
      cases x with
      | p d => simp [mthTy] at hty
      | m j =>
        unfold mthTy at hty
        dsimp only at hty
        split at hty
        · rename_i ys0 hj0
          refine tE.use eo so hx fun v1 B1 H1 so1 st1 eo1 d1 => ?_
          obtain ⟨a, hb, rfl⟩ := d1
          obtain ⟨vs0, e0, _⟩ := so1.ob j a ys0 hb hj0
          refine ⟨.inl ⟨rfl, _, SqL.of e0⟩, tA.use eo1 so1 hxs fun vs B2 H2 so2 st2 eo2 d2 => ?_⟩
          unfold mthF at hw
          split at hw
          · rename_i j' d heq1
            cases heq1
            split at hw
            · rename_i ys hj
              split at hw
              · rename_i hl
                cases hw
                obtain ⟨v, rfl, dv⟩ := d2.one
                have hb2 := st2.pre j a hb
                obtain ⟨ws, e2, l2⟩ := so2.ob j a ys hb2 hj
                refine ⟨a, ws, v, rfl, rfl, e2, by rw [l2.len]; exact Nat.lt_of_lt_of_le hl lim_line, ?_⟩
                exact k _ B2 _ (so2.put hb2 hj (l2.app ⟨v, [], rfl, dv, rfl⟩)) ((st1.trans st2).trans (Stab.put so2 hb2 hj)) rfl
              · cases hw
            · cases hw
          · rename_i heq1 _
            cases heq1
          · cases hw
        · cases hty
    · cases hm1
theorem join_inv {x y z : A} {S S' : Store} (h : mthF .join x [y] S = .ok z S') : ∃ a ds ys, x = .p (.str a) ∧ y = .p (.lst ds) ∧ D.strs ds = some ys ∧ (ys.map (·.length)).sum + ys.length * a.length ≤ LIM ∧ z = .p (.str (Txt.join a ys)) ∧ S' = S := by
  cases x with
  | m i => simp [mthF] at h
  | p x =>
    cases x with
    | str a =>
      cases y with
      | m i => simp [mthF] at h
      | p y =>
        cases y with
        | lst ds =>
          simp only [mthF] at h
          split at h
          · rename_i ys hys
            split at h
            · rename_i hl
              cases h
              exact ⟨a, ds, ys, rfl, rfl, hys, hl, rfl, rfl⟩
            · cases h
          · cases h
        | _ => simp [mthF] at h
    | _ => simp [mthF] at h
theorem se_join {apos : Pos} {o : Expr} {co : C} (ho : SE fa cl X o co) (ha : SE fa cl X e c) (hs : starEach [e] X.env = [(false, eval e X.env)]) (hbase : attributeBase o "join" X.env (eval o X.env) = eval o X.env)
    (hline : (apos.endLine == pos.line) = true) : SE fa cl X (.Call (.Attribute o "join" apos) [e] [] pos) (.mth .join co [c]) :=
  (pe_join ho ha hs hbase hline).imp fun σ H Q q => by
    obtain ⟨B, S, ρ, z, S', eo, so, hm, k⟩ := q
    rw [ev] at hm
    obtain ⟨x, S1, hx, hm1⟩ := Rz.bind_ok hm
    split at hm1
    · rename_i hty
      obtain ⟨xs, S2, hxs, hm2⟩ := Rz.bind_ok hm1
      obtain ⟨w, S3, hw, hm3⟩ := Rz.bind_ok hm2
      rw [tst_f] at hm3
      cases hm3
      rw [evs] at hxs
      obtain ⟨y, S4, hy, hxs1⟩ := Rz.bind_ok hxs
      rw [evs] at hxs1
      cases hxs1
      refine tE.use eo so hx fun v1 B1 H1 so1 st1 eo1 d1 => ?_
      obtain ⟨a, ds, ys, rfl, rfl, hys, hl, rfl, rfl⟩ := join_inv hw
      refine ⟨⟨a, d1⟩, tE.use eo1 so1 hy fun v2 B2 H2 so2 st2 eo2 d2 => ?_⟩
      obtain ⟨p, vs, rfl, t, n, l⟩ := d2
      refine ⟨a, p, ys, d1, rfl, .inl ?_, Nat.le_trans hl (by decide), k _ B2 H2 so2 (st1.trans st2) rfl⟩
      rw [← l.strs hys]
      exact SqL.of t
    · cases hm1
/-- isinstance(a, (T1, T2)) -/
inductive TyNames (X : Cx) : List Expr → List Ty → Prop where
  | nil : TyNames X [] []
  | cons {e : Expr} {t : Ty} {es : List Expr} {ts : List Ty} (h : PE X e (tC (.ty t.nm))) (hs : starEach (e :: es) X.env = (false, eval e X.env) :: starEach es X.env) (r : TyNames X es ts) : TyNames X (e :: es) (t :: ts)
theorem TyNames.pa : ∀ {es : List Expr} {ts : List Ty}, TyNames X es ts → PA X es (fun _ H Q => Q (ts.map fun t => V.ty t.nm) H)
  | _, _, .nil => pa_nil
  | _, _, .cons h hs r => pa_cons h r.pa hs
theorem tys_cls : ∀ ts : List Ty, Paired ClsV (ts.map fun t => V.ty t.nm) (ts.map fun t => Value.type t.nm)
  | [] => .nil
  | t :: ts => .cons (.ty _) (tys_cls ts)
theorem kitAny_tys {K : PySem.W.Frag} {t : Ty} : ∀ ts : List Ty, PySem.W.kitAny K (.type t.nm) (ts.map fun t => Value.type t.nm) = some (ts.any fun c => isaF t c)
  | [] => rfl
  | c :: ts => by
    refine kitAny_cons (b := isaF t c) (kit_ty (kit_isa t c)) (fun h => ?_) fun h => ?_
    · rw [kitAny_tys ts, List.any_cons, h]
      rfl
    · rw [List.any_cons, h]
      rfl
theorem se_isiT {p p2 : Pos} {kk : Nat} {ts : List Ty} (hg : Gl X "isinstance") (hmg : X.mg "isinstance" = none) (ha : SE fa cl X a ca) (ht : TyNames X es ts) (hl : ts.length ≤ LIM)
    (hs : starEach [a, .Tuple es kk p2] X.env = (false, eval a X.env) :: starEach [.Tuple es kk p2] X.env) : SE fa cl X (.Call (.Name "isinstance" p) [a, .Tuple es kk p2] [] pos) (.isiT ca ts) :=
  (pe_callB call_isiT hg hmg (by decide +kernel) (pa_cons ha (pa_cons (pe_tup ht.pa) pa_nil) hs) (by decide +kernel) (by decide +kernel) hs rfl).imp fun σ H Q q => by
    obtain ⟨B, S, ρ, z, S', eo, so, hm, k⟩ := q
    rw [ev] at hm
    obtain ⟨x, S1, hx, hm1⟩ := Rz.bind_ok hm
    split at hm1
    · rename_i t hty
      cases hm1
      refine tE.use eo so hx fun v1 B1 H1 so1 st1 eo1 d1 => ⟨by rw [List.length_map]; exact lim_le hl, fun q hq => ?_⟩
      exact ⟨v1, q, _, .type t.nm, _, _, rfl, upd_same, tys_cls ts, ty_ok (so1.new hq) hty ((Stab.new so1 hq).datA d1), kitAny_tys ts, k _ B1 _ (so1.new hq) (st1.trans (Stab.new so1 hq)) rfl⟩
    · cases hm1
end
end Fw

/-! Statements and defs. -/
namespace Fw
open PySem PySem.Spec PyProof.Rows L2
/-- what is wanted behind a statement that ends by r -/
def Aft (g : G) (z : Z) (Dn : Ends) : Rs → Prop
  | .nx ρ' S' => ∀ σ' B' H', StoreOk g ⟨B', S', H'⟩ → Stab g z ⟨B', S', H'⟩ → EnvOk g ⟨B', S', H'⟩ ρ' σ' → Dn.nx σ' H'
  | .rt x S' => ∀ v B' H', StoreOk g ⟨B', S', H'⟩ → Stab g z ⟨B', S', H'⟩ → DatA g ⟨B', S', H'⟩ x v → Dn.rt v H'
  | .bk ρ' S' => ∀ σ' B' H', StoreOk g ⟨B', S', H'⟩ → Stab g z ⟨B', S', H'⟩ → EnvOk g ⟨B', S', H'⟩ ρ' σ' → Dn.bk σ' H'
  | .ct ρ' S' => ∀ σ' B' H', StoreOk g ⟨B', S', H'⟩ → Stab g z ⟨B', S', H'⟩ → EnvOk g ⟨B', S', H'⟩ ρ' σ' → Dn.ct σ' H'
  | .ex _ _ => False
  | .bad => False
def tSt (g : G) (m : Env → Store → Rs) : TS := fun Dn σ H => ∃ B S ρ, EnvOk g ⟨B, S, H⟩ ρ σ ∧ StoreOk g ⟨B, S, H⟩ ∧ Aft g ⟨B, S, H⟩ Dn (m ρ S)
theorem Aft.mono {g : G} {z z' : Z} {Dn : Ends} {r : Rs} (h : Aft g z Dn r) (s : Stab g z z') : Aft g z' Dn r := by
  cases r with
  | nx ρ S => exact fun σ' B' H' so st eo => h σ' B' H' so (s.trans st) eo
  | rt x S => exact fun v B' H' so st d => h v B' H' so (s.trans st) d
  | bk ρ S => exact fun σ' B' H' so st eo => h σ' B' H' so (s.trans st) eo
  | ct ρ S => exact fun σ' B' H' so st eo => h σ' B' H' so (s.trans st) eo
  | ex e S => exact h
  | bad => exact h
theorem Rz.then_aft {α : Type} {g : G} {z : Z} {Dn : Ends} {r : Rz α} {f : α → Store → Rs} (h : Aft g z Dn (r.then f)) : ∃ a S, r = .ok a S ∧ Aft g z Dn (f a S) := by
  cases r with
  | ok a S => exact ⟨a, S, rfl, h⟩
  | ex e S => exact False.elim h
  | bad => exact False.elim h
section
variable {fa : Nat → Addr} {cl : Nat → List A → Store → Rz A} {wf : Nat} {X : Cx} {e a b tg : Expr} {c ca cb : C} {pos : Pos} {k : Nat} {es : List Expr} {cs : List C} {st : Stmt} {sts : List Stmt} {sc : Sc} {scs : List Sc}
abbrev SS (fa : Nat → Addr) (cl : Nat → List A → Store → Rz A) (wf : Nat) (X : Cx) (st : Stmt) (c : Sc) : Prop := PS X st (tSt (gx X fa) (run1 cl wf c))
abbrev SSs (fa : Nat → Addr) (cl : Nat → List A → Store → Rz A) (wf : Nat) (X : Cx) (st : List Stmt) (c : List Sc) : Prop := PSs X st (tSt (gx X fa) (run cl wf c))
theorem sss_nil : SSs fa cl wf X [] [] := pss_nil.imp fun D σ H q => by
  obtain ⟨B, S, ρ, eo, so, h⟩ := q
  exact h σ B H so Stab.refl eo
theorem sss_cons (h1 : SS fa cl wf X st sc) (h2 : SSs fa cl wf X sts scs) : SSs fa cl wf X (st :: sts) (sc :: scs) := (pss_cons h1 h2).imp fun D σ H q => by
  obtain ⟨B, S, ρ, eo, so, h⟩ := q
  rw [run] at h
  refine ⟨B, S, ρ, eo, so, ?_⟩
  cases hr : run1 cl wf sc ρ S with
  | nx ρ1 S1 =>
    rw [hr] at h
    exact fun σ' B' H' so' st' eo' => ⟨B', S1, ρ1, eo', so', Aft.mono h st'⟩
  | rt x S1 =>
    rw [hr] at h
    exact h
  | bk ρ1 S1 =>
    rw [hr] at h
    exact h
  | ct ρ1 S1 =>
    rw [hr] at h
    exact h
  | ex e S1 =>
    rw [hr] at h
    exact h
  | bad =>
    rw [hr] at h
    exact h
/-- from now on the list is data -/
theorem sss_frz {i : Nat} (h2 : SSs fa cl wf X sts scs) : SSs fa cl wf X sts (.frz i :: scs) := h2.imp fun D σ H q => by
  obtain ⟨B, S, ρ, eo, so, h⟩ := q
  rw [run, run1] at h
  split at h
  · rename_i j hj
    split at h
    · rename_i ds hs
      obtain ⟨v, hv, a, hb, rfl⟩ := eo.get i _ hj
      have fz : Stab (gx X fa) ⟨B, S, H⟩ ⟨B, S.set j .dead, H⟩ := Stab.freeze
      refine ⟨B, S.set j .dead, ρ.set i (some (.p (.lst ds))), ?_, so.freeze, Aft.mono h fz⟩
      obtain ⟨vs, e, l⟩ := so.ob j a ds hb hs
      have d : Dat (gx X fa) ⟨B, S.set j .dead, H⟩ (.lst ds) (.ref a) := ⟨a, vs, rfl, e, freeze_dead so hb, fz.datL l⟩
      have := (eo.mono fz).set (i := i) (x := .p (.lst ds)) d
      have es : σ.set i (some (V.ref a)) = σ := by
        apply List.ext_getElem?
        intro m
        by_cases him : i = m
        · subst him
          rw [List.getElem?_set_self (List.getElem?_eq_some_iff.mp hv).1, hv]
        · rw [List.getElem?_set_ne him]
      rw [es] at this
      exact this
    · exact False.elim h
  · exact False.elim h
theorem ss_pass : SS fa cl wf X (.Pass pos) .pass := ps_pass.imp fun D σ H q => by
  obtain ⟨B, S, ρ, eo, so, h⟩ := q
  exact h σ B H so Stab.refl eo
theorem ss_brk : SS fa cl wf X (.Break pos) .brk := ps_break.imp fun D σ H q => by
  obtain ⟨B, S, ρ, eo, so, h⟩ := q
  exact h σ B H so Stab.refl eo
theorem ss_cnt : SS fa cl wf X (.Continue pos) .cnt := ps_continue.imp fun D σ H q => by
  obtain ⟨B, S, ρ, eo, so, h⟩ := q
  exact h σ B H so Stab.refl eo
theorem ss_exp (he : SE fa cl X e c) (hs : swapsWith e none pos.line X.env = pure false) : SS fa cl wf X (.Expr e pos) (.exp c) := (ps_expr he hs).imp fun D σ H q => by
  obtain ⟨B, S, ρ, eo, so, h⟩ := q
  rw [run1] at h
  obtain ⟨x, S1, hx, h1⟩ := Rz.then_aft h
  exact tE.use eo so hx fun v B' H' so' st' eo' d => h1 σ B' H' so' st' eo'
theorem ss_ret (he : SE fa cl X e c) : SS fa cl wf X (.Return (some e) pos) (.ret c) := (ps_ret he).imp fun D σ H q => by
  obtain ⟨B, S, ρ, eo, so, h⟩ := q
  rw [run1] at h
  obtain ⟨x, S1, hx, h1⟩ := Rz.then_aft h
  exact tE.use eo so hx fun v B' H' so' st' eo' d => h1 v B' H' so' st' d
theorem ss_retN : SS fa cl wf X (.Return none pos) .retN := ps_retN.imp fun D σ H q => by
  obtain ⟨B, S, ρ, eo, so, h⟩ := q
  exact h .non B H so Stab.refl rfl
theorem asg_rd {g : G} {t : Tg} {D : Ends} {σ : L2.St} {H : Hp} (q : tSt g (run1 cl wf (.asg t c)) D σ H) : tAsg (tE g (ev cl false c)) (gT g t) D σ H := by
  obtain ⟨B, S, ρ, eo, so, h⟩ := q
  rw [run1] at h
  obtain ⟨x, S1, hx, h1⟩ := Rz.then_aft h
  refine tE.use eo so hx fun v B' H' so' st' eo' d => ?_
  split at h1
  · rename_i ρ1 hb
    exact ⟨B', S1, ρ, x, ρ1, eo', so', d, hb, fun σ' eo2 _ => h1 σ' B' H' so' st' eo2⟩
  · exact False.elim h1
theorem ss_asg {t : Tg} (he : SE fa cl X e c) (hg : SG fa X tg t) (hs : swapsWithSole [tg] e pos.line X.env = pure false) (hw : swappedStores [tg] e X.env = pure none) (h1 : (assignEach [tg] X.env).map (·.2) = [assign tg X.env]) : SS fa cl wf X (.Assign [tg] e pos) (.asg t c) :=
  (ps_asg he hg hs hw h1).imp fun D σ H q => asg_rd q
theorem ss_asgLc {i : Nat} (h : PS X st (tAsg (tE (gx X fa) (ev cl false c)) (gName i))) : SS fa cl wf X st (.asg (.nm i) c) := h.imp fun D σ H q => by
  obtain ⟨B, S, ρ, eo, so, h⟩ := q
  rw [run1] at h
  obtain ⟨x, S1, hx, h1⟩ := Rz.then_aft h
  refine tE.use eo so hx fun v B' H' so' st' eo' d => ?_
  rw [bindT] at h1
  exact h1 _ B' H' so' st' (eo'.set d)
theorem ss_par {i j : Nat} (h : ∀ ta, PA X [a, b] ta → PS X st (tPar i j ta)) (ha : SA fa cl X [a, b] [ca, cb]) : SS fa cl wf X st (.par i j ca cb) := (h _ ha).imp fun D σ H q => by
  obtain ⟨B, S, ρ, eo, so, h⟩ := q
  rw [run1] at h
  obtain ⟨x, S1, hx, h1⟩ := Rz.then_aft h
  obtain ⟨y, S2, hy, h2⟩ := Rz.then_aft h1
  have hxy : evs cl [ca, cb] ρ S = .ok [x, y] S2 := by
    rw [evs, hx]
    show (evs cl [cb] ρ S1).bind _ = _
    rw [evs, hy]
    rfl
  refine tA.use eo so hxy fun vs B' H' so' st' eo' d => ?_
  obtain ⟨v, w, rfl, d1, d2⟩ := d.two
  exact ⟨v, w, rfl, h2 _ B' H' so' st' ((eo'.set d1).set d2)⟩
theorem ss_setI {o i v : Expr} {co ci cv : C} {tp : Pos} (ho : SE fa cl X o co) (hi : SE fa cl X i ci) (hv : SE fa cl X v cv) (h : ∀ te to ti, PE X v te → PE X o to → PE X i ti → PS X st (tAsg te (gSub to ti rSetL))) : SS fa cl wf X st (.setI co ci cv) :=
  (h _ _ _ hv ho hi).imp fun D σ H q => by
    obtain ⟨B, S, ρ, eo, so, h⟩ := q
    rw [run1] at h
    obtain ⟨x, S1, hx, h1⟩ := Rz.then_aft h
    obtain ⟨y, S2, hy, h2⟩ := Rz.then_aft h1
    obtain ⟨z, S3, hz, h3⟩ := Rz.then_aft h2
    refine tE.use eo so hx fun v1 B1 H1 so1 st1 eo1 d1 => tE.use eo1 so1 hy fun v2 B2 H2 so2 st2 eo2 d2 => tE.use eo2 so2 hz fun v3 B3 H3 so3 st3 eo3 d3 => ?_
    split at h3
    · rename_i j kk
      split at h3
      · rename_i ys x hs
        split at h3
        · rename_i n hn
          obtain ⟨ad, hb, rfl⟩ := st3.datA d2
          obtain ⟨ws, e3, l3⟩ := so3.ob j ad ys hb hs
          refine ⟨ad, ws, kk, n, rfl, d3, e3, by rw [l3.len]; exact hn, ?_⟩
          have dx : Dat (gx X fa) ⟨B3, S3, H3⟩ x v1 := st3.dat _ _ (st2.dat _ _ d1)
          have dl : DatL (gx X fa) ⟨B3, S3, H3⟩ (ys.set n x) (ws.set n v1) := by
            have : ∀ (ys : List Fw.D) (ws : List V) (n : Nat), DatL (gx X fa) ⟨B3, S3, H3⟩ ys ws → DatL (gx X fa) ⟨B3, S3, H3⟩ (ys.set n x) (ws.set n v1) := by
              intro ys
              induction ys with
              | nil =>
                intro ws n h
                rw [show ws = [] from h]
                rfl
              | cons y ys ih =>
                intro ws n h
                obtain ⟨w, r, rfl, a, b⟩ := h
                cases n with
                | zero => exact ⟨v1, r, rfl, dx, b⟩
                | succ n => exact ⟨w, r.set n v1, rfl, a, ih r n b⟩
            exact this ys ws n l3
          have stp := Stab.put (ys := ys.set n x) (vs := ws.set n v1) so3 hb hs
          exact h3 σ B3 _ (so3.put hb hs dl) (((st1.trans st2).trans st3).trans stp) (eo3.mono stp)
        · exact False.elim h3
      · exact False.elim h3
    · exact False.elim h3
theorem ss_ite {sa sb : List Stmt} {xa xb : List Sc} (hc : ST fa cl X e c) (ha : SSs fa cl wf X sa xa) (hb : SSs fa cl wf X sb xb) : SS fa cl wf X (.If e sa sb pos) (.ite c xa xb) := (ps_if hc ha hb).imp fun D σ H q => by
  obtain ⟨B, S, ρ, eo, so, h⟩ := q
  rw [run1] at h
  obtain ⟨x, S1, hx, h1⟩ := Rz.then_aft h
  split at h1
  · refine tT.use eo so hx fun B' H' so' st' eo' => ?_
    simp only [if_true]
    exact ⟨B', S1, ρ, eo', so', Aft.mono h1 st'⟩
  · refine tT.use eo so hx fun B' H' so' st' eo' => ?_
    simp only [Bool.false_eq_true, if_false]
    exact ⟨B', S1, ρ, eo', so', Aft.mono h1 st'⟩
  · exact False.elim h1
theorem ss_for {t : Tg} {kk : ItK} {its : List C} {body : List Stmt} {xs : List Sc} {iter : Expr} (hp : PassesOwn (model X.prog X.w) X.A X.env X.xe) (hc : X.calm = true) (hi : SI fa cl X tg iter kk its) (hg : SG fa X tg t) (hb : SSs fa cl wf X body xs)
    (hs : ∀ x, foldedSetIterable iter X.env x = pure x) : SS fa cl wf X (.For tg iter body [] pos) (.for kk its t xs) := (ps_for hp hc hi hg hb hs).imp fun D σ H q => by
  obtain ⟨B, S, ρ, eo, so, h⟩ := q
  rw [run1] at h
  obtain ⟨vs, S1, hvs, h1⟩ := Rz.then_aft h
  obtain ⟨items, S2, hit, h2⟩ := Rz.then_aft h1
  obtain ⟨git, rfl⟩ := Rz.of_ok hit
  refine ⟨B, S, ρ, vs, S2, items, eo, so, hvs, git, fun J B1 H1 so1 st1 hw => ?_⟩
  have h3 : Aft (gx X fa) ⟨B1, S2, H1⟩ D (forL (bindT t) (run cl wf xs) items ρ S2) := Aft.mono h2 st1
  let W : Nat → Nat → L2.St → Hp → Prop := fun i m σ H => ∃ (B : Bk) (S : Store) (ρ : Env), i ≤ items.length ∧ m = items.length - i ∧ StoreOk (gx X fa) ⟨B, S, H⟩ ∧ Stab (gx X fa) ⟨B1, S2, H1⟩ ⟨B, S, H⟩ ∧ EnvOk (gx X fa) ⟨B, S, H⟩ ρ σ ∧
    Aft (gx X fa) ⟨B1, S2, H1⟩ D (forL (bindT t) (run cl wf xs) (items.drop i) ρ S)
  refine ⟨W, ⟨items.length, B1, S2, ρ, Nat.zero_le _, by omega, so1, Stab.refl, eo.mono st1, h3⟩, fun i m σ H hW => ?_⟩
  obtain ⟨B, S, ρ, hi, hm, soW, stW, eoW, hA⟩ := hW
  by_cases hlt : i < items.length
  · refine .inr ⟨hw.go i _ _ _ stW.sub soW hlt, fun σ' H' => ∃ m', m' < m ∧ W (i + 1) m' σ' H', fun σ' H' h => h, fun x H' hy => ?_⟩
    obtain ⟨soY, stY, dY⟩ := hw.yld i _ _ _ x H' items[i] stW.sub soW (List.getElem?_eq_getElem hlt) hy
    rw [List.drop_eq_getElem_cons hlt, forL] at hA
    split at hA
    · exact False.elim hA
    · rename_i ρ1 hb
      refine ⟨B, S, ρ, items[i], ρ1, eoW.mono stY, soY, dY, hb, fun σ2 eo2 _ => ⟨B, S, ρ1, eo2, soY, ?_⟩⟩
      have stZ : Stab (gx X fa) ⟨B1, S2, H1⟩ ⟨B, S, H'⟩ := stW.trans stY
      cases hr : run cl wf xs ρ1 S with
      | nx ρ2 S3 =>
        rw [hr] at hA
        exact fun σ' B' H2 so' st' eo' => ⟨items.length - (i + 1), by omega, B', S3, ρ2, hlt, rfl, so', stZ.trans st', eo', hA⟩
      | ct ρ2 S3 =>
        rw [hr] at hA
        exact fun σ' B' H2 so' st' eo' => ⟨items.length - (i + 1), by omega, B', S3, ρ2, hlt, rfl, so', stZ.trans st', eo', hA⟩
      | bk ρ2 S3 =>
        rw [hr] at hA
        exact fun σ' B' H2 so' st' eo' => hA σ' B' H2 so' (stZ.trans st') eo'
      | rt y S3 =>
        rw [hr] at hA
        exact fun v B' H2 so' st' d => hA v B' H2 so' (stZ.trans st') d
      | ex y S3 =>
        rw [hr] at hA
        exact hA
      | bad =>
        rw [hr] at hA
        exact hA
  · have ei : i = items.length := by omega
    subst ei
    rw [List.drop_length, forL] at hA
    exact .inl ⟨hw.stop _ _ _ stW.sub soW, hA σ B H soW stW eoW⟩
theorem ss_while {body : List Stmt} {xs : List Sc} (hp : PassesOwn (model X.prog X.w) X.A X.env X.xe) (hc : ST fa cl X e c) (hb : SSs fa cl wf X body xs) : SS fa cl wf X (.While e body [] pos) (.while c xs) := (ps_while hp hc hb).imp fun D σ H q => by
  obtain ⟨B1, S1, ρ, eo, so1, h⟩ := q
  rw [run1] at h
  let W : Nat → L2.St → Hp → Prop := fun m σ' H' => ∃ (B : Bk) (S : Store) (ρ : Env), StoreOk (gx X fa) ⟨B, S, H'⟩ ∧ Stab (gx X fa) ⟨B1, S1, H⟩ ⟨B, S, H'⟩ ∧ EnvOk (gx X fa) ⟨B, S, H'⟩ ρ σ' ∧ Aft (gx X fa) ⟨B1, S1, H⟩ D (whileL (ev cl true c) (run cl wf xs) m ρ S)
  refine ⟨W, ⟨wf, B1, S1, ρ, so1, Stab.refl, eo, h⟩, fun m σ' H' hW => ?_⟩
  obtain ⟨B, S, ρ, soW, stW, eoW, hA⟩ := hW
  cases m with
  | zero => exact False.elim hA
  | succ n =>
    rw [whileL] at hA
    obtain ⟨x, S2, hx, hA1⟩ := Rz.then_aft hA
    split at hA1
    · refine tT.use eoW soW hx fun B2 H2 so2 st2 eo2 => ?_
      simp only [Bool.false_eq_true, if_false]
      exact hA1 σ' B2 H2 so2 (stW.trans st2) eo2
    · refine tT.use eoW soW hx fun B2 H2 so2 st2 eo2 => ?_
      simp only [if_true]
      refine ⟨fun σ' H' => ∃ m', m' < n + 1 ∧ W m' σ' H', fun _ _ h => h, B2, S2, ρ, eo2, so2, ?_⟩
      have stZ := stW.trans st2
      cases hr : run cl wf xs ρ S2 with
      | nx ρ2 S3 =>
        rw [hr] at hA1
        exact fun σ' B' H2 so' st' eo' => ⟨n, Nat.lt_succ_self n, B', S3, ρ2, so', stZ.trans st', eo', hA1⟩
      | ct ρ2 S3 =>
        rw [hr] at hA1
        exact fun σ' B' H2 so' st' eo' => ⟨n, Nat.lt_succ_self n, B', S3, ρ2, so', stZ.trans st', eo', hA1⟩
      | bk ρ2 S3 =>
        rw [hr] at hA1
        exact fun σ' B' H2 so' st' eo' => hA1 σ' B' H2 so' (stZ.trans st') eo'
      | rt y S3 =>
        rw [hr] at hA1
        exact fun v B' H2 so' st' d => hA1 v B' H2 so' (stZ.trans st') d
      | ex y S3 =>
        rw [hr] at hA1
        exact hA1
      | bad =>
        rw [hr] at hA1
        exact hA1
    · exact False.elim hA1
end
/-! ### a def -/
theorem fin_ok {g : G} {z0 : Z} {x y : A} {B' : Bk} {S0 S' S'' : Store} {H' : Hp} {v : V} (hn : z0.B.l.length = S0.length) (h : fin S0.length x S' = .ok y S'') (so : StoreOk g ⟨B', S', H'⟩) (st : Stab g z0 ⟨B', S', H'⟩) (d : DatA g ⟨B', S', H'⟩ x v) :
    ∃ B'', StoreOk g ⟨B'', S'', H'⟩ ∧ Stab g z0 ⟨B'', S'', H'⟩ ∧ DatA g ⟨B'', S'', H'⟩ y v := by
  unfold fin at h
  split at h
  · cases h
    exact ⟨B', so, st, d⟩
  · split at h
    · rename_i hc
      cases h
      rw [Bool.and_eq_true] at hc
      refine ⟨B'.take S0.length, so.cut, st.cut (by rw [hn]; exact Nat.le_refl _), ?_⟩
      cases x with
      | p d' => exact Dat.cut d
      | m i => exact absurd hc.2 (by simp [isP])
    · cases h
      exact ⟨B', so, st, d⟩
theorem DatAL.start {g : G} {z : Z} : ∀ {xs : List A} {vs : List V} {m : Nat}, DatAL g z xs vs → EnvOk g z (xs.map some ++ List.replicate m none) (vs.map some ++ List.replicate m none) := fun {xs vs m} d => by
  refine ⟨by rw [List.length_append, List.length_append, List.length_map, List.length_map, d.len, List.length_replicate, List.length_replicate], fun i x h => ?_⟩
  by_cases hi : i < xs.length
  · rw [List.getElem?_append_left (by rw [List.length_map]; exact hi), List.getElem?_map] at h
    cases q : xs[i]? with
    | none => rw [q] at h; cases h
    | some y =>
      rw [q] at h
      cases h
      obtain ⟨v, hv, dv⟩ := d.get q
      exact ⟨v, by rw [List.getElem?_append_left (by rw [List.length_map, d.len]; exact hi), List.getElem?_map, hv]; rfl, dv⟩
  · rw [List.getElem?_append_right (by rw [List.length_map]; omega), List.getElem?_replicate] at h
    split at h <;> cases h
/-- a def keeps what the evaluator says of it -/
theorem fn_ok {ft : List Fn} {wf k fi : Nat} {fa : Nat → Addr} {P : Program} {w : World} {K : PySem.W.Frag} {mg : Str → Option Value} {base : Heap} {x qual : Str} {params : Arguments} {body : List Stmt} {scope : Scope} {dvs : List V} {kws : List (Str × V)} {f : Addr} {fd : FuncData} {N ps : List Str} {i : Fn}
    (F : FunD K x qual params body scope dvs kws f fd) (Sc : FnScope N ps scope) (hi : ft[fi]? = some i) (hnp : i.np = ps.length) (hnn : i.nn = N.length)
    (hbody : ∀ (cdv : Value) (A : Around) (outer : List PySem.Env) (s : Shared) (H : Hp) (E : XK), Room k (A.deeper (envOfC qual scope s.heap.objs.size f cdv)) → SSs fa (callI ft wf k) wf (cxOf CX0 P w K mg base N qual scope f cdv A outer s H E).nox body i.code) :
    FnOk P w K mg base CX0 (k + 1) f fd ps (spF ⟨K, fa⟩ ps.length (callI ft wf (k + 1) fi)) := by
  refine F.ok Sc (fun vs H Q E h => ?_) (fun cdv A outer s H vs Q E hr h => ?_)
  · obtain ⟨B, S, xs, x, S', so, d, hl, _⟩ := h
    rw [d.len, hl]
  · obtain ⟨B, S, xs, x, S', so, d, hl, hm, kq⟩ := h
    refine ⟨_, (hbody cdv A outer s H E hr).nox, ?_⟩
    rw [callI, hi] at hm
    dsimp only at hm
    rw [if_pos (by rw [hl, hnp])] at hm
    refine ⟨B, S, xs.map some ++ List.replicate (i.nn - i.np) none, ?_, so, ?_⟩
    · have := d.start (m := i.nn - i.np)
      unfold L2.start
      rw [d.len, hl, ← hnn, ← hnp]
      exact this
    · cases hr : run (callI ft wf k) wf i.code (xs.map some ++ List.replicate (i.nn - i.np) none) S with
      | nx ρ2 S3 =>
        rw [hr] at hm
        intro σ' B' H' so' st' eo'
        obtain ⟨B'', so'', st'', d''⟩ := fin_ok (v := V.non) so.len hm so' st' rfl
        exact kq _ B'' H' so'' st'' d''
      | rt y S3 =>
        rw [hr] at hm
        intro v B' H' so' st' d'
        obtain ⟨B'', so'', st'', d''⟩ := fin_ok so.len hm so' st' d'
        exact kq _ B'' H' so'' st'' d''
      | bk ρ2 S3 => rw [hr] at hm; cases hm
      | ct ρ2 S3 => rw [hr] at hm; cases hm
      | ex y S3 => rw [hr] at hm; cases hm
      | bad => rw [hr] at hm; cases hm
end Fw

/-! The checker: a code is that of a piece of the program's syntax. -/
namespace Fw
open PySem PySem.Spec PyProof.Rows L2
mutual
def D.eqb : D → D → Bool
  | .non, .non => true
  | .bl a, .bl b => a == b
  | .int a, .int b => decide (a = b)
  | .str a, .str b => decide (a = b)
  | .tup a, .tup b => D.eqbL a b
  | .lst a, .lst b => D.eqbL a b
  | .scr a, .scr b => decide (a = b)
  | .fn a, .fn b => decide (a = b)
  | .ty a, .ty b => decide (a = b)
  | _, _ => false
def D.eqbL : List D → List D → Bool
  | [], [] => true
  | a :: as, b :: bs => D.eqb a b && D.eqbL as bs
  | _, _ => false
end
mutual
theorem D.eqb_eq : ∀ {a b : D}, D.eqb a b = true → a = b
  | .non, b, h => by cases b <;> simp_all [D.eqb]
  | .bl a, b, h => by cases b <;> simp_all [D.eqb]
  | .int a, b, h => by cases b <;> simp_all [D.eqb]
  | .str a, b, h => by cases b <;> simp_all [D.eqb]
  | .tup a, b, h => by
    cases b with
    | tup b => rw [D.eqbL_eq (show D.eqbL a b = true by simpa [D.eqb] using h)]
    | _ => simp [D.eqb] at h
  | .lst a, b, h => by
    cases b with
    | lst b => rw [D.eqbL_eq (show D.eqbL a b = true by simpa [D.eqb] using h)]
    | _ => simp [D.eqb] at h
  | .scr a, b, h => by cases b <;> simp_all [D.eqb]
  | .fn a, b, h => by cases b <;> simp_all [D.eqb]
  | .ty a, b, h => by cases b <;> simp_all [D.eqb]
theorem D.eqbL_eq : ∀ {a b : List D}, D.eqbL a b = true → a = b
  | [], b, h => by cases b <;> simp_all [D.eqbL]
  | a :: as, b, h => by
    cases b with
    | nil => simp [D.eqbL] at h
    | cons b bs =>
      rw [D.eqbL, Bool.and_eq_true] at h
      rw [D.eqb_eq h.1, D.eqbL_eq h.2]
end
def asmEq : List (Nat ⊕ D) → List (Nat ⊕ D) → Bool
  | [], [] => true
  | .inl a :: as, .inl b :: bs => decide (a = b) && asmEq as bs
  | .inr a :: as, .inr b :: bs => D.eqb a b && asmEq as bs
  | _, _ => false
theorem asmEq_eq : ∀ {a b : List (Nat ⊕ D)}, asmEq a b = true → a = b
  | [], [], _ => rfl
  | .inl a :: as, .inl b :: bs, h => by
    rw [asmEq, Bool.and_eq_true] at h
    rw [of_decide_eq_true h.1, asmEq_eq h.2]
  | .inr a :: as, .inr b :: bs, h => by
    rw [asmEq, Bool.and_eq_true] at h
    rw [D.eqb_eq h.1, asmEq_eq h.2]
  | [], _ :: _, h => by simp [asmEq] at h
  | .inl _ :: _, [], h => by simp [asmEq] at h
  | .inr _ :: _, [], h => by simp [asmEq] at h
  | .inl _ :: _, .inr _ :: _, h => by simp [asmEq] at h
  | .inr _ :: _, .inl _ :: _, h => by simp [asmEq] at h

structure FI where
  name : Str
  ps : List Str
  dfl : List (Nat × List D)
  kwl : List (Nat × List Str × List (Nat ⊕ D))
structure Tb where
  fns : List FI
  blts : List Str
  csts : List (Str × D)
structure Cc where
  T : Tb
  N : List Str
  sc : Scope
  fs : Option Scope
def kd (K : Cc) (x : Str) : Option NameKind := K.sc.names.lookup x
def visB (K : Cc) (x : Str) : Bool := match kd K x with
  | some .local => true
  | some .cell => true
  | some .free => true
  | _ => false
def ownB (K : Cc) (x : Str) : Bool := match kd K x with
  | some .local => true
  | some .cell => (match K.fs with
    | none => true
    | some s => (match s.names.lookup x with
      | some .cell => true
      | _ => false))
  | _ => false
def glB (K : Cc) (x : Str) : Bool := match kd K x with
  | some .globalImplicit => true
  | _ => false
def bltB (K : Cc) (x : Str) : Bool := glB K x && K.T.blts.any fun y => decide (y = x)
def slotB (K : Cc) (i : Nat) (x : Str) : Bool := decide (K.N[i]? = some x)
def plainNm (x : Str) : Bool := !decide (x = "__debug__") && !decide (x = "__classdict__") && !decide (x = "__name__")
def starB : Expr → Bool
  | .Starred _ _ => true
  | _ => false
def setB : Expr → Bool
  | .Set _ _ _ => true
  | _ => false
def slcB' : Expr → Bool
  | .Slice _ _ _ _ => true
  | _ => false
def compB : Expr → Bool
  | .ListComp _ _ _ _ => true
  | .SetComp _ _ _ _ => true
  | .DictComp _ _ _ _ _ => true
  | _ => false
def superB : Expr → Bool
  | .Call _ _ _ _ => true
  | _ => false
def Ty.nmS : Ty → Str
  | .tNone => "NoneType" | .tBool => "bool" | .tInt => "int" | .tStr => "str" | .tTup => "tuple" | .tLst => "list"
def tyB (K : Cc) (e : Expr) (t : Ty) : Bool := match e with
  | .Name x _ => decide (x = t.nmS) && bltB K x && !decide (t = .tNone)
  | _ => false
def tysB (K : Cc) : List Expr → List Ty → Bool
  | [], [] => true
  | e :: es, t :: ts => tyB K e t && tysB K es ts
  | _, _ => false
def fiB (K : Cc) (fi : Nat) (x : Str) (p : FI → Bool) : Bool := match K.T.fns[fi]? with
  | some I => decide (I.name = x) && glB K x && plainNm x && p I
  | none => false
def kwNames : List Keyword → Option (List Str)
  | [] => some []
  | ⟨some n, _, _⟩ :: r => (kwNames r).map (n :: ·)
  | ⟨none, _, _⟩ :: _ => none
def ownS (K : Cc) : List Nat → Option (List (Str × Nat))
  | [] => some []
  | i :: r => match K.N[i]?, ownS K r with
    | some x, some l => some ((x, i) :: l)
    | _, _ => none
mutual
def chkG (K : Cc) : Expr → Tg → Bool
  | .Name x _, .nm i => slotB K i x && ownB K x
  | .Tuple es _ _, .tp ts => chkGs K es ts
  | _, _ => false
def chkGs (K : Cc) : List Expr → List Tg → Bool
  | [], [] => true
  | e :: es, t :: ts => !starB e && chkG K e t && chkGs K es ts
  | _, _ => false
end
mutual
def chkE : Nat → Cc → Expr → C → Bool
  | 0, _, _, _ => false
  | n + 1, K, e, c => match c with
    | .var i => (match e with
      | .Name x _ => slotB K i x && visB K x && plainNm x
      | _ => false)
    | .cst d => (match e with
      | .Constant (.int i) _ _ => D.eqb d (.int i)
      | .Constant (.str i) _ _ => D.eqb d (.str i)
      | .Constant (.bool i) _ _ => D.eqb d (.bl i)
      | .Constant .none _ _ => D.eqb d .non
      | .Name x p => (match d with
        | .ty t => tyB K (.Name x p) t
        | _ => glB K x && plainNm x && K.T.csts.any fun q => decide (q.1 = x) && D.eqb q.2 d)
      | _ => false)
    | .bin op ca cb => (match e with
      | .BinOp a o b _ => decide (o = op) && chkE n K a ca && chkE n K b cb
      | _ => false)
    | .neg ca => (match e with
      | .UnaryOp .USub a _ => chkE n K a ca
      | _ => false)
    | .cmp op ca cb => (match e with
      | .Compare a [o] [b] _ => decide (o = op) && !setB b && chkE n K a ca && chkE n K b cb
      | _ => false)
    | .chain op op' ca cb cd => (match e with
      | .Compare a [o, o'] [b, d] _ => decide (o = op) && decide (o' = op') && !setB d && chkE n K a ca && chkE n K b cb && chkE n K d cd
      | _ => false)
    | .and ca cb => (match e with
      | .BoolOp .And [a, b] _ => chkE n K a ca && chkE n K b cb
      | .BoolOp .And (a :: b :: d :: r) p => chkE n K a ca && chkE n K (.BoolOp .And (b :: d :: r) p) cb
      | _ => false)
    | .or ca cb => (match e with
      | .BoolOp .Or [a, b] _ => chkE n K a ca && chkE n K b cb
      | .BoolOp .Or (a :: b :: d :: r) p => chkE n K a ca && chkE n K (.BoolOp .Or (b :: d :: r) p) cb
      | _ => false)
    | .not ca => (match e with
      | .UnaryOp .Not a _ => chkE n K a ca
      | _ => false)
    | .ite ct ca cb => (match e with
      | .IfExp t a b _ => chkT n K t ct && chkE n K a ca && chkE n K b cb
      | _ => false)
    | .tup cs => (match e with
      | .Tuple es _ _ => chkEs n K es cs
      | _ => false)
    | .lst cs => (match e with
      | .List es _ => chkEs n K es cs
      | _ => false)
    | .lstM cs => (match e with
      | .List es _ => chkEs n K es cs
      | _ => false)
    | .sub ca cb => (match e with
      | .Subscript a b _ => !slcB' b && chkE n K a ca && chkE n K b cb
      | _ => false)
    | .slcL ca cb => (match e with
      | .Subscript a (.Slice (some b) none none _) _ => chkE n K a ca && chkE n K b cb
      | _ => false)
    | .slcH ca cb => (match e with
      | .Subscript a (.Slice none (some b) none _) _ => chkE n K a ca && chkE n K b cb
      | _ => false)
    | .slcB ca cb cd => (match e with
      | .Subscript a (.Slice (some b) (some d) none _) _ => chkE n K a ca && chkE n K b cb && chkE n K d cd
      | _ => false)
    | .call fi cs ds => (match e with
      | .Call (.Name x _) es [] _ => fiB K fi x (fun I => I.dfl.any fun q => decide (q.1 = cs.length) && D.eqbL q.2 ds) && chkEs n K es cs
      | _ => false)
    | .callK fi cs ks asm => (match e with
      | .Call (.Name x _) es kws _ => (match kwNames kws with
        | some nm => fiB K fi x (fun I => I.kwl.any fun q => decide (q.1 = cs.length) && decide (q.2.1 = nm) && asmEq q.2.2 asm) && chkEs n K es cs && chkKs n K kws ks && !nm.isEmpty
        | none => false)
      | _ => false)
    | .blt b cs => (match e with
      | .Call (.Name x _) es [] _ => decide (x = b.nm) && bltB K x && !cs.isEmpty && chkEs n K es cs
      | _ => false)
    | .mth .append co cs => (match e, cs with
      | .Call (.Attribute o m ap) [a] [] p, [ca] => decide (m = "append") && (ap.endLine == p.line) && !superB o && !starB a && chkE n K o co && chkE n K a ca
      | _, _ => false)
    | .mth .join co cs => (match e, cs with
      | .Call (.Attribute o m ap) [a] [] p, [ca] => decide (m = "join") && (ap.endLine == p.line) && !superB o && !starB a && chkE n K o co && chkE n K a ca
      | _, _ => false)
    | .comp k its t own cond ce => (match e with
      | .ListComp elt [⟨tg, iter, ifs, 0⟩] scope _ => (match ownS K own with
        | some ow => blkC K.N K.sc scope ow && chkI n K tg iter k its && chkG ⟨K.T, K.N, relS scope K.sc, some scope⟩ tg t && (t.slots.all fun i => decide (i ∈ own)) && !setB iter &&
          chkC n ⟨K.T, K.N, relS scope K.sc, some scope⟩ ifs cond && chkE n ⟨K.T, K.N, relS scope K.sc, some scope⟩ elt ce
        | none => false)
      | _ => false)
    | .fstr cs => (match e with
      | .JoinedStr (a :: b :: r) _ => chkJ n K (a :: b :: r) cs
      | _ => false)
    | .fmt ca => (match e with
      | .FormattedValue a cv none _ => decide (cv = -1) && chkE n K a ca
      | .JoinedStr [.FormattedValue a cv none _] _ => decide (cv = -1) && chkE n K a ca
      | _ => false)
    | .isiT ca ts => (match e with
      | .Call (.Name x _) [a, .Tuple es _ _] [] _ => decide (x = "isinstance") && bltB K x && !starB a && chkE n K a ca && tysB K es ts && decide (ts.length ≤ LIM)
      | _ => false)
    | .maxD ca cd => (match e with
      | .Call (.Name x _) [a] [⟨some nm, d, _⟩] _ => decide (x = "max") && decide (nm = "default") && bltB K x && chkEs n K [a] [ca] && chkE n K d cd
      | _ => false)
def chkT : Nat → Cc → Expr → C → Bool
  | 0, _, _, _ => false
  | n + 1, K, e, c => match e with
    | .UnaryOp .Not a _ => (match c with
      | .not ca => chkT n K a ca
      | _ => false)
    | .BoolOp .And vs p => (match c, vs with
      | .and ca cb, [a, b] => chkT n K a ca && chkT n K b cb
      | .and ca cb, a :: b :: d :: r => chkT n K a ca && chkT n K (.BoolOp .And (b :: d :: r) p) cb
      | _, _ => false)
    | .BoolOp .Or vs p => (match c, vs with
      | .or ca cb, [a, b] => chkT n K a ca && chkT n K b cb
      | .or ca cb, a :: b :: d :: r => chkT n K a ca && chkT n K (.BoolOp .Or (b :: d :: r) p) cb
      | _, _ => false)
    | .Compare a ops bs p => (match c, ops, bs with
      | .cmp op ca cb, [o], [b] => decide (o = op) && !setB b && chkE n K a ca && chkE n K b cb
      | .chain op op' ca cb cd, [o, o'], [b, d] => decide (o = op) && decide (o' = op') && !setB d && chkE n K a ca && chkE n K b cb && chkE n K d cd
      | _, _, _ => false)
    | .UnaryOp .USub _ _ => false
    | .UnaryOp .UAdd _ _ => false
    | .UnaryOp .Invert _ _ => false
    | .IfExp _ _ _ _ => false
    | e => chkE n K e c
def chkEs : Nat → Cc → List Expr → List C → Bool
  | 0, _, _, _ => false
  | _ + 1, _, [], [] => true
  | n + 1, K, e :: es, c :: cs => !starB e && chkE n K e c && chkEs n K es cs
  | _ + 1, _, _, _ => false
def chkJ : Nat → Cc → List Expr → List C → Bool
  | 0, _, _, _ => false
  | _ + 1, _, [], [] => true
  | n + 1, K, e :: es, c :: cs => chkE n K e c && chkJ n K es cs
  | _ + 1, _, _, _ => false
def chkKs : Nat → Cc → List Keyword → List C → Bool
  | 0, _, _, _ => false
  | _ + 1, _, [], [] => true
  | n + 1, K, ⟨_, e, _⟩ :: es, c :: cs => chkE n K e c && chkKs n K es cs
  | _ + 1, _, _, _ => false
def chkC : Nat → Cc → List Expr → Option C → Bool
  | 0, _, _, _ => false
  | _ + 1, _, [], none => true
  | n + 1, K, [e], some c => chkT n K e c
  | _ + 1, _, _, _ => false
def chkI : Nat → Cc → Expr → Expr → ItK → List C → Bool
  | 0, _, _, _, _, _ => false
  | n + 1, K, tg, e, k, its => match k with
    | .seq => (match its with
      | [c] => chkE n K e c
      | _ => false)
    | .range1 => (match e, its with
      | .Call (.Name x _) [a] [] _, [c] => decide (x = "range") && bltB K x && chkEs n K [a] [c]
      | _, _ => false)
    | .range2 => (match e, its with
      | .Call (.Name x _) [a, b] [] _, [c, d] => decide (x = "range") && bltB K x && chkEs n K [a, b] [c, d]
      | _, _ => false)
    | .zip => (match tg, e, its with
      | .Tuple _ _ _, .Call (.Name x _) [a, b] [] _, [c, d] => decide (x = "zip") && bltB K x && chkEs n K [a, b] [c, d]
      | _, _, _ => false)
    | .enum => (match tg, e, its with
      | .Tuple _ _ _, .Call (.Name x _) [a] [] _, [c] => decide (x = "enumerate") && bltB K x && chkEs n K [a] [c]
      | _, _, _ => false)
end
/-! ### statements -/
/-- a list comprehension is stored from within -/
def swB (K : Cc) (tg e : Expr) : Bool := match tg, e with
  | .Name t p, .ListComp _ _ scope pos => (match kd K t with
    | some .local => true
    | _ => false) && (p.line == pos.line) && !(scope.names.any fun (n, k) => n == t && (k == .local || k == .cell))
  | _, _ => false
def locNm (K : Cc) (l : Nat) : Expr → Bool
  | .Name x p => (match kd K x with
    | some .local => true
    | _ => false) && p.line == l
  | _ => false
/-- no stores are exchanged -/
def noSwap (K : Cc) (tg e : Expr) : Bool := match tg, e with
  | .Tuple ts _ _, .Tuple _ _ _ => ts.any fun t => !locNm K ((ts.head?.map (·.pos.line)).getD 0) t
  | .List _ _, _ => false
  | _, _ => true
mutual
def chkS : Nat → Cc → Stmt → Sc → Bool
  | 0, _, _, _ => false
  | n + 1, K, s, c => match c with
    | .asg t ce => (match s with
      | .Assign [tg] e _ => chkE n K e ce && chkG K tg t && (if swB K tg e then (match t with
          | .nm _ => true
          | _ => false) else noSwap K tg e && !starB tg && (match e with
          | .SetComp _ _ _ _ => false
          | .DictComp _ _ _ _ _ => false
          | _ => true))
      | _ => false)
    | .par i j ca cb => (match s with
      | .Assign [.Tuple [.Name x px, .Name y py] _ _] (.Tuple [a, b] _ _) _ => slotB K i x && slotB K j y && !decide (i = j) && !decide (x = y) && locNm K px.line (.Name x px) && locNm K px.line (.Name y py) &&
          !([a, b].all (foldedForSure 8)) && !([a, b].all (constantsAlone 8)) && chkEs n K [a, b] [ca, cb]
      | _ => false)
    | .setI co ci cv => (match s with
      | .Assign [.Subscript o i _] v _ => !compB v && chkE n K o co && chkE n K i ci && chkE n K v cv && !slcB' i
      | _ => false)
    | .exp ce => (match s with
      | .Expr e _ => !compB e && chkE n K e ce
      | _ => false)
    | .ret ce => (match s with
      | .Return (some e) _ => chkE n K e ce
      | _ => false)
    | .retN => (match s with
      | .Return none _ => true
      | _ => false)
    | .ite ce xa xb => (match s with
      | .If e a b _ => chkT n K e ce && chkSs n K a xa && chkSs n K b xb
      | _ => false)
    | .for k its t xs => (match s with
      | .For tg iter body [] _ => chkI n K tg iter k its && chkG K tg t && !setB iter && chkSs n K body xs
      | _ => false)
    | .while ce xs => (match s with
      | .While e body [] _ => chkT n K e ce && chkSs n K body xs
      | _ => false)
    | .frz _ => false
    | .pass => (match s with
      | .Pass _ => true
      | _ => false)
    | .brk => (match s with
      | .Break _ => true
      | _ => false)
    | .cnt => (match s with
      | .Continue _ => true
      | _ => false)
def chkSs : Nat → Cc → List Stmt → List Sc → Bool
  | 0, _, _, _ => false
  | n + 1, K, ss, cs => match cs with
    | [] => ss.isEmpty
    | .frz _ :: cs => chkSs n K ss cs
    | c :: cs => (match ss with
      | s :: ss => chkS n K s c && chkSs n K ss cs
      | [] => false)
end
end Fw

/-! What is checked is sound. -/
namespace Fw
open PySem PySem.Spec PyProof.Rows L2
structure CxOk (K : Cc) (fa : Nat → Addr) (cl : Nat → List A → Store → Rz A) (k : Nat) (X : Cx) : Prop where
  hN : X.N = K.N
  nd : X.N.Nodup
  sce : X.env.scope = K.sc
  kind : K.sc.kind = .function
  calm : X.calm = true
  room : Room k X.A
  xe : X.xe = fun _ _ => False
  fne : ∀ x, (match K.fs with
    | none => true
    | some s => (match s.names.lookup x with
      | some .cell => true
      | _ => false)) = true → X.fn x = true
  tab : ∀ fi I, K.T.fns[fi]? = some I → ∃ fd, FnOk X.prog X.w X.K X.mg X.base CX0 k (fa fi) fd I.ps (spF (gx X fa) I.ps.length (cl fi)) ∧ X.mg I.name = some (.ref (fa fi)) ∧ PySem.W.keepIn X.K (.ref (fa fi)) = true ∧
    (∀ n ds, (n, ds) ∈ I.dfl → ∃ dsV dvs, Binds X.K fd I.ps dsV ∧ Vals dvs dsV ∧ (∀ z, DatL (gx X fa) z ds dvs) ∧ n + ds.length = I.ps.length) ∧
    ∀ n ks asm, (n, ks, asm) ∈ I.kwl → KBA (gx X fa) fd I.ps n ks asm
  blt : ∀ x ∈ K.T.blts, X.mg x = none
  cst : ∀ x d, (x, d) ∈ K.T.csts → ∃ u v, X.mg x = some u ∧ RelV v u ∧ ∀ z, Dat (gx X fa) z d v
section
variable {K : Cc} {fa : Nat → Addr} {cl : Nat → List A → Store → Rz A} {k wf : Nat} {X : Cx}
theorem CxOk.blk (h : CxOk K fa cl k X) (s : Shared) (H : Hp) (scope : Scope) (cls : List (Str × Addr)) (C : Addr) (fp : List Addr) (hk : scope.kind = .function) :
    CxOk ⟨K.T, K.N, relS scope K.sc, some scope⟩ fa cl k (X.blk s H scope (compEnvC scope cls C X.env) fp) where
  hN := h.hN
  nd := h.nd
  sce := by
    show relabel scope X.env = relS scope K.sc
    rw [← h.sce]
    rfl
  kind := hk
  calm := h.calm
  room := h.room
  xe := rfl
  fne := fun x hx => by
    show (scope.names.lookup x == some NameKind.cell) = true
    dsimp only at hx
    split at hx
    · rename_i e
      rw [e]
      rfl
    · cases hx
  tab := h.tab
  blt := h.blt
  cst := h.cst
theorem kd_eq (h : CxOk K fa cl k X) (x : Str) : X.env.scope.names.lookup x = kd K x := by
  rw [h.sce]
  rfl
theorem vis_of (h : CxOk K fa cl k X) {x : Str} (hv : visB K x = true) : Vis X.env.scope x := by
  unfold Vis
  rw [kd_eq h]
  unfold visB at hv
  split at hv
  · rename_i e; exact .inl e
  · rename_i e; exact .inr (.inl e)
  · rename_i e; exact .inr (.inr e)
  · cases hv
theorem gl_of (h : CxOk K fa cl k X) {x : Str} (hv : glB K x = true) : Gl X x := by
  show X.env.scope.names.lookup x = _
  rw [kd_eq h]
  unfold glB at hv
  split at hv
  · rename_i e; exact e
  · cases hv
theorem own_of (h : CxOk K fa cl k X) {x : Str} (hv : ownB K x = true) : Loc X.env.scope x ∧ (X.fn x = true ∨ X.env.scope.names.lookup x = some .local) := by
  unfold L2.Loc
  rw [kd_eq h]
  unfold ownB at hv
  split at hv
  · rename_i e; exact ⟨.inl e, .inr e⟩
  · rename_i e; exact ⟨.inr e, .inl (h.fne x hv)⟩
  · cases hv
theorem slot_of (h : CxOk K fa cl k X) {x : Str} {i : Nat} (hs : slotB K i x = true) : X.N[i]? = some x := by
  rw [h.hN]
  exact of_decide_eq_true hs
theorem blt_of (h : CxOk K fa cl k X) {x : Str} (hv : bltB K x = true) : Gl X x ∧ X.mg x = none := by
  unfold bltB at hv
  rw [Bool.and_eq_true, List.any_eq_true] at hv
  obtain ⟨h1, y, hy, e⟩ := hv
  have e := of_decide_eq_true e
  subst e
  exact ⟨gl_of h h1, h.blt y hy⟩
theorem nm_of {x : Str} (h : plainNm x = true) : (x == ("__debug__" : Str)) = false ∧ (x == ("__classdict__" : Str)) = false ∧ x ≠ "__name__" := by
  unfold plainNm at h
  rw [Bool.and_eq_true, Bool.and_eq_true] at h
  obtain ⟨⟨h1, h2⟩, h3⟩ := h
  have q : ∀ {y : Str}, (!decide (x = y)) = true → x ≠ y := fun {y} z e => by
    rw [decide_eq_true e] at z
    cases z
  exact ⟨by rw [beq_eq_false_iff_ne]; exact q h1, by rw [beq_eq_false_iff_ne]; exact q h2, q h3⟩
theorem star_cons {e : Expr} {es : List Expr} {env : PySem.Env} (h : (!starB e) = true) : starEach (e :: es) env = (false, eval e env) :: starEach es env := by
  cases e <;> first | rfl | (simp [starB] at h)
theorem star_any {pos : Pos} {env : PySem.Env} : ∀ {es : List Expr}, (∀ e ∈ es, (!starB e) = true) → (backTo pos (starEach es env)).any (·.1) = false
  | [], _ => rfl
  | e :: es, h => by
    rw [star_cons (h e (List.mem_cons_self ..))]
    show (false || (backTo pos (starEach es env)).any (·.1)) = false
    rw [star_any fun e he => h e (List.mem_cons_of_mem _ he)]
    rfl
theorem star_all {pos : Pos} {env : PySem.Env} : ∀ {es : List Expr}, (∀ e ∈ es, (!starB e) = true) → (backTo pos (starEach es env)).all (fun x => !x.1) = true
  | [], _ => rfl
  | e :: es, h => by
    rw [star_cons (h e (List.mem_cons_self ..))]
    show (!false && (backTo pos (starEach es env)).all (fun x => !x.1)) = true
    rw [star_all fun e he => h e (List.mem_cons_of_mem _ he)]
    rfl
theorem notset_of {e : Expr} (h : (!setB e) = true) : ∀ es k p, e ≠ .Set es k p := fun es k p z => by
  rw [z] at h
  simp [setB] at h
theorem folded_of {e : Expr} {env : PySem.Env} (h : (!setB e) = true) : ∀ x, foldedSetIterable e env x = pure x := fun x => by
  cases e <;> first | rfl | (simp [setB] at h)
theorem base_of {o : Expr} {nm : Str} {env : PySem.Env} (h : (!superB o) = true) : attributeBase o nm env (eval o env) = eval o env := by
  cases o <;> first | rfl | (simp [superB] at h)
theorem ix_of {b : Expr} (h : (!slcB' b) = true) : PlainIx b := fun o i => by
  cases b <;> first | rfl | (simp [slcB'] at h)
theorem swap_no {e : Expr} {t : Option Expr} {l : Nat} {env : PySem.Env} (h : (!compB e) = true) : swapsWith e t l env = pure false := by
  cases e <;> first | rfl | (simp [compB] at h)
theorem kw_of {pos : Pos} {env : PySem.Env} : ∀ {kws : List Keyword} {nm : List Str}, kwNames kws = some nm → (backToKw pos (keywordEach kws env)).all (·.1.isSome) = true ∧ (backToKw pos (keywordEach kws env)).filterMap (·.1) = nm ∧ (backToKw pos (keywordEach kws env)).any (·.1.isNone) = false ∧ kws.length = nm.length
  | [], nm, h => by
    cases h
    exact ⟨rfl, rfl, rfl, rfl⟩
  | ⟨some n, v, p⟩ :: r, nm, h => by
    rw [kwNames] at h
    cases q : kwNames r with
    | none => rw [q] at h; cases h
    | some ns =>
      rw [q] at h
      cases h
      obtain ⟨h1, h2, h3, h4⟩ := kw_of (pos := pos) (env := env) q
      refine ⟨?_, ?_, ?_, by rw [List.length_cons, List.length_cons, h4]⟩
      · show (true && (backToKw pos (keywordEach r env)).all (·.1.isSome)) = true
        rw [h1]
        rfl
      · show n :: (backToKw pos (keywordEach r env)).filterMap (·.1) = n :: ns
        rw [h2]
      · show (false || (backToKw pos (keywordEach r env)).any (·.1.isNone)) = false
        rw [h3]
        rfl
  | ⟨none, v, p⟩ :: r, nm, h => by cases h
theorem ownS_map : ∀ {own : List Nat} {ow : List (Str × Nat)}, ownS K own = some ow → ow.map (·.2) = own
  | [], ow, h => by
    cases h
    rfl
  | i :: r, ow, h => by
    rw [ownS] at h
    split at h
    · rename_i x l h1 h2
      cases h
      rw [List.map_cons, ownS_map h2]
    · cases h
theorem ty_pe (h : CxOk K fa cl k X) {e : Expr} {t : Ty} (hv : tyB K e t = true) : PE X e (tC (.ty t.nm)) := by
  unfold tyB at hv
  split at hv
  · rename_i x p
    rw [Bool.and_eq_true, Bool.and_eq_true] at hv
    obtain ⟨⟨h1, h2⟩, h3⟩ := hv
    have h1 := of_decide_eq_true h1
    subst h1
    obtain ⟨hg, hm⟩ := blt_of h h2
    have hb : bootBuiltins t.nmS = some (.type t.nm) := by cases t <;> first | (decide +kernel) | (simp at h3)
    have hn : t.nmS ≠ "__name__" := by cases t <;> decide +kernel
    have hd : (t.nmS == ("__debug__" : Str)) = false := by cases t <;> decide +kernel
    exact pe_bltn hg hm hb rfl hn hd
  · cases hv
theorem tys_pe (h : CxOk K fa cl k X) : ∀ {es : List Expr} {ts : List Ty}, tysB K es ts = true → TyNames X es ts
  | [], [], _ => .nil
  | e :: es, t :: ts, hv => by
    rw [tysB, Bool.and_eq_true] at hv
    refine .cons (ty_pe h hv.1) (star_cons ?_) (tys_pe h hv.2)
    have := hv.1
    unfold tyB at this
    split at this
    · rfl
    · cases this
  | [], _ :: _, hv => by cases hv
  | _ :: _, [], hv => by cases hv
theorem fi_of (h : CxOk K fa cl k X) {fi : Nat} {x : Str} {p : FI → Bool} (hv : fiB K fi x p = true) : ∃ I, K.T.fns[fi]? = some I ∧ I.name = x ∧ Gl X x ∧ plainNm x = true ∧ p I = true := by
  unfold fiB at hv
  split at hv
  · rename_i I hI
    rw [Bool.and_eq_true, Bool.and_eq_true, Bool.and_eq_true] at hv
    obtain ⟨⟨⟨h1, h2⟩, h3⟩, h4⟩ := hv
    exact ⟨I, hI, of_decide_eq_true h1, gl_of h h2, h3, h4⟩
  · cases hv
theorem pass_of : Passes CX0 X E0 := pass0
mutual
theorem sg_of (h : CxOk K fa cl k X) : ∀ (e : Expr) (t : Tg), chkG K e t = true → SG fa X e t
  | .Name x p, .nm i, hv => by
    rw [chkG, Bool.and_eq_true] at hv
    obtain ⟨h1, h2⟩ := own_of h hv.2
    exact sg_name h.nd (slot_of h hv.1) h1 h2
  | .Tuple es kk p, .tp ts, hv => by
    rw [chkG] at hv
    obtain ⟨h1, h2, h3⟩ := sgs_of h es ts hv
    exact sg_tup h.calm h1 h2 h3
  | .Name _ _, .tp _, hv => by simp [chkG] at hv
  | .Tuple _ _ _, .nm _, hv => by simp [chkG] at hv
  | .BoolOp .., t, hv => by simp [chkG] at hv
  | .NamedExpr .., t, hv => by simp [chkG] at hv
  | .BinOp .., t, hv => by simp [chkG] at hv
  | .UnaryOp .., t, hv => by simp [chkG] at hv
  | .Lambda .., t, hv => by simp [chkG] at hv
  | .IfExp .., t, hv => by simp [chkG] at hv
  | .Dict .., t, hv => by simp [chkG] at hv
  | .Set .., t, hv => by simp [chkG] at hv
  | .ListComp .., t, hv => by simp [chkG] at hv
  | .SetComp .., t, hv => by simp [chkG] at hv
  | .DictComp .., t, hv => by simp [chkG] at hv
  | .GeneratorExp .., t, hv => by simp [chkG] at hv
  | .Await .., t, hv => by simp [chkG] at hv
  | .Yield .., t, hv => by simp [chkG] at hv
  | .YieldFrom .., t, hv => by simp [chkG] at hv
  | .Compare .., t, hv => by simp [chkG] at hv
  | .Call .., t, hv => by simp [chkG] at hv
  | .FormattedValue .., t, hv => by simp [chkG] at hv
  | .JoinedStr .., t, hv => by simp [chkG] at hv
  | .Constant .., t, hv => by simp [chkG] at hv
  | .Attribute .., t, hv => by simp [chkG] at hv
  | .Subscript .., t, hv => by simp [chkG] at hv
  | .Starred .., t, hv => by simp [chkG] at hv
  | .List .., t, hv => by simp [chkG] at hv
  | .Slice .., t, hv => by simp [chkG] at hv
theorem sgs_of (h : CxOk K fa cl k X) : ∀ (es : List Expr) (ts : List Tg), chkGs K es ts = true → SGs fa X es ts ∧ (assignEach es X.env).length = ts.length ∧ (assignEach es X.env).findIdx? (·.1) = none
  | [], [], _ => ⟨sgs_nil, rfl, rfl⟩
  | e :: es, t :: ts, hv => by
    rw [chkGs, Bool.and_eq_true, Bool.and_eq_true] at hv
    obtain ⟨⟨h1, h2⟩, h3⟩ := hv
    obtain ⟨a, b, c⟩ := sgs_of h es ts h3
    have e1 : assignEach (e :: es) X.env = (false, assign e X.env) :: assignEach es X.env := by
      cases e <;> first | rfl | (simp [starB] at h1)
    refine ⟨sgs_cons (sg_of h e t h2) a (by rw [e1]; rfl), by rw [e1, List.length_cons, List.length_cons, b], ?_⟩
    rw [e1, List.findIdx?_cons]
    simp only [Bool.false_eq_true, if_false]
    rw [c]
    rfl
  | [], _ :: _, hv => by simp [chkGs] at hv
  | _ :: _, [], hv => by simp [chkGs] at hv
end
end
end Fw

/-! What is checked is sound: the expressions. -/
namespace Fw
open PySem PySem.Spec PyProof.Rows L2
/-- what the checker's answers are worth at n -/
structure Snd (fa : Nat → Addr) (cl : Nat → List A → Store → Rz A) (k n : Nat) : Prop where
  e : ∀ K X, CxOk K fa cl k X → ∀ e c, chkE n K e c = true → SE fa cl X e c
  t : ∀ K X, CxOk K fa cl k X → ∀ e c, chkT n K e c = true → ST fa cl X e c ∧ ∀ op vs p, e = .BoolOp op vs p → SW fa cl X e c
  es : ∀ K X, CxOk K fa cl k X → ∀ e c, chkEs n K e c = true → SA fa cl X e c ∧ e.length = c.length ∧ ∀ x ∈ e, (!starB x) = true
  j : ∀ K X, CxOk K fa cl k X → ∀ e c, chkJ n K e c = true → SJ fa cl X e c
  ks : ∀ K X, CxOk K fa cl k X → ∀ e c, chkKs n K e c = true → SK fa cl X e c ∧ e.length = c.length
  c : ∀ K X, CxOk K fa cl k X → ∀ e c, chkC n K e c = true → SCond fa cl X e c
  i : ∀ K X, CxOk K fa cl k X → ∀ tg e kk its, chkI n K tg e kk its = true → SI fa cl X tg e kk its
theorem bt {a b : Bool} (h : (a && b) = true) : a = true ∧ b = true := by
  rw [Bool.and_eq_true] at h
  exact h
section
variable {K : Cc} {fa : Nat → Addr} {cl : Nat → List A → Store → Rz A} {k n : Nat} {X : Cx}
theorem sndE (S : Snd fa cl k n) (h : CxOk K fa cl k X) (e : Expr) (c : C) (hc : chkE (n + 1) K e c = true) : SE fa cl X e c := by
  rw [chkE.eq_def] at hc
  dsimp only at hc
  split at hc
  · -- var
    split at hc
    · obtain ⟨hc, h3⟩ := bt hc
      obtain ⟨h1, h2⟩ := bt hc
      exact se_var (slot_of h h1) (vis_of h h2) (nm_of h3).1 (nm_of h3).2.1
    · cases hc
  · -- cst
    split at hc
    · rw [D.eqb_eq hc]
      exact se_cst pe_int fun _ => rfl
    · rw [D.eqb_eq hc]
      exact se_cst pe_str fun _ => rfl
    · rw [D.eqb_eq hc]
      exact se_cst pe_bl fun _ => rfl
    · rw [D.eqb_eq hc]
      exact se_cst pe_non fun _ => rfl
    · split at hc
      · exact se_cst (ty_pe h hc) fun _ => rfl
      · obtain ⟨hc, h3⟩ := bt hc
        obtain ⟨h1, h2⟩ := bt hc
        rw [List.any_eq_true] at h3
        obtain ⟨⟨x', d'⟩, hm, hq⟩ := h3
        obtain ⟨q1, q2⟩ := bt hq
        have q1 := of_decide_eq_true q1
        dsimp only at q1 q2
        subst q1
        have q2 := D.eqb_eq q2
        subst q2
        obtain ⟨u, v, hu, hv, hd⟩ := h.cst _ _ hm
        exact se_cst (pe_glob (gl_of h h1) hu hv (nm_of h2).1) hd
    · cases hc
  · -- bin
    split at hc
    · obtain ⟨hc, h3⟩ := bt hc
      obtain ⟨h1, h2⟩ := bt hc
      have h1 := of_decide_eq_true h1
      subst h1
      exact se_bin (S.e K X h _ _ h2) (S.e K X h _ _ h3)
    · cases hc
  · -- neg
    split at hc
    · exact se_neg (S.e K X h _ _ hc)
    · cases hc
  · -- cmp
    split at hc
    · obtain ⟨hc, h4⟩ := bt hc
      obtain ⟨hc, h3⟩ := bt hc
      obtain ⟨h1, h2⟩ := bt hc
      have h1 := of_decide_eq_true h1
      subst h1
      exact se_cmp h.room (S.e K X h _ _ h3) (S.e K X h _ _ h4) (notset_of h2)
    · cases hc
  · -- chain
    split at hc
    · obtain ⟨hc, h6⟩ := bt hc
      obtain ⟨hc, h5⟩ := bt hc
      obtain ⟨hc, h4⟩ := bt hc
      obtain ⟨hc, h3⟩ := bt hc
      obtain ⟨h1, h2⟩ := bt hc
      have h1 := of_decide_eq_true h1
      have h2 := of_decide_eq_true h2
      subst h1
      subst h2
      exact se_chain h.room (S.e K X h _ _ h4) (S.e K X h _ _ h5) (S.e K X h _ _ h6) (notset_of h3)
    · cases hc
  · -- and
    split at hc
    · obtain ⟨h1, h2⟩ := bt hc
      exact se_andC (S.e K X h _ _ h1) (se_one (S.e K X h _ _ h2))
    · obtain ⟨h1, h2⟩ := bt hc
      exact se_andC (S.e K X h _ _ h1) (S.e K X h _ _ h2)
    · cases hc
  · -- or
    split at hc
    · obtain ⟨h1, h2⟩ := bt hc
      exact se_orC (S.e K X h _ _ h1) (se_one (S.e K X h _ _ h2))
    · obtain ⟨h1, h2⟩ := bt hc
      exact se_orC (S.e K X h _ _ h1) (S.e K X h _ _ h2)
    · cases hc
  · -- not
    split at hc
    · exact se_not (S.e K X h _ _ hc)
    · cases hc
  · -- ite
    split at hc
    · obtain ⟨hc, h3⟩ := bt hc
      obtain ⟨h1, h2⟩ := bt hc
      exact se_ite (S.t K X h _ _ h1).1 (S.e K X h _ _ h2) (S.e K X h _ _ h3)
    · cases hc
  · -- tup
    split at hc
    · exact se_tup (S.es K X h _ _ hc).1
    · cases hc
  · -- lst
    split at hc
    · exact se_lst (S.es K X h _ _ hc).1
    · cases hc
  · -- lstM
    split at hc
    · exact se_lstM (S.es K X h _ _ hc).1
    · cases hc
  · -- sub
    split at hc
    · obtain ⟨hc, h3⟩ := bt hc
      obtain ⟨h1, h2⟩ := bt hc
      exact se_sub (S.e K X h _ _ h2) (S.e K X h _ _ h3) (ix_of h1)
    · cases hc
  · -- slcL
    split at hc
    · obtain ⟨h1, h2⟩ := bt hc
      exact se_slcL (S.e K X h _ _ h1) (S.e K X h _ _ h2)
    · cases hc
  · -- slcH
    split at hc
    · obtain ⟨h1, h2⟩ := bt hc
      exact se_slcH (S.e K X h _ _ h1) (S.e K X h _ _ h2)
    · cases hc
  · -- slcB
    split at hc
    · obtain ⟨hc, h3⟩ := bt hc
      obtain ⟨h1, h2⟩ := bt hc
      exact se_slcB (S.e K X h _ _ h1) (S.e K X h _ _ h2) (S.e K X h _ _ h3)
    · cases hc
  · -- call
    rename_i fi cs ds
    split at hc
    · rename_i x p es pos
      obtain ⟨h1, h2⟩ := bt hc
      obtain ⟨I, hI, rfl, hg, hn, hp⟩ := fi_of h h1
      rw [List.any_eq_true] at hp
      obtain ⟨⟨n', ds'⟩, hm, hq⟩ := hp
      obtain ⟨q1, q2⟩ := bt hq
      have r1 : n' = cs.length := of_decide_eq_true q1
      have r2 : ds' = ds := D.eqbL_eq q2
      clear hq q1 q2
      subst r1
      subst r2
      obtain ⟨fd, F, hmg, hk, hd, _⟩ := h.tab fi I hI
      obtain ⟨dsV, dvs, hb, hv, hdd, hl⟩ := hd _ _ hm
      obtain ⟨a1, a2, a3⟩ := S.es K X h _ _ h2
      cases cs with
      | nil =>
        cases es with
        | nil => exact se_call0 F h.room hg hmg hk hb hv hdd (by rw [← hl, List.length_nil, Nat.zero_add]) pass_of (nm_of hn).1
        | cons e es => simp at a2
      | cons c cs =>
        cases es with
        | nil => simp at a2
        | cons e es => exact se_call F h.room hg hmg hk hb hv hdd (by rw [← hl, List.length_cons]; omega) pass_of a1 (nm_of hn).1 (star_cons (a3 _ (List.mem_cons_self ..))) (star_any fun x hx => a3 x (List.mem_cons_of_mem _ hx))
    · cases hc
  · -- callK
    rename_i fi cs ks asm
    split at hc
    · rename_i x p es kws pos
      split at hc
      · rename_i nm hnm
        obtain ⟨hc, h4⟩ := bt hc
        obtain ⟨hc, h3⟩ := bt hc
        obtain ⟨h1, h2⟩ := bt hc
        obtain ⟨I, hI, rfl, hg, hn, hp⟩ := fi_of h h1
        rw [List.any_eq_true] at hp
        obtain ⟨⟨n', nm', asm'⟩, hm, hq⟩ := hp
        obtain ⟨hq, q3⟩ := bt hq
        obtain ⟨q1, q2⟩ := bt hq
        have r1 : n' = cs.length := of_decide_eq_true q1
        have r2 : nm' = nm := of_decide_eq_true q2
        have r3 : asm' = asm := asmEq_eq q3
        clear hq q1 q2 q3
        subst r1
        subst r2
        subst r3
        obtain ⟨fd, F, hmg, hk, _, hkb⟩ := h.tab fi I hI
        have hb := hkb _ _ _ hm
        obtain ⟨a1, a2, a3⟩ := S.es K X h _ _ h2
        obtain ⟨b1, b2⟩ := S.ks K X h _ _ h3
        obtain ⟨k1, k2, k3, k4⟩ := kw_of (pos := pos) (env := X.env) hnm
        have hlk : ks.length = nm'.length := by rw [← b2, k4]
        cases cs with
        | nil =>
          cases es with
          | nil => exact se_callK0 F h.room hg hmg hk hb pass_of b1 hlk k1 k2 (nm_of hn).1 (by rw [k3]; rfl)
          | cons e es => simp at a2
        | cons c cs =>
          cases es with
          | nil => simp at a2
          | cons e es => exact se_callK F h.room hg hmg hk hb pass_of a1 b1 hlk k1 k2 (nm_of hn).1 (star_cons (a3 _ (List.mem_cons_self ..))) (by rw [k3, star_any a3]; rfl)
      · cases hc
    · cases hc
  · -- blt
    rename_i b cs
    split at hc
    · rename_i x p es pos
      obtain ⟨hc, h4⟩ := bt hc
      obtain ⟨hc, h3⟩ := bt hc
      obtain ⟨h1, h2⟩ := bt hc
      have h1 := of_decide_eq_true h1
      subst h1
      obtain ⟨hg, hmg⟩ := blt_of h h2
      obtain ⟨a1, a2, a3⟩ := S.es K X h _ _ h4
      cases cs with
      | nil => simp at h3
      | cons c cs =>
        cases es with
        | nil => simp at a2
        | cons e es => exact se_blt h.calm hg hmg a1 (star_cons (a3 _ (List.mem_cons_self ..))) (star_any fun x hx => a3 x (List.mem_cons_of_mem _ hx))
    · cases hc
  · -- append
    split at hc
    · obtain ⟨hc, h6⟩ := bt hc
      obtain ⟨hc, h5⟩ := bt hc
      obtain ⟨hc, h4⟩ := bt hc
      obtain ⟨hc, h3⟩ := bt hc
      obtain ⟨h1, h2⟩ := bt hc
      have h1 := of_decide_eq_true h1
      subst h1
      have hst := star_cons (es := []) (env := X.env) h4
      refine se_append (S.e K X h _ _ h5) (sa_cons (S.e K X h _ _ h6) sa_nil hst) (base_of h3) ?_ h2 hst rfl
      rw [star_all (by intro x hx; rw [List.mem_singleton.mp hx]; exact h4)]
      rfl
    · cases hc
  · -- join
    split at hc
    · obtain ⟨hc, h6⟩ := bt hc
      obtain ⟨hc, h5⟩ := bt hc
      obtain ⟨hc, h4⟩ := bt hc
      obtain ⟨hc, h3⟩ := bt hc
      obtain ⟨h1, h2⟩ := bt hc
      have h1 := of_decide_eq_true h1
      subst h1
      exact se_join (S.e K X h _ _ h5) (S.e K X h _ _ h6) (star_cons (es := []) h4) (base_of h3) h2
    · cases hc
  · -- comp
    rename_i kk its t own cond ce
    split at hc
    · rename_i elt tg iter ifs scope pos
      split at hc
      · rename_i ow how
        obtain ⟨hc, h7⟩ := bt hc
        obtain ⟨hc, h6⟩ := bt hc
        obtain ⟨hc, h5⟩ := bt hc
        obtain ⟨hc, h4⟩ := bt hc
        obtain ⟨hc, h3⟩ := bt hc
        obtain ⟨h1, h2⟩ := bt hc
        have em := ownS_map how
        have ok : BlkOk X.N X.env.scope scope ow := by
          rw [h.hN, h.sce]
          exact blkOk_by h1
        rw [← em]
        rw [List.all_eq_true] at h4
        refine se_comp h.calm h.nd (S.i K X h _ _ _ _ h2) ok (fun s H C cls fp => sg_of (h.blk s H scope cls C fp ok.kind) _ _ h3) (fun s H C cls fp => S.c _ _ (h.blk s H scope cls C fp ok.kind) _ _ h6) (fun s H C cls fp => S.e _ _ (h.blk s H scope cls C fp ok.kind) _ _ h7) (fun i hi => ?_) (folded_of h5)
        rw [em]
        exact of_decide_eq_true (h4 i hi)
      · cases hc
    · cases hc
  · -- fstr
    split at hc
    · exact se_fstr (S.j K X h _ _ hc)
    · cases hc
  · -- fmt
    split at hc
    · obtain ⟨h1, h2⟩ := bt hc
      have h1 := of_decide_eq_true h1
      subst h1
      exact se_fmt (S.e K X h _ _ h2)
    · obtain ⟨h1, h2⟩ := bt hc
      have h1 := of_decide_eq_true h1
      subst h1
      exact pe_joined1 (se_fmt (S.e K X h _ _ h2))
    · cases hc
  · -- isiT
    split at hc
    · obtain ⟨hc, h6⟩ := bt hc
      obtain ⟨hc, h5⟩ := bt hc
      obtain ⟨hc, h4⟩ := bt hc
      obtain ⟨hc, h3⟩ := bt hc
      obtain ⟨h1, h2⟩ := bt hc
      have h1 := of_decide_eq_true h1
      subst h1
      obtain ⟨hg, hmg⟩ := blt_of h h2
      exact se_isiT hg hmg (S.e K X h _ _ h4) (tys_pe h h5) (of_decide_eq_true h6) (star_cons h3)
    · cases hc
  · -- maxD
    split at hc
    · obtain ⟨hc, h5⟩ := bt hc
      obtain ⟨hc, h4⟩ := bt hc
      obtain ⟨hc, h3⟩ := bt hc
      obtain ⟨h1, h2⟩ := bt hc
      have h1 := of_decide_eq_true h1
      subst h1
      have h2 := of_decide_eq_true h2
      subst h2
      obtain ⟨hg, hmg⟩ := blt_of h h3
      obtain ⟨a1, a2, a3⟩ := S.es K X h _ _ h4
      exact se_maxD h.calm h.room hg hmg (star_cons (a3 _ (List.mem_cons_self ..))) a1 (S.e K X h _ _ h5)
    · cases hc
theorem sndT (S : Snd fa cl k n) (h : CxOk K fa cl k X) (e : Expr) (c : C) (hc : chkT (n + 1) K e c = true) : ST fa cl X e c ∧ ∀ op vs p, e = .BoolOp op vs p → SW fa cl X e c := by
  cases e with
  | UnaryOp op a p =>
    cases op with
    | Not =>
      rw [chkT.eq_def] at hc
      dsimp only at hc
      split at hc
      · exact ⟨st_not (S.t K X h _ _ hc).1, fun _ _ _ z => by cases z⟩
      · cases hc
    | _ => simp [chkT] at hc
  | BoolOp op vs p =>
    cases op with
    | And =>
      rw [chkT.eq_def] at hc
      dsimp only at hc
      split at hc
      · obtain ⟨h1, h2⟩ := bt hc
        have := sw_andC (pos := p) (S.t K X h _ _ h1).1 (sw_and1 (S.t K X h _ _ h2).1)
        exact ⟨this.pt, fun _ _ _ _ => this⟩
      · obtain ⟨h1, h2⟩ := bt hc
        have := sw_andC (S.t K X h _ _ h1).1 ((S.t K X h _ _ h2).2 _ _ _ rfl)
        exact ⟨this.pt, fun _ _ _ _ => this⟩
      · cases hc
    | Or =>
      rw [chkT.eq_def] at hc
      dsimp only at hc
      split at hc
      · obtain ⟨h1, h2⟩ := bt hc
        have := sw_orC (pos := p) (S.t K X h _ _ h1).1 (sw_or1 (S.t K X h _ _ h2).1)
        exact ⟨this.pt, fun _ _ _ _ => this⟩
      · obtain ⟨h1, h2⟩ := bt hc
        have := sw_orC (S.t K X h _ _ h1).1 ((S.t K X h _ _ h2).2 _ _ _ rfl)
        exact ⟨this.pt, fun _ _ _ _ => this⟩
      · cases hc
  | Compare a ops bs p =>
    rw [chkT.eq_def] at hc
    dsimp only at hc
    split at hc
    · obtain ⟨hc, h4⟩ := bt hc
      obtain ⟨hc, h3⟩ := bt hc
      obtain ⟨h1, h2⟩ := bt hc
      have h1 := of_decide_eq_true h1
      subst h1
      exact ⟨st_cmp h.room (S.e K X h _ _ h3) (S.e K X h _ _ h4) (notset_of h2), fun _ _ _ z => by cases z⟩
    · obtain ⟨hc, h6⟩ := bt hc
      obtain ⟨hc, h5⟩ := bt hc
      obtain ⟨hc, h4⟩ := bt hc
      obtain ⟨hc, h3⟩ := bt hc
      obtain ⟨h1, h2⟩ := bt hc
      have h1 := of_decide_eq_true h1
      have h2 := of_decide_eq_true h2
      subst h1
      subst h2
      exact ⟨st_chain h.room (S.e K X h _ _ h4) (S.e K X h _ _ h5) (S.e K X h _ _ h6) (notset_of h3), fun _ _ _ z => by cases z⟩
    · cases hc
  | IfExp _ _ _ _ => simp [chkT] at hc
  | _ =>
    rw [chkT.eq_def] at hc
    dsimp only at hc
    exact ⟨st_of (S.e K X h _ _ hc) (ev_tst c) fun _ => rfl, fun _ _ _ z => by cases z⟩
theorem sndI (S : Snd fa cl k n) (h : CxOk K fa cl k X) (tg e : Expr) (kk : ItK) (its : List C) (hc : chkI (n + 1) K tg e kk its = true) : SI fa cl X tg e kk its := by
  rw [chkI.eq_def] at hc
  dsimp only at hc
  split at hc
  · split at hc
    · exact si_seq (S.e K X h _ _ hc)
    · cases hc
  · split at hc
    · obtain ⟨hc, h3⟩ := bt hc
      obtain ⟨h1, h2⟩ := bt hc
      have h1 := of_decide_eq_true h1
      subst h1
      obtain ⟨hg, hmg⟩ := blt_of h h2
      obtain ⟨a1, a2, a3⟩ := S.es K X h _ _ h3
      exact si_range1 hg hmg a1 (star_cons (a3 _ (List.mem_cons_self ..)))
    · cases hc
  · split at hc
    · obtain ⟨hc, h3⟩ := bt hc
      obtain ⟨h1, h2⟩ := bt hc
      have h1 := of_decide_eq_true h1
      subst h1
      obtain ⟨hg, hmg⟩ := blt_of h h2
      obtain ⟨a1, a2, a3⟩ := S.es K X h _ _ h3
      have e2 := star_cons (es := []) (env := X.env) (a3 _ (List.mem_cons_of_mem _ (List.mem_singleton.mpr rfl)))
      exact si_range2 hg hmg a1 (by rw [star_cons (a3 _ (List.mem_cons_self ..)), e2]; rfl) e2
    · cases hc
  · split at hc
    · obtain ⟨hc, h3⟩ := bt hc
      obtain ⟨h1, h2⟩ := bt hc
      have h1 := of_decide_eq_true h1
      subst h1
      obtain ⟨hg, hmg⟩ := blt_of h h2
      obtain ⟨a1, a2, a3⟩ := S.es K X h _ _ h3
      exact si_zip hg hmg a1 (star_cons (a3 _ (List.mem_cons_self ..))) (star_any fun x hx => a3 x (List.mem_cons_of_mem _ hx))
    · cases hc
  · split at hc
    · obtain ⟨hc, h3⟩ := bt hc
      obtain ⟨h1, h2⟩ := bt hc
      have h1 := of_decide_eq_true h1
      subst h1
      obtain ⟨hg, hmg⟩ := blt_of h h2
      obtain ⟨a1, a2, a3⟩ := S.es K X h _ _ h3
      exact si_enum hg hmg a1 (star_cons (a3 _ (List.mem_cons_self ..)))
    · cases hc
end
theorem snd_all {fa : Nat → Addr} {cl : Nat → List A → Store → Rz A} {k : Nat} : ∀ n, Snd fa cl k n
  | 0 => ⟨fun _ _ _ _ _ h => by simp [chkE] at h, fun _ _ _ _ _ h => by simp [chkT] at h, fun _ _ _ _ _ h => by simp [chkEs] at h, fun _ _ _ _ _ h => by simp [chkJ] at h, fun _ _ _ _ _ h => by simp [chkKs] at h, fun _ _ _ _ _ h => by simp [chkC] at h, fun _ _ _ _ _ _ _ h => by simp [chkI] at h⟩
  | n + 1 => by
    have S : Snd fa cl k n := snd_all n
    refine ⟨fun K X h e c hc => sndE S h e c hc, fun K X h e c hc => sndT S h e c hc, fun K X h e c hc => ?_, fun K X h e c hc => ?_, fun K X h e c hc => ?_, fun K X h e c hc => ?_, fun K X h tg e kk its hc => sndI S h tg e kk its hc⟩
    · cases e with
      | nil =>
        cases c with
        | nil => exact ⟨sa_nil, rfl, fun x hx => by cases hx⟩
        | cons c cs => simp [chkEs] at hc
      | cons e es =>
        cases c with
        | nil => simp [chkEs] at hc
        | cons c cs =>
          rw [chkEs] at hc
          obtain ⟨hc, h3⟩ := bt hc
          obtain ⟨h1, h2⟩ := bt hc
          obtain ⟨a1, a2, a3⟩ := S.es K X h _ _ h3
          refine ⟨sa_cons (S.e K X h _ _ h2) a1 (star_cons h1), by rw [List.length_cons, List.length_cons, a2], fun x hx => ?_⟩
          rcases List.mem_cons.mp hx with rfl | hx
          · exact h1
          · exact a3 x hx
    · cases e with
      | nil =>
        cases c with
        | nil => exact .nil
        | cons c cs => simp [chkJ] at hc
      | cons e es =>
        cases c with
        | nil => simp [chkJ] at hc
        | cons c cs =>
          rw [chkJ] at hc
          obtain ⟨h1, h2⟩ := bt hc
          exact .cons (S.e K X h _ _ h1) (S.j K X h _ _ h2)
    · cases e with
      | nil =>
        cases c with
        | nil => exact ⟨.nil, rfl⟩
        | cons c cs => simp [chkKs] at hc
      | cons e es =>
        cases c with
        | nil => simp [chkKs] at hc
        | cons c cs =>
          obtain ⟨nm, v, p⟩ := e
          rw [chkKs] at hc
          obtain ⟨h1, h2⟩ := bt hc
          obtain ⟨b1, b2⟩ := S.ks K X h _ _ h2
          exact ⟨.cons (S.e K X h _ _ h1) b1, by rw [List.length_cons, List.length_cons, b2]⟩
    · cases e with
      | nil =>
        cases c with
        | none => exact sc_none
        | some c => simp [chkC] at hc
      | cons e es =>
        cases es with
        | nil =>
          cases c with
          | none => simp [chkC] at hc
          | some c =>
            rw [chkC] at hc
            exact sc_some (S.t K X h _ _ hc).1
        | cons e2 es => simp [chkC] at hc
end Fw

/-! What is checked is sound: statements, defs, the whole table. -/
namespace Fw
open PySem PySem.Spec PyProof.Rows L2
section
variable {K : Cc} {fa : Nat → Addr} {cl : Nat → List A → Store → Rz A} {k n wf : Nat} {X : Cx}
theorem blk_fn (h : CxOk K fa cl k X) : X.env.blockKind = .function := by
  unfold Env.blockKind
  rw [h.sce, h.kind]
  rfl
theorem swap_lc (h : CxOk K fa cl k X) {tg elt : Expr} {gs : List Comprehension} {scope : Scope} {pos : Pos} {l : Nat} (hs : swB K tg (.ListComp elt gs scope pos) = false) : swapsWith (.ListComp elt gs scope pos) (some tg) l X.env = pure false := by
  cases tg with
  | Name t p =>
    have kk : X.env.kindOf t = kd K t := kd_eq h t
    unfold swapsWith
    dsimp only
    rw [blk_fn h, kk]
    unfold swB at hs
    dsimp only at hs
    cases hk : kd K t with
    | none => rfl
    | some q =>
      rw [hk] at hs
      cases q with
      | «local» =>
        simp only [Bool.true_and] at hs
        have : (ScopeKind.function == ScopeKind.function && some NameKind.local == some NameKind.local && p.line == (Expr.ListComp elt gs scope pos).pos.line && !(scope.names.any fun (n, k) => n == t && (k == NameKind.local || k == NameKind.cell))) = false := by
          show (true && true && p.line == pos.line && !(scope.names.any fun (n, k) => n == t && (k == NameKind.local || k == NameKind.cell))) = false
          simp only [Bool.true_and]
          exact hs
        rw [this]
      | _ => rfl
  | _ => rfl
def locF (env : PySem.Env) (l : Nat) : Expr → Option Str := fun
  | .Name id pos => if env.kindOf id == some .local && pos.line == l then some id else none
  | _ => none
theorem loc_some (h : CxOk K fa cl k X) {l : Nat} {t : Expr} {x : Str} (hx : locF X.env l t = some x) : locNm K l t = true := by
  cases t with
  | Name id pos =>
    unfold locF at hx
    dsimp only at hx
    split at hx
    · rename_i hc
      obtain ⟨h1, h2⟩ := bt hc
      have e : kd K id = some .local := by
        rw [← kd_eq h id]
        exact eq_of_beq h1
      unfold locNm
      dsimp only
      rw [e, h2]
      rfl
    · cases hx
  | _ => simp [locF] at hx
theorem loc_all (h : CxOk K fa cl k X) (l : Nat) : ∀ (ts : List Expr), ((ts.filterMap (locF X.env l)).length = ts.length) → ∀ t ∈ ts, locNm K l t = true
  | [], _, t, ht => by cases ht
  | a :: as, hl, t, ht => by
    rw [List.filterMap_cons] at hl
    split at hl
    · have := List.length_filterMap_le (locF X.env l) as
      rw [List.length_cons] at hl
      omega
    · rename_i x hx
      rw [List.length_cons, List.length_cons] at hl
      rcases List.mem_cons.mp ht with rfl | ht
      · exact loc_some h hx
      · exact loc_all h l as (by omega) t ht
theorem noswap_ok (h : CxOk K fa cl k X) {tg e : Expr} (hs : noSwap K tg e = true) : swappedStores [tg] e X.env = pure none := by
  cases tg with
  | Tuple ts kt pt =>
    cases e with
    | Tuple vs kv pv =>
      unfold noSwap at hs
      dsimp only at hs
      rw [List.any_eq_true] at hs
      obtain ⟨t, ht, hn⟩ := hs
      unfold swappedStores
      dsimp only
      split
      · rfl
      · split
        · rfl
        · split
          · rfl
          · exfalso
            rename_i h3
            apply h3
            rw [Bool.or_eq_true]
            left
            rw [bne_iff_ne]
            intro hl
            have key := loc_all h
            have := key _ _ hl t ht
            rw [this] at hn
            cases hn
    | _ => rfl
  | List _ _ => simp [noSwap] at hs
  | _ => cases e <;> rfl
theorem loc_name (h : CxOk K fa cl k X) {l : Nat} {x : Str} {p : Pos} (hx : locNm K l (.Name x p) = true) : X.env.scope.names.lookup x = some .local ∧ (X.env.kindOf x == some .local) = true ∧ (p.line == l) = true := by
  unfold locNm at hx
  dsimp only at hx
  obtain ⟨h1, h2⟩ := bt hx
  have e : kd K x = some .local := by
    split at h1
    · rename_i e; exact e
    · cases h1
  have e2 : X.env.scope.names.lookup x = some .local := (kd_eq h x).trans e
  refine ⟨e2, ?_, h2⟩
  show (X.env.scope.names.lookup x == some .local) = true
  rw [e2]
  rfl
theorem swap_par (h : CxOk K fa cl k X) {x y : Str} {px py pt pt2 : Pos} {kt k2 : Nat} {a b : Expr} (hx : locNm K px.line (.Name x px) = true) (hy : locNm K px.line (.Name y py) = true) (hxy : x ≠ y)
    (hf : ([a, b].all (foldedForSure 8)) = false) (hc : ([a, b].all (constantsAlone 8)) = false) (sa : (!starB a) = true) (sb : (!starB b) = true) :
    swappedStores [.Tuple [.Name x px, .Name y py] kt pt] (.Tuple [a, b] k2 pt2) X.env = pure (some [x, y]) := by
  obtain ⟨_, x1, x2⟩ := loc_name h hx
  obtain ⟨_, y1, y2⟩ := loc_name h hy
  have nms : ([Expr.Name x px, .Name y py].filterMap (locF X.env px.line)) = [x, y] := by
    have e1 : locF X.env px.line (.Name x px) = some x := by
      unfold locF
      dsimp only
      rw [x1, x2]
      rfl
    have e2 : locF X.env px.line (.Name y py) = some y := by
      unfold locF
      dsimp only
      rw [y1, y2]
      rfl
    rw [List.filterMap_cons, e1]
    dsimp only
    rw [List.filterMap_cons, e2]
    rfl
  have dup : ([x, y].eraseDups.length != [x, y].length) = false := by
    have hb : (y == x) = false := by
      rw [beq_eq_false_iff_ne]
      exact fun z => hxy z.symm
    have hb2 : (x == y) = false := by
      rw [beq_eq_false_iff_ne]
      exact hxy
    simp [List.eraseDups_cons, hb, hb2]
  unfold swappedStores
  dsimp only
  split
  · rename_i hb
    exfalso
    rw [blk_fn h] at hb
    simp at hb
  · split
    · rename_i hb
      exfalso
      rw [List.any_eq_true] at hb
      obtain ⟨e, he, hs⟩ := hb
      have hse : (!starB e) = true := by
        rcases List.mem_cons.mp he with rfl | he
        · exact sa
        · rw [List.mem_singleton.mp he]
          exact sb
      cases e <;> first | (simp [starB] at hse; done) | (cases hs)
    · split
      · rename_i hb
        exfalso
        have hb' : (([Expr.Name x px, .Name y py].filterMap (locF X.env px.line)).length != 2 || ([Expr.Name x px, .Name y py].filterMap (locF X.env px.line)).eraseDups.length != ([Expr.Name x px, .Name y py].filterMap (locF X.env px.line)).length) = true := hb
        rw [nms] at hb'
        rw [dup] at hb'
        cases hb'
      · split
        · rename_i hb
          rw [hf] at hb
          cases hb
        · split
          · rename_i hb
            rw [hc] at hb
            cases hb
          · exact congrArg (fun l => (pure (some l) : Sem (Option (List Str)))) nms
theorem comp_inv {elt : Expr} {gs : List Comprehension} {scope : Scope} {pos : Pos} {c : C} (hc : chkE n K (.ListComp elt gs scope pos) c = true) : ∃ m kk its t own cond ce tg iter ifs ow, n = m + 1 ∧ gs = [⟨tg, iter, ifs, 0⟩] ∧ c = .comp kk its t own cond ce ∧ ownS K own = some ow ∧
    blkC K.N K.sc scope ow = true ∧ chkI m K tg iter kk its = true ∧ chkG ⟨K.T, K.N, relS scope K.sc, some scope⟩ tg t = true ∧ (t.slots.all fun i => decide (i ∈ own)) = true ∧ (!setB iter) = true ∧
    chkC m ⟨K.T, K.N, relS scope K.sc, some scope⟩ ifs cond = true ∧ chkE m ⟨K.T, K.N, relS scope K.sc, some scope⟩ elt ce = true := by
  cases n with
  | zero => simp [chkE] at hc
  | succ m =>
    cases c with
    | comp kk its t own cond ce =>
      rw [chkE.eq_def] at hc
      dsimp only at hc
      split at hc
      · rename_i elt' tg iter ifs scope' pos' heq
        cases heq
        split at hc
        · rename_i ow how
          obtain ⟨hc, h7⟩ := bt hc
          obtain ⟨hc, h6⟩ := bt hc
          obtain ⟨hc, h5⟩ := bt hc
          obtain ⟨hc, h4⟩ := bt hc
          obtain ⟨hc, h3⟩ := bt hc
          obtain ⟨h1, h2⟩ := bt hc
          exact ⟨m, kk, its, t, own, cond, ce, tg, iter, ifs, ow, rfl, rfl, rfl, how, h1, h2, h3, h4, h5, h6, h7⟩
        · cases hc
      · cases hc
    | mth m o cs => cases m <;> simp [chkE] at hc
    | _ => simp [chkE] at hc
theorem passes_of (h : CxOk K fa cl k X) : PassesOwn (model X.prog X.w) X.A X.env X.xe := by
  rw [h.xe]
  exact PassesOwn.never
theorem assign_one {tg : Expr} {env : PySem.Env} (h : (!starB tg) = true) : (assignEach [tg] env).map (·.2) = [assign tg env] := by
  cases tg <;> first | rfl | (simp [starB] at h)
theorem swap_sole {t e : Expr} {l : Nat} {env : PySem.Env} (h : (!compB e) = true) : swapsWithSole [t] e l env = pure false := by
  show swapsWith e (some t) l env = pure false
  exact swap_no h
theorem sub_noswap (o i v : Expr) (env : PySem.Env) {p : Pos} : swappedStores [.Subscript o i p] v env = pure none := by cases v <;> rfl
theorem sub_assign {o i : Expr} {p : Pos} {env : PySem.Env} (h : (!slcB' i) = true) : ∀ v, assign (.Subscript o i p) env v = (do
    let ov ← holding [v] (eval o env)
    let iv ← holding [v, ov] (eval i env)
    standAt p
    holding [v, ov, iv] (setItem ov iv v)
    release [v, ov, iv] []) := fun v => by
  cases i <;> first | rfl | (simp [slcB'] at h)
theorem sndS (hcx : CxOk K fa cl k X) (IH : ∀ ss cs, chkSs n K ss cs = true → SSs fa cl wf X ss cs) (s : Stmt) (c : Sc) (hc : chkS (n + 1) K s c = true) : SS fa cl wf X s c := by
  have S : Snd fa cl k n := snd_all n
  rw [chkS.eq_def] at hc
  dsimp only at hc
  split at hc
  · -- asg
    rename_i t ce
    split at hc
    · rename_i tg e pos
      obtain ⟨hc, h3⟩ := bt hc
      obtain ⟨h1, h2⟩ := bt hc
      split at h3
      · rename_i hsw
        split at h3
        · rename_i i
          -- tg is a name, e a list comprehension
          cases tg with
          | Name y py =>
            cases e with
            | ListComp elt gs scope lpos =>
              obtain ⟨m, kk, its, t, own, cond, ce', tg', iter, ifs, ow, rfl, rfl, rfl, how, b1, b2, b3, b4, b5, b6, b7⟩ := comp_inv h1
              have em := ownS_map how
              have ok : BlkOk X.N X.env.scope scope ow := by
                rw [hcx.hN, hcx.sce]
                exact blkOk_by b1
              rw [← em]
              rw [List.all_eq_true] at b4
              have Sm : Snd fa cl k m := snd_all m
              unfold swB at hsw
              dsimp only at hsw
              obtain ⟨hsw, s3⟩ := bt hsw
              obtain ⟨s1, s2⟩ := bt hsw
              have hl : X.env.scope.names.lookup y = some .local := by
                rw [kd_eq hcx]
                split at s1
                · rename_i e; exact e
                · cases s1
              rw [chkG] at h2
              obtain ⟨g1, g2⟩ := bt h2
              refine ss_asgLc (ss_setLc hcx.calm hcx.nd (slot_of hcx g1) hl (sw_true (by rw [hcx.sce]; exact hcx.kind) hl s2 ?_) (Sm.i K X hcx _ _ _ _ b2) ok (fun s H C cls fp => sg_of (hcx.blk s H scope cls C fp ok.kind) _ _ b3)
                (fun s H C cls fp => Sm.c _ _ (hcx.blk s H scope cls C fp ok.kind) _ _ b6) (fun s H C cls fp => Sm.e _ _ (hcx.blk s H scope cls C fp ok.kind) _ _ b7) (fun i hi => ?_) (folded_of b5))
              · cases hq : (scope.names.any fun (n, k) => n == y && (k == NameKind.local || k == NameKind.cell)) with
                | false => rfl
                | true => rw [hq] at s3; cases s3
              · rw [em]
                exact of_decide_eq_true (b4 i hi)
            | _ => simp [swB] at hsw
          | _ => simp [swB] at hsw
        · cases h3
      · rename_i hsw
        have hsw : swB K tg e = false := by
          cases q : swB K tg e with
          | false => rfl
          | true => exact absurd q hsw
        obtain ⟨h3, h5⟩ := bt h3
        obtain ⟨h3, h4⟩ := bt h3
        refine ss_asg (S.e K X hcx _ _ h1) (sg_of hcx _ _ h2) ?_ (noswap_ok hcx h3) (assign_one h4)
        show swapsWith e (some tg) pos.line X.env = pure false
        cases e with
        | ListComp elt gs scope lpos => exact swap_lc hcx hsw
        | SetComp _ _ _ _ => cases h5
        | DictComp _ _ _ _ _ => cases h5
        | _ => rfl
    · cases hc
  · -- par
    rename_i i j ca cb
    split at hc
    · rename_i x px y py kt pt a b k2 pt2 pos
      obtain ⟨hc, h9⟩ := bt hc
      obtain ⟨hc, h8⟩ := bt hc
      obtain ⟨hc, h7⟩ := bt hc
      obtain ⟨hc, h6⟩ := bt hc
      obtain ⟨hc, h5⟩ := bt hc
      obtain ⟨hc, h4⟩ := bt hc
      obtain ⟨hc, h3⟩ := bt hc
      obtain ⟨h1, h2⟩ := bt hc
      have nq : ∀ {p : Prop} [Decidable p], (!decide p) = true → ¬ p := fun {p} _ z q => by
        rw [decide_eq_true q] at z
        cases z
      have nb : ∀ {p : Bool}, (!p) = true → p = false := fun {p} z => by cases p <;> first | rfl | cases z
      obtain ⟨a1, a2, a3⟩ := S.es K X hcx _ _ h9
      have sa := a3 a (List.mem_cons_self ..)
      have sb := a3 b (List.mem_cons_of_mem _ (List.mem_singleton.mpr rfl))
      exact ss_par (fun ta ha => ps_par hcx.calm hcx.nd (slot_of hcx h1) (slot_of hcx h2) (nq h3) (loc_name hcx h5).1 (loc_name hcx h6).1 ha (swap_par hcx h5 h6 (nq h4) (nb h7) (nb h8) sa sb) rfl) a1
    · cases hc
  · -- setI
    split at hc
    · obtain ⟨hc, h5⟩ := bt hc
      obtain ⟨hc, h4⟩ := bt hc
      obtain ⟨hc, h3⟩ := bt hc
      obtain ⟨h1, h2⟩ := bt hc
      refine ss_setI (tp := ⟨0, 0, 0, 0⟩) (S.e K X hcx _ _ h2) (S.e K X hcx _ _ h3) (S.e K X hcx _ _ h4) fun te to ti hv ho hi => ps_asg hv (pg_sub ho hi set_list (sub_assign h5)) (swap_sole h1) (sub_noswap _ _ _ _) rfl
    · cases hc
  · -- exp
    split at hc
    · obtain ⟨h1, h2⟩ := bt hc
      exact ss_exp (S.e K X hcx _ _ h2) (swap_no h1)
    · cases hc
  · -- ret
    split at hc
    · exact ss_ret (S.e K X hcx _ _ hc)
    · cases hc
  · -- retN
    split at hc
    · exact ss_retN
    · cases hc
  · -- ite
    split at hc
    · obtain ⟨hc, h3⟩ := bt hc
      obtain ⟨h1, h2⟩ := bt hc
      exact ss_ite (S.t K X hcx _ _ h1).1 (IH _ _ h2) (IH _ _ h3)
    · cases hc
  · -- for
    split at hc
    · obtain ⟨hc, h4⟩ := bt hc
      obtain ⟨hc, h3⟩ := bt hc
      obtain ⟨h1, h2⟩ := bt hc
      exact ss_for (passes_of hcx) hcx.calm (S.i K X hcx _ _ _ _ h1) (sg_of hcx _ _ h2) (IH _ _ h4) (folded_of h3)
    · cases hc
  · -- while
    split at hc
    · obtain ⟨h1, h2⟩ := bt hc
      exact ss_while (passes_of hcx) (S.t K X hcx _ _ h1).1 (IH _ _ h2)
    · cases hc
  · cases hc
  · split at hc
    · exact ss_pass
    · cases hc
  · split at hc
    · exact ss_brk
    · cases hc
  · split at hc
    · exact ss_cnt
    · cases hc
theorem sndSs (hcx : CxOk K fa cl k X) : ∀ (n : Nat) (ss : List Stmt) (cs : List Sc), chkSs n K ss cs = true → SSs fa cl wf X ss cs ∧ ∀ s c, chkS n K s c = true → SS fa cl wf X s c := by
  intro n
  have main : ∀ n, (∀ ss cs, chkSs n K ss cs = true → SSs fa cl wf X ss cs) ∧ ∀ s c, chkS n K s c = true → SS fa cl wf X s c := by
    intro n
    induction n with
    | zero => exact ⟨fun ss cs h => by simp [chkSs] at h, fun s c h => by simp [chkS] at h⟩
    | succ n ih =>
      refine ⟨fun ss cs h => ?_, fun s c h => sndS hcx ih.1 s c h⟩
      cases cs with
      | nil =>
        cases ss with
        | nil => exact sss_nil
        | cons s ss => simp [chkSs] at h
      | cons c cs =>
        cases c with
        | frz i =>
          rw [chkSs.eq_def] at h
          exact sss_frz (ih.1 _ _ h)
        | _ =>
          cases ss with
          | nil => simp [chkSs] at h
          | cons s ss =>
            rw [chkSs.eq_def] at h
            dsimp only at h
            obtain ⟨h1, h2⟩ := bt h
            exact sss_cons (ih.2 _ _ h1) (ih.1 _ _ h2)
  exact fun ss cs h => ⟨(main n).1 ss cs h, (main n).2⟩
theorem body_ok (hcx : CxOk K fa cl k X) {ss : List Stmt} {cs : List Sc} (h : chkSs n K ss cs = true) : SSs fa cl wf X ss cs := (sndSs hcx n ss cs h).1
end
end Fw

/-! The whole table of defs, and the law. -/
namespace Fw
open PySem PySem.Spec PyProof.Rows L2
/-- what is known of a def of the text -/
structure Fact (T : Tb) (ft : List Fn) (fa : Nat → Addr) (K : PySem.W.Frag) (mg : Str → Option Value) (fi : Nat) (I : FI) (fd : FuncData) (st : Stmt) (N : List Str) (i : Fn) : Prop where
  fun_ : ∃ dvs kws, FunD K I.name I.name (defArgs st) (defBody st) (defScope st) dvs kws (fa fi) fd
  sc : FnScope N I.ps (defScope st)
  hi : ft[fi]? = some i
  np : i.np = I.ps.length
  nn : i.nn = N.length
  chk : chkSs 200 ⟨T, N, defScope st, none⟩ (defBody st) i.code = true
  mg : mg I.name = some (.ref (fa fi))
  dfl : ∀ n ds, (n, ds) ∈ I.dfl → ∃ dsV dvs, Binds K fd I.ps dsV ∧ Vals dvs dsV ∧ (∀ z, DatL ⟨K, fa⟩ z ds dvs) ∧ n + ds.length = I.ps.length
  kwl : ∀ n ks asm, (n, ks, asm) ∈ I.kwl → KBA ⟨K, fa⟩ fd I.ps n ks asm
structure Facts (T : Tb) (ft : List Fn) (fa : Nat → Addr) (K : PySem.W.Frag) (mg : Str → Option Value) : Prop where
  fns : ∀ fi I, T.fns[fi]? = some I → ∃ fd st N i, Fact T ft fa K mg fi I fd st N i
  blt : ∀ x ∈ T.blts, mg x = none
  cst : ∀ x d, (x, d) ∈ T.csts → ∃ u v, mg x = some u ∧ RelV v u ∧ ∀ z, Dat ⟨K, fa⟩ z d v
theorem table {T : Tb} {ft : List Fn} {wf : Nat} {fa : Nat → Addr} {P : Program} {w : World} {K : PySem.W.Frag} {mg : Str → Option Value} {base : Heap} (F : Facts T ft fa K mg) : ∀ k fi I, T.fns[fi]? = some I →
    ∃ fd, FnOk P w K mg base CX0 k (fa fi) fd I.ps (spF ⟨K, fa⟩ I.ps.length (callI ft wf k fi)) ∧ mg I.name = some (.ref (fa fi)) ∧ PySem.W.keepIn K (.ref (fa fi)) = true ∧
    (∀ n ds, (n, ds) ∈ I.dfl → ∃ dsV dvs, Binds K fd I.ps dsV ∧ Vals dvs dsV ∧ (∀ z, DatL ⟨K, fa⟩ z ds dvs) ∧ n + ds.length = I.ps.length) ∧
    ∀ n ks asm, (n, ks, asm) ∈ I.kwl → KBA ⟨K, fa⟩ fd I.ps n ks asm
  | 0, fi, I, h => by
    obtain ⟨fd, st, N, i, f⟩ := F.fns fi I h
    obtain ⟨dvs, kws, fu⟩ := f.fun_
    refine ⟨fd, ⟨fun vs H Q E q => ?_, fun A outer s H args us vs Q E _ _ _ _ q => ?_⟩, f.mg, fu.kp, f.dfl, f.kwl⟩
    · obtain ⟨_, _, _, _, _, _, _, _, hm, _⟩ := q
      rw [callI] at hm
      cases hm
    · obtain ⟨_, _, _, _, _, _, _, _, hm, _⟩ := q
      rw [callI] at hm
      cases hm
  | k + 1, fi, I, h => by
    obtain ⟨fd, st, N, i, f⟩ := F.fns fi I h
    obtain ⟨dvs, kws, fu⟩ := f.fun_
    refine ⟨fd, ?_, f.mg, fu.kp, f.dfl, f.kwl⟩
    refine fn_ok fu f.sc f.hi f.np f.nn fun cdv A outer s H E hr => ?_
    refine body_ok (K := ⟨T, N, defScope st, none⟩) (k := k) ⟨rfl, f.sc.nd, rfl, f.sc.kind, rfl, hr, rfl, fun _ _ => rfl, fun fi I h => table F k fi I h, F.blt, F.cst⟩ f.chk
/-- the law's promise -/
def spLaw (K : PySem.W.Frag) : Sp := fun vs H Q _ => ∃ (a : Addr) (ns : List Int), vs = [.ref a] ∧ ns.length ≤ 63 ∧ ((∃ o, H a = some (.frz o (.lst (ns.map V.int)))) ∨ KL K a (ns.map V.int)) ∧ ∀ H', Q (.bl true) H'
theorem law_fn {T : Tb} {ft : List Fn} {wf : Nat} {fa : Nat → Addr} {P : Program} {w : World} {K : PySem.W.Frag} {mg : Str → Option Value} {base : Heap} {k li : Nat} {I : FI} (F : Facts T ft fa K mg) (hI : T.fns[li]? = some I) (hp : I.ps.length = 1)
    (hlaw : ∀ ns : List Int, ns.length ≤ 63 → ∃ S', callI ft wf k li [.p (.scr ns)] [] = .ok (.p (.bl true)) S') : ∃ fd, FnOk P w K mg base CX0 k (fa li) fd I.ps (spLaw K) := by
  obtain ⟨fd, G, _⟩ := table (P := P) (w := w) (base := base) (wf := wf) F k li I hI
  refine ⟨fd, G.imp fun vs H Q E h => ?_⟩
  obtain ⟨a, ns, rfl, hl, hs, q⟩ := h
  obtain ⟨S', hc⟩ := hlaw ns hl
  refine ⟨⟨[], []⟩, [], [.p (.scr ns)], .p (.bl true), S', ⟨rfl, List.nodup_nil, fun i a xs h _ => by simp at h, fun i a h => by simp at h, fun a h => by simp at h⟩, ⟨.ref a, [], rfl, ⟨a, rfl, hs⟩, rfl⟩, by rw [hp]; rfl, hc, fun v B' H' _ _ d => ?_⟩
  rw [show v = V.bl true from d]
  exact q H'
theorem law_sp {K : PySem.W.Frag} {H : Hp} {a : Addr} {ns : List Int} (hl : ns.length ≤ 63) (hO : Only H) (hS : SqL K H a (ns.map V.int)) : spLaw K [.ref a] H (fun v _ => v = .bl true) fun _ _ _ => False := by
  refine ⟨a, ns, rfl, hl, ?_, fun _ => rfl⟩
  rcases hS with (h | ⟨o, h⟩) | h
  · rcases hO a with q | ⟨o, xs, q⟩
    · rw [q] at h; cases h
    · rw [q] at h; cases h
  · exact .inl ⟨o, h⟩
  · exact .inr h
/-- the goal that the head leaves -/
theorem walk {l : PySem.W.OpenLaw} {q : Program} {loose : List Str} {XP : (Str → Option Value) → Heap → Prop} {YP : World → Heap → Prop} {d : DefRec} {K : Params → PySem.W.Frag} {x : Str} {T : Tb} {ft : List Fn} {wf k li : Nat} {I : FI} (hn : l.most = some 63) (hdf : d.params.defaults = []) (hr : Room k callerA)
    (hY : ∀ (w : World) (h : Heap), YP w h → (K w.params).In h) (hI : T.fns[li]? = some I) (hp : I.ps = [x]) (hdn : d.name = I.name)
    (hlaw : ∀ ns : List Int, ns.length ≤ 63 → ∃ S', callI ft wf k li [.p (.scr ns)] [] = .ok (.p (.bl true)) S')
    (F : ∀ (w : World) (mg : Str → Option Value) (h : Heap), (K w.params).In h → h.Ns mainGlobals mg → ∃ fa, Facts T ft fa (K w.params) mg) (bd : ∀ (w : World) (mg : Str → Option Value) (h : Heap) (fa : Nat → Addr), (K w.params).In h → h.Ns mainGlobals mg → Facts T ft fa (K w.params) mg → ∀ fd, (∃ st N i, Fact T ft fa (K w.params) mg li I fd st N i) → ∀ (s : Shared) (u : Value), BindsTo s fd ⟨[u], []⟩ [(x, u)]) :
    PySem.W.WalkO q loose XP YP l.row.toRowW d [] (fun f vs => PySem.call f vs) := by
  refine L2.walk_of (n := 63) (k := k) (x := x) (CX := fun _ => CX0) (sp := fun w => spLaw (K w.params)) hn (by decide) hdf hr hY (fun w mg fa' h KX G hmg => ?_) (fun w H a ns h1 h2 h3 => law_sp h1 h2 h3) fun _ _ _ _ _ z => z
  obtain ⟨fa, Fa⟩ := F w mg h KX G
  obtain ⟨fd, st, N, i, f⟩ := Fa.fns li I hI
  have e : fa' = fa li := by
    have := f.mg
    rw [← hdn, hmg] at this
    cases this
    rfl
  subst e
  refine ⟨fd, bd w mg h fa KX G Fa fd ⟨st, N, i, f⟩, fun base KB GB => ?_⟩
  obtain ⟨dvs, kws, fu⟩ := f.fun_
  rw [← hp]
  cases k with
  | zero =>
    obtain ⟨S', hc⟩ := hlaw [] (by decide)
    rw [callI] at hc
    cases hc
  | succ k =>
    have G0 : FnOk l.prog w (K w.params) mg base CX0 (k + 1) (fa li) fd I.ps (spF ⟨K w.params, fa⟩ I.ps.length (callI ft wf (k + 1) li)) := by
      refine fn_ok fu f.sc f.hi f.np f.nn fun cdv A outer s H E hr => ?_
      exact body_ok (K := ⟨T, N, defScope st, none⟩) (k := k) ⟨rfl, f.sc.nd, rfl, f.sc.kind, rfl, hr, rfl, fun _ _ => rfl, fun fi I h => table Fa k fi I h, Fa.blt, Fa.cst⟩ f.chk
    refine G0.imp fun vs H Q E h => ?_
    obtain ⟨a, ns, rfl, hl, hs, q⟩ := h
    obtain ⟨S', hc⟩ := hlaw ns hl
    refine ⟨⟨[], []⟩, [], [.p (.scr ns)], .p (.bl true), S', ⟨rfl, List.nodup_nil, fun i a xs h _ => by simp at h, fun i a h => by simp at h, fun a h => by simp at h⟩, ⟨.ref a, [], rfl, ⟨a, rfl, hs⟩, rfl⟩, by rw [hp]; rfl, hc, fun v B' H' _ _ d => ?_⟩
    rw [show v = V.bl true from d]
    exact q H'
end Fw

/-! Plain lemmas about the evaluator. -/
namespace Fw
open PySem PySem.Spec PyProof.Rows L2
theorem call_eq {ft : List Fn} {wf k f : Nat} {xs : List A} {S : Store} {i : Fn} (h : ft[f]? = some i) (hl : xs.length = i.np) : callI ft wf (k + 1) f xs S =
    match Fw.run (callI ft wf k) wf i.code (xs.map some ++ List.replicate (i.nn - i.np) none) S with
      | .rt x S' => fin S.length x S'
      | .nx _ S' => fin S.length (.p .non) S'
      | _ => .bad := by
  rw [callI, h]
  dsimp only
  rw [if_pos hl]
  generalize Fw.run (callI ft wf k) wf i.code (xs.map some ++ List.replicate (i.nn - i.np) none) S = r
  cases r <;> rfl
/-- a def that returns -/
theorem call_rt {ft : List Fn} {wf k f : Nat} {xs : List A} {S S' : Store} {x : A} {i : Fn} (h : ft[f]? = some i) (hl : xs.length = i.np) (hr : Fw.run (callI ft wf k) wf i.code (xs.map some ++ List.replicate (i.nn - i.np) none) S = .rt x S') (hs : S'.length = S.length) :
    callI ft wf (k + 1) f xs S = .ok x S' := by
  rw [call_eq h hl, hr]
  dsimp only
  unfold fin
  rw [if_pos hs]
theorem shaped_int {i : Int} : SeqAt.shaped (.int i) = true := by simp [SeqAt.shaped, PyData.canLay0, PyData.depth]
theorem shaped_bl {i : Bool} : SeqAt.shaped (.bool i) = true := by simp [SeqAt.shaped, PyData.canLay0, PyData.depth]
theorem shaped_non : SeqAt.shaped .none = true := by simp [SeqAt.shaped, PyData.canLay0, PyData.depth]
theorem shaped_str {x : Str} (h : PyData.strOk x = true) : SeqAt.shaped (.str x) = true := by simp [SeqAt.shaped, PyData.canLay0, PyData.depth, h]
@[simp] theorem eqF_int {i j : Int} : eqF (.int i) (.int j) = some (i == j) := by simp [eqF, D.py, shaped_int, PyData.eqv]
@[simp] theorem eqF_bl {i j : Bool} : eqF (.bl i) (.bl j) = some (i == j) := by simp [eqF, D.py, shaped_bl, PyData.eqv]
theorem eqF_str {x y : Str} (h : PyData.strOk x = true) (h' : PyData.strOk y = true) : eqF (.str x) (.str y) = some (x == y) := by simp [eqF, D.py, shaped_str h, shaped_str h', PyData.eqv]
theorem mul_ok {i j : Int} {a b : Nat} (ha : i.natAbs < 2 ^ a) (hb : j.natAbs < 2 ^ b) (h : a + b ≤ 1000000) (h0 : 0 < a) (h1 : 0 < b) : mulOk i j = true := by
  have := wide_mul ha hb h0 h1 h
  unfold CMulW at this
  exact decide_eq_true (.inr (.inr this))
theorem div_ok {j : Int} {b : Nat} (h : j ≠ 0) (hb : j.natAbs < 2 ^ b) (h0 : 0 < b) (h9 : b ≤ 9000) : divOk j = true :=
  decide_eq_true ⟨h, Nat.lt_of_lt_of_le (PySem.Flt.log2_lt_of h0 hb) h9⟩

/-! ### evaluation by simp: a value first, then what follows -/
@[simp] theorem Rz.bind_s {α β : Type} (a : α) (S : Store) (f : α → Store → Rz β) : (Rz.ok a S).bind f = f a S := rfl
@[simp] theorem Rz.bind_b {α β : Type} (f : α → Store → Rz β) : (Rz.bad : Rz α).bind f = .bad := rfl
@[simp] theorem Rz.then_s {α : Type} (a : α) (S : Store) (f : α → Store → Rs) : (Rz.ok a S).then f = f a S := rfl
@[simp] theorem Rz.then_b {α : Type} (f : α → Store → Rs) : (Rz.bad : Rz α).then f = .bad := rfl
@[simp] theorem Rs.then_n (ρ : Env) (S : Store) (f : Env → Store → Rs) : (Rs.nx ρ S).then f = f ρ S := rfl
@[simp] theorem Rs.then_r (x : A) (S : Store) (f : Env → Store → Rs) : (Rs.rt x S).then f = .rt x S := rfl
@[simp] theorem Rs.then_b (f : Env → Store → Rs) : Rs.bad.then f = .bad := rfl
@[simp] theorem tst_fS {x : A} {S : Store} : tst false x S = .ok x S := rfl
@[simp] theorem tst_blS {b : Bool} {S : Store} : tst true (.p (.bl b)) S = .ok (.p (.bl b)) S := rfl
@[simp] theorem bin_add {i j : Int} : binF .Add (.int i) (.int j) = some (.int (i + j)) := rfl
@[simp] theorem bin_sub {i j : Int} : binF .Sub (.int i) (.int j) = some (.int (i - j)) := rfl
theorem bin_mul {i j : Int} (h : mulOk i j = true) : binF .Mult (.int i) (.int j) = some (.int (i * j)) := by simp [binF, h]
theorem bin_div {i j : Int} (h : divOk j = true) : binF .FloorDiv (.int i) (.int j) = some (.int (i.fdiv j)) := by simp [binF, h]
theorem bin_mod {i j : Int} (h : j ≠ 0) : binF .Mod (.int i) (.int j) = some (.int (i.fmod j)) := by simp [binF, h]
theorem mul_small {i j : Int} (h : -(2 ^ 64) < j ∧ j < 2 ^ 64) : mulOk i j = true := decide_eq_true (.inr (.inl h))
theorem mul_smallL {i j : Int} (h : -(2 ^ 64) < i ∧ i < 2 ^ 64) : mulOk i j = true := decide_eq_true (.inl h)
@[simp] theorem cmp_lt {i j : Int} : cmpF .Lt (.int i) (.int j) = some (decide (i < j)) := rfl
@[simp] theorem cmp_le {i j : Int} : cmpF .LtE (.int i) (.int j) = some (decide (i ≤ j)) := rfl
@[simp] theorem cmp_gt {i j : Int} : cmpF .Gt (.int i) (.int j) = some (decide (j < i)) := rfl
@[simp] theorem cmp_ge {i j : Int} : cmpF .GtE (.int i) (.int j) = some (decide (j ≤ i)) := rfl
@[simp] theorem cmp_eq {x y : D} : cmpF .Eq x y = eqF x y := rfl
@[simp] theorem cmp_ne {x y : D} : cmpF .NotEq x y = (eqF x y).map (! ·) := rfl
@[simp] theorem at0 {α : Type} {a : α} {l : List α} : atI (a :: l) 0 = some a := atI_nat (j := 0) rfl
@[simp] theorem at1 {α : Type} {a b : α} {l : List α} : atI (a :: b :: l) 1 = some b := atI_nat (j := 1) rfl
@[simp] theorem at2 {α : Type} {a b c : α} {l : List α} : atI (a :: b :: c :: l) 2 = some c := atI_nat (j := 2) rfl
@[simp] theorem at3 {α : Type} {a b c d : α} {l : List α} : atI (a :: b :: c :: d :: l) 3 = some d := atI_nat (j := 3) rfl
@[simp] theorem at4 {α : Type} {a b c d e : α} {l : List α} : atI (a :: b :: c :: d :: e :: l) 4 = some e := atI_nat (j := 4) rfl
/-! ### what an end must satisfy -/
def Rz.sat {α : Type} (r : Rz α) (P : α → Store → Prop) : Prop := ∃ a S, r = .ok a S ∧ P a S
theorem Rz.sat_ok {α : Type} {a : α} {S : Store} {P : α → Store → Prop} (h : P a S) : (Rz.ok a S).sat P := ⟨a, S, rfl, h⟩
theorem Rz.sat_eq {α : Type} {r : Rz α} {a : α} {S : Store} {P : α → Store → Prop} (e : r = .ok a S) (h : P a S) : r.sat P := ⟨a, S, e, h⟩
theorem Rz.sat_bind {α β : Type} {r : Rz α} {f : α → Store → Rz β} {P : β → Store → Prop} (h : r.sat fun a S => (f a S).sat P) : (r.bind f).sat P := by
  obtain ⟨a, S, rfl, h⟩ := h
  exact h
theorem Rz.sat_mono {α : Type} {r : Rz α} {P Q : α → Store → Prop} (h : r.sat P) (k : ∀ a S, P a S → Q a S) : r.sat Q := by
  obtain ⟨a, S, e, h⟩ := h
  exact ⟨a, S, e, k a S h⟩
/-- the end of statements: what follows, or what is returned -/
def Rs.sat (r : Rs) (P : Env → Store → Prop) (R : A → Store → Prop) : Prop := match r with
  | .nx ρ S => P ρ S
  | .rt x S => R x S
  | _ => False
theorem Rs.sat_mono {r : Rs} {P P' : Env → Store → Prop} {R R' : A → Store → Prop} (h : r.sat P R) (k : ∀ ρ S, P ρ S → P' ρ S) (k' : ∀ x S, R x S → R' x S) : r.sat P' R' := by
  cases r with
  | nx ρ S => exact k _ _ h
  | rt x S => exact k' _ _ h
  | bk ρ S => exact h
  | ct ρ S => exact h
  | ex e S => exact h
  | bad => exact h
theorem Rz.sat_then {α : Type} {r : Rz α} {f : α → Store → Rs} {P : Env → Store → Prop} {R : A → Store → Prop} (h : r.sat fun a S => (f a S).sat P R) : (r.then f).sat P R := by
  obtain ⟨a, S, rfl, h⟩ := h
  exact h
theorem Rs.sat_then {r : Rs} {f : Env → Store → Rs} {P : Env → Store → Prop} {R : A → Store → Prop} (h : r.sat (fun ρ S => (f ρ S).sat P R) R) : (r.then f).sat P R := by
  cases r with
  | nx ρ S => exact h
  | rt x S => exact h
  | bk ρ S => exact h
  | ct ρ S => exact h
  | ex e S => exact h
  | bad => exact h
theorem sat_cons {cl : Nat → List A → Store → Rz A} {wf : Nat} {c : Sc} {cs : List Sc} {ρ : Env} {S : Store} {P : Env → Store → Prop} {R : A → Store → Prop} (h : (run1 cl wf c ρ S).sat (fun ρ1 S1 => (Fw.run cl wf cs ρ1 S1).sat P R) R) : (Fw.run cl wf (c :: cs) ρ S).sat P R := by
  rw [Fw.run]
  exact Rs.sat_then h
theorem sat_nil {cl : Nat → List A → Store → Rz A} {wf : Nat} {ρ : Env} {S : Store} {P : Env → Store → Prop} {R : A → Store → Prop} (h : P ρ S) : (Fw.run cl wf [] ρ S).sat P R := by
  rw [Fw.run]
  exact h
/-- a for by an invariant -/
theorem sat_for {bnd : A → Env → Option Env} {body : Env → Store → Rs} {R : A → Store → Prop} (I : Nat → Env → Store → Prop) : ∀ (items : List A) (i : Nat) (ρ : Env) (S : Store), I i ρ S →
    (∀ j x ρ S, items[j]? = some x → I (i + j) ρ S → ∃ ρ1, bnd x ρ = some ρ1 ∧ (body ρ1 S).sat (fun ρ2 S2 => I (i + j + 1) ρ2 S2) R) → (forL bnd body items ρ S).sat (fun ρ' S' => I (i + items.length) ρ' S') R
  | [], i, ρ, S, h, _ => h
  | x :: xs, i, ρ, S, h, hs => by
    obtain ⟨ρ1, h1, h2⟩ := hs 0 x ρ S rfl h
    rw [forL, h1]
    dsimp only
    cases hb : body ρ1 S with
    | nx ρ2 S2 =>
      rw [hb] at h2
      have ih := sat_for (R := R) (bnd := bnd) (body := body) I xs (i + 1) ρ2 S2 h2 fun j x ρ S hx hI => by
        have := hs (j + 1) x ρ S hx (by rw [show i + (j + 1) = i + 1 + j by omega]; exact hI)
        rw [show i + (j + 1) + 1 = i + 1 + j + 1 by omega] at this
        exact this
      rw [show i + 1 + xs.length = i + (x :: xs).length by rw [List.length_cons]; omega] at ih
      exact ih
    | rt y S2 => rw [hb] at h2; exact h2
    | bk ρ2 S2 => rw [hb] at h2; exact False.elim h2
    | ct ρ2 S2 => rw [hb] at h2; exact False.elim h2
    | ex e S2 => rw [hb] at h2; exact False.elim h2
    | bad => rw [hb] at h2; exact False.elim h2
/-- a def that returns, by what is to hold -/
theorem sat_call {ft : List Fn} {wf k f : Nat} {xs : List A} {S : Store} {i : Fn} {P : A → Store → Prop} (h : ft[f]? = some i) (hl : xs.length = i.np) (hr : (Fw.run (callI ft wf k) wf i.code (xs.map some ++ List.replicate (i.nn - i.np) none) S).sat (fun _ _ => False) fun x S' => S'.length = S.length ∧ P x S') :
    (callI ft wf (k + 1) f xs S).sat P := by
  rw [call_eq h hl]
  cases hq : Fw.run (callI ft wf k) wf i.code (xs.map some ++ List.replicate (i.nn - i.np) none) S with
  | nx ρ2 S2 => rw [hq] at hr; exact False.elim hr
  | rt y S2 =>
    rw [hq] at hr
    obtain ⟨h1, h2⟩ := hr
    refine ⟨y, S2, ?_, h2⟩
    dsimp only
    unfold fin
    rw [if_pos h1]
  | bk ρ2 S2 => rw [hq] at hr; exact False.elim hr
  | ct ρ2 S2 => rw [hq] at hr; exact False.elim hr
  | ex e S2 => rw [hq] at hr; exact False.elim hr
  | bad => rw [hq] at hr; exact False.elim hr
/-- a def that returns, its store as it ends -/
theorem sat_callG {ft : List Fn} {wf k f : Nat} {xs : List A} {S : Store} {i : Fn} {P : A → Store → Prop} (h : ft[f]? = some i) (hl : xs.length = i.np) (hr : (Fw.run (callI ft wf k) wf i.code (xs.map some ++ List.replicate (i.nn - i.np) none) S).sat (fun _ _ => False) fun x S' => allDead (S'.drop S.length) = false ∧ P x S') :
    (callI ft wf (k + 1) f xs S).sat P := by
  rw [call_eq h hl]
  cases hq : Fw.run (callI ft wf k) wf i.code (xs.map some ++ List.replicate (i.nn - i.np) none) S with
  | nx ρ2 S2 => rw [hq] at hr; exact False.elim hr
  | rt y S2 =>
    rw [hq] at hr
    obtain ⟨h1, h2⟩ := hr
    refine ⟨y, S2, ?_, h2⟩
    dsimp only
    unfold fin
    rw [h1]
    split <;> rfl
  | bk ρ2 S2 => rw [hq] at hr; exact False.elim hr
  | ct ρ2 S2 => rw [hq] at hr; exact False.elim hr
  | ex e S2 => rw [hq] at hr; exact False.elim hr
  | bad => rw [hq] at hr; exact False.elim hr
theorem ofStr_ok (s : String) : PyData.strOk (Str.ofString s) = true := by
  unfold PyData.strOk
  rw [Str.ofString_eq_toList, Array.all_eq_true_iff_forall_mem]
  intro x hx
  rw [List.mem_toArray, List.mem_map] at hx
  obtain ⟨c, _, rfl⟩ := hx
  refine decide_eq_true ?_
  have := c.valid
  unfold Char.toNat
  rcases this with h | ⟨_, h⟩
  · omega
  · exact h
end Fw

/-! What is to be shown of a code's end, piece by piece. -/
namespace Fw
open PySem PySem.Spec PyProof.Rows L2
section
variable {cl : Nat → List A → Store → Rz A} {wf : Nat} {t : Bool} {a b c : C} {ρ : Env} {S : Store} {P : A → Store → Prop} {cs : List C}
theorem v_var {i : Nat} {x : A} (h : ρ[i]? = some (some x)) (k : P x S) : (ev cl false (.var i) ρ S).sat P := by
  rw [ev, h]
  exact Rz.sat_ok k
theorem v_cst {d : D} (k : P (.p d) S) : (ev cl false (.cst d) ρ S).sat P := by
  rw [ev]
  exact Rz.sat_ok k
def SubV (x y : A) (S : Store) (P : A → Store → Prop) : Prop := ∃ z, subF x y S = some z ∧ P z S
def SlcV (x : A) (lo hi : Option A) (S : Store) (P : A → Store → Prop) : Prop := ∃ u l h z, x = .p u ∧ (lo = l.map fun i => .p (.int i)) ∧ (hi = h.map fun i => .p (.int i)) ∧ slcF u l h = some z ∧ P (.p z) S
def BltV (f : Blt) (xs : List A) (S : Store) (P : A → Store → Prop) : Prop := ∃ z, bltF f xs S = some z ∧ P z S
def DspV (xs : List A) (S : Store) (P : List D → Store → Prop) : Prop := ∃ ds, datas xs = some ds ∧ ds.length ≤ LIM ∧ P ds S
def NotV (x : A) (S : Store) (P : A → Store → Prop) : Prop := ∃ b, x = .p (.bl b) ∧ P (.p (.bl (!b))) S
def NegV (x : A) (S : Store) (P : A → Store → Prop) : Prop := ∃ i, x = .p (.int i) ∧ P (.p (.int (-i))) S
def TstV (x : A) (S : Store) (P : A → Store → Prop) : Prop := ∃ d b, x = .p d ∧ truF d = some b ∧ P (.p (.bl b)) S
def IsiV (x : A) (ts : List Ty) (S : Store) (P : A → Store → Prop) : Prop := ∃ ty, tyF x S = some ty ∧ P (.p (.bl (ts.any fun c => isaF ty c))) S
def CatV (xs : List A) (S : Store) (P : A → Store → Prop) : Prop := ∃ z, catF Str.empty xs = some z ∧ P (.p (.str z)) S
def FmtV (x : A) (S : Store) (P : A → Store → Prop) : Prop := ∃ z, fmtF x = some z ∧ P z S
def WlkV (kk : ItK) (xs : List A) (P : List A → Prop) : Prop := ∃ items, walkF kk xs = some items ∧ P items
def AsmV (asm : List (Nat ⊕ D)) (xs : List A) (P : List A → Prop) : Prop := ∃ zs, asmF asm xs = some zs ∧ P zs
def SetV (x y z : A) (S : Store) (P : Store → Prop) : Prop := ∃ d j n ys m, x = .p d ∧ y = .m j ∧ z = .p (.int n) ∧ S[j]? = some (.lst ys) ∧ ixN ys.length n = some m ∧ P (S.set j (.lst (ys.set m d)))
def BndV (tg : Tg) (x : A) (ρ : Env) (P : Env → Prop) : Prop := ∃ ρ1, bindT tg x ρ = some ρ1 ∧ P ρ1
theorem s_sub {x y z : A} {S : Store} {P : A → Store → Prop} (h : subF x y S = some z) (k : P z S) : SubV x y S P := ⟨z, h, k⟩
theorem s_t0 {a : D} {l : List D} {S : Store} {P : A → Store → Prop} (k : P (.p a) S) : SubV (.p (.tup (a :: l))) (.p (.int 0)) S P := ⟨_, by show (atI _ 0).map A.p = _; rw [at0]; rfl, k⟩
theorem s_t1 {a b : D} {l : List D} {S : Store} {P : A → Store → Prop} (k : P (.p b) S) : SubV (.p (.tup (a :: b :: l))) (.p (.int 1)) S P := ⟨_, by show (atI _ 1).map A.p = _; rw [at1]; rfl, k⟩
theorem s_t2 {a b c : D} {l : List D} {S : Store} {P : A → Store → Prop} (k : P (.p c) S) : SubV (.p (.tup (a :: b :: c :: l))) (.p (.int 2)) S P := ⟨_, by show (atI _ 2).map A.p = _; rw [at2]; rfl, k⟩
theorem s_l0 {a : D} {l : List D} {S : Store} {P : A → Store → Prop} (k : P (.p a) S) : SubV (.p (.lst (a :: l))) (.p (.int 0)) S P := ⟨_, by show (atI _ 0).map A.p = _; rw [at0]; rfl, k⟩
theorem s_l1 {a b : D} {l : List D} {S : Store} {P : A → Store → Prop} (k : P (.p b) S) : SubV (.p (.lst (a :: b :: l))) (.p (.int 1)) S P := ⟨_, by show (atI _ 1).map A.p = _; rw [at1]; rfl, k⟩
theorem s_l2 {a b c : D} {l : List D} {S : Store} {P : A → Store → Prop} (k : P (.p c) S) : SubV (.p (.lst (a :: b :: c :: l))) (.p (.int 2)) S P := ⟨_, by show (atI _ 2).map A.p = _; rw [at2]; rfl, k⟩
theorem s_slcH {u : D} {l : Int} {z : D} {S : Store} {P : A → Store → Prop} (h : slcF u none (some l) = some z) (k : P (.p z) S) : SlcV (.p u) none (some (.p (.int l))) S P := ⟨u, none, some l, z, rfl, rfl, rfl, h, k⟩
theorem s_slcL {u : D} {l : Int} {z : D} {S : Store} {P : A → Store → Prop} (h : slcF u (some l) none = some z) (k : P (.p z) S) : SlcV (.p u) (some (.p (.int l))) none S P := ⟨u, some l, none, z, rfl, rfl, rfl, h, k⟩
theorem s_blt {f : Blt} {xs : List A} {z : A} {S : Store} {P : A → Store → Prop} (h : bltF f xs S = some z) (k : P z S) : BltV f xs S P := ⟨z, h, k⟩
theorem s_dsp {xs : List A} {ds : List D} {S : Store} {P : List D → Store → Prop} (h : datas xs = some ds) (hl : Nat.ble ds.length LIM = true) (k : P ds S) : DspV xs S P := ⟨ds, h, Nat.le_of_ble_eq_true hl, k⟩
theorem s_not {b : Bool} {S : Store} {P : A → Store → Prop} (k : P (.p (.bl (!b))) S) : NotV (.p (.bl b)) S P := ⟨b, rfl, k⟩
theorem s_neg {i : Int} {S : Store} {P : A → Store → Prop} (k : P (.p (.int (-i))) S) : NegV (.p (.int i)) S P := ⟨i, rfl, k⟩
theorem s_tst {d : D} {b : Bool} {S : Store} {P : A → Store → Prop} (h : truF d = some b) (k : P (.p (.bl b)) S) : TstV (.p d) S P := ⟨d, b, rfl, h, k⟩
theorem s_isi {x : A} {ts : List Ty} {ty : Ty} {S : Store} {P : A → Store → Prop} (h : tyF x S = some ty) (k : P (.p (.bl (ts.any fun c => isaF ty c))) S) : IsiV x ts S P := ⟨ty, h, k⟩
theorem s_cat {xs : List A} {z : Str} {S : Store} {P : A → Store → Prop} (h : catF Str.empty xs = some z) (k : P (.p (.str z)) S) : CatV xs S P := ⟨z, h, k⟩
theorem s_fmt {x z : A} {S : Store} {P : A → Store → Prop} (h : fmtF x = some z) (k : P z S) : FmtV x S P := ⟨z, h, k⟩
theorem s_wlk {kk : ItK} {xs items : List A} {P : List A → Prop} (h : walkF kk xs = some items) (k : P items) : WlkV kk xs P := ⟨items, h, k⟩
theorem s_asm {asm : List (Nat ⊕ D)} {xs zs : List A} {P : List A → Prop} (h : asmF asm xs = some zs) (k : P zs) : AsmV asm xs P := ⟨zs, h, k⟩
theorem s_set {d : D} {j : Nat} {n : Int} {ys : List D} {m : Nat} {S : Store} {P : Store → Prop} (h1 : S[j]? = some (.lst ys)) (h2 : ixN ys.length n = some m) (k : P (S.set j (.lst (ys.set m d)))) : SetV (.p d) (.m j) (.p (.int n)) S P := ⟨d, j, n, ys, m, rfl, rfl, rfl, h1, h2, k⟩
theorem s_bnd {tg : Tg} {x : A} {ρ ρ1 : Env} {P : Env → Prop} (h : bindT tg x ρ = some ρ1) (k : P ρ1) : BndV tg x ρ P := ⟨ρ1, h, k⟩
/-- an operator on two values -/
def OpV (op : Operator) (x y : A) (S : Store) (P : A → Store → Prop) : Prop := ∃ u v z, x = .p u ∧ y = .p v ∧ binF op u v = some z ∧ P (.p z) S
theorem v_bin {op : Operator} (k : (ev cl false a ρ S).sat fun x S1 => (ev cl false b ρ S1).sat fun y S2 => OpV op x y S2 P) : (ev cl false (.bin op a b) ρ S).sat P := by
  rw [ev]
  refine Rz.sat_bind (Rz.sat_mono k fun x S1 h => Rz.sat_bind (Rz.sat_mono h fun y S2 h => ?_))
  obtain ⟨u, v, z, rfl, rfl, e, h⟩ := h
  dsimp only
  rw [e]
  exact Rz.sat_ok h
theorem o_add {i j : Int} (k : P (.p (.int (i + j))) S) : OpV .Add (.p (.int i)) (.p (.int j)) S P := ⟨_, _, _, rfl, rfl, rfl, k⟩
theorem o_sub {i j : Int} (k : P (.p (.int (i - j))) S) : OpV .Sub (.p (.int i)) (.p (.int j)) S P := ⟨_, _, _, rfl, rfl, rfl, k⟩
theorem p64 : (2 : Int) ^ 64 = 18446744073709551616 := by decide
theorem mul_c {i j : Int} (h1 : -18446744073709551616 < j) (h2 : j < 18446744073709551616) : mulOk i j = true := mul_small (by rw [p64]; exact ⟨h1, h2⟩)
theorem mul_cL {i j : Int} (h1 : -18446744073709551616 < i) (h2 : i < 18446744073709551616) : mulOk i j = true := mul_smallL (by rw [p64]; exact ⟨h1, h2⟩)
theorem o_mul {i j : Int} (h : mulOk i j = true) (k : P (.p (.int (i * j))) S) : OpV .Mult (.p (.int i)) (.p (.int j)) S P := ⟨_, _, _, rfl, rfl, bin_mul h, k⟩
theorem o_div {i j : Int} (h : divOk j = true) (k : P (.p (.int (i.fdiv j))) S) : OpV .FloorDiv (.p (.int i)) (.p (.int j)) S P := ⟨_, _, _, rfl, rfl, bin_div h, k⟩
theorem o_mod {i j : Int} (h : j ≠ 0) (k : P (.p (.int (i.fmod j))) S) : OpV .Mod (.p (.int i)) (.p (.int j)) S P := ⟨_, _, _, rfl, rfl, bin_mod h, k⟩
theorem o_pow {i j : Int} (h : powOk i j = true) (k : P (.p (.int (i ^ j.toNat))) S) : OpV .Pow (.p (.int i)) (.p (.int j)) S P := ⟨_, _, _, rfl, rfl, by simp [binF, h], k⟩
theorem o_str {x y : Str} (h : x.length + y.length ≤ LIM) (k : P (.p (.str (x ++ y))) S) : OpV .Add (.p (.str x)) (.p (.str y)) S P := ⟨_, _, _, rfl, rfl, by simp [binF, h], k⟩
theorem o_tup {x y : List D} (h : x.length + y.length ≤ LIM) (k : P (.p (.tup (x ++ y))) S) : OpV .Add (.p (.tup x)) (.p (.tup y)) S P := ⟨_, _, _, rfl, rfl, by simp [binF, h], k⟩
theorem o_lst {x y : List D} (h : x.length + y.length ≤ LIM) (k : P (.p (.lst (x ++ y))) S) : OpV .Add (.p (.lst x)) (.p (.lst y)) S P := ⟨_, _, _, rfl, rfl, by simp [binF, h], k⟩
theorem v_neg (k : (ev cl false a ρ S).sat fun x S1 => NegV x S1 P) : (ev cl false (.neg a) ρ S).sat P := by
  rw [ev]
  refine Rz.sat_bind (Rz.sat_mono k fun x S1 h => ?_)
  obtain ⟨i, rfl, h⟩ := h
  exact Rz.sat_ok h
/-- a comparison -/
def CmpV (op : CmpOp) (x y : A) (S : Store) (P : A → Store → Prop) : Prop := ∃ b, cmpA op x y = some b ∧ P (.p (.bl b)) S
theorem v_cmp {op : CmpOp} (k : (ev cl false a ρ S).sat fun x S1 => (ev cl false b ρ S1).sat fun y S2 => CmpV op x y S2 P) : (ev cl t (.cmp op a b) ρ S).sat P := by
  rw [ev]
  refine Rz.sat_bind (Rz.sat_mono k fun x S1 h => Rz.sat_bind (Rz.sat_mono h fun y S2 h => ?_))
  obtain ⟨z, e, h⟩ := h
  rw [e]
  exact Rz.sat_ok h
theorem v_chain {op op' : CmpOp} (k : (ev cl false a ρ S).sat fun x S1 => (ev cl false b ρ S1).sat fun y S2 => ∃ z, cmpA op x y = some z ∧ if z = true then (ev cl false c ρ S2).sat (fun w S3 => CmpV op' y w S3 P) else P (.p (.bl false)) S2) : (ev cl t (.chain op op' a b c) ρ S).sat P := by
  rw [ev]
  refine Rz.sat_bind (Rz.sat_mono k fun x S1 h => Rz.sat_bind (Rz.sat_mono h fun y S2 h => ?_))
  obtain ⟨z, e, h⟩ := h
  rw [e]
  dsimp only [Rz.of, Rz.bind]
  cases z with
  | true =>
    simp only [if_true] at h ⊢
    refine Rz.sat_bind (Rz.sat_mono h fun w S3 h => ?_)
    obtain ⟨z, e, h⟩ := h
    rw [e]
    exact Rz.sat_ok h
  | false =>
    simp only [Bool.false_eq_true, if_false] at h ⊢
    exact Rz.sat_ok h
theorem q_lt {i j : Int} (k : P (.p (.bl (decide (i < j)))) S) : CmpV .Lt (.p (.int i)) (.p (.int j)) S P := ⟨_, rfl, k⟩
theorem q_le {i j : Int} (k : P (.p (.bl (decide (i ≤ j)))) S) : CmpV .LtE (.p (.int i)) (.p (.int j)) S P := ⟨_, rfl, k⟩
theorem q_gt {i j : Int} (k : P (.p (.bl (decide (j < i)))) S) : CmpV .Gt (.p (.int i)) (.p (.int j)) S P := ⟨_, rfl, k⟩
theorem q_ge {i j : Int} (k : P (.p (.bl (decide (j ≤ i)))) S) : CmpV .GtE (.p (.int i)) (.p (.int j)) S P := ⟨_, rfl, k⟩
theorem q_eq {i j : Int} (k : P (.p (.bl (decide (i = j)))) S) : CmpV .Eq (.p (.int i)) (.p (.int j)) S P := ⟨_, eqF_int, by rw [Bool.beq_eq_decide_eq]; exact k⟩
theorem q_ne {i j : Int} (k : P (.p (.bl (!decide (i = j)))) S) : CmpV .NotEq (.p (.int i)) (.p (.int j)) S P := ⟨!decide (i = j), by show cmpF .NotEq (.int i) (.int j) = _; rw [cmp_ne, eqF_int, Bool.beq_eq_decide_eq]; rfl, k⟩
theorem q_eqB {i j : Bool} (k : P (.p (.bl (i == j))) S) : CmpV .Eq (.p (.bl i)) (.p (.bl j)) S P := ⟨_, eqF_bl, k⟩
theorem q_neB {i j : Bool} (k : P (.p (.bl (!(i == j)))) S) : CmpV .NotEq (.p (.bl i)) (.p (.bl j)) S P := ⟨!(i == j), by show cmpF .NotEq (.bl i) (.bl j) = _; rw [cmp_ne, eqF_bl]; rfl, k⟩
theorem q_isN {x : A} (k : P (.p (.bl (isF x))) S) : CmpV .Is x (.p .non) S P := ⟨_, rfl, k⟩
theorem q_notN {x : A} (k : P (.p (.bl (!isF x))) S) : CmpV .IsNot x (.p .non) S P := ⟨_, rfl, k⟩
/-- two ways -/
def Br (x : A) (S : Store) (Y N : Store → Prop) : Prop := ∃ b, x = .p (.bl b) ∧ if b = true then Y S else N S
theorem br {b : Bool} {Y N : Store → Prop} (h1 : b = true → Y S) (h2 : b = false → N S) : Br (.p (.bl b)) S Y N := by
  refine ⟨b, rfl, ?_⟩
  cases b with
  | true => exact h1 rfl
  | false => exact h2 rfl
theorem ft_no : ¬ (false = true) := Bool.false_ne_true
theorem tf_no : ¬ (true = false) := fun z => Bool.noConfusion z
theorem v_andT (k : (ev cl true a ρ S).sat fun x S1 => Br x S1 (fun S => (ev cl true b ρ S).sat P) fun S => P (.p (.bl false)) S) : (ev cl true (.and a b) ρ S).sat P := by
  rw [ev]
  simp only [if_true]
  refine Rz.sat_bind (Rz.sat_mono k fun x S1 h => ?_)
  obtain ⟨z, rfl, h⟩ := h
  cases z with
  | true => exact h
  | false => exact Rz.sat_ok h
theorem v_orT (k : (ev cl true a ρ S).sat fun x S1 => Br x S1 (fun S => P (.p (.bl true)) S) fun S => (ev cl true b ρ S).sat P) : (ev cl true (.or a b) ρ S).sat P := by
  rw [ev]
  simp only [if_true]
  refine Rz.sat_bind (Rz.sat_mono k fun x S1 h => ?_)
  obtain ⟨z, rfl, h⟩ := h
  cases z with
  | true => exact Rz.sat_ok h
  | false => exact h
/-- as values, of truth values -/
theorem v_and (k : (ev cl false a ρ S).sat fun x S1 => Br x S1 (fun S => (ev cl false b ρ S).sat P) fun S => P (.p (.bl false)) S) : (ev cl false (.and a b) ρ S).sat P := by
  rw [ev]
  simp only [Bool.false_eq_true, if_false]
  refine Rz.sat_bind (Rz.sat_mono k fun x S1 h => ?_)
  obtain ⟨z, rfl, h⟩ := h
  cases z with
  | true => exact h
  | false => exact Rz.sat_ok h
theorem v_or (k : (ev cl false a ρ S).sat fun x S1 => Br x S1 (fun S => P (.p (.bl true)) S) fun S => (ev cl false b ρ S).sat P) : (ev cl false (.or a b) ρ S).sat P := by
  rw [ev]
  simp only [Bool.false_eq_true, if_false]
  refine Rz.sat_bind (Rz.sat_mono k fun x S1 h => ?_)
  obtain ⟨z, rfl, h⟩ := h
  cases z with
  | true => exact Rz.sat_ok h
  | false => exact h
theorem v_not (k : (ev cl true a ρ S).sat fun x S1 => NotV x S1 P) : (ev cl t (.not a) ρ S).sat P := by
  rw [ev]
  refine Rz.sat_bind (Rz.sat_mono k fun x S1 h => ?_)
  obtain ⟨z, rfl, h⟩ := h
  exact Rz.sat_ok h
theorem v_ite {ct : C} (k : (ev cl true ct ρ S).sat fun x S1 => Br x S1 (fun S => (ev cl t a ρ S).sat P) fun S => (ev cl t b ρ S).sat P) : (ev cl t (.ite ct a b) ρ S).sat P := by
  rw [ev]
  refine Rz.sat_bind (Rz.sat_mono k fun x S1 h => ?_)
  obtain ⟨z, rfl, h⟩ := h
  cases z with
  | true => exact h
  | false => exact h
/-- a test that is the truth of a value -/
theorem v_tst (k : (ev cl false c ρ S).sat fun x S1 => TstV x S1 P) : (ev cl true c ρ S).sat P := by
  rw [ev_tst]
  refine Rz.sat_bind (Rz.sat_mono k fun x S1 h => ?_)
  obtain ⟨d, z, rfl, e, h⟩ := h
  unfold tst
  simp only [if_true]
  rw [e]
  exact Rz.sat_ok h
variable {PL : List A → Store → Prop}
theorem v_nil (k : PL [] S) : (evs cl [] ρ S).sat PL := by
  rw [evs]
  exact Rz.sat_ok k
theorem v_cons (k : (ev cl false c ρ S).sat fun x S1 => (evs cl cs ρ S1).sat fun xs S2 => PL (x :: xs) S2) : (evs cl (c :: cs) ρ S).sat PL := by
  rw [evs]
  exact Rz.sat_bind (Rz.sat_mono k fun x S1 h => Rz.sat_bind (Rz.sat_mono h fun xs S2 h => Rz.sat_ok h))
theorem v_tup (k : (evs cl cs ρ S).sat fun xs S1 => DspV xs S1 fun ds S => P (.p (.tup ds)) S) : (ev cl false (.tup cs) ρ S).sat P := by
  rw [ev]
  refine Rz.sat_bind (Rz.sat_mono k fun xs S1 h => ?_)
  obtain ⟨ds, e, hl, h⟩ := h
  rw [e]
  dsimp only
  rw [if_pos hl]
  exact Rz.sat_ok h
theorem v_lst (k : (evs cl cs ρ S).sat fun xs S1 => DspV xs S1 fun ds S => P (.p (.lst ds)) S) : (ev cl false (.lst cs) ρ S).sat P := by
  rw [ev]
  refine Rz.sat_bind (Rz.sat_mono k fun xs S1 h => ?_)
  obtain ⟨ds, e, hl, h⟩ := h
  rw [e]
  dsimp only
  rw [if_pos hl]
  exact Rz.sat_ok h
theorem v_lstM (k : (evs cl cs ρ S).sat fun xs S1 => DspV xs S1 fun ds S => P (.m S.length) (S ++ [.lst ds])) : (ev cl false (.lstM cs) ρ S).sat P := by
  rw [ev]
  refine Rz.sat_bind (Rz.sat_mono k fun xs S1 h => ?_)
  obtain ⟨ds, e, hl, h⟩ := h
  rw [e]
  dsimp only
  rw [decide_eq_true hl]
  exact Rz.sat_ok h
theorem v_sub (k : (ev cl false a ρ S).sat fun x S1 => (ev cl false b ρ S1).sat fun y S2 => SubV x y S2 P) : (ev cl false (.sub a b) ρ S).sat P := by
  rw [ev]
  refine Rz.sat_bind (Rz.sat_mono k fun x S1 h => Rz.sat_bind (Rz.sat_mono h fun y S2 h => ?_))
  obtain ⟨z, e, h⟩ := h
  rw [e]
  exact Rz.sat_ok h
theorem v_slcH (k : (ev cl false a ρ S).sat fun x S1 => (ev cl false b ρ S1).sat fun y S2 => SlcV x none (some y) S2 P) : (ev cl false (.slcH a b) ρ S).sat P := by
  rw [ev]
  refine Rz.sat_bind (Rz.sat_mono k fun x S1 h => Rz.sat_bind (Rz.sat_mono h fun y S2 h => ?_))
  obtain ⟨u, l, h', z, rfl, e1, e2, e, h⟩ := h
  cases l <;> cases h' <;> first | (cases e1; done) | (cases e2; done) | (cases e1; cases e2; dsimp only; rw [e]; exact Rz.sat_ok h)
theorem v_slcL (k : (ev cl false a ρ S).sat fun x S1 => (ev cl false b ρ S1).sat fun y S2 => SlcV x (some y) none S2 P) : (ev cl false (.slcL a b) ρ S).sat P := by
  rw [ev]
  refine Rz.sat_bind (Rz.sat_mono k fun x S1 h => Rz.sat_bind (Rz.sat_mono h fun y S2 h => ?_))
  obtain ⟨u, l, h', z, rfl, e1, e2, e, h⟩ := h
  cases l <;> cases h' <;> first | (cases e1; done) | (cases e2; done) | (cases e1; cases e2; dsimp only; rw [e]; exact Rz.sat_ok h)
theorem v_call {f : Nat} {ds : List D} (k : (evs cl cs ρ S).sat fun xs S1 => (cl f (xs ++ ds.map .p) S1).sat P) : (ev cl false (.call f cs ds) ρ S).sat P := by
  rw [ev]
  exact Rz.sat_bind (Rz.sat_mono k fun xs S1 h => Rz.sat_bind (Rz.sat_mono h fun z S2 h => Rz.sat_ok h))
theorem v_callK {f : Nat} {ks : List C} {asm : List (Nat ⊕ D)} (k : (evs cl cs ρ S).sat fun xs S1 => (evs cl ks ρ S1).sat fun ys S2 => AsmV asm (xs ++ ys) fun zs => (cl f zs S2).sat P) : (ev cl false (.callK f cs ks asm) ρ S).sat P := by
  rw [ev]
  refine Rz.sat_bind (Rz.sat_mono k fun xs S1 h => Rz.sat_bind (Rz.sat_mono h fun ys S2 h => ?_))
  obtain ⟨zs, e, h⟩ := h
  rw [e]
  exact Rz.sat_bind (Rz.sat_ok (Rz.sat_bind (Rz.sat_mono h fun z S2 h => Rz.sat_ok h)))
theorem v_blt {f : Blt} (k : (evs cl cs ρ S).sat fun xs S1 => BltV f xs S1 P) : (ev cl false (.blt f cs) ρ S).sat P := by
  rw [ev]
  refine Rz.sat_bind (Rz.sat_mono k fun xs S1 h => ?_)
  obtain ⟨z, e, h⟩ := h
  rw [e]
  exact Rz.sat_ok h
theorem v_isiT {ts : List Ty} (k : (ev cl false a ρ S).sat fun x S1 => IsiV x ts S1 P) : (ev cl t (.isiT a ts) ρ S).sat P := by
  rw [ev]
  refine Rz.sat_bind (Rz.sat_mono k fun x S1 h => ?_)
  obtain ⟨z, e, h⟩ := h
  rw [e]
  exact Rz.sat_ok h
theorem v_fstr (k : (evs cl cs ρ S).sat fun xs S1 => CatV xs S1 P) : (ev cl false (.fstr cs) ρ S).sat P := by
  rw [ev]
  refine Rz.sat_bind (Rz.sat_mono k fun xs S1 h => ?_)
  obtain ⟨z, e, h⟩ := h
  rw [e]
  exact Rz.sat_ok h
theorem v_fmt (k : (ev cl false a ρ S).sat fun x S1 => FmtV x S1 P) : (ev cl false (.fmt a) ρ S).sat P := by
  rw [ev]
  refine Rz.sat_bind (Rz.sat_mono k fun xs S1 h => ?_)
  obtain ⟨z, e, h⟩ := h
  rw [e]
  exact Rz.sat_ok h
def MaxV (x y : A) (S : Store) (P : A → Store → Prop) : Prop := ∃ z, maxF x y = some z ∧ P z S
theorem v_maxD (k : (ev cl false a ρ S).sat fun x S1 => (ev cl false b ρ S1).sat fun y S2 => MaxV x y S2 P) : (ev cl false (.maxD a b) ρ S).sat P := by
  rw [ev]
  refine Rz.sat_bind (Rz.sat_mono k fun x S1 h => Rz.sat_bind (Rz.sat_mono h fun y S2 h => ?_))
  obtain ⟨z, e, h⟩ := h
  rw [e]
  exact Rz.sat_ok h
theorem s_max {x y z : A} {S : Store} {P : A → Store → Prop} (h : maxF x y = some z) (k : P z S) : MaxV x y S P := ⟨z, h, k⟩
def MthV (m : Mth) (o : A) (xs : List A) (S : Store) (P : A → Store → Prop) : Prop := mthTy m o S = true ∧ (mthF m o xs S).sat P
theorem v_mth {m : Mth} {o : C} (k : (ev cl false o ρ S).sat fun x S1 => mthTy m x S1 = true ∧ (evs cl cs ρ S1).sat fun xs S2 => (mthF m x xs S2).sat P) : (ev cl false (.mth m o cs) ρ S).sat P := by
  rw [ev]
  refine Rz.sat_bind (Rz.sat_mono k fun x S1 h => ?_)
  rw [if_pos h.1]
  exact Rz.sat_bind (Rz.sat_mono h.2 fun xs S2 h => Rz.sat_bind (Rz.sat_mono h fun z S3 h => Rz.sat_ok h))
theorem q_eqS {x y : Str} {P : A → Store → Prop} {S : Store} (h1 : PyData.strOk x = true) (h2 : PyData.strOk y = true) (k : P (.p (.bl (x == y))) S) : CmpV .Eq (.p (.str x)) (.p (.str y)) S P := ⟨_, eqF_str h1 h2, k⟩
theorem q_neS {x y : Str} {P : A → Store → Prop} {S : Store} (h1 : PyData.strOk x = true) (h2 : PyData.strOk y = true) (k : P (.p (.bl (!(x == y)))) S) : CmpV .NotEq (.p (.str x)) (.p (.str y)) S P := ⟨!(x == y), by show cmpF .NotEq (.str x) (.str y) = _; rw [cmp_ne, eqF_str h1 h2]; rfl, k⟩
theorem q_inT {x : Str} {ds : List D} {ys : List Str} {P : A → Store → Prop} {S : Store} (h : D.strs ds = some ys) (k : P (.p (.bl (ys.any fun z => z == x))) S) : CmpV .In (.p (.str x)) (.p (.tup ds)) S P := ⟨ys.any fun z => z == x, by show cmpF.inFT (.str x) ds = _; simp only [cmpF.inFT, h], k⟩
/-- a comprehension without tests -/
theorem v_comp0 {kk : ItK} {its : List C} {tg : Tg} {own : List Nat} (k : (evs cl its ρ S).sat fun xs S1 => WlkV kk xs fun items => (compL (fun x => bindT tg x (wipeE ρ own)) (fun _ S => .ok (.p (.bl true)) S) (ev cl false c) items S1).sat fun ds S2 => ds.length < LIM ∧ P (.p (.lst ds)) S2) :
    (ev cl false (.comp kk its tg own none c) ρ S).sat P := by
  rw [ev]
  refine Rz.sat_bind (Rz.sat_mono k fun xs S1 h => ?_)
  obtain ⟨items, e, h⟩ := h
  rw [e]
  refine Rz.sat_bind (Rz.sat_ok (Rz.sat_bind (Rz.sat_mono h fun ds S2 h => ?_)))
  rw [if_pos h.1]
  exact Rz.sat_ok h.2
theorem v_comp1 {kk : ItK} {its : List C} {tg : Tg} {own : List Nat} (k : (evs cl its ρ S).sat fun xs S1 => WlkV kk xs fun items => (compL (fun x => bindT tg x (wipeE ρ own)) (ev cl true b) (ev cl false c) items S1).sat fun ds S2 => ds.length < LIM ∧ P (.p (.lst ds)) S2) :
    (ev cl false (.comp kk its tg own (some b) c) ρ S).sat P := by
  rw [ev]
  refine Rz.sat_bind (Rz.sat_mono k fun xs S1 h => ?_)
  obtain ⟨items, e, h⟩ := h
  rw [e]
  refine Rz.sat_bind (Rz.sat_ok (Rz.sat_bind (Rz.sat_mono h fun ds S2 h => ?_)))
  rw [if_pos h.1]
  exact Rz.sat_ok h.2
/-- the turns: R what the made items satisfy, I what holds of the store -/
theorem comp_sat {bnd : A → Option Env} {elt : Env → Store → Rz A} (I : Store → Prop) (R : Nat → D → Prop) : ∀ (items : List A) (i : Nat) (S : Store), I S →
    (∀ j x S, items[j]? = some x → I S → ∃ ρ1, bnd x = some ρ1 ∧ (elt ρ1 S).sat fun y S' => I S' ∧ ∃ d, y = .p d ∧ R (i + j) d) →
    (compL bnd (fun _ S => .ok (.p (.bl true)) S) elt items S).sat fun ds S' => I S' ∧ ds.length = items.length ∧ ∀ j d, ds[j]? = some d → R (i + j) d
  | [], i, S, h, _ => by
    rw [compL]
    exact Rz.sat_ok ⟨h, rfl, fun j d hd => by simp at hd⟩
  | x :: xs, i, S, h, hs => by
    obtain ⟨ρ1, h1, h2⟩ := hs 0 x S rfl h
    rw [compL, h1]
    refine Rz.sat_bind (Rz.sat_ok ?_)
    dsimp only
    refine Rz.sat_bind (Rz.sat_mono h2 fun y S' h => ?_)
    obtain ⟨hI, d, rfl, hR⟩ := h
    dsimp only
    refine Rz.sat_bind (Rz.sat_mono (comp_sat I R xs (i + 1) S' hI fun j x S hx hI => ?_) fun ds S'' h => Rz.sat_ok ?_)
    · have := hs (j + 1) x S hx hI
      rw [show i + (j + 1) = i + 1 + j by omega] at this
      exact this
    · obtain ⟨a, b, c⟩ := h
      refine ⟨a, by rw [List.length_cons, List.length_cons, b], fun j d' hd => ?_⟩
      cases j with
      | zero =>
        simp at hd
        subst hd
        exact hR
      | succ j =>
        rw [show i + (j + 1) = i + 1 + j by omega]
        exact c j d' (by simpa using hd)
/-- a comprehension whose elements are values f x, the store as it is -/
theorem comp_map {bnd : A → Option Env} {elt : Env → Store → Rz A} {S : Store} (f : A → D) : ∀ (items : List A), (∀ x ∈ items, ∃ ρ1, bnd x = some ρ1 ∧ elt ρ1 S = .ok (.p (f x)) S) → compL bnd (fun _ S => .ok (.p (.bl true)) S) elt items S = .ok (items.map f) S
  | [], _ => by
    rw [compL]
    rfl
  | x :: xs, h => by
    obtain ⟨ρ1, h1, h2⟩ := h x (List.mem_cons_self ..)
    rw [compL, h1]
    show ((elt ρ1 S).bind _) = _
    rw [h2]
    show ((compL bnd _ elt xs S).bind _) = _
    rw [comp_map f xs fun x hx => h x (List.mem_cons_of_mem _ hx)]
    rfl
/-! ### statements -/
variable {PE : Env → Store → Prop} {PR : A → Store → Prop}
theorem w_asg {tg : Tg} (k : (ev cl false c ρ S).sat fun x S1 => BndV tg x ρ fun ρ1 => PE ρ1 S1) : (run1 cl wf (.asg tg c) ρ S).sat PE PR := by
  rw [run1]
  refine Rz.sat_then (Rz.sat_mono k fun x S1 h => ?_)
  obtain ⟨ρ1, e, h⟩ := h
  rw [e]
  exact h
theorem w_par {i j : Nat} (k : (ev cl false a ρ S).sat fun x S1 => (ev cl false b ρ S1).sat fun y S2 => PE ((ρ.set i (some x)).set j (some y)) S2) : (run1 cl wf (.par i j a b) ρ S).sat PE PR := by
  rw [run1]
  exact Rz.sat_then (Rz.sat_mono k fun x S1 h => Rz.sat_then (Rz.sat_mono h fun y S2 h => h))
theorem w_setI {o i v : C} (k : (ev cl false v ρ S).sat fun x S1 => (ev cl false o ρ S1).sat fun y S2 => (ev cl false i ρ S2).sat fun z S3 => SetV x y z S3 fun S => PE ρ S) : (run1 cl wf (.setI o i v) ρ S).sat PE PR := by
  rw [run1]
  refine Rz.sat_then (Rz.sat_mono k fun x S1 h => Rz.sat_then (Rz.sat_mono h fun y S2 h => Rz.sat_then (Rz.sat_mono h fun z S3 h => ?_)))
  obtain ⟨d, j, n, ys, m, rfl, rfl, rfl, e1, e2, h⟩ := h
  dsimp only
  rw [e1]
  dsimp only
  rw [e2]
  exact h
theorem w_exp (k : (ev cl false c ρ S).sat fun _ S1 => PE ρ S1) : (run1 cl wf (.exp c) ρ S).sat PE PR := by
  rw [run1]
  exact Rz.sat_then (Rz.sat_mono k fun x S1 h => h)
theorem w_ret (k : (ev cl false c ρ S).sat PR) : (run1 cl wf (.ret c) ρ S).sat PE PR := by
  rw [run1]
  exact Rz.sat_then (Rz.sat_mono k fun x S1 h => h)
theorem w_ite {xa xb : List Sc} (k : (ev cl true c ρ S).sat fun x S1 => Br x S1 (fun S => (Fw.run cl wf xa ρ S).sat PE PR) fun S => (Fw.run cl wf xb ρ S).sat PE PR) : (run1 cl wf (.ite c xa xb) ρ S).sat PE PR := by
  rw [run1]
  refine Rz.sat_then (Rz.sat_mono k fun x S1 h => ?_)
  obtain ⟨z, rfl, h⟩ := h
  cases z with
  | true => exact h
  | false => exact h
theorem w_for {kk : ItK} {its : List C} {tg : Tg} {xs : List Sc} (k : (evs cl its ρ S).sat fun vs S1 => WlkV kk vs fun items => (forL (bindT tg) (Fw.run cl wf xs) items ρ S1).sat PE PR) : (run1 cl wf (.for kk its tg xs) ρ S).sat PE PR := by
  rw [run1]
  refine Rz.sat_then (Rz.sat_mono k fun vs S1 h => ?_)
  obtain ⟨items, e, h⟩ := h
  rw [e]
  exact h
theorem w_while {xs : List Sc} (k : (whileL (ev cl true c) (Fw.run cl wf xs) wf ρ S).sat PE PR) : (run1 cl wf (.while c xs) ρ S).sat PE PR := by
  rw [run1]
  exact k
/-- a while by an invariant and a number that falls -/
theorem while_sat {cond : Env → Store → Rz A} {body : Env → Store → Rs} (I : Nat → Env → Store → Prop) (Q : Env → Store → Prop) : ∀ (n m : Nat) (ρ : Env) (S : Store), m < n → I m ρ S →
    (∀ m ρ S, I m ρ S → (cond ρ S).sat fun x S1 => Br x S1 (fun S => (body ρ S).sat (fun ρ2 S2 => ∃ m', m' < m ∧ I m' ρ2 S2) PR) fun S => Q ρ S) → (whileL cond body n ρ S).sat Q PR
  | 0, m, ρ, S, h, _, _ => by omega
  | n + 1, m, ρ, S, h, hI, hs => by
    rw [whileL]
    refine Rz.sat_then (Rz.sat_mono (hs m ρ S hI) fun x S1 h1 => ?_)
    obtain ⟨z, rfl, h1⟩ := h1
    cases z with
    | false => exact h1
    | true =>
      dsimp only
      simp only [if_true] at h1
      cases hb : body ρ S1 with
      | nx ρ2 S2 =>
        rw [hb] at h1
        obtain ⟨m', hm, hI'⟩ := h1
        exact while_sat I Q n m' ρ2 S2 (by omega) hI' hs
      | rt y S2 => rw [hb] at h1; exact h1
      | bk ρ2 S2 => rw [hb] at h1; exact False.elim h1
      | ct ρ2 S2 => rw [hb] at h1; exact False.elim h1
      | ex e S2 => rw [hb] at h1; exact False.elim h1
      | bad => rw [hb] at h1; exact False.elim h1
end
end Fw

/-! What the head's facts say of the table. -/
namespace Fw
open PySem PySem.Spec PyProof.Rows L2
section
variable {K : PySem.W.Frag} {x : Str} {st : Stmt} {f : Addr} {oc kV doc pm cdv ct : Value} {od an : Option Addr} {osl : Array (Option Value)}
theorem fd_mk (l : K.lookup f = some ⟨oc, od, .func (PySem.W.fnOf x x (defArgs st) (defBody st) (defScope st) .none kV doc pm an cdv ct), osl⟩) (c : PySem.W.codeIn K cdv x = true) (k : PySem.W.keepIn K (.ref f) = true) :
    FunD K x x (defArgs st) (defBody st) (defScope st) [] [] f (PySem.W.fnOf x x (defArgs st) (defBody st) (defScope st) .none kV doc pm an cdv ct) :=
  ⟨⟨oc, od, .none, kV, doc, pm, an, cdv, ct, osl, rfl, l, c, .inl ⟨rfl, rfl⟩, .inl rfl⟩, k⟩
theorem fd_mkD {D : Addr} {oD : Value} {dD : Option Addr} {its : List Value} {n : Nat} {sD : Array (Option Value)} {dvs : List V} (l : K.lookup f = some ⟨oc, od, .func (PySem.W.fnOf x x (defArgs st) (defBody st) (defScope st) (.ref D) kV doc pm an cdv ct), osl⟩) (c : PySem.W.codeIn K cdv x = true) (k : PySem.W.keepIn K (.ref f) = true)
    (lD : K.lookup D = some ⟨oD, dD, .seq its.toArray n, sD⟩) (hd : dvs ≠ []) (r : Vals dvs its) :
    FunD K x x (defArgs st) (defBody st) (defScope st) dvs [] f (PySem.W.fnOf x x (defArgs st) (defBody st) (defScope st) (.ref D) kV doc pm an cdv ct) :=
  ⟨⟨oc, od, .ref D, kV, doc, pm, an, cdv, ct, osl, rfl, l, c, .inr ⟨hd, D, _, its, n, rfl, lD, rfl, r⟩, .inl rfl⟩, k⟩
end
/-- the values at these places -/
def pick {α : Type} : List Nat → List α → Option (List α)
  | [], _ => some []
  | i :: is, xs => match xs[i]?, pick is xs with
    | some x, some ys => some (x :: ys)
    | _, _ => none
theorem pick_rel {g : G} {z : Z} {xs : List A} {vs : List V} {us : List Value} (d : DatAL g z xs vs) (r : Vals vs us) : ∀ (is : List Nat) (qs : List A) (os : List Value), asmF (is.map .inl) xs = some qs → pick is us = some os → ∃ rs, Vals rs os ∧ DatAL g z qs rs ∧ rs.length = is.length
  | [], qs, os, h, h' => by
    cases h
    cases h'
    exact ⟨[], .nil, rfl, rfl⟩
  | i :: is, qs, os, h, h' => by
    rw [List.map_cons, asmF] at h
    rw [pick] at h'
    split at h
    · rename_i x ys hx hy
      cases h
      obtain ⟨v, hv, dv⟩ := d.get hx
      obtain ⟨u, hu, rv⟩ := r.get hv
      rw [hu] at h'
      cases hp : pick is us with
      | none => rw [hp] at h'; cases h'
      | some os' =>
        rw [hp] at h'
        cases h'
        obtain ⟨rs, r1, r2, r3⟩ := pick_rel d r is ys os' hy hp
        exact ⟨v :: rs, .cons rv r1, ⟨v, rs, rfl, dv, r2⟩, by rw [List.length_cons, List.length_cons, r3]⟩
    · cases h
theorem kba_in {g : G} {fd : FuncData} {ps : List Str} {n : Nat} {ks : List Str} (is : List Nat) (hl : is.length = ps.length) (hb : ∀ (s : Shared) (us ws : List Value), g.K.In s.heap → us.length = n → ws.length = ks.length → ∃ os, pick is (us ++ ws) = some os ∧ BindsTo s fd ⟨us, ks.zip ws⟩ (ps.zip os)) :
    KBA g fd ps n ks (is.map .inl) := by
  intro s us ws vs zs xs ys qs z X d1 d2 r1 r2 ha l1 l2
  obtain ⟨os, h1, h2⟩ := hb s us ws X l1 l2
  obtain ⟨rs, q1, q2, q3⟩ := pick_rel (d1.app d2) (r1.append r2) is qs os ha h1
  exact ⟨os, rs, h2, q1, q2, by rw [q3, hl]⟩
section
variable {K : PySem.W.Frag} {x qual : Str} {params : Arguments} {body : List Stmt} {scope : Scope} {dvs : List V} {kws : List (Str × V)} {f : Addr} {fd : FuncData} {ps ks : List Str} {n : Nat}
/-- keywords, the defaults' tuple is looked at -/
theorem kb_dfl (F : FunD K x qual params body scope dvs kws f fd) (hd : dvs ≠ []) (is : List Nat)
    (h : ∀ (T : Addr) (kV doc pm : Value) (an : Option Addr) (cdv ct : Value) (us ws its : List Value), us.length = n → ws.length = ks.length → its.length = dvs.length →
      ∃ os, pick is (us ++ ws) = some os ∧ ∃ k, bindArgs (PySem.W.fnOf x qual params body scope (.ref T) kV doc pm an cdv ct) ⟨us, ks.zip ws⟩ = seqItems? (.ref T) >>= k ∧ k (some its.toArray) = pure (ps.zip os)) :
    ∀ (s : Shared) (us ws : List Value), K.In s.heap → us.length = n → ws.length = ks.length → ∃ os, pick is (us ++ ws) = some os ∧ BindsTo s fd ⟨us, ks.zip ws⟩ (ps.zip os) := by
  obtain ⟨oc, od, dV, kV, doc, pm, an, cdv, ct, osl, rfl, lk, hcd, hD, hK⟩ := F.ex
  rcases hD with ⟨e, _⟩ | ⟨_, T, o, its, m, rfl, lT, oT, rT⟩
  · exact absurd e hd
  · intro s us ws X l1 l2
    obtain ⟨os, e0, k, e1, e2⟩ := h T kV doc pm an cdv ct us ws its l1 l2 rT.length.symm
    refine ⟨os, e0, BindsTo.of_looks fun M => ?_⟩
    rw [e1]
    exact looks_items X lT oT (.of_pure e2)
/-- keywords, no defaults -/
theorem kb_none (F : FunD K x qual params body scope [] kws f fd) (is : List Nat)
    (h : ∀ (kV doc pm : Value) (an : Option Addr) (cdv ct : Value) (us ws : List Value), us.length = n → ws.length = ks.length →
      ∃ os, pick is (us ++ ws) = some os ∧ bindArgs (PySem.W.fnOf x qual params body scope .none kV doc pm an cdv ct) ⟨us, ks.zip ws⟩ = pure (ps.zip os)) :
    ∀ (s : Shared) (us ws : List Value), K.In s.heap → us.length = n → ws.length = ks.length → ∃ os, pick is (us ++ ws) = some os ∧ BindsTo s fd ⟨us, ks.zip ws⟩ (ps.zip os) := by
  obtain ⟨oc, od, dV, kV, doc, pm, an, cdv, ct, osl, rfl, lk, hcd, hD, hK⟩ := F.ex
  rcases hD with ⟨_, rfl⟩ | ⟨e, _⟩
  · intro s us ws X l1 l2
    obtain ⟨os, e0, e1⟩ := h kV doc pm an cdv ct us ws l1 l2
    exact ⟨os, e0, .of_eq e1⟩
  · exact absurd rfl e
end
/-- every parameter by its place -/
theorem dfl0 {K : PySem.W.Frag} {fa : Nat → Addr} {fd : FuncData} {ps : List Str} (hb : Binds K fd ps []) : ∃ dsV dvs, Binds K fd ps dsV ∧ Vals dvs dsV ∧ (∀ z, DatL ⟨K, fa⟩ z [] dvs) ∧ ps.length + ([] : List D).length = ps.length := ⟨[], [], hb, .nil, fun _ => rfl, rfl⟩
/-- the law's own def is bound so in every heap -/
theorem bd_of {T : Tb} {ft : List Fn} {K : PySem.W.Frag} {mg : Str → Option Value} {h : Heap} {I : FI} {li : Nat} {f : Addr} {st : Stmt} {oc kV doc pm cdv ct : Value} {od an : Option Addr} {osl : Array (Option Value)} {x : Str} (X : K.In h) (G : h.Ns mainGlobals mg) (a : PySem.W.nsIn K mainGlobals I.name = some (some (.ref f)))
    (l : K.lookup f = some ⟨oc, od, .func (PySem.W.fnOf I.name I.name (defArgs st) (defBody st) (defScope st) .none kV doc pm an cdv ct), osl⟩)
    (hb : ∀ v : Value, bindArgs (PySem.W.fnOf I.name I.name (defArgs st) (defBody st) (defScope st) .none kV doc pm an cdv ct) ⟨[v], []⟩ = pure [(x, v)]) (fa : Nat → Addr) (fd : FuncData) (F : ∃ st N i, Fact T ft fa K mg li I fd st N i) (s : Shared) (u : Value) : BindsTo s fd ⟨[u], []⟩ [(x, u)] := by
  obtain ⟨st', N, i, F⟩ := F
  obtain ⟨dvs, kws, Fu⟩ := F.fun_
  have e := F.mg.symm.trans (PySem.W.mg_of X G a)
  obtain ⟨_, _, _, _, _, _, _, _, _, _, e1, lk, _, _, _⟩ := Fu.ex
  have e2 : fa li = f := by
    injection e with e
    injection e
  rw [e2, l] at lk
  injection lk with lk
  injection lk with _ _ lk _
  injection lk with lk
  rw [← lk]
  exact .of_eq (hb u)
end Fw

namespace K11
open PySem PySem.Spec PyProof.Rows L2 Fw

def top (i : Nat) : Stmt := PySem.Challenge.pw_fewtell_k11_measures_of_programs.main.body.getD i (.Pass ⟨0, 0, 0, 0⟩)
def c_inner_parts : List Sc := [.asg (.nm 1) (.sub (.var 0) (.cst (.int 0))), .ite (.cmp .Eq (.var 1) (.cst (.str "sum"))) [.ret (.lst [(.sub (.var 0) (.cst (.int 2)))])] [], .ite (.cmp .Eq (.var 1) (.cst (.str "power"))) [.ret (.lst [(.sub (.var 0) (.cst (.int 1)))])] [], .ite (.cmp .In (.var 1) (.tup [(.cst (.str "plus")), (.cst (.str "times"))])) [.ret (.blt .list [(.slcL (.var 0) (.cst (.int 1)))])] [], .ret (.lst [])]
def c0 : List Sc := c_inner_parts
def n0 : List Str := ["program", "word"]
def i0 : FI := ⟨"inner_parts", ["program"], [(1, [])], []⟩
def c_combined : List Sc := [.asg (.nm 2) (.sub (.var 0) (.cst (.int 0))), .ite (.cmp .Eq (.var 2) (.cst (.str "times"))) [.ret (.blt .sum [(.var 1)])] [], .ite (.cmp .Eq (.var 2) (.cst (.str "power"))) [.ret (.bin .Mult (.sub (.var 0) (.cst (.int 2))) (.sub (.var 1) (.cst (.int 0))))] [], .ret (.maxD (.var 1) (.cst (.int 0)))]
def c1 : List Sc := c_combined
def n1 : List Str := ["program", "numbers", "word"]
def i1 : FI := ⟨"combined", ["program", "numbers"], [(2, [])], []⟩
def c_width_of (f_inner_parts : Nat) (f_combined : Nat) (f_width_of : Nat) : List Sc := [.asg (.nm 1) (.call f_combined [(.var 0), (.comp .seq [(.call f_inner_parts [(.var 0)] [])] (.nm 2) [2] none (.call f_width_of [(.var 2)] []))] []), .ret (.ite (.cmp .Eq (.sub (.var 0) (.cst (.int 0))) (.cst (.str "sum"))) (.bin .Add (.var 1) (.cst (.int 1))) (.var 1))]
def c2 : List Sc := c_width_of 0 1 2
def n2 : List Str := ["program", "found", "part"]
def i2 : FI := ⟨"width_of", ["program"], [(1, [])], [(0, ["program"], [.inl 0])]⟩
def c_degree_of (f_inner_parts : Nat) (f_combined : Nat) (f_degree_of : Nat) : List Sc := [.ite (.cmp .Eq (.sub (.var 0) (.cst (.int 0))) (.cst (.str "trait"))) [.ret (.cst (.int 1))] [], .ret (.call f_combined [(.var 0), (.comp .seq [(.call f_inner_parts [(.var 0)] [])] (.nm 1) [1] none (.call f_degree_of [(.var 1)] []))] [])]
def c3 : List Sc := c_degree_of 0 1 3
def n3 : List Str := ["program", "part"]
def i3 : FI := ⟨"degree_of", ["program"], [(1, [])], [(0, ["program"], [.inl 0])]⟩
def c_products_of (f_inner_parts : Nat) (f_products_of : Nat) : List Sc := [.asg (.nm 1) (.comp .seq [(.call f_inner_parts [(.var 0)] [])] (.nm 4) [4] none (.call f_products_of [(.var 4)] [])), .ite (.cmp .Eq (.sub (.var 0) (.cst (.int 0))) (.cst (.str "sum"))) [.ret (.sub (.var 1) (.cst (.int 0)))] [], .ite (.cmp .Eq (.sub (.var 0) (.cst (.int 0))) (.cst (.str "plus"))) [.ret (.blt .sum [(.var 1)])] [], .ite (.cmp .Eq (.sub (.var 0) (.cst (.int 0))) (.cst (.str "power"))) [.asg (.nm 1) (.bin .Mult (.var 1) (.sub (.var 0) (.cst (.int 2))))] [], .asg (.nm 2) (.cst (.int 1)), .for .seq [(.var 1)] (.nm 3) [.asg (.nm 2) (.bin .Mult (.var 2) (.var 3))], .ret (.var 2)]
def c4 : List Sc := c_products_of 0 4
def n4 : List Str := ["program", "numbers", "found", "number", "part"]
def i4 : FI := ⟨"products_of", ["program"], [(1, [])], [(0, ["program"], [.inl 0])]⟩
def c__law_source : List Sc := [.ret (.lstM [(.blt .list [(.slcH (.var 0) (.cst (.int 63)))]), (.cst (.int 0)), (.cst (.int 0)), (.cst (.int 12023)), (.cst (.int 0))])]
def c5 : List Sc := c__law_source
def n5 : List Str := ["_law_script"]
def i5 : FI := ⟨"_law_source", ["_law_script"], [(1, [])], []⟩
def c__law_draw : List Sc := [.ite (.and (.cmp .Eq (.sub (.var 0) (.cst (.int 2))) (.cst (.int 0))) (.cmp .Lt (.sub (.var 0) (.cst (.int 1))) (.blt .len [(.sub (.var 0) (.cst (.int 0)))]))) [.asg (.nm 3) (.sub (.sub (.var 0) (.cst (.int 0))) (.sub (.var 0) (.cst (.int 1)))), .setI (.var 0) (.cst (.int 1)) (.bin .Add (.sub (.var 0) (.cst (.int 1))) (.cst (.int 1))), .ite (.cmp .GtE (.var 3) (.bin .Pow (.cst (.int 10)) (.cst (.int 18)))) [.setI (.var 0) (.cst (.int 2)) (.var 3)] [.setI (.var 0) (.cst (.int 3)) (.bin .Mod (.blt .int [(.bin .Add (.bin .Add (.bin .Mult (.sub (.var 0) (.cst (.int 3))) (.cst (.int 40487))) (.bin .Mult (.bin .Mod (.blt .int [(.var 3)]) (.cst (.int 2147483587))) (.cst (.int 6113)))) (.cst (.int 97)))]) (.cst (.int 2147483629)))]] [], .ite (.cmp .Gt (.sub (.var 0) (.cst (.int 2))) (.cst (.int 0))) [.asg (.nm 4) (.bin .Mod (.blt .int [(.sub (.var 0) (.cst (.int 2)))]) (.var 1)), .setI (.var 0) (.cst (.int 2)) (.bin .FloorDiv (.sub (.var 0) (.cst (.int 2))) (.var 1)), .ret (.var 4)] [], .setI (.var 0) (.cst (.int 4)) (.bin .Add (.sub (.var 0) (.cst (.int 4))) (.cst (.int 1))), .asg (.nm 2) (.sub (.var 0) (.cst (.int 3))), .setI (.var 0) (.cst (.int 3)) (.bin .Mod (.blt .int [(.bin .Add (.bin .Add (.bin .Add (.bin .Mult (.var 2) (.var 2)) (.bin .Mult (.var 2) (.cst (.int 26399)))) (.bin .Mult (.sub (.var 0) (.cst (.int 4))) (.cst (.int 1000931)))) (.cst (.int 80671)))]) (.cst (.int 2147483629))), .ret (.bin .Mod (.blt .int [(.bin .Add (.bin .FloorDiv (.sub (.var 0) (.cst (.int 3))) (.cst (.int 71))) (.bin .Mult (.bin .Mod (.blt .int [(.sub (.var 0) (.cst (.int 3)))]) (.cst (.int 7919))) (.cst (.int 43))))]) (.var 1))]
def c6 : List Sc := c__law_draw
def n6 : List Str := ["_law_src", "_law_many7", "_law_seed", "_law_cell7", "_law_digit"]
def i6 : FI := ⟨"_law_draw", ["_law_src", "_law_many7"], [(2, [])], []⟩
def c__law_of (f__law_draw : Nat) : List Sc := [.ret (.sub (.var 1) (.call f__law_draw [(.var 0), (.blt .len [(.var 1)])] []))]
def c7 : List Sc := c__law_of 6
def n7 : List Str := ["_law_src", "_law_things7"]
def i7 : FI := ⟨"_law_of", ["_law_src", "_law_things7"], [(2, [])], []⟩
def c__law_word (f__law_draw : Nat) (f__law_of : Nat) : List Sc := [.ret (.mth .join (.cst (.str "")) [(.comp .range1 [(.bin .Add (.cst (.int 1)) (.call f__law_draw [(.var 0), (.var 1)] []))] (.nm 2) [2] none (.call f__law_of [(.var 0), (.cst (.str "abcdefghijklmnopqrstuvwxyz"))] []))])]
def c8 : List Sc := c__law_word 6 7
def n8 : List Str := ["_law_src", "_law_most", "_law_k"]
def i8 : FI := ⟨"_law_word", ["_law_src", "_law_most"], [(2, [])], []⟩
def c__law_same (f__law_same : Nat) : List Sc := [.ite (.isiT (.var 1) [.tLst, .tTup]) [.ite (.or (.cmp .NotEq (.blt .isi [(.var 0), (.cst (.ty .tLst))]) (.blt .isi [(.var 1), (.cst (.ty .tLst))])) (.cmp .NotEq (.blt .isi [(.var 0), (.cst (.ty .tTup))]) (.blt .isi [(.var 1), (.cst (.ty .tTup))]))) [.ret (.cst (.bl false))] [], .ret (.and (.cmp .Eq (.blt .len [(.var 0)]) (.blt .len [(.var 1)])) (.blt .all [(.comp .zip [(.var 0), (.var 1)] (.tp [(.nm 2), (.nm 3)]) [2, 3] none (.call f__law_same [(.var 2), (.var 3)] []))]))] [], .ite (.or (.cmp .Is (.var 1) (.cst .non)) (.cmp .Is (.var 0) (.cst .non))) [.ret (.and (.cmp .Is (.var 1) (.cst .non)) (.cmp .Is (.var 0) (.cst .non)))] [], .ite (.or (.cmp .NotEq (.blt .isi [(.var 0), (.cst (.ty .tBool))]) (.blt .isi [(.var 1), (.cst (.ty .tBool))])) (.cmp .NotEq (.blt .isi [(.var 0), (.cst (.ty .tInt))]) (.blt .isi [(.var 1), (.cst (.ty .tInt))]))) [.ret (.cst (.bl false))] [], .ret (.and (.cmp .Eq (.blt .isi [(.var 0), (.cst (.ty .tStr))]) (.blt .isi [(.var 1), (.cst (.ty .tStr))])) (.cmp .Eq (.var 0) (.var 1)))]
def c9 : List Sc := c__law_same 9
def n9 : List Str := ["_law_found", "_law_due", "_law_part7", "_law_late7"]
def i9 : FI := ⟨"_law_same", ["_law_found", "_law_due"], [(2, [])], []⟩
def c__law_common : List Sc := [.par 0 1 (.blt .abs [(.var 0)]) (.blt .abs [(.var 1)]), .while (.cmp .NotEq (.var 1) (.cst (.int 0))) [.par 0 1 (.var 1) (.bin .Mod (.blt .int [(.var 0)]) (.var 1))], .ret (.var 0)]
def c10 : List Sc := c__law_common
def n10 : List Str := ["_law_one", "_law_two"]
def i10 : FI := ⟨"_law_common", ["_law_one", "_law_two"], [(2, [])], []⟩
def c__law_low (f__law_common : Nat) : List Sc := [.asg (.nm 2) (.call f__law_common [(.var 0), (.var 1)] []), .asg (.nm 3) (.ite (.cmp .Gt (.var 1) (.cst (.int 0))) (.cst (.int 1)) (.neg (.cst (.int 1)))), .ret (.tup [(.bin .FloorDiv (.bin .Mult (.var 3) (.var 0)) (.var 2)), (.bin .FloorDiv (.bin .Mult (.var 3) (.var 1)) (.var 2))])]
def c11 : List Sc := c__law_low 10
def n11 : List Str := ["_law_high7", "_law_under", "_law_common_here", "_law_sign"]
def i11 : FI := ⟨"_law_low", ["_law_high7", "_law_under"], [(2, [])], []⟩
def c__law_share (f__law_draw : Nat) (f__law_of : Nat) (f__law_low : Nat) : List Sc := [.asg (.nm 2) (.bin .Add (.cst (.int 1)) (.call f__law_draw [(.var 0), (.var 1)] [])), .ret (.call f__law_low [(.call f__law_of [(.var 0), (.lst [(.var 2), (.neg (.var 2))])] []), (.bin .Add (.cst (.int 1)) (.call f__law_draw [(.var 0), (.cst (.int 4))] []))] [])]
def c12 : List Sc := c__law_share 6 7 11
def n12 : List Str := ["_law_src", "_law_most", "_law_high7"]
def i12 : FI := ⟨"_law_share", ["_law_src", "_law_most"], [(2, [])], []⟩
def c__law_inner : List Sc := [.asg (.nm 1) (.sub (.var 0) (.cst (.int 0))), .ite (.cmp .Eq (.var 1) (.cst (.str "sum"))) [.ret (.lst [(.sub (.var 0) (.cst (.int 2)))])] [], .ite (.cmp .Eq (.var 1) (.cst (.str "power"))) [.ret (.lst [(.sub (.var 0) (.cst (.int 1)))])] [], .ret (.ite (.cmp .In (.var 1) (.tup [(.cst (.str "plus")), (.cst (.str "times"))])) (.blt .list [(.slcL (.var 0) (.cst (.int 1)))]) (.lst []))]
def c13 : List Sc := c__law_inner
def n13 : List Str := ["_law_program", "_law_word_here"]
def i13 : FI := ⟨"_law_inner", ["_law_program"], [(1, [])], []⟩
def c__law_wide (f__law_inner : Nat) (f__law_wide : Nat) : List Sc := [.asg (.nm 1) (.comp .seq [(.call f__law_inner [(.var 0)] [])] (.nm 2) [2] none (.call f__law_wide [(.var 2)] [])), .ite (.cmp .Eq (.sub (.var 0) (.cst (.int 0))) (.cst (.str "sum"))) [.ret (.bin .Add (.sub (.var 1) (.cst (.int 0))) (.cst (.int 1)))] [], .ite (.cmp .Eq (.sub (.var 0) (.cst (.int 0))) (.cst (.str "plus"))) [.ret (.blt .max [(.var 1)])] [], .ite (.cmp .Eq (.sub (.var 0) (.cst (.int 0))) (.cst (.str "power"))) [.ret (.bin .Mult (.sub (.var 0) (.cst (.int 2))) (.sub (.var 1) (.cst (.int 0))))] [], .ret (.blt .sum [(.var 1)])]
def c14 : List Sc := c__law_wide 13 14
def n14 : List Str := ["_law_program", "_law_some", "_law_part7"]
def i14 : FI := ⟨"_law_wide", ["_law_program"], [(1, [])], []⟩
def c__law_degree (f__law_inner : Nat) (f__law_degree : Nat) : List Sc := [.asg (.nm 1) (.comp .seq [(.call f__law_inner [(.var 0)] [])] (.nm 2) [2] none (.call f__law_degree [(.var 2)] [])), .ite (.cmp .Eq (.sub (.var 0) (.cst (.int 0))) (.cst (.str "trait"))) [.ret (.cst (.int 1))] [], .ite (.cmp .In (.sub (.var 0) (.cst (.int 0))) (.tup [(.cst (.str "sum")), (.cst (.str "plus"))])) [.ret (.blt .max [(.var 1)])] [], .ite (.cmp .Eq (.sub (.var 0) (.cst (.int 0))) (.cst (.str "power"))) [.ret (.bin .Mult (.sub (.var 0) (.cst (.int 2))) (.sub (.var 1) (.cst (.int 0))))] [], .ret (.blt .sum [(.var 1)])]
def c15 : List Sc := c__law_degree 13 15
def n15 : List Str := ["_law_program", "_law_some", "_law_part7"]
def i15 : FI := ⟨"_law_degree", ["_law_program"], [(1, [])], []⟩
def c__law_products (f__law_inner : Nat) (f__law_products : Nat) : List Sc := [.asg (.nm 1) (.comp .seq [(.call f__law_inner [(.var 0)] [])] (.nm 4) [4] none (.call f__law_products [(.var 4)] [])), .ite (.cmp .Eq (.sub (.var 0) (.cst (.int 0))) (.cst (.str "plus"))) [.ret (.blt .sum [(.var 1)])] [], .ite (.cmp .Eq (.sub (.var 0) (.cst (.int 0))) (.cst (.str "power"))) [.asg (.nm 1) (.bin .Mult (.var 1) (.sub (.var 0) (.cst (.int 2))))] [], .asg (.nm 2) (.cst (.int 1)), .for .seq [(.var 1)] (.nm 3) [.asg (.nm 2) (.bin .Mult (.var 2) (.var 3))], .ret (.var 2)]
def c16 : List Sc := c__law_products 13 16
def n16 : List Str := ["_law_program", "_law_some", "_law_found", "_law_one", "_law_part7"]
def i16 : FI := ⟨"_law_products", ["_law_program"], [(1, [])], []⟩
def c__law_free (f__law_draw : Nat) (f__law_of : Nat) (f__law_word : Nat) (f__law_share : Nat) (f__law_free : Nat) : List Sc := [.asg (.nm 2) (.bin .Add (.comp .range1 [(.cst (.int 3))] (.nm 6) [6] none (.call f__law_word [(.var 0), (.cst (.int 8))] [])) (.lst [(.cst (.str "sum"))])), .asg (.nm 3) (.call f__law_draw [(.var 0), (.ite (.cmp .Gt (.var 1) (.cst (.int 0))) (.cst (.int 11)) (.cst (.int 6)))] []), .ite (.cmp .Eq (.var 3) (.cst (.int 0))) [.asg (.nm 5) (.call f__law_of [(.var 0), (.lst [(.tup [(.cst (.int 0)), (.cst (.int 1))]), (.tup [(.neg (.cst (.int 1))), (.cst (.int 1))]), (.tup [(.neg (.cst (.int 999999999))), (.cst (.int 999999998))]), (.call f__law_share [(.var 0), (.bin .Pow (.cst (.int 10)) (.cst (.int 6)))] []), (.tup [(.cst (.int 7)), (.cst (.int 2))])])] []), .ret (.tup [(.cst (.str "num")), (.sub (.var 5) (.cst (.int 0))), (.sub (.var 5) (.cst (.int 1)))])] [], .ite (.cmp .Eq (.var 3) (.cst (.int 1))) [.ret (.tup [(.cst (.str "trait")), (.call f__law_of [(.var 0), (.var 2)] []), (.blt .tuple [(.comp .range1 [(.bin .Add (.cst (.int 1)) (.call f__law_draw [(.var 0), (.cst (.int 3))] []))] (.nm 6) [6] none (.call f__law_of [(.var 0), (.var 2)] []))])])] [], .ite (.cmp .Eq (.var 3) (.cst (.int 2))) [.ret (.tup [(.cst (.str "same")), (.sub (.var 2) (.cst (.int 0))), (.sub (.var 2) (.cst (.int 1)))])] [], .ite (.cmp .Eq (.var 3) (.cst (.int 3))) [.ret (.tup [(.cst (.str "near")), (.call f__law_draw [(.var 0), (.cst (.int 4))] []), (.sub (.var 2) (.cst (.int 0))), (.sub (.var 2) (.cst (.int 1)))])] [], .ite (.cmp .Lt (.var 3) (.cst (.int 6))) [.ret (.tup [(.call f__law_of [(.var 0), (.lst [(.cst (.str "part")), (.cst (.str "wave"))])] []), (.call f__law_of [(.var 0), (.var 2)] []), (.sub (.var 2) (.cst (.int 1)))])] [], .ite (.cmp .Eq (.var 3) (.cst (.int 6))) [.ret (.tup [(.cst (.str "sum")), (.call f__law_of [(.var 0), (.var 2)] []), (.call f__law_free [(.var 0), (.bin .Sub (.var 1) (.cst (.int 1)))] [])])] [], .ite (.cmp .Eq (.var 3) (.cst (.int 7))) [.ret (.tup [(.cst (.str "power")), (.call f__law_free [(.var 0), (.bin .Sub (.var 1) (.cst (.int 1)))] []), (.call f__law_draw [(.var 0), (.cst (.int 5))] [])])] [], .asg (.nm 4) (.bin .Add (.cst (.int 2)) (.call f__law_draw [(.var 0), (.cst (.int 3))] [])), .ret (.bin .Add (.tup [(.call f__law_of [(.var 0), (.lst [(.cst (.str "plus")), (.cst (.str "times"))])] [])]) (.blt .tuple [(.comp .range1 [(.var 4)] (.nm 6) [6] none (.call f__law_free [(.var 0), (.bin .Sub (.var 1) (.cst (.int 1)))] []))]))]
def c17 : List Sc := c__law_free 6 7 8 12 17
def n17 : List Str := ["_law_src", "_law_deep", "_law_names", "_law_way", "_law_many", "_law_share_here", "_law_k"]
def i17 : FI := ⟨"_law_free", ["_law_src", "_law_deep"], [(2, [])], []⟩
def c_law (f_width_of : Nat) (f_degree_of : Nat) (f_products_of : Nat) (f__law_source : Nat) (f__law_draw : Nat) (f__law_same : Nat) (f__law_wide : Nat) (f__law_degree : Nat) (f__law_products : Nat) (f__law_free : Nat) : List Sc := [.asg (.nm 1) (.call f__law_source [(.var 0)] []), .for .range1 [(.cst (.int 8))] (.nm 2) [.asg (.nm 3) (.call f__law_free [(.var 1), (.cst (.int 3))] []), .ite (.cmp .Eq (.call f__law_draw [(.var 1), (.cst (.int 3))] []) (.cst (.int 0))) [.asg (.nm 3) (.tup [(.cst (.str "times")), (.var 3), (.tup [(.cst (.str "sum")), (.cst (.str "i")), (.tup [(.cst (.str "power")), (.var 3), (.call f__law_draw [(.var 1), (.cst (.int 5))] [])])])])] [], .asg (.nm 4) (.lst [(.call f_width_of [(.var 3)] []), (.call f_degree_of [(.var 3)] []), (.call f_products_of [(.var 3)] [])]), .ite (.not (.call f__law_same [(.var 4), (.lst [(.call f__law_wide [(.var 3)] []), (.call f__law_degree [(.var 3)] []), (.call f__law_products [(.var 3)] [])])] [])) [.ret (.cst (.bl false))] [], .ite (.not (.call f__law_same [(.lst [(.callK f_width_of [] [(.var 3)] [.inl 0]), (.callK f_degree_of [] [(.var 3)] [.inl 0]), (.callK f_products_of [] [(.var 3)] [.inl 0])]), (.var 4)] [])) [.ret (.cst (.bl false))] []], .ret (.cst (.bl true))]
def c18 : List Sc := c_law 2 3 4 5 6 9 14 15 16 17
def n18 : List Str := ["_law_script", "_law_src", "_law_turn", "_law_program7", "_law_told"]
def i18 : FI := ⟨"law", ["_law_script"], [(1, [])], []⟩
def T : Tb := ⟨[i0, i1, i2, i3, i4, i5, i6, i7, i8, i9, i10, i11, i12, i13, i14, i15, i16, i17, i18], ["abs", "all", "bool", "int", "isinstance", "len", "list", "max", "range", "str", "sum", "tuple", "zip"], []⟩
def ft : List Fn := [⟨1, 2, c0⟩, ⟨2, 3, c1⟩, ⟨1, 3, c2⟩, ⟨1, 2, c3⟩, ⟨1, 5, c4⟩, ⟨1, 1, c5⟩, ⟨2, 5, c6⟩, ⟨2, 2, c7⟩, ⟨2, 3, c8⟩, ⟨2, 4, c9⟩, ⟨2, 2, c10⟩, ⟨2, 4, c11⟩, ⟨2, 3, c12⟩, ⟨1, 2, c13⟩, ⟨1, 3, c14⟩, ⟨1, 3, c15⟩, ⟨1, 5, c16⟩, ⟨2, 7, c17⟩, ⟨1, 5, c18⟩]

theorem k0 : chkSs 200 ⟨T, n0, defScope (top 1), none⟩ (defBody (top 1)) c0 = true := by decide +kernel
theorem s0 : FnScope n0 ["program"] (defScope (top 1)) := ⟨rfl, rfl, rfl, by decide +kernel, rfl, by decide +kernel, by decide +kernel⟩
theorem k1 : chkSs 200 ⟨T, n1, defScope (top 2), none⟩ (defBody (top 2)) c1 = true := by decide +kernel
theorem s1 : FnScope n1 ["program", "numbers"] (defScope (top 2)) := ⟨rfl, rfl, rfl, by decide +kernel, rfl, by decide +kernel, by decide +kernel⟩
theorem k2 : chkSs 200 ⟨T, n2, defScope (top 3), none⟩ (defBody (top 3)) c2 = true := by decide +kernel
theorem s2 : FnScope n2 ["program"] (defScope (top 3)) := ⟨rfl, rfl, rfl, by decide +kernel, rfl, by decide +kernel, by decide +kernel⟩
theorem k3 : chkSs 200 ⟨T, n3, defScope (top 4), none⟩ (defBody (top 4)) c3 = true := by decide +kernel
theorem s3 : FnScope n3 ["program"] (defScope (top 4)) := ⟨rfl, rfl, rfl, by decide +kernel, rfl, by decide +kernel, by decide +kernel⟩
theorem k4 : chkSs 200 ⟨T, n4, defScope (top 5), none⟩ (defBody (top 5)) c4 = true := by decide +kernel
theorem s4 : FnScope n4 ["program"] (defScope (top 5)) := ⟨rfl, rfl, rfl, by decide +kernel, rfl, by decide +kernel, by decide +kernel⟩
theorem k5 : chkSs 200 ⟨T, n5, defScope (top 7), none⟩ (defBody (top 7)) c5 = true := by decide +kernel
theorem s5 : FnScope n5 ["_law_script"] (defScope (top 7)) := ⟨rfl, rfl, rfl, by decide +kernel, rfl, by decide +kernel, by decide +kernel⟩
theorem k6 : chkSs 200 ⟨T, n6, defScope (top 8), none⟩ (defBody (top 8)) c6 = true := by decide +kernel
theorem s6 : FnScope n6 ["_law_src", "_law_many7"] (defScope (top 8)) := ⟨rfl, rfl, rfl, by decide +kernel, rfl, by decide +kernel, by decide +kernel⟩
theorem k7 : chkSs 200 ⟨T, n7, defScope (top 9), none⟩ (defBody (top 9)) c7 = true := by decide +kernel
theorem s7 : FnScope n7 ["_law_src", "_law_things7"] (defScope (top 9)) := ⟨rfl, rfl, rfl, by decide +kernel, rfl, by decide +kernel, by decide +kernel⟩
theorem k8 : chkSs 200 ⟨T, n8, defScope (top 10), none⟩ (defBody (top 10)) c8 = true := by decide +kernel
theorem s8 : FnScope n8 ["_law_src", "_law_most"] (defScope (top 10)) := ⟨rfl, rfl, rfl, by decide +kernel, rfl, by decide +kernel, by decide +kernel⟩
theorem k9 : chkSs 200 ⟨T, n9, defScope (top 11), none⟩ (defBody (top 11)) c9 = true := by decide +kernel
theorem s9 : FnScope n9 ["_law_found", "_law_due"] (defScope (top 11)) := ⟨rfl, rfl, rfl, by decide +kernel, rfl, by decide +kernel, by decide +kernel⟩
theorem k10 : chkSs 200 ⟨T, n10, defScope (top 12), none⟩ (defBody (top 12)) c10 = true := by decide +kernel
theorem s10 : FnScope n10 ["_law_one", "_law_two"] (defScope (top 12)) := ⟨rfl, rfl, rfl, by decide +kernel, rfl, by decide +kernel, by decide +kernel⟩
theorem k11 : chkSs 200 ⟨T, n11, defScope (top 13), none⟩ (defBody (top 13)) c11 = true := by decide +kernel
theorem s11 : FnScope n11 ["_law_high7", "_law_under"] (defScope (top 13)) := ⟨rfl, rfl, rfl, by decide +kernel, rfl, by decide +kernel, by decide +kernel⟩
theorem k12 : chkSs 200 ⟨T, n12, defScope (top 14), none⟩ (defBody (top 14)) c12 = true := by decide +kernel
theorem s12 : FnScope n12 ["_law_src", "_law_most"] (defScope (top 14)) := ⟨rfl, rfl, rfl, by decide +kernel, rfl, by decide +kernel, by decide +kernel⟩
theorem k13 : chkSs 200 ⟨T, n13, defScope (top 15), none⟩ (defBody (top 15)) c13 = true := by decide +kernel
theorem s13 : FnScope n13 ["_law_program"] (defScope (top 15)) := ⟨rfl, rfl, rfl, by decide +kernel, rfl, by decide +kernel, by decide +kernel⟩
theorem k14 : chkSs 200 ⟨T, n14, defScope (top 16), none⟩ (defBody (top 16)) c14 = true := by decide +kernel
theorem s14 : FnScope n14 ["_law_program"] (defScope (top 16)) := ⟨rfl, rfl, rfl, by decide +kernel, rfl, by decide +kernel, by decide +kernel⟩
theorem k15 : chkSs 200 ⟨T, n15, defScope (top 17), none⟩ (defBody (top 17)) c15 = true := by decide +kernel
theorem s15 : FnScope n15 ["_law_program"] (defScope (top 17)) := ⟨rfl, rfl, rfl, by decide +kernel, rfl, by decide +kernel, by decide +kernel⟩
theorem k16 : chkSs 200 ⟨T, n16, defScope (top 18), none⟩ (defBody (top 18)) c16 = true := by decide +kernel
theorem s16 : FnScope n16 ["_law_program"] (defScope (top 18)) := ⟨rfl, rfl, rfl, by decide +kernel, rfl, by decide +kernel, by decide +kernel⟩
theorem k17 : chkSs 200 ⟨T, n17, defScope (top 19), none⟩ (defBody (top 19)) c17 = true := by decide +kernel
theorem s17 : FnScope n17 ["_law_src", "_law_deep"] (defScope (top 19)) := ⟨rfl, rfl, rfl, by decide +kernel, rfl, by decide +kernel, by decide +kernel⟩
theorem k18 : chkSs 200 ⟨T, n18, defScope (top 20), none⟩ (defBody (top 20)) c18 = true := by decide +kernel
theorem s18 : FnScope n18 ["_law_script"] (defScope (top 20)) := ⟨rfl, rfl, rfl, by decide +kernel, rfl, by decide +kernel, by decide +kernel⟩
end K11

namespace K11
open PySem PySem.Spec PyProof.Rows L2 Fw
local macro_rules | `(tactic| walk_at "v") => `(tactic| (repeat (first | ((with_reducible apply Fw.v_var); next => exact rfl) | with_reducible refine Fw.v_bin ?_ | with_reducible refine Fw.v_maxD ?_ | with_reducible refine Fw.v_sub ?_ | with_reducible refine Fw.v_cst ?_ | with_reducible refine Fw.v_cons ?_ | with_reducible refine Fw.v_nil ?_ | with_reducible refine Fw.v_cmp ?_ | with_reducible refine Fw.v_blt ?_ | with_reducible refine Fw.v_neg ?_ | with_reducible refine Fw.v_call ?_ | with_reducible refine Fw.v_callK ?_ | with_reducible refine Fw.v_not ?_ | with_reducible refine Fw.v_chain ?_ | with_reducible refine Fw.v_andT ?_ | with_reducible refine Fw.v_orT ?_ | with_reducible refine Fw.v_and ?_ | with_reducible refine Fw.v_or ?_ | with_reducible refine Fw.v_ite ?_ | with_reducible refine Fw.v_tup ?_ | with_reducible refine Fw.v_lst ?_ | with_reducible refine Fw.v_lstM ?_ | with_reducible refine Fw.v_slcH ?_ | with_reducible refine Fw.v_slcL ?_ | with_reducible refine Fw.v_isiT ?_ | with_reducible refine Fw.v_fstr ?_ | with_reducible refine Fw.v_fmt ?_ | with_reducible refine Fw.v_comp0 ?_ | with_reducible refine Fw.v_comp1 ?_ | with_reducible refine Fw.s_t0 ?_ | with_reducible refine Fw.s_t1 ?_ | with_reducible refine Fw.s_t2 ?_ | with_reducible refine Fw.s_l0 ?_ | with_reducible refine Fw.s_l1 ?_ | with_reducible refine Fw.s_l2 ?_ | with_reducible refine Fw.s_not ?_ | with_reducible refine Fw.s_neg ?_ | with_reducible refine Fw.o_add ?_ | with_reducible refine Fw.o_sub ?_ | with_reducible refine Fw.q_lt ?_ | with_reducible refine Fw.q_le ?_ | with_reducible refine Fw.q_gt ?_ | with_reducible refine Fw.q_ge ?_ | with_reducible refine Fw.q_eq ?_ | with_reducible refine Fw.q_ne ?_ | with_reducible refine Fw.q_eqB ?_ | with_reducible refine Fw.q_neB ?_ | with_reducible refine Fw.q_isN ?_ | with_reducible refine Fw.q_notN ?_ | with_reducible refine Fw.sat_cons ?_ | with_reducible refine Fw.w_asg ?_ | with_reducible refine Fw.w_par ?_ | with_reducible refine Fw.w_setI ?_ | with_reducible refine Fw.w_exp ?_ | with_reducible refine Fw.w_ret ?_ | with_reducible refine Fw.w_ite ?_ | with_reducible refine Fw.w_for ?_ | with_reducible refine Fw.w_while ?_ | with_reducible refine Fw.v_tst ?_ | ((with_reducible apply Fw.q_inT); next => exact rfl) | ((with_reducible apply Fw.s_sub); next => exact rfl) | ((with_reducible apply Fw.s_blt); next => exact rfl) | ((with_reducible apply Fw.s_tst); next => exact rfl) | ((with_reducible apply Fw.s_isi); next => exact rfl) | ((with_reducible apply Fw.s_asm); next => exact rfl) | ((with_reducible apply Fw.s_bnd); next => exact rfl) | ((with_reducible apply Fw.s_wlk); next => exact rfl) | ((with_reducible apply Fw.s_slcH); next => exact rfl) | ((with_reducible apply Fw.s_slcL); next => exact rfl) | ((with_reducible apply Fw.s_dsp); (next => exact rfl); (next => exact rfl)) | ((with_reducible apply Fw.s_set); (next => exact rfl); (next => exact rfl)) | ((with_reducible apply Fw.q_eqS); (next => first | exact ofStr_ok _ | assumption); (next => first | exact ofStr_ok _ | assumption)) | ((with_reducible refine Fw.o_mul ?_ ?_); next => first | assumption | exact mul_c (by omega) (by omega) | exact mul_cL (by omega) (by omega)) | ((with_reducible refine Fw.o_mod ?_ ?_); next => first | assumption | omega) | ((with_reducible refine Fw.o_div ?_ ?_); next => first | assumption | decide) | ((with_reducible refine Fw.o_pow ?_ ?_); next => decide))))
local macro_rules | `(tactic| walk_at "y") => `(tactic| (refine br (fun _ => ?_) (fun h => absurd h (by first | exact ft_no | exact tf_no | decide | simp)); walk_at "v"))
local macro_rules | `(tactic| walk_at "n") => `(tactic| (refine br (fun h => absurd h (by first | exact ft_no | exact tf_no | decide | simp)) (fun _ => ?_); (try refine sat_nil ?_); walk_at "v"))
/-- the source of draws as it stands in the store -/
def srcO (cs : List Int) (at_ : Nat) (big seed cnt : Int) : MO := .lst [.lst (cs.map D.int), .int at_, .int big, .int seed, .int cnt]
def Src (S : Store) : Prop := ∃ (cs : List Int) (at_ : Nat) (big seed cnt : Int), S = [srcO cs at_ big seed cnt] ∧ 0 ≤ big ∧ 0 ≤ seed ∧ seed < 2147483629 ∧ 0 ≤ cnt
theorem Src.len {S : Store} (h : Src S) : S.length = 1 := by
  obtain ⟨_, _, _, _, _, rfl, _⟩ := h
  rfl
section
variable {ft : List Fn} {wf k : Nat} {S : Store}
theorem at_sub {cs : List Int} {i : Nat} {S : Store} (h : i < cs.length) : subF (.p (.lst (cs.map D.int))) (.p (.int (i : Int))) S = some (.p (.int cs[i])) := by
  show (atI (cs.map D.int) (i : Int)).map A.p = _
  rw [atI_nat (j := i) (v := D.int cs[i]) (by rw [List.getElem?_map, List.getElem?_eq_getElem h]; rfl)]
  rfl
theorem at_ints {cs : List Int} {i : Nat} (h : i < cs.length) : atI (cs.map D.int) (i : Int) = some (.int cs[i]) := by
  apply atI_nat
  rw [List.getElem?_map, List.getElem?_eq_getElem h]
  rfl
def MidD (m : Int) (ρ : Fw.Env) (S : Store) : Prop := ∃ y, ρ = [some (.m 0), some (.p (.int m)), none, y, none] ∧ Src S
theorem draw_tail {cl : Nat → List A → Store → Rz A} {m : Int} (h0 : 0 < m) (h9 : divOk m = true) {ρ : Fw.Env} (h : MidD m ρ S) : (Fw.run cl wf (c__law_draw.drop 1) ρ S).sat (fun _ _ => False) fun x S' => S'.length = 1 ∧ Src S' ∧ ∃ d : Int, x = .p (.int d) ∧ 0 ≤ d ∧ d < m := by
  obtain ⟨y, rfl, cs, at_, big, seed, cnt, rfl, hb, hs, hs2, hc⟩ := h
  unfold c__law_draw srcO
  dsimp only [List.drop]
  have hm : m ≠ 0 := by omega
  walk_at "v"
  refine br (fun h => ?_) (fun h => ?_)
  · walk_at "v"
    exact ⟨rfl, ⟨cs, at_, _, seed, cnt, rfl, Int.fdiv_nonneg hb (by omega), hs, hs2, hc⟩, _, rfl, Int.fmod_nonneg_of_pos _ h0, Int.fmod_lt_of_pos _ h0⟩
  · refine sat_nil ?_
    walk_at "v"
    exact ⟨rfl, ⟨cs, at_, big, _, _, rfl, hb, Int.fmod_nonneg_of_pos _ (by decide), Int.fmod_lt_of_pos _ (by decide), by omega⟩, _, rfl, Int.fmod_nonneg_of_pos _ h0, Int.fmod_lt_of_pos _ h0⟩
theorem draw_ok {f : Nat} (hf : ft[f]? = some ⟨2, 5, c__law_draw⟩) (hS : Src S) {m : Int} (h0 : 0 < m) (h9 : divOk m = true) : (callI ft wf (k + 1) f [.m 0, .p (.int m)] S).sat fun x S' => Src S' ∧ ∃ d : Int, x = .p (.int d) ∧ 0 ≤ d ∧ d < m := by
  obtain ⟨cs, at_, big, seed, cnt, rfl, hb, hs, hs2, hc⟩ := hS
  refine sat_call hf rfl ?_
  show (Fw.run _ wf c__law_draw [some (.m 0), some (.p (.int m)), none, none, none] _).sat _ _
  unfold c__law_draw
  refine sat_cons (Rs.sat_mono (P := MidD m) (R := fun _ _ => False) ?_ (fun ρ S h => draw_tail h0 h9 h) (fun _ _ h => h.elim))
  unfold srcO
  walk_at "v"
  refine br (fun h => ?_) (fun h => ?_)
  · walk_at "v"
    refine br (fun h => ?_) (fun h => ?_)
    · have hlt : at_ < cs.length := by
        have := of_decide_eq_true h
        rw [List.length_map] at this
        omega
      refine sat_cons (w_asg ?_)
      walk_at "v"
      refine s_sub (at_sub hlt) ?_
      walk_at "v"
      refine br (fun h => ?_) (fun h => ?_)
      · walk_at "v"
        refine sat_nil (sat_nil ⟨_, rfl, cs, at_ + 1, _, seed, cnt, rfl, ?_, hs, hs2, hc⟩)
        have := of_decide_eq_true h
        exact Int.le_trans (by decide) this
      · walk_at "v"
        exact sat_nil (sat_nil ⟨_, rfl, cs, at_ + 1, big, _, cnt, rfl, hb, Int.fmod_nonneg_of_pos _ (by decide), Int.fmod_lt_of_pos _ (by decide), hc⟩)
    · exact sat_nil ⟨_, rfl, cs, at_, big, seed, cnt, rfl, hb, hs, hs2, hc⟩
  · walk_at "v"
    exact br (fun h => by cases h) (fun h => sat_nil ⟨_, rfl, cs, at_, big, seed, cnt, rfl, hb, hs, hs2, hc⟩)
/-- something of the list -/
theorem of_ok {f g : Nat} (hf : ft[f]? = some ⟨2, 5, c__law_draw⟩) (hg : ft[g]? = some ⟨2, 2, c__law_of f⟩) (hS : Src S) {ds : List D} (h0 : 0 < ds.length) (h9 : ds.length < 1000) : (callI ft wf (k + 2) g [.m 0, .p (.lst ds)] S).sat fun x S' => Src S' ∧ ∃ d ∈ ds, x = .p d := by
  refine sat_call hg rfl ?_
  show (Fw.run _ wf (c__law_of f) [some (.m 0), some (.p (.lst ds))] _).sat _ _
  unfold c__law_of
  walk_at "v"
  refine Rz.sat_mono (draw_ok hf hS (by omega) (div_ok (b := 10) (by omega) (by rw [Int.natAbs_natCast]; omega) (by decide) (by decide))) ?_
  rintro x S' ⟨hS', d, rfl, hd0, hd1⟩
  obtain ⟨n, rfl⟩ := Int.eq_ofNat_of_zero_le hd0
  have hn : n < ds.length := by omega
  refine s_sub (z := .p ds[n]) ?_ ⟨by rw [hS.len, hS'.len], hS', _, List.getElem_mem hn, rfl⟩
  show (atI ds (n : Int)).map A.p = _
  rw [atI_nat (j := n) (List.getElem?_eq_getElem hn)]
  rfl
end
end K11

namespace K11
open PySem PySem.Spec PyProof.Rows L2 Fw
local macro_rules | `(tactic| walk_at "v") => `(tactic| (repeat (first | ((with_reducible apply Fw.v_var); next => exact rfl) | with_reducible refine Fw.v_bin ?_ | with_reducible refine Fw.v_maxD ?_ | with_reducible refine Fw.v_sub ?_ | with_reducible refine Fw.v_cst ?_ | with_reducible refine Fw.v_cons ?_ | with_reducible refine Fw.v_nil ?_ | with_reducible refine Fw.v_cmp ?_ | with_reducible refine Fw.v_blt ?_ | with_reducible refine Fw.v_neg ?_ | with_reducible refine Fw.v_call ?_ | with_reducible refine Fw.v_callK ?_ | with_reducible refine Fw.v_not ?_ | with_reducible refine Fw.v_chain ?_ | with_reducible refine Fw.v_andT ?_ | with_reducible refine Fw.v_orT ?_ | with_reducible refine Fw.v_and ?_ | with_reducible refine Fw.v_or ?_ | with_reducible refine Fw.v_ite ?_ | with_reducible refine Fw.v_tup ?_ | with_reducible refine Fw.v_lst ?_ | with_reducible refine Fw.v_lstM ?_ | with_reducible refine Fw.v_slcH ?_ | with_reducible refine Fw.v_slcL ?_ | with_reducible refine Fw.v_isiT ?_ | with_reducible refine Fw.v_fstr ?_ | with_reducible refine Fw.v_fmt ?_ | with_reducible refine Fw.v_comp0 ?_ | with_reducible refine Fw.v_comp1 ?_ | with_reducible refine Fw.s_t0 ?_ | with_reducible refine Fw.s_t1 ?_ | with_reducible refine Fw.s_t2 ?_ | with_reducible refine Fw.s_l0 ?_ | with_reducible refine Fw.s_l1 ?_ | with_reducible refine Fw.s_l2 ?_ | with_reducible refine Fw.s_not ?_ | with_reducible refine Fw.s_neg ?_ | with_reducible refine Fw.o_add ?_ | with_reducible refine Fw.o_sub ?_ | with_reducible refine Fw.q_lt ?_ | with_reducible refine Fw.q_le ?_ | with_reducible refine Fw.q_gt ?_ | with_reducible refine Fw.q_ge ?_ | with_reducible refine Fw.q_eq ?_ | with_reducible refine Fw.q_ne ?_ | with_reducible refine Fw.q_eqB ?_ | with_reducible refine Fw.q_neB ?_ | with_reducible refine Fw.q_isN ?_ | with_reducible refine Fw.q_notN ?_ | with_reducible refine Fw.sat_cons ?_ | with_reducible refine Fw.w_asg ?_ | with_reducible refine Fw.w_par ?_ | with_reducible refine Fw.w_setI ?_ | with_reducible refine Fw.w_exp ?_ | with_reducible refine Fw.w_ret ?_ | with_reducible refine Fw.w_ite ?_ | with_reducible refine Fw.w_for ?_ | with_reducible refine Fw.w_while ?_ | with_reducible refine Fw.v_tst ?_ | ((with_reducible apply Fw.q_inT); next => exact rfl) | ((with_reducible apply Fw.s_sub); next => exact rfl) | ((with_reducible apply Fw.s_blt); next => exact rfl) | ((with_reducible apply Fw.s_tst); next => exact rfl) | ((with_reducible apply Fw.s_isi); next => exact rfl) | ((with_reducible apply Fw.s_asm); next => exact rfl) | ((with_reducible apply Fw.s_bnd); next => exact rfl) | ((with_reducible apply Fw.s_wlk); next => exact rfl) | ((with_reducible apply Fw.s_slcH); next => exact rfl) | ((with_reducible apply Fw.s_slcL); next => exact rfl) | ((with_reducible apply Fw.s_dsp); (next => exact rfl); (next => exact rfl)) | ((with_reducible apply Fw.s_set); (next => exact rfl); (next => exact rfl)) | ((with_reducible apply Fw.q_eqS); (next => first | exact ofStr_ok _ | assumption); (next => first | exact ofStr_ok _ | assumption)) | ((with_reducible refine Fw.o_mul ?_ ?_); next => first | assumption | exact mul_c (by omega) (by omega) | exact mul_cL (by omega) (by omega)) | ((with_reducible refine Fw.o_mod ?_ ?_); next => first | assumption | omega) | ((with_reducible refine Fw.o_div ?_ ?_); next => first | assumption | decide) | ((with_reducible refine Fw.o_pow ?_ ?_); next => decide))))
local macro_rules | `(tactic| walk_at "y") => `(tactic| (refine br (fun _ => ?_) (fun h => absurd h (by first | exact ft_no | exact tf_no | decide | simp)); walk_at "v"))
local macro_rules | `(tactic| walk_at "n") => `(tactic| (refine br (fun h => absurd h (by first | exact ft_no | exact tf_no | decide | simp)) (fun _ => ?_); (try refine sat_nil ?_); walk_at "v"))
theorem sat_val {α : Type} {r : Rz α} {v : α} {S : Store} (h : r.sat fun x S' => x = v ∧ S' = S) : r = .ok v S := by
  obtain ⟨a, S', rfl, rfl, rfl⟩ := h
  rfl
/-- a def that gives v and leaves the store -/
theorem call_val {ft : List Fn} {wf k f : Nat} {xs : List A} {S : Store} {i : Fn} {v : A} (h : ft[f]? = some i) (hl : xs.length = i.np) (hr : (Fw.run (callI ft wf k) wf i.code (xs.map some ++ List.replicate (i.nn - i.np) none) S).sat (fun _ _ => False) fun x S' => x = v ∧ S' = S) :
    callI ft wf (k + 1) f xs S = .ok v S :=
  sat_val (sat_call h hl (Rs.sat_mono hr (fun _ _ z => z) fun x S' z => ⟨by rw [z.2], z⟩))
abbrev gI (a b : Int) : Int := (Int.gcd a b : Int)
theorem abs_nat (a : Int) : (if a < 0 then -a else a) = (a.natAbs : Int) := by
  split <;> omega
section
variable {ft : List Fn} {wf k : Nat} {S : Store}
theorem common_ok {f : Nat} (hf : ft[f]? = some ⟨2, 2, c__law_common⟩) {a b : Int} (hw : b.natAbs < wf) : callI ft wf (k + 1) f [.p (.int a), .p (.int b)] S = .ok (.p (.int (gI a b))) S := by
  refine call_val hf rfl ?_
  show (Fw.run _ wf c__law_common [some (.p (.int a)), some (.p (.int b))] _).sat _ _
  unfold c__law_common
  walk_at "v"
  refine while_sat (fun m ρ S' => ∃ x y : Nat, ρ = [some (.p (.int x)), some (.p (.int y))] ∧ S' = S ∧ Nat.gcd x y = Int.gcd a b ∧ m = y) _ wf b.natAbs _ _ hw ⟨a.natAbs, b.natAbs, by rw [abs_nat, abs_nat]; rfl, rfl, (Int.gcd_eq_natAbs_gcd_natAbs a b).symm, rfl⟩ ?_
  rintro m ρ S' ⟨x, y, rfl, rfl, hg, rfl⟩
  walk_at "v"
  refine br (fun h => ?_) (fun h => ?_)
  · have hy : (m : Int) ≠ 0 := by simpa using h
    walk_at "v"
    refine sat_nil ⟨x % m, Nat.mod_lt _ (by omega), m, x % m, ?_, rfl, ?_, rfl⟩
    · rw [Int.ofNat_fmod]
      rfl
    · rw [Nat.gcd_comm, ← Nat.gcd_rec, Nat.gcd_comm, hg]
  · have hy : m = 0 := by simpa using h
    subst hy
    walk_at "v"
    refine ⟨?_, rfl⟩
    rw [gI, ← hg, Nat.gcd_zero_right]
/-! ### lowest terms -/
def lowT (a b : Int) : Int := if 0 < b then a.fdiv (gI a b) else (-a).fdiv (gI a b)
def lowB (a b : Int) : Int := if 0 < b then b.fdiv (gI a b) else (-b).fdiv (gI a b)
abbrev lowD (a b : Int) : D := .tup [.int (lowT a b), .int (lowB a b)]
theorem g_ne {a b : Int} (h : b ≠ 0) : gI a b ≠ 0 := fun z => h (Int.gcd_eq_zero_iff.mp (Int.ofNat_eq_zero.mp z)).2
theorem g_pos {a b : Int} (h : b ≠ 0) : 0 < Int.gcd a b := Nat.pos_of_ne_zero fun z => g_ne (a := a) h (by simp [gI, z])
theorem g_le {a b : Int} (h : b ≠ 0) : Int.gcd a b ≤ b.natAbs := by
  have := Int.gcd_dvd_right a b
  have := Int.natAbs_dvd_natAbs.mpr this
  exact Nat.le_of_dvd (by omega) (by simpa using this)
theorem g_div {a b : Int} {n : Nat} (h : b ≠ 0) (hb : b.natAbs < 2 ^ n) (h0 : 0 < n) (h9 : n ≤ 9000) : divOk (gI a b) = true :=
  div_ok (b := n) (g_ne h) (by have := g_le (a := a) h; simp only [gI, Int.natAbs_natCast]; omega) h0 h9
theorem lowT_le {a b : Int} : (lowT a b).natAbs ≤ a.natAbs := by
  unfold lowT
  split
  · exact Int.natAbs_fdiv_le_natAbs _ _
  · exact Nat.le_trans (Int.natAbs_fdiv_le_natAbs _ _) (by omega)
theorem lowB_le {a b : Int} : (lowB a b).natAbs ≤ b.natAbs := by
  unfold lowB
  split
  · exact Int.natAbs_fdiv_le_natAbs _ _
  · exact Nat.le_trans (Int.natAbs_fdiv_le_natAbs _ _) (by omega)
theorem lowB_pos {a b : Int} (h : b ≠ 0) : 0 < lowB a b := by
  unfold lowB
  have hd := Int.gcd_dvd_right a b
  have hp : (0 : Int) ≤ gI a b := by simp only [gI]; omega
  split
  · rw [Int.fdiv_eq_ediv_of_nonneg _ hp]
    exact Int.ediv_pos_of_pos_of_dvd (by assumption) hp hd
  · rw [Int.fdiv_eq_ediv_of_nonneg _ hp]
    exact Int.ediv_pos_of_pos_of_dvd (by omega) hp (Int.dvd_neg.mpr hd)
theorem low_gcd {a b : Int} (h : b ≠ 0) : Int.gcd (lowT a b) (lowB a b) = 1 := by
  unfold lowT lowB
  have hp : (0 : Int) ≤ gI a b := by simp only [gI]; omega
  by_cases hb : 0 < b
  · rw [if_pos hb, if_pos hb, Int.fdiv_eq_ediv_of_nonneg _ hp, Int.fdiv_eq_ediv_of_nonneg _ hp]
    exact Int.gcd_ediv_gcd_ediv_gcd (g_pos h)
  · rw [if_neg hb, if_neg hb, Int.fdiv_eq_ediv_of_nonneg _ hp, Int.fdiv_eq_ediv_of_nonneg _ hp]
    have := Int.gcd_ediv_gcd_ediv_gcd (i := -a) (j := -b) (g_pos (by omega))
    rw [Int.gcd_neg, Int.neg_gcd] at this
    exact this
theorem low_ok {f g : Nat} (hg : ft[g]? = some ⟨2, 2, c__law_common⟩) (hf : ft[f]? = some ⟨2, 4, c__law_low g⟩) {a b : Int} (hw : b.natAbs < wf) (h0 : b ≠ 0) (hd : divOk (gI a b) = true) : callI ft wf (k + 2) f [.p (.int a), .p (.int b)] S = .ok (.p (lowD a b)) S := by
  refine call_val hf rfl ?_
  show (Fw.run _ wf (c__law_low g) [some (.p (.int a)), some (.p (.int b)), none, none] _).sat _ _
  unfold c__law_low
  walk_at "v"
  refine Rz.sat_eq (common_ok hg hw) ?_
  walk_at "v"
  refine br (fun h => ?_) (fun h => ?_)
  · have h := of_decide_eq_true h
    walk_at "v"
    refine ⟨?_, rfl⟩
    rw [lowD, lowT, lowB, if_pos h, if_pos h, Int.one_mul, Int.one_mul]
  · have h := of_decide_eq_false h
    walk_at "v"
    refine ⟨?_, rfl⟩
    rw [lowD, lowT, lowB, if_neg h, if_neg h, Int.neg_one_mul, Int.neg_one_mul]
theorem low_one {a : Int} : lowD a 1 = .tup [.int a, .int 1] := by
  rw [lowD, lowT, lowB, if_pos (by decide), if_pos (by decide), gI, Int.gcd_one_right]
  simp [Int.fdiv_one]
end
end K11

namespace K11
open PySem PySem.Spec PyProof.Rows L2 Fw
local macro_rules | `(tactic| walk_at "v") => `(tactic| (repeat (first | ((with_reducible apply Fw.v_var); next => exact rfl) | with_reducible refine Fw.v_bin ?_ | with_reducible refine Fw.v_maxD ?_ | with_reducible refine Fw.v_sub ?_ | with_reducible refine Fw.v_cst ?_ | with_reducible refine Fw.v_cons ?_ | with_reducible refine Fw.v_nil ?_ | with_reducible refine Fw.v_cmp ?_ | with_reducible refine Fw.v_blt ?_ | with_reducible refine Fw.v_neg ?_ | with_reducible refine Fw.v_call ?_ | with_reducible refine Fw.v_callK ?_ | with_reducible refine Fw.v_not ?_ | with_reducible refine Fw.v_chain ?_ | with_reducible refine Fw.v_andT ?_ | with_reducible refine Fw.v_orT ?_ | with_reducible refine Fw.v_and ?_ | with_reducible refine Fw.v_or ?_ | with_reducible refine Fw.v_ite ?_ | with_reducible refine Fw.v_tup ?_ | with_reducible refine Fw.v_lst ?_ | with_reducible refine Fw.v_lstM ?_ | with_reducible refine Fw.v_slcH ?_ | with_reducible refine Fw.v_slcL ?_ | with_reducible refine Fw.v_isiT ?_ | with_reducible refine Fw.v_fstr ?_ | with_reducible refine Fw.v_fmt ?_ | with_reducible refine Fw.v_comp0 ?_ | with_reducible refine Fw.v_comp1 ?_ | with_reducible refine Fw.s_t0 ?_ | with_reducible refine Fw.s_t1 ?_ | with_reducible refine Fw.s_t2 ?_ | with_reducible refine Fw.s_l0 ?_ | with_reducible refine Fw.s_l1 ?_ | with_reducible refine Fw.s_l2 ?_ | with_reducible refine Fw.s_not ?_ | with_reducible refine Fw.s_neg ?_ | with_reducible refine Fw.o_add ?_ | with_reducible refine Fw.o_sub ?_ | with_reducible refine Fw.q_lt ?_ | with_reducible refine Fw.q_le ?_ | with_reducible refine Fw.q_gt ?_ | with_reducible refine Fw.q_ge ?_ | with_reducible refine Fw.q_eq ?_ | with_reducible refine Fw.q_ne ?_ | with_reducible refine Fw.q_eqB ?_ | with_reducible refine Fw.q_neB ?_ | with_reducible refine Fw.q_isN ?_ | with_reducible refine Fw.q_notN ?_ | with_reducible refine Fw.sat_cons ?_ | with_reducible refine Fw.w_asg ?_ | with_reducible refine Fw.w_par ?_ | with_reducible refine Fw.w_setI ?_ | with_reducible refine Fw.w_exp ?_ | with_reducible refine Fw.w_ret ?_ | with_reducible refine Fw.w_ite ?_ | with_reducible refine Fw.w_for ?_ | with_reducible refine Fw.w_while ?_ | with_reducible refine Fw.v_tst ?_ | ((with_reducible apply Fw.q_inT); next => exact rfl) | ((with_reducible apply Fw.s_sub); next => exact rfl) | ((with_reducible apply Fw.s_blt); next => exact rfl) | ((with_reducible apply Fw.s_tst); next => exact rfl) | ((with_reducible apply Fw.s_isi); next => exact rfl) | ((with_reducible apply Fw.s_asm); next => exact rfl) | ((with_reducible apply Fw.s_bnd); next => exact rfl) | ((with_reducible apply Fw.s_wlk); next => exact rfl) | ((with_reducible apply Fw.s_slcH); next => exact rfl) | ((with_reducible apply Fw.s_slcL); next => exact rfl) | ((with_reducible apply Fw.s_dsp); (next => exact rfl); (next => exact rfl)) | ((with_reducible apply Fw.s_set); (next => exact rfl); (next => exact rfl)) | ((with_reducible apply Fw.q_eqS); (next => first | exact ofStr_ok _ | assumption); (next => first | exact ofStr_ok _ | assumption)) | ((with_reducible refine Fw.o_mul ?_ ?_); next => first | assumption | exact mul_c (by omega) (by omega) | exact mul_cL (by omega) (by omega)) | ((with_reducible refine Fw.o_mod ?_ ?_); next => first | assumption | omega) | ((with_reducible refine Fw.o_div ?_ ?_); next => first | assumption | decide) | ((with_reducible refine Fw.o_pow ?_ ?_); next => decide))))
local macro_rules | `(tactic| walk_at "y") => `(tactic| (refine br (fun _ => ?_) (fun h => absurd h (by first | exact ft_no | exact tf_no | decide | simp)); walk_at "v"))
local macro_rules | `(tactic| walk_at "n") => `(tactic| (refine br (fun h => absurd h (by first | exact ft_no | exact tf_no | decide | simp)) (fun _ => ?_); (try refine sat_nil ?_); walk_at "v"))
/-! ### _law_same -/
def Pl : Nat → D → Prop
  | 0, _ => False
  | _ + 1, .non => True
  | _ + 1, .bl _ => True
  | _ + 1, .int _ => True
  | _ + 1, .str x => PyData.strOk x = true
  | n + 1, .tup ds => ds.length < LIM ∧ ∀ d ∈ ds, Pl n d
  | n + 1, .lst ds => ds.length < LIM ∧ ∀ d ∈ ds, Pl n d
  | _ + 1, _ => False
theorem bls_true {α : Type} : ∀ l : List α, D.bls (l.map fun _ => D.bl true) = some (l.map fun _ => true)
  | [] => rfl
  | _ :: l => by
    rw [List.map_cons, D.bls, bls_true l]
    rfl
theorem zip_self {α : Type} {f : D → D → α} {P : α → Prop} : ∀ ds : List D, (∀ d ∈ ds, P (f d d)) → ∀ x ∈ List.zipWith f ds ds, P x
  | [], _, x, hx => by cases hx
  | d :: ds, h, x, hx => by
    rw [List.zipWith_cons_cons, List.mem_cons] at hx
    rcases hx with rfl | hx
    · exact h d (List.mem_cons_self ..)
    · exact zip_self ds (fun d hd => h d (List.mem_cons_of_mem _ hd)) x hx
section
variable {ft : List Fn} {wf : Nat} {S : Store}
theorem zip_comp {k f : Nat} {ds : List D} {ρ : Fw.Env} (hl : ds.length < LIM) (hρ : ρ.length = 4) (ih : ∀ d ∈ ds, callI ft wf k f [.p d, .p d] S = .ok (.p (.bl true)) S) :
    (compL (fun x => bindT (.tp [.nm 2, .nm 3]) x (wipeE ρ [2, 3])) (fun _ S => .ok (.p (.bl true)) S) (ev (callI ft wf k) false (.call f [.var 2, .var 3] [])) (List.zipWith (fun a b => A.p (.tup [a, b])) ds ds) S).sat fun es S2 => es.length < LIM ∧ BltV .all [.p (.lst es)] S2 fun x S' => S' = S ∧ x = .p (.bl true) := by
  rw [comp_map (fun _ => D.bl true) (S := S)]
  · refine Rz.sat_ok ⟨by rw [List.length_map, List.length_zipWith]; omega, ?_⟩
    refine s_blt (z := .p (.bl true)) ?_ ⟨rfl, rfl⟩
    show (D.bls _).map _ = _
    rw [bls_true]
    simp
  · refine zip_self ds fun d hd => ?_
    match ρ, hρ with
    | [a, b, c, e], _ =>
      refine ⟨[a, b, some (.p d), some (.p d)], rfl, ?_⟩
      refine sat_val ?_
      walk_at "v"
      exact Rz.sat_eq (ih d hd) ⟨rfl, rfl⟩
theorem same_ok {f : Nat} (hf : ft[f]? = some ⟨2, 4, c__law_same f⟩) : ∀ (n : Nat) (d : D), Pl n d → ∀ k, n ≤ k → callI ft wf k f [.p d, .p d] S = .ok (.p (.bl true)) S := by
  intro n
  induction n with
  | zero => exact fun d h => h.elim
  | succ n ih =>
    intro d hd k hk
    obtain ⟨k, rfl⟩ : ∃ j, k = j + 1 := ⟨k - 1, by omega⟩
    refine call_val hf rfl ?_
    show (Fw.run _ wf (c__law_same f) [some (.p d), some (.p d), none, none] _).sat _ _
    unfold c__law_same
    cases d with
    | non =>
      walk_at "v"
      walk_at "n"
      walk_at "y"
      walk_at "y"
      walk_at "y"
      exact ⟨rfl, rfl⟩
    | bl b =>
      walk_at "v"
      walk_at "n"
      walk_at "n"
      walk_at "n"
      walk_at "n"
      walk_at "n"
      walk_at "y"
      refine ⟨?_, rfl⟩; simp; done
    | int i =>
      walk_at "v"
      walk_at "n"
      walk_at "n"
      walk_at "n"
      walk_at "n"
      walk_at "n"
      walk_at "y"
      refine ⟨?_, rfl⟩; simp; done
    | str x =>
      walk_at "v"
      walk_at "n"
      walk_at "n"
      walk_at "n"
      walk_at "n"
      walk_at "n"
      walk_at "y"
      refine ⟨?_, rfl⟩
      simp
    | tup ds =>
      walk_at "v"
      walk_at "y"
      walk_at "n"
      walk_at "n"
      walk_at "y"
      exact Rz.sat_mono (zip_comp hd.1 rfl fun d h => ih d (hd.2 d h) k (by omega)) fun es S2 h => ⟨h.1, by
        refine v_nil ?_
        obtain ⟨z, e, h1, h2⟩ := h.2
        exact ⟨z, e, h2, h1⟩⟩
    | lst ds =>
      walk_at "v"
      walk_at "y"
      walk_at "n"
      walk_at "n"
      walk_at "y"
      exact Rz.sat_mono (zip_comp hd.1 rfl fun d h => ih d (hd.2 d h) k (by omega)) fun es S2 h => ⟨h.1, by
        refine v_nil ?_
        obtain ⟨z, e, h1, h2⟩ := h.2
        exact ⟨z, e, h2, h1⟩⟩
    | scr ns => exact hd.elim
    | fn i => exact hd.elim
    | ty t => exact hd.elim
end
end K11

namespace K11
open PySem PySem.Spec PyProof.Rows L2 Fw
local macro_rules | `(tactic| walk_at "v") => `(tactic| (repeat (first | ((with_reducible apply Fw.v_var); next => exact rfl) | with_reducible refine Fw.v_bin ?_ | with_reducible refine Fw.v_maxD ?_ | with_reducible refine Fw.v_sub ?_ | with_reducible refine Fw.v_cst ?_ | with_reducible refine Fw.v_cons ?_ | with_reducible refine Fw.v_nil ?_ | with_reducible refine Fw.v_cmp ?_ | with_reducible refine Fw.v_blt ?_ | with_reducible refine Fw.v_neg ?_ | with_reducible refine Fw.v_call ?_ | with_reducible refine Fw.v_callK ?_ | with_reducible refine Fw.v_not ?_ | with_reducible refine Fw.v_chain ?_ | with_reducible refine Fw.v_andT ?_ | with_reducible refine Fw.v_orT ?_ | with_reducible refine Fw.v_and ?_ | with_reducible refine Fw.v_or ?_ | with_reducible refine Fw.v_ite ?_ | with_reducible refine Fw.v_tup ?_ | with_reducible refine Fw.v_lst ?_ | with_reducible refine Fw.v_lstM ?_ | with_reducible refine Fw.v_slcH ?_ | with_reducible refine Fw.v_slcL ?_ | with_reducible refine Fw.v_isiT ?_ | with_reducible refine Fw.v_fstr ?_ | with_reducible refine Fw.v_fmt ?_ | with_reducible refine Fw.v_comp0 ?_ | with_reducible refine Fw.v_comp1 ?_ | with_reducible refine Fw.s_t0 ?_ | with_reducible refine Fw.s_t1 ?_ | with_reducible refine Fw.s_t2 ?_ | with_reducible refine Fw.s_l0 ?_ | with_reducible refine Fw.s_l1 ?_ | with_reducible refine Fw.s_l2 ?_ | with_reducible refine Fw.s_not ?_ | with_reducible refine Fw.s_neg ?_ | with_reducible refine Fw.o_add ?_ | with_reducible refine Fw.o_sub ?_ | with_reducible refine Fw.q_lt ?_ | with_reducible refine Fw.q_le ?_ | with_reducible refine Fw.q_gt ?_ | with_reducible refine Fw.q_ge ?_ | with_reducible refine Fw.q_eq ?_ | with_reducible refine Fw.q_ne ?_ | with_reducible refine Fw.q_eqB ?_ | with_reducible refine Fw.q_neB ?_ | with_reducible refine Fw.q_isN ?_ | with_reducible refine Fw.q_notN ?_ | with_reducible refine Fw.sat_cons ?_ | with_reducible refine Fw.w_asg ?_ | with_reducible refine Fw.w_par ?_ | with_reducible refine Fw.w_setI ?_ | with_reducible refine Fw.w_exp ?_ | with_reducible refine Fw.w_ret ?_ | with_reducible refine Fw.w_ite ?_ | with_reducible refine Fw.w_for ?_ | with_reducible refine Fw.w_while ?_ | with_reducible refine Fw.v_tst ?_ | ((with_reducible apply Fw.q_inT); next => exact rfl) | ((with_reducible apply Fw.s_sub); next => exact rfl) | ((with_reducible apply Fw.s_blt); next => exact rfl) | ((with_reducible apply Fw.s_tst); next => exact rfl) | ((with_reducible apply Fw.s_isi); next => exact rfl) | ((with_reducible apply Fw.s_asm); next => exact rfl) | ((with_reducible apply Fw.s_bnd); next => exact rfl) | ((with_reducible apply Fw.s_wlk); next => exact rfl) | ((with_reducible apply Fw.s_slcH); next => exact rfl) | ((with_reducible apply Fw.s_slcL); next => exact rfl) | ((with_reducible apply Fw.s_dsp); (next => exact rfl); (next => exact rfl)) | ((with_reducible apply Fw.s_set); (next => exact rfl); (next => exact rfl)) | ((with_reducible apply Fw.q_eqS); (next => first | exact ofStr_ok _ | assumption); (next => first | exact ofStr_ok _ | assumption)) | ((with_reducible refine Fw.o_mul ?_ ?_); next => first | assumption | exact mul_c (by omega) (by omega) | exact mul_cL (by omega) (by omega)) | ((with_reducible refine Fw.o_mod ?_ ?_); next => first | assumption | omega) | ((with_reducible refine Fw.o_div ?_ ?_); next => first | assumption | decide) | ((with_reducible refine Fw.o_pow ?_ ?_); next => decide))))
local macro_rules | `(tactic| walk_at "y") => `(tactic| (refine br (fun _ => ?_) (fun h => absurd h (by first | exact ft_no | exact tf_no | decide | simp)); walk_at "v"))
local macro_rules | `(tactic| walk_at "n") => `(tactic| (refine br (fun h => absurd h (by first | exact ft_no | exact tf_no | decide | simp)) (fun _ => ?_); (try refine sat_nil ?_); walk_at "v"))
/-! ### programs by form alone, and their measures -/
def prodL : Int → List Int → Int
  | f, [] => f
  | f, q :: qs => prodL (f * q) qs
def PrOk : Int → List Int → Prop
  | _, [] => True
  | f, q :: qs => mulOk f q = true ∧ PrOk (f * q) qs
def Leaf (d : D) (w g q : Int) : Prop := ∃ x rest, d = .tup (.str x :: rest) ∧ w = 0 ∧ q = 1 ∧ ((x = "num" ∧ g = 0) ∨ (x = "trait" ∧ g = 1) ∨ (x = "same" ∧ g = 0) ∨ (x = "near" ∧ g = 0) ∨ (x = "part" ∧ g = 0) ∨ (x = "wave" ∧ g = 0))
def MeL (R : D → Int → Int → Int → Prop) : List D → List Int → List Int → List Int → Prop
  | [], [], [], [] => True
  | p :: ps, w :: ws, g :: gs, q :: qs => R p w g q ∧ MeL R ps ws gs qs
  | _, _, _, _ => False
def Me : Nat → D → Int → Int → Int → Prop
  | 0, d, w, g, q => Leaf d w g q
  | n + 1, d, w, g, q => Leaf d w g q ∨
    (∃ nm p w', d = .tup [.str "sum", nm, p] ∧ Me n p w' g q ∧ w = w' + 1) ∨
    (∃ (p : D) (e w' g' q' : Int), d = .tup [.str "power", p, .int e] ∧ 0 ≤ e ∧ e < 5 ∧ Me n p w' g' q' ∧ w = e * w' ∧ g = e * g' ∧ q = prodL 1 (List.replicate e.toNat q')) ∨
    (∃ ps ws gs qs, d = .tup (.str "plus" :: ps) ∧ 1 ≤ ps.length ∧ ps.length ≤ 4 ∧ MeL (Me n) ps ws gs qs ∧ w = maxDf 0 ws ∧ g = maxDf 0 gs ∧ q = qs.sum) ∨
    (∃ ps ws gs qs, d = .tup (.str "times" :: ps) ∧ 1 ≤ ps.length ∧ ps.length ≤ 4 ∧ MeL (Me n) ps ws gs qs ∧ w = ws.sum ∧ g = gs.sum ∧ q = prodL 1 qs)
theorem MeL.len {R : D → Int → Int → Int → Prop} : ∀ {ps : List D} {ws gs qs : List Int}, MeL R ps ws gs qs → ws.length = ps.length ∧ gs.length = ps.length ∧ qs.length = ps.length
  | [], [], [], [], _ => ⟨rfl, rfl, rfl⟩
  | p :: ps, w :: ws, g :: gs, q :: qs, h => by
    obtain ⟨a, b, c⟩ := MeL.len h.2
    simp [a, b, c]
/-! ### bounds -/
theorem prok : ∀ (qs : List Int) (f : Int) (b c : Nat), (∀ q ∈ qs, q.natAbs < 2 ^ b) → f.natAbs < 2 ^ c → c + b * qs.length ≤ 1000000 → 0 < b → 0 < c → PrOk f qs ∧ (prodL f qs).natAbs < 2 ^ (c + b * qs.length)
  | [], f, b, c, _, hf, _, _, _ => ⟨trivial, by simpa [prodL] using hf⟩
  | q :: qs, f, b, c, h, hf, hl, hb, hc => by
    have hq := h q (List.mem_cons_self ..)
    rw [List.length_cons, Nat.mul_succ] at hl
    have hm : (f * q).natAbs < 2 ^ (c + b) := by
      rw [Int.natAbs_mul, Nat.pow_add]
      exact Nat.mul_lt_mul'' hf hq
    obtain ⟨h1, h2⟩ := prok qs (f * q) b (c + b) (fun x hx => h x (List.mem_cons_of_mem _ hx)) hm (by omega) hb (by omega)
    refine ⟨⟨mul_ok hf hq (by omega) hc hb, h1⟩, ?_⟩
    rw [prodL, List.length_cons, Nat.mul_succ, show c + (b * qs.length + b) = c + b + b * qs.length by omega]
    exact h2
theorem sumB : ∀ (qs : List Int) (b : Nat), (∀ q ∈ qs, q.natAbs < 2 ^ b) → qs.sum.natAbs ≤ qs.length * 2 ^ b
  | [], b, _ => by simp
  | q :: qs, b, h => by
    have h1 := h q (List.mem_cons_self ..)
    have h2 := sumB qs b fun x hx => h x (List.mem_cons_of_mem _ hx)
    rw [List.sum_cons, List.length_cons, Nat.succ_mul]
    have := Int.natAbs_add_le q qs.sum
    omega
theorem MeL.bd {R : D → Int → Int → Int → Prop} {b : Nat} (hR : ∀ p w g q, R p w g q → q.natAbs < 2 ^ b) : ∀ {ps : List D} {ws gs qs : List Int}, MeL R ps ws gs qs → ∀ q ∈ qs, q.natAbs < 2 ^ b
  | [], [], [], [], _, q, hq => by cases hq
  | p :: ps, w :: ws, g :: gs, q :: qs, h, x, hx => by
    rcases List.mem_cons.mp hx with rfl | hx
    · exact hR _ _ _ _ h.1
    · exact MeL.bd hR h.2 x hx
theorem pow5 (n : Nat) : 0 < 5 ^ n := Nat.pow_pos (by decide)
theorem leaf_bd {d : D} {w g q : Int} {n : Nat} (h : Leaf d w g q) : q.natAbs < 2 ^ 5 ^ n := by
  obtain ⟨_, _, _, _, rfl, _⟩ := h
  exact Nat.one_lt_two_pow (Nat.ne_of_gt (pow5 n))
theorem Me.bd : ∀ (n : Nat), n ≤ 6 → ∀ d w g q, Me n d w g q → q.natAbs < 2 ^ 5 ^ n
  | 0, _, d, w, g, q, h => leaf_bd h
  | n + 1, hn, d, w, g, q, h => by
    have ih := Me.bd n (by omega)
    have p5 := pow5 n
    have e5 : 5 ^ (n + 1) = 5 * 5 ^ n := by rw [Nat.pow_succ, Nat.mul_comm]
    have l5 : 5 ^ n ≤ 15625 := Nat.le_trans (Nat.pow_le_pow_right (by decide) (show n ≤ 6 by omega)) (by decide)
    rcases h with h | ⟨nm, p, w', rfl, h, rfl⟩ | ⟨p, e, w', g', q', rfl, he0, he1, h, rfl, rfl, rfl⟩ | ⟨ps, ws, gs, qs, rfl, h1, h2, h, rfl, rfl, rfl⟩ | ⟨ps, ws, gs, qs, rfl, h1, h2, h, rfl, rfl, rfl⟩
    · exact leaf_bd h
    · exact Nat.lt_of_lt_of_le (ih _ _ _ _ h) (Nat.pow_le_pow_right (by decide) (by omega))
    · have hl : (List.replicate e.toNat q').length ≤ 4 := by rw [List.length_replicate]; omega
      have hb := (prok (List.replicate e.toNat q') 1 (5 ^ n) 1 (fun x hx => by rw [List.eq_of_mem_replicate hx]; exact ih _ _ _ _ h) (by decide) (by have := Nat.mul_le_mul l5 hl; omega) p5 (by decide)).2
      refine Nat.lt_of_lt_of_le hb (Nat.pow_le_pow_right (by decide) ?_)
      have := Nat.mul_le_mul (Nat.le_refl (5 ^ n)) hl
      omega
    · have hs := sumB qs _ (MeL.bd ih h)
      rw [h.len.2.2] at hs
      refine Nat.lt_of_le_of_lt hs ?_
      have : ps.length * 2 ^ 5 ^ n ≤ 4 * 2 ^ 5 ^ n := Nat.mul_le_mul_right _ h2
      refine Nat.lt_of_le_of_lt this ?_
      rw [show 4 * 2 ^ 5 ^ n = 2 ^ (2 + 5 ^ n) by rw [Nat.pow_add]]
      exact Nat.pow_lt_pow_right (by decide) (by omega)
    · have hl : qs.length ≤ 4 := by rw [h.len.2.2]; exact h2
      have hb := (prok qs 1 (5 ^ n) 1 (MeL.bd ih h) (by decide) (by have := Nat.mul_le_mul l5 hl; omega) p5 (by decide)).2
      refine Nat.lt_of_lt_of_le hb (Nat.pow_le_pow_right (by decide) ?_)
      have := Nat.mul_le_mul (Nat.le_refl (5 ^ n)) hl
      omega
/-! ### sums and greatest ones -/
theorem ints_map : ∀ ns : List Int, D.ints (ns.map D.int) = some ns
  | [] => rfl
  | n :: ns => by
    rw [List.map_cons, D.ints, ints_map ns]
    rfl
theorem max_eq : ∀ (ns : List Int) (n : Int), maxI (n :: ns) = ns.foldl max n
  | [], n => rfl
  | m :: ns, n => by
    show max n (maxI (m :: ns)) = _
    rw [max_eq ns m, List.foldl_cons]
    clear max_eq
    induction ns generalizing n m with
    | nil => rfl
    | cons x ns ih =>
      rw [List.foldl_cons, List.foldl_cons, ih, Int.max_assoc]
/-- a comprehension that asks each part -/
theorem comp_rel {bnd : A → Option Fw.Env} {elt : Fw.Env → Store → Rz A} {S : Store} {R : D → D → Prop} (hR : ∀ p d, R p d → ∃ ρ1, bnd (.p p) = some ρ1 ∧ elt ρ1 S = .ok (.p d) S) : ∀ (ps ds : List D), ps.length = ds.length → (∀ (i : Nat) p d, ps[i]? = some p → ds[i]? = some d → R p d) → compL bnd (fun _ S => .ok (.p (.bl true)) S) elt (ps.map A.p) S = .ok ds S
  | [], [], _, _ => by rw [List.map_nil, compL]
  | p :: ps, d :: ds, hl, h => by
    obtain ⟨ρ1, h1, h2⟩ := hR p d (h 0 p d rfl rfl)
    rw [List.map_cons, compL, h1]
    show ((elt ρ1 S).bind _) = _
    rw [h2]
    show ((compL bnd _ elt (ps.map A.p) S).bind _) = _
    rw [comp_rel hR ps ds (by simpa using hl) fun i p d hp hd => h (i + 1) p d hp hd]
    rfl
theorem MeL.at {R : D → Int → Int → Int → Prop} : ∀ {ps : List D} {ws gs qs : List Int}, MeL R ps ws gs qs → ∀ (i : Nat) p, ps[i]? = some p → ∃ w g q, ws[i]? = some w ∧ gs[i]? = some g ∧ qs[i]? = some q ∧ R p w g q
  | [], [], [], [], _, i, p, hp => by simp at hp
  | p :: ps, w :: ws, g :: gs, q :: qs, h, i, x, hx => by
    cases i with
    | zero =>
      cases hx
      exact ⟨_, _, _, rfl, rfl, rfl, h.1⟩
    | succ i => exact MeL.at h.2 i x hx
end K11

namespace K11
open PySem PySem.Spec PyProof.Rows L2 Fw
local macro_rules | `(tactic| walk_at "v") => `(tactic| (repeat (first | ((with_reducible apply Fw.v_var); next => exact rfl) | with_reducible refine Fw.v_bin ?_ | with_reducible refine Fw.v_maxD ?_ | with_reducible refine Fw.v_sub ?_ | with_reducible refine Fw.v_cst ?_ | with_reducible refine Fw.v_cons ?_ | with_reducible refine Fw.v_nil ?_ | with_reducible refine Fw.v_cmp ?_ | with_reducible refine Fw.v_blt ?_ | with_reducible refine Fw.v_neg ?_ | with_reducible refine Fw.v_call ?_ | with_reducible refine Fw.v_callK ?_ | with_reducible refine Fw.v_not ?_ | with_reducible refine Fw.v_chain ?_ | with_reducible refine Fw.v_andT ?_ | with_reducible refine Fw.v_orT ?_ | with_reducible refine Fw.v_and ?_ | with_reducible refine Fw.v_or ?_ | with_reducible refine Fw.v_ite ?_ | with_reducible refine Fw.v_tup ?_ | with_reducible refine Fw.v_lst ?_ | with_reducible refine Fw.v_lstM ?_ | with_reducible refine Fw.v_slcH ?_ | with_reducible refine Fw.v_slcL ?_ | with_reducible refine Fw.v_isiT ?_ | with_reducible refine Fw.v_fstr ?_ | with_reducible refine Fw.v_fmt ?_ | with_reducible refine Fw.v_comp0 ?_ | with_reducible refine Fw.v_comp1 ?_ | with_reducible refine Fw.s_t0 ?_ | with_reducible refine Fw.s_t1 ?_ | with_reducible refine Fw.s_t2 ?_ | with_reducible refine Fw.s_l0 ?_ | with_reducible refine Fw.s_l1 ?_ | with_reducible refine Fw.s_l2 ?_ | with_reducible refine Fw.s_not ?_ | with_reducible refine Fw.s_neg ?_ | with_reducible refine Fw.o_add ?_ | with_reducible refine Fw.o_sub ?_ | with_reducible refine Fw.q_lt ?_ | with_reducible refine Fw.q_le ?_ | with_reducible refine Fw.q_gt ?_ | with_reducible refine Fw.q_ge ?_ | with_reducible refine Fw.q_eq ?_ | with_reducible refine Fw.q_ne ?_ | with_reducible refine Fw.q_eqB ?_ | with_reducible refine Fw.q_neB ?_ | with_reducible refine Fw.q_isN ?_ | with_reducible refine Fw.q_notN ?_ | with_reducible refine Fw.sat_cons ?_ | with_reducible refine Fw.w_asg ?_ | with_reducible refine Fw.w_par ?_ | with_reducible refine Fw.w_setI ?_ | with_reducible refine Fw.w_exp ?_ | with_reducible refine Fw.w_ret ?_ | with_reducible refine Fw.w_ite ?_ | with_reducible refine Fw.w_for ?_ | with_reducible refine Fw.w_while ?_ | with_reducible refine Fw.v_tst ?_ | ((with_reducible apply Fw.q_inT); next => exact rfl) | ((with_reducible apply Fw.s_sub); next => exact rfl) | ((with_reducible apply Fw.s_blt); next => exact rfl) | ((with_reducible apply Fw.s_tst); next => exact rfl) | ((with_reducible apply Fw.s_isi); next => exact rfl) | ((with_reducible apply Fw.s_asm); next => exact rfl) | ((with_reducible apply Fw.s_bnd); next => exact rfl) | ((with_reducible apply Fw.s_wlk); next => exact rfl) | ((with_reducible apply Fw.s_slcH); next => exact rfl) | ((with_reducible apply Fw.s_slcL); next => exact rfl) | ((with_reducible apply Fw.s_dsp); (next => exact rfl); (next => exact rfl)) | ((with_reducible apply Fw.s_set); (next => exact rfl); (next => exact rfl)) | ((with_reducible apply Fw.q_eqS); (next => first | exact ofStr_ok _ | assumption); (next => first | exact ofStr_ok _ | assumption)) | ((with_reducible refine Fw.o_mul ?_ ?_); next => first | assumption | exact mul_c (by omega) (by omega) | exact mul_cL (by omega) (by omega)) | ((with_reducible refine Fw.o_mod ?_ ?_); next => first | assumption | omega) | ((with_reducible refine Fw.o_div ?_ ?_); next => first | assumption | decide) | ((with_reducible refine Fw.o_pow ?_ ?_); next => decide))))
local macro_rules | `(tactic| walk_at "y") => `(tactic| (refine br (fun _ => ?_) (fun h => absurd h (by first | exact ft_no | exact tf_no | decide | simp)); walk_at "v"))
local macro_rules | `(tactic| walk_at "n") => `(tactic| (refine br (fun h => absurd h (by first | exact ft_no | exact tf_no | decide | simp)) (fun _ => ?_); (try refine sat_nil ?_); walk_at "v"))
def LW (x : Str) : Prop := x = "num" ∨ x = "trait" ∨ x = "same" ∨ x = "near" ∨ x = "part" ∨ x = "wave"
def Kids (d : D) (ps : List D) : Prop := (∃ x rest, d = .tup (.str x :: rest) ∧ LW x ∧ ps = []) ∨ (∃ nm p, d = .tup [.str "sum", nm, p] ∧ ps = [p]) ∨ (∃ p e, d = .tup [.str "power", p, .int e] ∧ ps = [p]) ∨ d = .tup (.str "plus" :: ps) ∨ d = .tup (.str "times" :: ps)
theorem cut1 {a : D} {ps : List D} : Fw.cutD (a :: ps) (some 1) none = ps := by
  unfold Fw.cutD
  have e : HT.sIx (a :: ps).length 0 (some 1) = 1 := by
    show min 1 (ps.length + 1) = 1
    omega
  rw [e]
  show (List.take _ ps) = ps
  refine List.take_of_length_le ?_
  simp only [HT.sIx, List.length_cons]
  omega
section
variable {wf k : Nat} {S : Store}
theorem inner_ok {d : D} {ps : List D} (h : Kids d ps) : callI ft wf (k + 1) 0 [.p d] S = .ok (.p (.lst ps)) S := by
  refine call_val rfl rfl ?_
  show (Fw.run _ wf c_inner_parts [some (.p d), none] _).sat _ _
  unfold c_inner_parts
  rcases h with ⟨x, rest, rfl, hx, rfl⟩ | ⟨nm, p, rfl, rfl⟩ | ⟨p, e, rfl, rfl⟩ | rfl | rfl
  · rcases hx with rfl | rfl | rfl | rfl | rfl | rfl <;> (walk_at "v"; walk_at "n"; walk_at "n"; walk_at "n"; exact ⟨rfl, rfl⟩)
  · walk_at "v"
    walk_at "y"
    exact ⟨rfl, rfl⟩
  · walk_at "v"
    walk_at "n"
    walk_at "y"
    exact ⟨rfl, rfl⟩
  · walk_at "v"
    walk_at "n"
    walk_at "n"
    walk_at "y"
    exact ⟨by rw [cut1], rfl⟩
  · walk_at "v"
    walk_at "n"
    walk_at "n"
    walk_at "y"
    exact ⟨by rw [cut1], rfl⟩
theorem linner_ok {d : D} {ps : List D} (h : Kids d ps) : callI ft wf (k + 1) 13 [.p d] S = .ok (.p (.lst ps)) S := by
  refine call_val rfl rfl ?_
  show (Fw.run _ wf c__law_inner [some (.p d), none] _).sat _ _
  unfold c__law_inner
  rcases h with ⟨x, rest, rfl, hx, rfl⟩ | ⟨nm, p, rfl, rfl⟩ | ⟨p, e, rfl, rfl⟩ | rfl | rfl
  · rcases hx with rfl | rfl | rfl | rfl | rfl | rfl <;> (walk_at "v"; walk_at "n"; walk_at "n"; walk_at "n"; exact ⟨rfl, rfl⟩)
  · walk_at "v"
    walk_at "y"
    exact ⟨rfl, rfl⟩
  · walk_at "v"
    walk_at "n"
    walk_at "y"
    exact ⟨rfl, rfl⟩
  · walk_at "v"
    walk_at "n"
    walk_at "n"
    walk_at "y"
    exact ⟨by rw [cut1], rfl⟩
  · walk_at "v"
    walk_at "n"
    walk_at "n"
    walk_at "y"
    exact ⟨by rw [cut1], rfl⟩
theorem sum_val {ws : List Int} : bltF .sum [.p (.lst (ws.map D.int))] S = some (.p (.int ws.sum)) := by
  show (D.ints _).map _ = _
  rw [ints_map]
  rfl
theorem max_val {w : Int} {ws : List Int} : bltF .max [.p (.lst ((w :: ws).map D.int))] S = some (.p (.int (maxDf 0 (w :: ws)))) := by
  show (match D.ints _ with
    | some (n :: ns) => some (A.p (.int (maxI (n :: ns))))
    | _ => none) = _
  rw [ints_map]
  show some (A.p (.int (maxI (w :: ws)))) = _
  rw [max_eq]
  rfl
theorem maxd_val {ws : List Int} : maxF (.p (.lst (ws.map D.int))) (.p (.int 0)) = some (.p (.int (maxDf 0 ws))) := by
  show (D.ints _).map _ = _
  rw [ints_map]
  rfl
theorem comb_times {rest : List D} {ws : List Int} : callI ft wf (k + 1) 1 [.p (.tup (.str "times" :: rest)), .p (.lst (ws.map D.int))] S = .ok (.p (.int ws.sum)) S := by
  refine call_val rfl rfl ?_
  show (Fw.run _ wf c_combined [some (.p (.tup (.str "times" :: rest))), some (.p (.lst (ws.map D.int))), none] _).sat _ _
  unfold c_combined
  walk_at "v"
  walk_at "y"
  exact s_blt sum_val ⟨rfl, rfl⟩
theorem comb_power {p : D} {e w : Int} (h0 : 0 ≤ e) (h1 : e < 5) : callI ft wf (k + 1) 1 [.p (.tup [.str "power", p, .int e]), .p (.lst ([w].map D.int))] S = .ok (.p (.int (e * w))) S := by
  refine call_val rfl rfl ?_
  show (Fw.run _ wf c_combined [some (.p (.tup [.str "power", p, .int e])), some (.p (.lst ([w].map D.int))), none] _).sat _ _
  unfold c_combined
  walk_at "v"
  walk_at "n"
  walk_at "y"
  exact ⟨rfl, rfl⟩
theorem comb_max {x : Str} {rest : List D} {ws : List Int} (hx : LW x ∨ x = "sum" ∨ x = "plus") : callI ft wf (k + 1) 1 [.p (.tup (.str x :: rest)), .p (.lst (ws.map D.int))] S = .ok (.p (.int (maxDf 0 ws))) S := by
  refine call_val rfl rfl ?_
  show (Fw.run _ wf c_combined [some (.p (.tup (.str x :: rest))), some (.p (.lst (ws.map D.int))), none] _).sat _ _
  unfold c_combined
  rcases hx with (rfl | rfl | rfl | rfl | rfl | rfl) | rfl | rfl <;> (walk_at "v"; walk_at "n"; walk_at "n"; exact s_max maxd_val ⟨rfl, rfl⟩)
/-- each part is asked -/
theorem ask_each {f v : Nat} {ρ : Fw.Env} {ps : List D} {ws : List Int} (hv : v < ρ.length) (hl : ps.length = ws.length) (h4 : ps.length ≤ 4) (h : ∀ (i : Nat) p w, ps[i]? = some p → ws[i]? = some w → callI ft wf k f [.p p] S = .ok (.p (.int w)) S) {P : List D → Store → Prop} (q : P (ws.map D.int) S) :
    (compL (fun x => bindT (.nm v) x (wipeE ρ [v])) (fun _ S => .ok (.p (.bl true)) S) (ev (callI ft wf k) false (.call f [.var v] [])) (ps.map A.p) S).sat fun ds S2 => ds.length < LIM ∧ P ds S2 := by
  rw [comp_rel (R := fun p d => callI ft wf k f [.p p] S = .ok (.p d) S) (ds := ws.map D.int)]
  · refine Rz.sat_ok ⟨?_, q⟩
    rw [List.length_map, ← hl]
    exact Nat.lt_of_le_of_lt h4 (by decide)
  · intro p d hp
    refine ⟨_, rfl, sat_val ?_⟩
    refine v_call (v_cons (v_var (x := .p p) ?_ (v_nil ?_)))
    · rw [List.getElem?_set_self]
      show v < (ρ.set v none).length
      rw [List.length_set]
      exact hv
    · exact Rz.sat_eq hp ⟨rfl, rfl⟩
  · rw [List.length_map, hl]
  · intro i p d hp hd
    rw [List.getElem?_map] at hd
    cases hw : ws[i]? with
    | none => rw [hw] at hd; cases hd
    | some w =>
      rw [hw] at hd
      cases hd
      exact h i p w hp hw
end
end K11

namespace K11
open PySem PySem.Spec PyProof.Rows L2 Fw
local macro_rules | `(tactic| walk_at "v") => `(tactic| (repeat (first | ((with_reducible apply Fw.v_var); next => exact rfl) | with_reducible refine Fw.v_bin ?_ | with_reducible refine Fw.v_maxD ?_ | with_reducible refine Fw.v_sub ?_ | with_reducible refine Fw.v_cst ?_ | with_reducible refine Fw.v_cons ?_ | with_reducible refine Fw.v_nil ?_ | with_reducible refine Fw.v_cmp ?_ | with_reducible refine Fw.v_blt ?_ | with_reducible refine Fw.v_neg ?_ | with_reducible refine Fw.v_call ?_ | with_reducible refine Fw.v_callK ?_ | with_reducible refine Fw.v_not ?_ | with_reducible refine Fw.v_chain ?_ | with_reducible refine Fw.v_andT ?_ | with_reducible refine Fw.v_orT ?_ | with_reducible refine Fw.v_and ?_ | with_reducible refine Fw.v_or ?_ | with_reducible refine Fw.v_ite ?_ | with_reducible refine Fw.v_tup ?_ | with_reducible refine Fw.v_lst ?_ | with_reducible refine Fw.v_lstM ?_ | with_reducible refine Fw.v_slcH ?_ | with_reducible refine Fw.v_slcL ?_ | with_reducible refine Fw.v_isiT ?_ | with_reducible refine Fw.v_fstr ?_ | with_reducible refine Fw.v_fmt ?_ | with_reducible refine Fw.v_comp0 ?_ | with_reducible refine Fw.v_comp1 ?_ | with_reducible refine Fw.s_t0 ?_ | with_reducible refine Fw.s_t1 ?_ | with_reducible refine Fw.s_t2 ?_ | with_reducible refine Fw.s_l0 ?_ | with_reducible refine Fw.s_l1 ?_ | with_reducible refine Fw.s_l2 ?_ | with_reducible refine Fw.s_not ?_ | with_reducible refine Fw.s_neg ?_ | with_reducible refine Fw.o_add ?_ | with_reducible refine Fw.o_sub ?_ | with_reducible refine Fw.q_lt ?_ | with_reducible refine Fw.q_le ?_ | with_reducible refine Fw.q_gt ?_ | with_reducible refine Fw.q_ge ?_ | with_reducible refine Fw.q_eq ?_ | with_reducible refine Fw.q_ne ?_ | with_reducible refine Fw.q_eqB ?_ | with_reducible refine Fw.q_neB ?_ | with_reducible refine Fw.q_isN ?_ | with_reducible refine Fw.q_notN ?_ | with_reducible refine Fw.sat_cons ?_ | with_reducible refine Fw.w_asg ?_ | with_reducible refine Fw.w_par ?_ | with_reducible refine Fw.w_setI ?_ | with_reducible refine Fw.w_exp ?_ | with_reducible refine Fw.w_ret ?_ | with_reducible refine Fw.w_ite ?_ | with_reducible refine Fw.w_for ?_ | with_reducible refine Fw.w_while ?_ | with_reducible refine Fw.v_tst ?_ | ((with_reducible apply Fw.q_inT); next => exact rfl) | ((with_reducible apply Fw.s_sub); next => exact rfl) | ((with_reducible apply Fw.s_blt); next => exact rfl) | ((with_reducible apply Fw.s_tst); next => exact rfl) | ((with_reducible apply Fw.s_isi); next => exact rfl) | ((with_reducible apply Fw.s_asm); next => exact rfl) | ((with_reducible apply Fw.s_bnd); next => exact rfl) | ((with_reducible apply Fw.s_wlk); next => exact rfl) | ((with_reducible apply Fw.s_slcH); next => exact rfl) | ((with_reducible apply Fw.s_slcL); next => exact rfl) | ((with_reducible apply Fw.s_dsp); (next => exact rfl); (next => exact rfl)) | ((with_reducible apply Fw.s_set); (next => exact rfl); (next => exact rfl)) | ((with_reducible apply Fw.q_eqS); (next => first | exact ofStr_ok _ | assumption); (next => first | exact ofStr_ok _ | assumption)) | ((with_reducible refine Fw.o_mul ?_ ?_); next => first | assumption | exact mul_c (by omega) (by omega) | exact mul_cL (by omega) (by omega)) | ((with_reducible refine Fw.o_mod ?_ ?_); next => first | assumption | omega) | ((with_reducible refine Fw.o_div ?_ ?_); next => first | assumption | decide) | ((with_reducible refine Fw.o_pow ?_ ?_); next => decide))))
local macro_rules | `(tactic| walk_at "y") => `(tactic| (refine br (fun _ => ?_) (fun h => absurd h (by first | exact ft_no | exact tf_no | decide | simp)); walk_at "v"))
local macro_rules | `(tactic| walk_at "n") => `(tactic| (refine br (fun h => absurd h (by first | exact ft_no | exact tf_no | decide | simp)) (fun _ => ?_); (try refine sat_nil ?_); walk_at "v"))
/-- the ways a program stands -/
theorem leaf_lw {d : D} {w g q : Int} (h : Leaf d w g q) : ∃ x rest, d = .tup (.str x :: rest) ∧ LW x ∧ w = 0 ∧ q = 1 ∧ ((x = "trait" ∧ g = 1) ∨ (x ≠ "trait" ∧ g = 0)) := by
  obtain ⟨x, rest, rfl, h1, h2, h⟩ := h
  refine ⟨x, rest, rfl, ?_, h1, h2, ?_⟩
  · rcases h with ⟨h, _⟩ | ⟨h, _⟩ | ⟨h, _⟩ | ⟨h, _⟩ | ⟨h, _⟩ | ⟨h, _⟩
    · exact .inl h
    · exact .inr (.inl h)
    · exact .inr (.inr (.inl h))
    · exact .inr (.inr (.inr (.inl h)))
    · exact .inr (.inr (.inr (.inr (.inl h))))
    · exact .inr (.inr (.inr (.inr (.inr h))))
  · rcases h with ⟨rfl, h⟩ | ⟨rfl, h⟩ | ⟨rfl, h⟩ | ⟨rfl, h⟩ | ⟨rfl, h⟩ | ⟨rfl, h⟩
    · exact .inr ⟨by decide, h⟩
    · exact .inl ⟨rfl, h⟩
    · exact .inr ⟨by decide, h⟩
    · exact .inr ⟨by decide, h⟩
    · exact .inr ⟨by decide, h⟩
    · exact .inr ⟨by decide, h⟩
theorem lw_not {x : Str} (h : LW x) : (x == "sum") = false ∧ (x == "plus") = false ∧ (x == "power") = false ∧ (x == "times") = false ∧ PyData.strOk x = true := by
  rcases h with rfl | rfl | rfl | rfl | rfl | rfl <;> exact ⟨by decide, by decide, by decide, by decide, ofStr_ok _⟩
theorem Me.up : ∀ {n : Nat} {d : D} {w g q : Int}, Me n d w g q → Me (n + 1) d w g q := by
  intro n
  induction n with
  | zero => exact fun h => .inl h
  | succ n ih =>
    have ihL : ∀ {ps : List D} {ws gs qs : List Int}, MeL (Me n) ps ws gs qs → MeL (Me (n + 1)) ps ws gs qs := by
      intro ps
      induction ps with
      | nil =>
        intro ws gs qs h
        match ws, gs, qs, h with
        | [], [], [], _ => trivial
      | cons p ps ihp =>
        intro ws gs qs h
        match ws, gs, qs, h with
        | w :: ws, g :: gs, q :: qs, h => exact ⟨ih h.1, ihp h.2⟩
    intro d w g q h
    rcases h with h | ⟨nm, p, w', e, h, h'⟩ | ⟨p, e, w', g', q', e1, he0, he1, h, h'⟩ | ⟨ps, ws, gs, qs, e1, h1, h2, h, h'⟩ | ⟨ps, ws, gs, qs, e1, h1, h2, h, h'⟩
    · exact .inl h
    · exact .inr (.inl ⟨nm, p, w', e, ih h, h'⟩)
    · exact .inr (.inr (.inl ⟨p, e, w', g', q', e1, he0, he1, ih h, h'⟩))
    · exact .inr (.inr (.inr (.inl ⟨ps, ws, gs, qs, e1, h1, h2, ihL h, h'⟩)))
    · exact .inr (.inr (.inr (.inr ⟨ps, ws, gs, qs, e1, h1, h2, ihL h, h'⟩)))
section
variable {wf : Nat} {S : Store}
theorem one_kid {f k : Nat} {p : D} {w : Int} (h : callI ft wf k f [.p p] S = .ok (.p (.int w)) S) : ∀ (i : Nat) (x : D) (v : Int), [p][i]? = some x → [w][i]? = some v → callI ft wf k f [.p x] S = .ok (.p (.int v)) S := by
  intro i x v hx hv
  cases i with
  | zero =>
    cases hx
    cases hv
    exact h
  | succ i => simp at hx
theorem no_kid {f k : Nat} : ∀ (i : Nat) (x : D) (v : Int), ([] : List D)[i]? = some x → ([] : List Int)[i]? = some v → callI ft wf k f [.p x] S = .ok (.p (.int v)) S := by
  intro i x v hx
  simp at hx
theorem kids_w {f k n : Nat} {ps : List D} {ws gs qs : List Int} (h : MeL (Me n) ps ws gs qs) (ih : ∀ d w g q, Me n d w g q → callI ft wf k f [.p d] S = .ok (.p (.int w)) S) : ∀ (i : Nat) (x : D) (v : Int), ps[i]? = some x → ws[i]? = some v → callI ft wf k f [.p x] S = .ok (.p (.int v)) S := by
  intro i x v hx hv
  obtain ⟨w, g, q, h1, h2, h3, h4⟩ := h.at i x hx
  rw [h1] at hv
  cases hv
  exact ih _ _ _ _ h4
theorem kids_g {f k n : Nat} {ps : List D} {ws gs qs : List Int} (h : MeL (Me n) ps ws gs qs) (ih : ∀ d w g q, Me n d w g q → callI ft wf k f [.p d] S = .ok (.p (.int g)) S) : ∀ (i : Nat) (x : D) (v : Int), ps[i]? = some x → gs[i]? = some v → callI ft wf k f [.p x] S = .ok (.p (.int v)) S := by
  intro i x v hx hv
  obtain ⟨w, g, q, h1, h2, h3, h4⟩ := h.at i x hx
  rw [h2] at hv
  cases hv
  exact ih _ _ _ _ h4
theorem kids_q {f k n : Nat} {ps : List D} {ws gs qs : List Int} (h : MeL (Me n) ps ws gs qs) (ih : ∀ d w g q, Me n d w g q → callI ft wf k f [.p d] S = .ok (.p (.int q)) S) : ∀ (i : Nat) (x : D) (v : Int), ps[i]? = some x → qs[i]? = some v → callI ft wf k f [.p x] S = .ok (.p (.int v)) S := by
  intro i x v hx hv
  obtain ⟨w, g, q, h1, h2, h3, h4⟩ := h.at i x hx
  rw [h3] at hv
  cases hv
  exact ih _ _ _ _ h4
theorem eqs_false {x y : Str} (h : (x == y) = false) : ¬ ((x == y) = true) := by rw [h]; decide
theorem width_ok : ∀ (n : Nat) (d : D) (w g q : Int), Me n d w g q → ∀ k, n + 2 ≤ k → callI ft wf k 2 [.p d] S = .ok (.p (.int w)) S := by
  intro n
  induction n with
  | zero =>
    intro d w g q h k hk
    obtain ⟨k, rfl⟩ : ∃ j, k = j + 2 := ⟨k - 2, by omega⟩
    obtain ⟨x, rest, rfl, hx, rfl, rfl, _⟩ := leaf_lw h
    obtain ⟨x1, x2, x3, x4, x5⟩ := lw_not hx
    refine call_val rfl rfl ?_
    show (Fw.run _ wf (c_width_of 0 1 2) [some (.p (.tup (.str x :: rest))), none, none] _).sat _ _
    unfold c_width_of
    walk_at "v"
    refine Rz.sat_eq (inner_ok (.inl ⟨x, rest, rfl, hx, rfl⟩)) ?_
    walk_at "v"
    refine ask_each (ws := []) (by simp) rfl (by simp) no_kid ?_
    walk_at "v"
    refine Rz.sat_eq (comb_max (ws := []) (.inl hx)) ?_
    walk_at "v"
    refine br (fun h => absurd h (eqs_false x1)) (fun _ => ?_)
    walk_at "v"
    exact ⟨rfl, rfl⟩
  | succ n ih =>
    intro d w g q h k hk
    obtain ⟨k, rfl⟩ : ∃ j, k = j + 2 := ⟨k - 2, by omega⟩
    have ih := fun d w g q h => ih d w g q h (k + 1) (by omega)
    refine call_val rfl rfl ?_
    show (Fw.run _ wf (c_width_of 0 1 2) [some (.p d), none, none] _).sat _ _
    unfold c_width_of
    rcases h with h | ⟨nm, p, w', rfl, h, rfl⟩ | ⟨p, e, w', g', q', rfl, he0, he1, h, rfl, rfl, rfl⟩ | ⟨ps, ws, gs, qs, rfl, h1, h2, h, rfl, rfl, rfl⟩ | ⟨ps, ws, gs, qs, rfl, h1, h2, h, rfl, rfl, rfl⟩
    · obtain ⟨x, rest, rfl, hx, rfl, rfl, _⟩ := leaf_lw h
      obtain ⟨x1, x2, x3, x4, x5⟩ := lw_not hx
      walk_at "v"
      refine Rz.sat_eq (inner_ok (.inl ⟨x, rest, rfl, hx, rfl⟩)) ?_
      walk_at "v"
      refine ask_each (ws := []) (by simp) rfl (by simp) no_kid ?_
      walk_at "v"
      refine Rz.sat_eq (comb_max (ws := []) (.inl hx)) ?_
      walk_at "v"
      refine br (fun h => absurd h (eqs_false x1)) (fun _ => ?_)
      walk_at "v"
      exact ⟨rfl, rfl⟩
    · walk_at "v"
      refine Rz.sat_eq (inner_ok (.inr (.inl ⟨nm, p, rfl, rfl⟩))) ?_
      walk_at "v"
      refine ask_each (ws := [w']) (by simp) rfl (by simp) (one_kid (ih _ _ _ _ h)) ?_
      walk_at "v"
      refine Rz.sat_eq (comb_max (ws := [w']) (.inr (.inl rfl))) ?_
      walk_at "v"
      walk_at "y"
      exact ⟨rfl, rfl⟩
    · walk_at "v"
      refine Rz.sat_eq (inner_ok (.inr (.inr (.inl ⟨p, e, rfl, rfl⟩)))) ?_
      walk_at "v"
      refine ask_each (ws := [w']) (by simp) rfl (by simp) (one_kid (ih _ _ _ _ h)) ?_
      walk_at "v"
      refine Rz.sat_eq (comb_power he0 he1) ?_
      walk_at "v"
      walk_at "n"
      exact ⟨rfl, rfl⟩
    · walk_at "v"
      refine Rz.sat_eq (inner_ok (.inr (.inr (.inr (.inl rfl))))) ?_
      walk_at "v"
      refine ask_each (ws := ws) (by simp) h.len.1.symm h2 (kids_w h ih) ?_
      walk_at "v"
      refine Rz.sat_eq (comb_max (.inr (.inr rfl))) ?_
      walk_at "v"
      walk_at "n"
      exact ⟨rfl, rfl⟩
    · walk_at "v"
      refine Rz.sat_eq (inner_ok (.inr (.inr (.inr (.inr rfl))))) ?_
      walk_at "v"
      refine ask_each (ws := ws) (by simp) h.len.1.symm h2 (kids_w h ih) ?_
      walk_at "v"
      refine Rz.sat_eq comb_times ?_
      walk_at "v"
      walk_at "n"
      exact ⟨rfl, rfl⟩
end
end K11

namespace K11
open PySem PySem.Spec PyProof.Rows L2 Fw
local macro_rules | `(tactic| walk_at "v") => `(tactic| (repeat (first | ((with_reducible apply Fw.v_var); next => exact rfl) | with_reducible refine Fw.v_bin ?_ | with_reducible refine Fw.v_maxD ?_ | with_reducible refine Fw.v_sub ?_ | with_reducible refine Fw.v_cst ?_ | with_reducible refine Fw.v_cons ?_ | with_reducible refine Fw.v_nil ?_ | with_reducible refine Fw.v_cmp ?_ | with_reducible refine Fw.v_blt ?_ | with_reducible refine Fw.v_neg ?_ | with_reducible refine Fw.v_call ?_ | with_reducible refine Fw.v_callK ?_ | with_reducible refine Fw.v_not ?_ | with_reducible refine Fw.v_chain ?_ | with_reducible refine Fw.v_andT ?_ | with_reducible refine Fw.v_orT ?_ | with_reducible refine Fw.v_and ?_ | with_reducible refine Fw.v_or ?_ | with_reducible refine Fw.v_ite ?_ | with_reducible refine Fw.v_tup ?_ | with_reducible refine Fw.v_lst ?_ | with_reducible refine Fw.v_lstM ?_ | with_reducible refine Fw.v_slcH ?_ | with_reducible refine Fw.v_slcL ?_ | with_reducible refine Fw.v_isiT ?_ | with_reducible refine Fw.v_fstr ?_ | with_reducible refine Fw.v_fmt ?_ | with_reducible refine Fw.v_comp0 ?_ | with_reducible refine Fw.v_comp1 ?_ | with_reducible refine Fw.s_t0 ?_ | with_reducible refine Fw.s_t1 ?_ | with_reducible refine Fw.s_t2 ?_ | with_reducible refine Fw.s_l0 ?_ | with_reducible refine Fw.s_l1 ?_ | with_reducible refine Fw.s_l2 ?_ | with_reducible refine Fw.s_not ?_ | with_reducible refine Fw.s_neg ?_ | with_reducible refine Fw.o_add ?_ | with_reducible refine Fw.o_sub ?_ | with_reducible refine Fw.q_lt ?_ | with_reducible refine Fw.q_le ?_ | with_reducible refine Fw.q_gt ?_ | with_reducible refine Fw.q_ge ?_ | with_reducible refine Fw.q_eq ?_ | with_reducible refine Fw.q_ne ?_ | with_reducible refine Fw.q_eqB ?_ | with_reducible refine Fw.q_neB ?_ | with_reducible refine Fw.q_isN ?_ | with_reducible refine Fw.q_notN ?_ | with_reducible refine Fw.sat_cons ?_ | with_reducible refine Fw.w_asg ?_ | with_reducible refine Fw.w_par ?_ | with_reducible refine Fw.w_setI ?_ | with_reducible refine Fw.w_exp ?_ | with_reducible refine Fw.w_ret ?_ | with_reducible refine Fw.w_ite ?_ | with_reducible refine Fw.w_for ?_ | with_reducible refine Fw.w_while ?_ | with_reducible refine Fw.v_tst ?_ | ((with_reducible apply Fw.q_inT); next => exact rfl) | ((with_reducible apply Fw.s_sub); next => exact rfl) | ((with_reducible apply Fw.s_blt); next => exact rfl) | ((with_reducible apply Fw.s_tst); next => exact rfl) | ((with_reducible apply Fw.s_isi); next => exact rfl) | ((with_reducible apply Fw.s_asm); next => exact rfl) | ((with_reducible apply Fw.s_bnd); next => exact rfl) | ((with_reducible apply Fw.s_wlk); next => exact rfl) | ((with_reducible apply Fw.s_slcH); next => exact rfl) | ((with_reducible apply Fw.s_slcL); next => exact rfl) | ((with_reducible apply Fw.s_dsp); (next => exact rfl); (next => exact rfl)) | ((with_reducible apply Fw.s_set); (next => exact rfl); (next => exact rfl)) | ((with_reducible apply Fw.q_eqS); (next => first | exact ofStr_ok _ | assumption); (next => first | exact ofStr_ok _ | assumption)) | ((with_reducible refine Fw.o_mul ?_ ?_); next => first | assumption | exact mul_c (by omega) (by omega) | exact mul_cL (by omega) (by omega)) | ((with_reducible refine Fw.o_mod ?_ ?_); next => first | assumption | omega) | ((with_reducible refine Fw.o_div ?_ ?_); next => first | assumption | decide) | ((with_reducible refine Fw.o_pow ?_ ?_); next => decide))))
local macro_rules | `(tactic| walk_at "y") => `(tactic| (refine br (fun _ => ?_) (fun h => absurd h (by first | exact ft_no | exact tf_no | decide | simp)); walk_at "v"))
local macro_rules | `(tactic| walk_at "n") => `(tactic| (refine br (fun h => absurd h (by first | exact ft_no | exact tf_no | decide | simp)) (fun _ => ?_); (try refine sat_nil ?_); walk_at "v"))
section
variable {wf : Nat} {S : Store}
/-- the product of a list -/
theorem prod_for {cl : Nat → List A → Store → Rz A} {a b : Option A} {PR : A → Store → Prop} {Q : Fw.Env → Store → Prop} : ∀ (qs : List Int) (f : Int) (x3 x4 : Option A), PrOk f qs → (∀ y3, Q [a, b, some (.p (.int (prodL f qs))), y3, x4] S) →
    (forL (bindT (.nm 3)) (Fw.run cl wf [.asg (.nm 2) (.bin .Mult (.var 2) (.var 3))]) (qs.map fun q => A.p (.int q)) [a, b, some (.p (.int f)), x3, x4] S).sat Q PR
  | [], f, x3, x4, _, h => by
    rw [List.map_nil, forL]
    exact h x3
  | q :: qs, f, x3, x4, hp, h => by
    obtain ⟨h1, h2⟩ := hp
    rw [List.map_cons, forL]
    show (match Fw.run cl wf [.asg (.nm 2) (.bin .Mult (.var 2) (.var 3))] [a, b, some (.p (.int f)), some (.p (.int q)), x4] S with
      | .nx ρ2 S2 => forL (bindT (.nm 3)) (Fw.run cl wf [.asg (.nm 2) (.bin .Mult (.var 2) (.var 3))]) (qs.map fun q => A.p (.int q)) ρ2 S2
      | .ct ρ2 S2 => forL (bindT (.nm 3)) (Fw.run cl wf [.asg (.nm 2) (.bin .Mult (.var 2) (.var 3))]) (qs.map fun q => A.p (.int q)) ρ2 S2
      | .bk ρ2 S2 => .nx ρ2 S2
      | r => r).sat Q PR
    have e : (Fw.run cl wf [.asg (.nm 2) (.bin .Mult (.var 2) (.var 3))] [a, b, some (.p (.int f)), some (.p (.int q)), x4] S).sat (fun ρ2 S2 => ρ2 = [a, b, some (.p (.int (f * q))), some (.p (.int q)), x4] ∧ S2 = S) fun _ _ => False := by
      walk_at "v"
      exact sat_nil ⟨rfl, rfl⟩
    cases hq : Fw.run cl wf [.asg (.nm 2) (.bin .Mult (.var 2) (.var 3))] [a, b, some (.p (.int f)), some (.p (.int q)), x4] S with
    | nx ρ2 S2 =>
      rw [hq] at e
      obtain ⟨e1, e2⟩ := e
      rw [e1, e2]
      exact prod_for qs (f * q) _ x4 h2 h
    | rt y S2 => rw [hq] at e; exact False.elim e
    | bk ρ2 S2 => rw [hq] at e; exact False.elim e
    | ct ρ2 S2 => rw [hq] at e; exact False.elim e
    | ex y S2 => rw [hq] at e; exact False.elim e
    | bad => rw [hq] at e; exact False.elim e
theorem mul_list {q e : Int} (h0 : 0 ≤ e) (h1 : e < 5) {P : A → Store → Prop} (k : P (.p (.lst ((List.replicate e.toNat q).map D.int))) S) : OpV .Mult (.p (.lst ([q].map D.int))) (.p (.int e)) S P := by
  refine ⟨_, _, .lst ((List.replicate e.toNat q).map D.int), rfl, rfl, ?_, k⟩
  show (if e < 1000000 ∧ -1000000 < e ∧ ([q].map D.int).length * e.toNat ≤ LIM then some (D.lst (List.replicate e.toNat ([q].map D.int)).flatten) else none) = _
  rw [if_pos ⟨by omega, by omega, by show 1 * e.toNat ≤ 100000; omega⟩, List.map_replicate]
  congr 2
  exact List.flatten_replicate_singleton
theorem pr_rep {n : Nat} (hn : n ≤ 5) {p : D} {w g q e : Int} (h : Me n p w g q) (h0 : 0 ≤ e) (h1 : e < 5) : PrOk 1 (List.replicate e.toNat q) := by
  have l5 : 5 ^ n ≤ 15625 := Nat.le_trans (Nat.pow_le_pow_right (by decide) (show n ≤ 6 by omega)) (by decide)
  have hl : (List.replicate e.toNat q).length ≤ 4 := by rw [List.length_replicate]; omega
  exact (prok _ 1 (5 ^ n) 1 (fun x hx => by rw [List.eq_of_mem_replicate hx]; exact Me.bd n (by omega) _ _ _ _ h) (by decide) (by have := Nat.mul_le_mul l5 hl; omega) (pow5 n) (by decide)).1
theorem pr_kids {n : Nat} (hn : n ≤ 5) {ps : List D} {ws gs qs : List Int} (h : MeL (Me n) ps ws gs qs) (h4 : ps.length ≤ 4) : PrOk 1 qs := by
  have l5 : 5 ^ n ≤ 15625 := Nat.le_trans (Nat.pow_le_pow_right (by decide) (show n ≤ 6 by omega)) (by decide)
  have hl : qs.length ≤ 4 := by rw [h.len.2.2]; exact h4
  exact (prok _ 1 (5 ^ n) 1 (MeL.bd (Me.bd n (by omega)) h) (by decide) (by have := Nat.mul_le_mul l5 hl; omega) (pow5 n) (by decide)).1
theorem map_ap (qs : List Int) : (qs.map D.int).map A.p = qs.map fun q => A.p (.int q) := by rw [List.map_map]; rfl
theorem mul1 (q : Int) : PrOk 1 [q] := ⟨mul_cL (by decide) (by decide), trivial⟩

theorem degree_ok : ∀ (n : Nat) (d : D) (w g q : Int), Me n d w g q → ∀ k, n + 2 ≤ k → callI ft wf k 3 [.p d] S = .ok (.p (.int g)) S := by
  intro n
  induction n with
  | zero =>
    intro d w g q h k hk
    obtain ⟨k, rfl⟩ : ∃ j, k = j + 2 := ⟨k - 2, by omega⟩
    refine call_val rfl rfl ?_
    show (Fw.run _ wf (c_degree_of 0 1 3) [some (.p d), none] _).sat _ _
    unfold c_degree_of
    obtain ⟨x, rest, rfl, hx, rfl, rfl, hg⟩ := leaf_lw h
    obtain ⟨x1, x2, x3, x4, x5⟩ := lw_not hx
    walk_at "v"
    rcases hg with ⟨rfl, rfl⟩ | ⟨hne, rfl⟩
    · walk_at "y"
      exact ⟨rfl, rfl⟩
    refine br (fun h => absurd h (eqs_false (beq_eq_false_iff_ne.mpr hne))) (fun _ => sat_nil ?_)
    walk_at "v"
    refine Rz.sat_eq (inner_ok (.inl ⟨x, rest, rfl, hx, rfl⟩)) ?_
    walk_at "v"
    refine ask_each (ws := []) (by simp) rfl (by simp) no_kid ?_
    walk_at "v"
    exact Rz.sat_eq (comb_max (ws := []) (.inl hx)) ⟨rfl, rfl⟩
  | succ n ih =>
    intro d w g q h k hk
    obtain ⟨k, rfl⟩ : ∃ j, k = j + 2 := ⟨k - 2, by omega⟩
    have ih := fun d w g q h => ih d w g q h (k + 1) (by omega)
    refine call_val rfl rfl ?_
    show (Fw.run _ wf (c_degree_of 0 1 3) [some (.p d), none] _).sat _ _
    unfold c_degree_of
    rcases h with h | ⟨nm, p, w', rfl, h, rfl⟩ | ⟨p, e, w', g', q', rfl, he0, he1, h, rfl, rfl, rfl⟩ | ⟨ps, ws, gs, qs, rfl, h1, h2, h, rfl, rfl, rfl⟩ | ⟨ps, ws, gs, qs, rfl, h1, h2, h, rfl, rfl, rfl⟩
    · obtain ⟨x, rest, rfl, hx, rfl, rfl, hg⟩ := leaf_lw h
      obtain ⟨x1, x2, x3, x4, x5⟩ := lw_not hx
      walk_at "v"
      rcases hg with ⟨rfl, rfl⟩ | ⟨hne, rfl⟩
      · walk_at "y"
        exact ⟨rfl, rfl⟩
      refine br (fun h => absurd h (eqs_false (beq_eq_false_iff_ne.mpr hne))) (fun _ => sat_nil ?_)
      walk_at "v"
      refine Rz.sat_eq (inner_ok (.inl ⟨x, rest, rfl, hx, rfl⟩)) ?_
      walk_at "v"
      refine ask_each (ws := []) (by simp) rfl (by simp) no_kid ?_
      walk_at "v"
      exact Rz.sat_eq (comb_max (ws := []) (.inl hx)) ⟨rfl, rfl⟩
    · walk_at "v"
      walk_at "n"
      refine Rz.sat_eq (inner_ok (.inr (.inl ⟨nm, p, rfl, rfl⟩))) ?_
      walk_at "v"
      refine ask_each (ws := [g]) (by simp) rfl (by simp) (one_kid (ih _ _ _ _ h)) ?_
      walk_at "v"
      exact Rz.sat_eq (comb_max (ws := [g]) (.inr (.inl rfl))) ⟨rfl, rfl⟩
    · walk_at "v"
      walk_at "n"
      refine Rz.sat_eq (inner_ok (.inr (.inr (.inl ⟨p, e, rfl, rfl⟩)))) ?_
      walk_at "v"
      refine ask_each (ws := [g']) (by simp) rfl (by simp) (one_kid (ih _ _ _ _ h)) ?_
      walk_at "v"
      exact Rz.sat_eq (comb_power he0 he1) ⟨rfl, rfl⟩
    · walk_at "v"
      walk_at "n"
      refine Rz.sat_eq (inner_ok (.inr (.inr (.inr (.inl rfl))))) ?_
      walk_at "v"
      refine ask_each (ws := gs) (by simp) h.len.2.1.symm h2 (kids_g h ih) ?_
      walk_at "v"
      exact Rz.sat_eq (comb_max (.inr (.inr rfl))) ⟨rfl, rfl⟩
    · walk_at "v"
      walk_at "n"
      refine Rz.sat_eq (inner_ok (.inr (.inr (.inr (.inr rfl))))) ?_
      walk_at "v"
      refine ask_each (ws := gs) (by simp) h.len.2.1.symm h2 (kids_g h ih) ?_
      walk_at "v"
      exact Rz.sat_eq comb_times ⟨rfl, rfl⟩
theorem products_ok : ∀ (n : Nat) (d : D) (w g q : Int), Me n d w g q → n ≤ 6 → ∀ k, n + 2 ≤ k → callI ft wf k 4 [.p d] S = .ok (.p (.int q)) S := by
  intro n
  induction n with
  | zero =>
    intro d w g q h hn k hk
    obtain ⟨k, rfl⟩ : ∃ j, k = j + 2 := ⟨k - 2, by omega⟩
    refine call_val rfl rfl ?_
    show (Fw.run _ wf (c_products_of 0 4) [some (.p d), none, none, none, none] _).sat _ _
    unfold c_products_of
    obtain ⟨x, rest, rfl, hx, rfl, rfl, hg⟩ := leaf_lw h
    obtain ⟨x1, x2, x3, x4, x5⟩ := lw_not hx
    walk_at "v"
    refine Rz.sat_eq (inner_ok (.inl ⟨x, rest, rfl, hx, rfl⟩)) ?_
    walk_at "v"
    refine ask_each (ws := []) (by simp) rfl (by simp) no_kid ?_
    walk_at "v"
    refine br (fun h => absurd h (eqs_false x1)) (fun _ => ?_)
    refine sat_nil ?_
    walk_at "v"
    refine br (fun h => absurd h (eqs_false x2)) (fun _ => ?_)
    refine sat_nil ?_
    walk_at "v"
    refine br (fun h => absurd h (eqs_false x3)) (fun _ => ?_)
    refine sat_nil ?_
    walk_at "v"
    refine prod_for [] 1 _ _ trivial (fun y3 => ?_)
    walk_at "v"
    exact ⟨rfl, rfl⟩
  | succ n ih =>
    intro d w g q h hn k hk
    obtain ⟨k, rfl⟩ : ∃ j, k = j + 2 := ⟨k - 2, by omega⟩
    have ih := fun d w g q h => ih d w g q h (by omega) (k + 1) (by omega)
    refine call_val rfl rfl ?_
    show (Fw.run _ wf (c_products_of 0 4) [some (.p d), none, none, none, none] _).sat _ _
    unfold c_products_of
    rcases h with h | ⟨nm, p, w', rfl, h, rfl⟩ | ⟨p, e, w', g', q', rfl, he0, he1, h, rfl, rfl, rfl⟩ | ⟨ps, ws, gs, qs, rfl, h1, h2, h, rfl, rfl, rfl⟩ | ⟨ps, ws, gs, qs, rfl, h1, h2, h, rfl, rfl, rfl⟩
    · obtain ⟨x, rest, rfl, hx, rfl, rfl, hg⟩ := leaf_lw h
      obtain ⟨x1, x2, x3, x4, x5⟩ := lw_not hx
      walk_at "v"
      refine Rz.sat_eq (inner_ok (.inl ⟨x, rest, rfl, hx, rfl⟩)) ?_
      walk_at "v"
      refine ask_each (ws := []) (by simp) rfl (by simp) no_kid ?_
      walk_at "v"
      refine br (fun h => absurd h (eqs_false x1)) (fun _ => ?_)
      refine sat_nil ?_
      walk_at "v"
      refine br (fun h => absurd h (eqs_false x2)) (fun _ => ?_)
      refine sat_nil ?_
      walk_at "v"
      refine br (fun h => absurd h (eqs_false x3)) (fun _ => ?_)
      refine sat_nil ?_
      walk_at "v"
      refine prod_for [] 1 _ _ trivial (fun y3 => ?_)
      walk_at "v"
      exact ⟨rfl, rfl⟩
    · walk_at "v"
      refine Rz.sat_eq (inner_ok (.inr (.inl ⟨nm, p, rfl, rfl⟩))) ?_
      walk_at "v"
      refine ask_each (ws := [q]) (by simp) rfl (by simp) (one_kid (ih _ _ _ _ h)) ?_
      walk_at "v"
      walk_at "y"
      exact ⟨rfl, rfl⟩
    · walk_at "v"
      refine Rz.sat_eq (inner_ok (.inr (.inr (.inl ⟨p, e, rfl, rfl⟩)))) ?_
      walk_at "v"
      refine ask_each (ws := [q']) (by simp) rfl (by simp) (one_kid (ih _ _ _ _ h)) ?_
      walk_at "v"
      walk_at "n"
      walk_at "n"
      walk_at "y"
      refine mul_list he0 he1 ?_
      refine s_bnd rfl (sat_nil ?_)
      walk_at "v"
      rw [map_ap]
      refine prod_for _ 1 _ _ (pr_rep (by omega) h he0 he1) (fun y3 => ?_)
      walk_at "v"
      exact ⟨rfl, rfl⟩
    · walk_at "v"
      refine Rz.sat_eq (inner_ok (.inr (.inr (.inr (.inl rfl))))) ?_
      walk_at "v"
      refine ask_each (ws := qs) (by simp) h.len.2.2.symm h2 (kids_q h ih) ?_
      walk_at "v"
      walk_at "n"
      walk_at "y"
      exact s_blt sum_val ⟨rfl, rfl⟩
    · walk_at "v"
      refine Rz.sat_eq (inner_ok (.inr (.inr (.inr (.inr rfl))))) ?_
      walk_at "v"
      refine ask_each (ws := qs) (by simp) h.len.2.2.symm h2 (kids_q h ih) ?_
      walk_at "v"
      walk_at "n"
      walk_at "n"
      walk_at "n"
      rw [map_ap]
      refine prod_for _ 1 _ _ (pr_kids (by omega) h h2) (fun y3 => ?_)
      walk_at "v"
      exact ⟨rfl, rfl⟩
theorem wide_ok : ∀ (n : Nat) (d : D) (w g q : Int), Me n d w g q → ∀ k, n + 2 ≤ k → callI ft wf k 14 [.p d] S = .ok (.p (.int w)) S := by
  intro n
  induction n with
  | zero =>
    intro d w g q h k hk
    obtain ⟨k, rfl⟩ : ∃ j, k = j + 2 := ⟨k - 2, by omega⟩
    refine call_val rfl rfl ?_
    show (Fw.run _ wf (c__law_wide 13 14) [some (.p d), none, none] _).sat _ _
    unfold c__law_wide
    obtain ⟨x, rest, rfl, hx, rfl, rfl, hg⟩ := leaf_lw h
    obtain ⟨x1, x2, x3, x4, x5⟩ := lw_not hx
    walk_at "v"
    refine Rz.sat_eq (linner_ok (.inl ⟨x, rest, rfl, hx, rfl⟩)) ?_
    walk_at "v"
    refine ask_each (ws := []) (by simp) rfl (by simp) no_kid ?_
    walk_at "v"
    refine br (fun h => absurd h (eqs_false x1)) (fun _ => ?_)
    refine sat_nil ?_
    walk_at "v"
    refine br (fun h => absurd h (eqs_false x2)) (fun _ => ?_)
    refine sat_nil ?_
    walk_at "v"
    refine br (fun h => absurd h (eqs_false x3)) (fun _ => ?_)
    refine sat_nil ?_
    walk_at "v"
    exact ⟨rfl, rfl⟩
  | succ n ih =>
    intro d w g q h k hk
    obtain ⟨k, rfl⟩ : ∃ j, k = j + 2 := ⟨k - 2, by omega⟩
    have ih := fun d w g q h => ih d w g q h (k + 1) (by omega)
    refine call_val rfl rfl ?_
    show (Fw.run _ wf (c__law_wide 13 14) [some (.p d), none, none] _).sat _ _
    unfold c__law_wide
    rcases h with h | ⟨nm, p, w', rfl, h, rfl⟩ | ⟨p, e, w', g', q', rfl, he0, he1, h, rfl, rfl, rfl⟩ | ⟨ps, ws, gs, qs, rfl, h1, h2, h, rfl, rfl, rfl⟩ | ⟨ps, ws, gs, qs, rfl, h1, h2, h, rfl, rfl, rfl⟩
    · obtain ⟨x, rest, rfl, hx, rfl, rfl, hg⟩ := leaf_lw h
      obtain ⟨x1, x2, x3, x4, x5⟩ := lw_not hx
      walk_at "v"
      refine Rz.sat_eq (linner_ok (.inl ⟨x, rest, rfl, hx, rfl⟩)) ?_
      walk_at "v"
      refine ask_each (ws := []) (by simp) rfl (by simp) no_kid ?_
      walk_at "v"
      refine br (fun h => absurd h (eqs_false x1)) (fun _ => ?_)
      refine sat_nil ?_
      walk_at "v"
      refine br (fun h => absurd h (eqs_false x2)) (fun _ => ?_)
      refine sat_nil ?_
      walk_at "v"
      refine br (fun h => absurd h (eqs_false x3)) (fun _ => ?_)
      refine sat_nil ?_
      walk_at "v"
      exact ⟨rfl, rfl⟩
    · walk_at "v"
      refine Rz.sat_eq (linner_ok (.inr (.inl ⟨nm, p, rfl, rfl⟩))) ?_
      walk_at "v"
      refine ask_each (ws := [w']) (by simp) rfl (by simp) (one_kid (ih _ _ _ _ h)) ?_
      walk_at "v"
      walk_at "y"
      exact ⟨rfl, rfl⟩
    · walk_at "v"
      refine Rz.sat_eq (linner_ok (.inr (.inr (.inl ⟨p, e, rfl, rfl⟩)))) ?_
      walk_at "v"
      refine ask_each (ws := [w']) (by simp) rfl (by simp) (one_kid (ih _ _ _ _ h)) ?_
      walk_at "v"
      walk_at "n"
      walk_at "n"
      walk_at "y"
      exact ⟨rfl, rfl⟩
    · walk_at "v"
      refine Rz.sat_eq (linner_ok (.inr (.inr (.inr (.inl rfl))))) ?_
      walk_at "v"
      refine ask_each (ws := ws) (by simp) h.len.1.symm h2 (kids_w h ih) ?_
      walk_at "v"
      walk_at "n"
      walk_at "y"
      cases ws with
      | nil => exact absurd h.len.1 (by simp; omega)
      | cons w ws => exact s_blt max_val ⟨rfl, rfl⟩
    · walk_at "v"
      refine Rz.sat_eq (linner_ok (.inr (.inr (.inr (.inr rfl))))) ?_
      walk_at "v"
      refine ask_each (ws := ws) (by simp) h.len.1.symm h2 (kids_w h ih) ?_
      walk_at "v"
      walk_at "n"
      walk_at "n"
      walk_at "n"
      exact s_blt sum_val ⟨rfl, rfl⟩
theorem lw_in {x : Str} (h : LW x) : ¬ (([("sum" : Str), "plus"].any fun z => z == x) = true) := by
  rcases h with rfl | rfl | rfl | rfl | rfl | rfl <;> decide
theorem ldegree_ok : ∀ (n : Nat) (d : D) (w g q : Int), Me n d w g q → ∀ k, n + 2 ≤ k → callI ft wf k 15 [.p d] S = .ok (.p (.int g)) S := by
  intro n
  induction n with
  | zero =>
    intro d w g q h k hk
    obtain ⟨k, rfl⟩ : ∃ j, k = j + 2 := ⟨k - 2, by omega⟩
    refine call_val rfl rfl ?_
    show (Fw.run _ wf (c__law_degree 13 15) [some (.p d), none, none] _).sat _ _
    unfold c__law_degree
    obtain ⟨x, rest, rfl, hx, rfl, rfl, hg⟩ := leaf_lw h
    obtain ⟨x1, x2, x3, x4, x5⟩ := lw_not hx
    walk_at "v"
    refine Rz.sat_eq (linner_ok (.inl ⟨x, rest, rfl, hx, rfl⟩)) ?_
    walk_at "v"
    refine ask_each (ws := []) (by simp) rfl (by simp) no_kid ?_
    walk_at "v"
    rcases hg with ⟨rfl, rfl⟩ | ⟨hne, rfl⟩
    · walk_at "y"
      exact ⟨rfl, rfl⟩
    refine br (fun h => absurd h (eqs_false (beq_eq_false_iff_ne.mpr hne))) (fun _ => sat_nil ?_)
    walk_at "v"
    refine br (fun h => absurd h (lw_in hx)) (fun _ => sat_nil ?_)
    walk_at "v"
    refine br (fun h => absurd h (eqs_false x3)) (fun _ => ?_)
    refine sat_nil ?_
    walk_at "v"
    exact ⟨rfl, rfl⟩
  | succ n ih =>
    intro d w g q h k hk
    obtain ⟨k, rfl⟩ : ∃ j, k = j + 2 := ⟨k - 2, by omega⟩
    have ih := fun d w g q h => ih d w g q h (k + 1) (by omega)
    refine call_val rfl rfl ?_
    show (Fw.run _ wf (c__law_degree 13 15) [some (.p d), none, none] _).sat _ _
    unfold c__law_degree
    rcases h with h | ⟨nm, p, w', rfl, h, rfl⟩ | ⟨p, e, w', g', q', rfl, he0, he1, h, rfl, rfl, rfl⟩ | ⟨ps, ws, gs, qs, rfl, h1, h2, h, rfl, rfl, rfl⟩ | ⟨ps, ws, gs, qs, rfl, h1, h2, h, rfl, rfl, rfl⟩
    · obtain ⟨x, rest, rfl, hx, rfl, rfl, hg⟩ := leaf_lw h
      obtain ⟨x1, x2, x3, x4, x5⟩ := lw_not hx
      walk_at "v"
      refine Rz.sat_eq (linner_ok (.inl ⟨x, rest, rfl, hx, rfl⟩)) ?_
      walk_at "v"
      refine ask_each (ws := []) (by simp) rfl (by simp) no_kid ?_
      walk_at "v"
      rcases hg with ⟨rfl, rfl⟩ | ⟨hne, rfl⟩
      · walk_at "y"
        exact ⟨rfl, rfl⟩
      refine br (fun h => absurd h (eqs_false (beq_eq_false_iff_ne.mpr hne))) (fun _ => sat_nil ?_)
      walk_at "v"
      refine br (fun h => absurd h (lw_in hx)) (fun _ => sat_nil ?_)
      walk_at "v"
      refine br (fun h => absurd h (eqs_false x3)) (fun _ => ?_)
      refine sat_nil ?_
      walk_at "v"
      exact ⟨rfl, rfl⟩
    · walk_at "v"
      refine Rz.sat_eq (linner_ok (.inr (.inl ⟨nm, p, rfl, rfl⟩))) ?_
      walk_at "v"
      refine ask_each (ws := [g]) (by simp) rfl (by simp) (one_kid (ih _ _ _ _ h)) ?_
      walk_at "v"
      walk_at "n"
      walk_at "y"
      exact ⟨rfl, rfl⟩
    · walk_at "v"
      refine Rz.sat_eq (linner_ok (.inr (.inr (.inl ⟨p, e, rfl, rfl⟩)))) ?_
      walk_at "v"
      refine ask_each (ws := [g']) (by simp) rfl (by simp) (one_kid (ih _ _ _ _ h)) ?_
      walk_at "v"
      walk_at "n"
      walk_at "n"
      walk_at "y"
      exact ⟨rfl, rfl⟩
    · walk_at "v"
      refine Rz.sat_eq (linner_ok (.inr (.inr (.inr (.inl rfl))))) ?_
      walk_at "v"
      refine ask_each (ws := gs) (by simp) h.len.2.1.symm h2 (kids_g h ih) ?_
      walk_at "v"
      walk_at "n"
      walk_at "y"
      cases gs with
      | nil => exact absurd h.len.2.1 (by simp; omega)
      | cons g gs => exact s_blt max_val ⟨rfl, rfl⟩
    · walk_at "v"
      refine Rz.sat_eq (linner_ok (.inr (.inr (.inr (.inr rfl))))) ?_
      walk_at "v"
      refine ask_each (ws := gs) (by simp) h.len.2.1.symm h2 (kids_g h ih) ?_
      walk_at "v"
      walk_at "n"
      walk_at "n"
      walk_at "n"
      exact s_blt sum_val ⟨rfl, rfl⟩
theorem lproducts_ok : ∀ (n : Nat) (d : D) (w g q : Int), Me n d w g q → n ≤ 6 → ∀ k, n + 2 ≤ k → callI ft wf k 16 [.p d] S = .ok (.p (.int q)) S := by
  intro n
  induction n with
  | zero =>
    intro d w g q h hn k hk
    obtain ⟨k, rfl⟩ : ∃ j, k = j + 2 := ⟨k - 2, by omega⟩
    refine call_val rfl rfl ?_
    show (Fw.run _ wf (c__law_products 13 16) [some (.p d), none, none, none, none] _).sat _ _
    unfold c__law_products
    obtain ⟨x, rest, rfl, hx, rfl, rfl, hg⟩ := leaf_lw h
    obtain ⟨x1, x2, x3, x4, x5⟩ := lw_not hx
    walk_at "v"
    refine Rz.sat_eq (linner_ok (.inl ⟨x, rest, rfl, hx, rfl⟩)) ?_
    walk_at "v"
    refine ask_each (ws := []) (by simp) rfl (by simp) no_kid ?_
    walk_at "v"
    refine br (fun h => absurd h (eqs_false x2)) (fun _ => ?_)
    refine sat_nil ?_
    walk_at "v"
    refine br (fun h => absurd h (eqs_false x3)) (fun _ => ?_)
    refine sat_nil ?_
    walk_at "v"
    refine prod_for [] 1 _ _ trivial (fun y3 => ?_)
    walk_at "v"
    exact ⟨rfl, rfl⟩
  | succ n ih =>
    intro d w g q h hn k hk
    obtain ⟨k, rfl⟩ : ∃ j, k = j + 2 := ⟨k - 2, by omega⟩
    have ih := fun d w g q h => ih d w g q h (by omega) (k + 1) (by omega)
    refine call_val rfl rfl ?_
    show (Fw.run _ wf (c__law_products 13 16) [some (.p d), none, none, none, none] _).sat _ _
    unfold c__law_products
    rcases h with h | ⟨nm, p, w', rfl, h, rfl⟩ | ⟨p, e, w', g', q', rfl, he0, he1, h, rfl, rfl, rfl⟩ | ⟨ps, ws, gs, qs, rfl, h1, h2, h, rfl, rfl, rfl⟩ | ⟨ps, ws, gs, qs, rfl, h1, h2, h, rfl, rfl, rfl⟩
    · obtain ⟨x, rest, rfl, hx, rfl, rfl, hg⟩ := leaf_lw h
      obtain ⟨x1, x2, x3, x4, x5⟩ := lw_not hx
      walk_at "v"
      refine Rz.sat_eq (linner_ok (.inl ⟨x, rest, rfl, hx, rfl⟩)) ?_
      walk_at "v"
      refine ask_each (ws := []) (by simp) rfl (by simp) no_kid ?_
      walk_at "v"
      refine br (fun h => absurd h (eqs_false x2)) (fun _ => ?_)
      refine sat_nil ?_
      walk_at "v"
      refine br (fun h => absurd h (eqs_false x3)) (fun _ => ?_)
      refine sat_nil ?_
      walk_at "v"
      refine prod_for [] 1 _ _ trivial (fun y3 => ?_)
      walk_at "v"
      exact ⟨rfl, rfl⟩
    · walk_at "v"
      refine Rz.sat_eq (linner_ok (.inr (.inl ⟨nm, p, rfl, rfl⟩))) ?_
      walk_at "v"
      refine ask_each (ws := [q]) (by simp) rfl (by simp) (one_kid (ih _ _ _ _ h)) ?_
      walk_at "v"
      walk_at "n"
      walk_at "n"
      refine prod_for [q] 1 _ _ (mul1 q) (fun y3 => ?_)
      walk_at "v"
      exact ⟨by rw [prodL, prodL, Int.one_mul], rfl⟩
    · walk_at "v"
      refine Rz.sat_eq (linner_ok (.inr (.inr (.inl ⟨p, e, rfl, rfl⟩)))) ?_
      walk_at "v"
      refine ask_each (ws := [q']) (by simp) rfl (by simp) (one_kid (ih _ _ _ _ h)) ?_
      walk_at "v"
      walk_at "n"
      walk_at "y"
      refine mul_list he0 he1 ?_
      refine s_bnd rfl (sat_nil ?_)
      walk_at "v"
      rw [map_ap]
      refine prod_for _ 1 _ _ (pr_rep (by omega) h he0 he1) (fun y3 => ?_)
      walk_at "v"
      exact ⟨rfl, rfl⟩
    · walk_at "v"
      refine Rz.sat_eq (linner_ok (.inr (.inr (.inr (.inl rfl))))) ?_
      walk_at "v"
      refine ask_each (ws := qs) (by simp) h.len.2.2.symm h2 (kids_q h ih) ?_
      walk_at "v"
      walk_at "y"
      exact s_blt sum_val ⟨rfl, rfl⟩
    · walk_at "v"
      refine Rz.sat_eq (linner_ok (.inr (.inr (.inr (.inr rfl))))) ?_
      walk_at "v"
      refine ask_each (ws := qs) (by simp) h.len.2.2.symm h2 (kids_q h ih) ?_
      walk_at "v"
      walk_at "n"
      walk_at "n"
      rw [map_ap]
      refine prod_for _ 1 _ _ (pr_kids (by omega) h h2) (fun y3 => ?_)
      walk_at "v"
      exact ⟨rfl, rfl⟩
end
end K11

namespace K11
open PySem PySem.Spec PyProof.Rows L2 Fw
local macro_rules | `(tactic| walk_at "v") => `(tactic| (repeat (first | ((with_reducible apply Fw.v_var); next => exact rfl) | with_reducible refine Fw.v_bin ?_ | with_reducible refine Fw.v_maxD ?_ | with_reducible refine Fw.v_sub ?_ | with_reducible refine Fw.v_cst ?_ | with_reducible refine Fw.v_cons ?_ | with_reducible refine Fw.v_nil ?_ | with_reducible refine Fw.v_cmp ?_ | with_reducible refine Fw.v_blt ?_ | with_reducible refine Fw.v_neg ?_ | with_reducible refine Fw.v_call ?_ | with_reducible refine Fw.v_callK ?_ | with_reducible refine Fw.v_not ?_ | with_reducible refine Fw.v_chain ?_ | with_reducible refine Fw.v_andT ?_ | with_reducible refine Fw.v_orT ?_ | with_reducible refine Fw.v_and ?_ | with_reducible refine Fw.v_or ?_ | with_reducible refine Fw.v_ite ?_ | with_reducible refine Fw.v_tup ?_ | with_reducible refine Fw.v_lst ?_ | with_reducible refine Fw.v_lstM ?_ | with_reducible refine Fw.v_slcH ?_ | with_reducible refine Fw.v_slcL ?_ | with_reducible refine Fw.v_isiT ?_ | with_reducible refine Fw.v_fstr ?_ | with_reducible refine Fw.v_fmt ?_ | with_reducible refine Fw.v_comp0 ?_ | with_reducible refine Fw.v_comp1 ?_ | with_reducible refine Fw.s_t0 ?_ | with_reducible refine Fw.s_t1 ?_ | with_reducible refine Fw.s_t2 ?_ | with_reducible refine Fw.s_l0 ?_ | with_reducible refine Fw.s_l1 ?_ | with_reducible refine Fw.s_l2 ?_ | with_reducible refine Fw.s_not ?_ | with_reducible refine Fw.s_neg ?_ | with_reducible refine Fw.o_add ?_ | with_reducible refine Fw.o_sub ?_ | with_reducible refine Fw.q_lt ?_ | with_reducible refine Fw.q_le ?_ | with_reducible refine Fw.q_gt ?_ | with_reducible refine Fw.q_ge ?_ | with_reducible refine Fw.q_eq ?_ | with_reducible refine Fw.q_ne ?_ | with_reducible refine Fw.q_eqB ?_ | with_reducible refine Fw.q_neB ?_ | with_reducible refine Fw.q_isN ?_ | with_reducible refine Fw.q_notN ?_ | with_reducible refine Fw.sat_cons ?_ | with_reducible refine Fw.w_asg ?_ | with_reducible refine Fw.w_par ?_ | with_reducible refine Fw.w_setI ?_ | with_reducible refine Fw.w_exp ?_ | with_reducible refine Fw.w_ret ?_ | with_reducible refine Fw.w_ite ?_ | with_reducible refine Fw.w_for ?_ | with_reducible refine Fw.w_while ?_ | with_reducible refine Fw.v_tst ?_ | ((with_reducible apply Fw.q_inT); next => exact rfl) | ((with_reducible apply Fw.s_sub); next => exact rfl) | ((with_reducible apply Fw.s_blt); next => exact rfl) | ((with_reducible apply Fw.s_tst); next => exact rfl) | ((with_reducible apply Fw.s_isi); next => exact rfl) | ((with_reducible apply Fw.s_asm); next => exact rfl) | ((with_reducible apply Fw.s_bnd); next => exact rfl) | ((with_reducible apply Fw.s_wlk); next => exact rfl) | ((with_reducible apply Fw.s_slcH); next => exact rfl) | ((with_reducible apply Fw.s_slcL); next => exact rfl) | ((with_reducible apply Fw.s_dsp); (next => exact rfl); (next => exact rfl)) | ((with_reducible apply Fw.s_set); (next => exact rfl); (next => exact rfl)) | ((with_reducible apply Fw.q_eqS); (next => first | exact ofStr_ok _ | assumption); (next => first | exact ofStr_ok _ | assumption)) | ((with_reducible refine Fw.o_mul ?_ ?_); next => first | assumption | exact mul_c (by omega) (by omega) | exact mul_cL (by omega) (by omega)) | ((with_reducible refine Fw.o_mod ?_ ?_); next => first | assumption | omega) | ((with_reducible refine Fw.o_div ?_ ?_); next => first | assumption | decide) | ((with_reducible refine Fw.o_pow ?_ ?_); next => decide))))
local macro_rules | `(tactic| walk_at "y") => `(tactic| (refine br (fun _ => ?_) (fun h => absurd h (by first | exact ft_no | exact tf_no | decide | simp)); walk_at "v"))
local macro_rules | `(tactic| walk_at "n") => `(tactic| (refine br (fun h => absurd h (by first | exact ft_no | exact tf_no | decide | simp)) (fun _ => ?_); (try refine sat_nil ?_); walk_at "v"))
section
variable {wf : Nat} {S : Store}
theorem wlk_range {j : Int} (h0 : 0 ≤ j) (h1 : j < 1000) : walkF .range1 [.p (.int j)] = some ((List.range j.toNat).map fun i => .p (.int (0 + (i : Nat)))) := by
  have e : (2 : Int) ^ 62 = 4611686018427387904 := by decide
  show (if -(2 ^ 62) ≤ j ∧ j < 2 ^ 62 then some _ else none) = _
  rw [e, if_pos ⟨by omega, by omega⟩]
theorem abc_len : ("abcdefghijklmnopqrstuvwxyz" : Str).length = 26 := by decide +kernel
theorem ofS_ok {k : Nat} (hS : Src S) : (callI ft wf (k + 2) 7 [.m 0, .p (.str "abcdefghijklmnopqrstuvwxyz")] S).sat fun x S' => Src S' ∧ ∃ d, x = .p d ∧ ∃ y : Str, d = .str y ∧ y.length = 1 := by
  refine sat_call rfl rfl ?_
  show (Fw.run _ wf (c__law_of 6) [some (.m 0), some (.p (.str "abcdefghijklmnopqrstuvwxyz"))] _).sat _ _
  unfold c__law_of
  refine sat_cons (w_ret (v_sub (v_var rfl (v_call (v_cons (v_var rfl (v_cons (v_blt (v_cons (v_var rfl (v_nil ?_)))))))))))
  refine s_blt (z := .p (.int 26)) ?_ (v_nil ?_)
  · simp [bltF, abc_len, LIM]
  refine Rz.sat_mono (draw_ok rfl hS (by decide) (by decide)) ?_
  rintro x S' ⟨hS', d, rfl, hd0, hd1⟩
  obtain ⟨n, rfl⟩ := Int.eq_ofNat_of_zero_le hd0
  have hl : ("abcdefghijklmnopqrstuvwxyz" : Str).cps.toList.length = 26 := abc_len
  have hn : n < ("abcdefghijklmnopqrstuvwxyz" : Str).cps.toList.length := by omega
  refine s_sub (z := .p (.str ⟨#[("abcdefghijklmnopqrstuvwxyz" : Str).cps.toList[n]]⟩)) ?_ ⟨by rw [hS.len, hS'.len], hS', _, rfl, _, rfl, rfl⟩
  show (if ("abcdefghijklmnopqrstuvwxyz" : Str).length ≤ LIM then (atI ("abcdefghijklmnopqrstuvwxyz" : Str).cps.toList (n : Int)).map (fun c => A.p (.str ⟨#[c]⟩)) else none) = _
  rw [if_pos (by rw [abc_len]; decide), atI_nat (j := n) (List.getElem?_eq_getElem hn)]
  rfl
theorem strs_of : ∀ ds : List D, (∀ (j : Nat) d, ds[j]? = some d → ∃ y : Str, d = .str y ∧ y.length = 1) → ∃ ys : List Str, D.strs ds = some ys ∧ (ys.map fun y : Str => y.length).sum = ds.length ∧ ys.length = ds.length
  | [], _ => ⟨[], rfl, rfl, rfl⟩
  | d :: ds, h => by
    obtain ⟨y, rfl, hy⟩ := h 0 d rfl
    obtain ⟨ys, h1, h2, h3⟩ := strs_of ds fun j d hd => h (j + 1) d hd
    refine ⟨y :: ys, by rw [D.strs, h1]; rfl, ?_, by simp [h3]⟩
    rw [List.map_cons, List.sum_cons, h2, hy, List.length_cons]
    omega
theorem word_ok {k : Nat} (hS : Src S) : (callI ft wf (k + 3) 8 [.m 0, .p (.int 8)] S).sat fun x S' => Src S' ∧ ∃ d, x = .p d ∧ ∃ y : Str, d = .str y := by
  refine sat_call rfl rfl ?_
  show (Fw.run _ wf (c__law_word 6 7) [some (.m 0), some (.p (.int 8)), none] _).sat _ _
  unfold c__law_word
  refine sat_cons (w_ret (v_mth (v_cst ⟨rfl, v_cons ?_⟩)))
  walk_at "v"
  refine Rz.sat_mono (draw_ok rfl hS (by decide) (by decide)) ?_
  rintro _ S1 ⟨hS1, m, rfl, hm0, hm1⟩
  walk_at "v"
  refine s_wlk (wlk_range (by omega) (by omega)) ?_
  refine Rz.sat_mono (comp_sat Src (fun _ d => ∃ y : Str, d = .str y ∧ y.length = 1) _ 0 S1 hS1 ?_) ?_
  · intro j x S _ hS
    refine ⟨_, rfl, ?_⟩
    walk_at "v"
    exact ofS_ok hS
  rintro ds S2 ⟨hS2, hl, hR⟩
  rw [List.length_map, List.length_range] at hl
  have eL : LIM = 100000 := rfl
  refine ⟨by omega, v_nil ?_⟩
  obtain ⟨ys, h1, h2, h3⟩ := strs_of ds hR
  have e0 : ("" : Str).length = 0 := by decide
  refine ⟨.p (.str (Txt.join "" ys)), S2, ?_, by rw [hS.len, hS2.len], hS2, _, rfl, _, rfl⟩
  show (match D.strs ds with
    | some ys => if (ys.map fun y : Str => y.length).sum + ys.length * ("" : Str).length ≤ LIM then Rz.ok (A.p (.str (Txt.join "" ys))) S2 else .bad
    | none => .bad) = _
  rw [h1]
  show (if (ys.map fun y : Str => y.length).sum + ys.length * ("" : Str).length ≤ LIM then Rz.ok (A.p (.str (Txt.join "" ys))) S2 else .bad) = _
  rw [if_pos (by rw [e0, h2]; omega)]
theorem share_ok {k : Nat} (hw : 1000 ≤ wf) (hS : Src S) : (callI ft wf (k + 3) 12 [.m 0, .p (.int (10 ^ (6 : Int).toNat))] S).sat fun x S' => Src S' ∧ ∃ a b : Int, x = .p (.tup [.int a, .int b]) := by
  refine sat_call rfl rfl ?_
  show (Fw.run _ wf (c__law_share 6 7 11) [some (.m 0), some (.p (.int (10 ^ (6 : Int).toNat))), none] _).sat _ _
  unfold c__law_share
  walk_at "v"
  refine Rz.sat_mono (draw_ok rfl hS (by decide) (by decide)) ?_
  rintro _ S1 ⟨hS1, m, rfl, hm0, hm1⟩
  walk_at "v"
  refine Rz.sat_mono (of_ok (f := 6) rfl rfl hS1 (by simp) (by simp)) ?_
  rintro _ S2 ⟨hS2, d, hd, rfl⟩
  obtain ⟨a, rfl⟩ : ∃ a : Int, d = .int a := by
    simp only [List.mem_cons, List.not_mem_nil, or_false] at hd
    rcases hd with rfl | rfl <;> exact ⟨_, rfl⟩
  walk_at "v"
  refine Rz.sat_mono (draw_ok rfl hS2 (by decide) (by decide)) ?_
  rintro _ S3 ⟨hS3, u, rfl, hu0, hu1⟩
  walk_at "v"
  refine Rz.sat_eq (low_ok (g := 10) rfl rfl (by omega) (by omega) (g_div (n := 10) (by omega) (by omega) (by decide) (by decide))) ?_
  exact ⟨by rw [hS.len, hS3.len], hS3, _, _, rfl⟩
/-! ### a drawn program -/
def Fr (n : Nat) (x : A) (S : Store) : Prop := Src S ∧ ∃ d, x = .p d ∧ ∃ w g q, Me n d w g q
theorem Me.leaf {n : Nat} {d : D} {w g q : Int} (h : Leaf d w g q) : Me n d w g q := by
  cases n with
  | zero => exact h
  | succ n => exact .inl h
theorem MeL.mk {R : D → Int → Int → Int → Prop} : ∀ ds : List D, (∀ (j : Nat) d, ds[j]? = some d → ∃ w g q, R d w g q) → ∃ ws gs qs, MeL R ds ws gs qs
  | [], _ => ⟨[], [], [], trivial⟩
  | d :: ds, h => by
    obtain ⟨w, g, q, h0⟩ := h 0 d rfl
    obtain ⟨ws, gs, qs, h1⟩ := MeL.mk ds fun j d hd => h (j + 1) d hd
    exact ⟨w :: ws, g :: gs, q :: qs, h0, h1⟩
theorem free_tail {n : Nat} (hw : 1000 ≤ wf) {k : Nat} {z y : Int} {a b c : Str} {x6 : Option A} (hS : Src S) (hy0 : 0 ≤ y) (hy : y < 6 ∨ (y < 11 ∧ 0 < n)) (ih : ∀ m, n = m + 1 → ∀ {S : Store}, Src S → (callI ft wf (k + 4) 17 [.m 0, .p (.int (z - 1))] S).sat (Fr m)) :
    (Fw.run (callI ft wf (k + 4)) wf ((c__law_free 6 7 8 12 17).drop 2) [some (.m 0), some (.p (.int z)), some (.p (.lst [.str a, .str b, .str c, .str "sum"])), some (.p (.int y)), none, none, x6] S).sat (fun _ _ => False) fun x S' => S'.length = 1 ∧ Fr n x S' := by
  have lf : ∀ {d : D} {S : Store} {g : Int}, Src S → Leaf d 0 g 1 → S.length = 1 ∧ Fr n (.p d) S := fun hS h => ⟨hS.len, hS, _, rfl, _, _, _, Me.leaf h⟩
  unfold c__law_free
  dsimp only [List.drop]
  walk_at "v"
  refine br (fun h => ?_) (fun h0 => sat_nil ?_)
  · walk_at "v"
    refine Rz.sat_mono (share_ok hw hS) ?_
    rintro _ S ⟨hS, u, v, rfl⟩
    walk_at "v"
    refine Rz.sat_mono (of_ok (f := 6) rfl rfl hS (by simp) (by simp)) ?_
    rintro _ S ⟨hS, d, hd, rfl⟩
    obtain ⟨u', v', rfl⟩ : ∃ u' v' : Int, d = .tup [.int u', .int v'] := by
      simp only [List.mem_cons, List.not_mem_nil, or_false] at hd
      rcases hd with rfl | rfl | rfl | rfl | rfl <;> exact ⟨_, _, rfl⟩
    walk_at "v"
    exact lf hS ⟨_, _, rfl, rfl, rfl, .inl ⟨rfl, rfl⟩⟩
  walk_at "v"
  refine br (fun h => ?_) (fun h1 => sat_nil ?_)
  · walk_at "v"
    refine Rz.sat_mono (of_ok (f := 6) rfl rfl hS (by simp) (by simp)) ?_
    rintro _ S ⟨hS, d, hd, rfl⟩
    walk_at "v"
    refine Rz.sat_mono (draw_ok rfl hS (by decide) (by decide)) ?_
    rintro _ S ⟨hS, m, rfl, hm0, hm1⟩
    walk_at "v"
    refine s_wlk (wlk_range (by omega) (by omega)) ?_
    refine Rz.sat_mono (comp_sat Src (fun _ _ => True) _ 0 S hS ?_) ?_
    · intro j x S _ hS
      refine ⟨_, rfl, ?_⟩
      walk_at "v"
      refine Rz.sat_mono (of_ok (f := 6) rfl rfl hS (by simp) (by simp)) ?_
      rintro _ S ⟨hS, d, hd, rfl⟩
      exact ⟨hS, d, rfl, trivial⟩
    rintro ds S ⟨hS, hl, _⟩
    rw [List.length_map, List.length_range] at hl
    have eL : LIM = 100000 := rfl
    refine ⟨by omega, ?_⟩
    walk_at "v"
    exact lf hS ⟨_, _, rfl, rfl, rfl, .inr (.inl ⟨rfl, rfl⟩)⟩
  walk_at "v"
  refine br (fun h => ?_) (fun h2 => sat_nil ?_)
  · walk_at "v"
    exact lf hS ⟨_, _, rfl, rfl, rfl, .inr (.inr (.inl ⟨rfl, rfl⟩))⟩
  walk_at "v"
  refine br (fun h => ?_) (fun h3 => sat_nil ?_)
  · walk_at "v"
    refine Rz.sat_mono (draw_ok rfl hS (by decide) (by decide)) ?_
    rintro _ S ⟨hS, m, rfl, hm0, hm1⟩
    walk_at "v"
    exact lf hS ⟨_, _, rfl, rfl, rfl, .inr (.inr (.inr (.inl ⟨rfl, rfl⟩)))⟩
  walk_at "v"
  refine br (fun h => ?_) (fun h4 => sat_nil ?_)
  · walk_at "v"
    refine Rz.sat_mono (of_ok (f := 6) rfl rfl hS (by simp) (by simp)) ?_
    rintro _ S ⟨hS, d, hd, rfl⟩
    walk_at "v"
    refine Rz.sat_mono (of_ok (f := 6) rfl rfl hS (by simp) (by simp)) ?_
    rintro _ S ⟨hS, d', hd', rfl⟩
    walk_at "v"
    simp only [List.mem_cons, List.not_mem_nil, or_false] at hd
    rcases hd with rfl | rfl
    · exact lf hS ⟨_, _, rfl, rfl, rfl, .inr (.inr (.inr (.inr (.inl ⟨rfl, rfl⟩))))⟩
    · exact lf hS ⟨_, _, rfl, rfl, rfl, .inr (.inr (.inr (.inr (.inr ⟨rfl, rfl⟩))))⟩
  have h4 := of_decide_eq_false h4
  obtain ⟨n, rfl⟩ : ∃ m, n = m + 1 := ⟨n - 1, by omega⟩
  have ih := fun {S : Store} (hS : Src S) => ih n rfl hS
  walk_at "v"
  refine br (fun h => ?_) (fun h5 => sat_nil ?_)
  · walk_at "v"
    refine Rz.sat_mono (of_ok (f := 6) rfl rfl hS (by simp) (by simp)) ?_
    rintro _ S ⟨hS, d, hd, rfl⟩
    walk_at "v"
    refine Rz.sat_mono (ih hS) ?_
    rintro _ S ⟨hS, p, rfl, w, g, q, hp⟩
    walk_at "v"
    exact ⟨hS.len, hS, _, rfl, _, _, _, .inr (.inl ⟨_, _, _, rfl, hp, rfl⟩)⟩
  walk_at "v"
  refine br (fun h => ?_) (fun h6 => sat_nil ?_)
  · walk_at "v"
    refine Rz.sat_mono (ih hS) ?_
    rintro _ S ⟨hS, p, rfl, w, g, q, hp⟩
    walk_at "v"
    refine Rz.sat_mono (draw_ok rfl hS (by decide) (by decide)) ?_
    rintro _ S ⟨hS, m, rfl, hm0, hm1⟩
    walk_at "v"
    exact ⟨hS.len, hS, _, rfl, _, _, _, .inr (.inr (.inl ⟨_, _, _, _, _, rfl, hm0, hm1, hp, rfl, rfl, rfl⟩))⟩
  walk_at "v"
  refine Rz.sat_mono (draw_ok rfl hS (by decide) (by decide)) ?_
  rintro _ S ⟨hS, m, rfl, hm0, hm1⟩
  walk_at "v"
  refine Rz.sat_mono (of_ok (f := 6) rfl rfl hS (by simp) (by simp)) ?_
  rintro _ S ⟨hS, d, hd, rfl⟩
  walk_at "v"
  refine s_wlk (wlk_range (by omega) (by omega)) ?_
  refine Rz.sat_mono (comp_sat Src (fun _ d => ∃ w g q, Me n d w g q) _ 0 S hS ?_) ?_
  · intro j x S _ hS
    refine ⟨_, rfl, ?_⟩
    walk_at "v"
    exact ih hS
  rintro ds S ⟨hS, hl, hR⟩
  rw [List.length_map, List.length_range] at hl
  have eL : LIM = 100000 := rfl
  refine ⟨by omega, ?_⟩
  walk_at "v"
  refine o_tup (by simp; omega) ?_
  obtain ⟨ws, gs, qs, hm⟩ := MeL.mk ds hR
  simp only [List.mem_cons, List.not_mem_nil, or_false] at hd
  rcases hd with rfl | rfl
  · exact ⟨hS.len, hS, _, rfl, _, _, _, .inr (.inr (.inr (.inl ⟨ds, _, _, _, rfl, by omega, by omega, hm, rfl, rfl, rfl⟩)))⟩
  · exact ⟨hS.len, hS, _, rfl, _, _, _, .inr (.inr (.inr (.inr ⟨ds, _, _, _, rfl, by omega, by omega, hm, rfl, rfl, rfl⟩)))⟩
theorem free_one {n : Nat} (hw : 1000 ≤ wf) {k : Nat} {z : Int} (hz : z = n) (hS : Src S) (ih : ∀ m, n = m + 1 → ∀ {S : Store}, Src S → (callI ft wf (k + 4) 17 [.m 0, .p (.int (z - 1))] S).sat (Fr m)) : (callI ft wf (k + 5) 17 [.m 0, .p (.int z)] S).sat (Fr n) := by
  refine sat_call rfl rfl ?_
  rw [hS.len]
  have tl := fun {a b c : Str} {y : Int} {x6 : Option A} {S : Store} hS hy0 hy => free_tail (wf := wf) (S := S) (n := n) (k := k) (z := z) (a := a) (b := b) (c := c) (y := y) (x6 := x6) hw hS hy0 hy ih
  show (Fw.run _ wf (c__law_free 6 7 8 12 17) [some (.m 0), some (.p (.int z)), none, none, none, none, none] _).sat _ _
  generalize hbd : (c__law_free 6 7 8 12 17).drop 2 = bb at tl
  unfold c__law_free at hbd ⊢
  dsimp only [List.drop] at hbd
  rw [hbd]
  walk_at "v"
  refine Rz.sat_mono (comp_sat Src (fun _ d => ∃ y : Str, d = .str y) _ 0 S hS ?_) ?_
  · intro j x S _ hS
    refine ⟨_, rfl, ?_⟩
    walk_at "v"
    exact word_ok hS
  rintro ds S ⟨hS, hl, hR⟩
  match ds, hl, hR with
  | [_, _, _], _, hR =>
    obtain ⟨a, rfl⟩ := hR 0 _ rfl
    obtain ⟨b, rfl⟩ := hR 1 _ rfl
    obtain ⟨c, rfl⟩ := hR 2 _ rfl
    refine ⟨by show 3 < LIM; decide, ?_⟩
    walk_at "v"
    refine o_lst (by show 4 ≤ LIM; decide) ?_
    walk_at "v"
    refine br (fun h => ?_) (fun h => ?_)
    · have h := of_decide_eq_true h
      walk_at "v"
      refine Rz.sat_mono (draw_ok rfl hS (by decide) (by decide)) ?_
      rintro _ S ⟨hS, y, rfl, hy0, hy1⟩
      refine s_bnd rfl ?_
      exact tl hS hy0 (.inr ⟨hy1, by omega⟩)
    · walk_at "v"
      refine Rz.sat_mono (draw_ok rfl hS (by decide) (by decide)) ?_
      rintro _ S ⟨hS, y, rfl, hy0, hy1⟩
      refine s_bnd rfl ?_
      exact tl hS hy0 (.inl hy1)
theorem free_ok (hw : 1000 ≤ wf) : ∀ (n : Nat) (z : Int), z = n → ∀ k, n + 5 ≤ k → ∀ {S : Store}, Src S → (callI ft wf k 17 [.m 0, .p (.int z)] S).sat (Fr n) := by
  intro n
  induction n with
  | zero =>
    intro z hz k hk S hS
    obtain ⟨k, rfl⟩ : ∃ j, k = j + 5 := ⟨k - 5, by omega⟩
    exact free_one hw hz hS fun m hm => by omega
  | succ n ih =>
    intro z hz k hk S hS
    obtain ⟨k, rfl⟩ : ∃ j, k = j + 5 := ⟨k - 5, by omega⟩
    refine free_one hw hz hS fun m hm S hS => ?_
    have : m = n := by omega
    subst this
    exact ih (z - 1) (by omega) (k + 4) (by omega) hS
end
end K11

namespace K11
open PySem PySem.Spec PyProof.Rows L2 Fw
local macro_rules | `(tactic| walk_at "v") => `(tactic| (repeat (first | ((with_reducible apply Fw.v_var); next => exact rfl) | with_reducible refine Fw.v_bin ?_ | with_reducible refine Fw.v_maxD ?_ | with_reducible refine Fw.v_sub ?_ | with_reducible refine Fw.v_cst ?_ | with_reducible refine Fw.v_cons ?_ | with_reducible refine Fw.v_nil ?_ | with_reducible refine Fw.v_cmp ?_ | with_reducible refine Fw.v_blt ?_ | with_reducible refine Fw.v_neg ?_ | with_reducible refine Fw.v_call ?_ | with_reducible refine Fw.v_callK ?_ | with_reducible refine Fw.v_not ?_ | with_reducible refine Fw.v_chain ?_ | with_reducible refine Fw.v_andT ?_ | with_reducible refine Fw.v_orT ?_ | with_reducible refine Fw.v_and ?_ | with_reducible refine Fw.v_or ?_ | with_reducible refine Fw.v_ite ?_ | with_reducible refine Fw.v_tup ?_ | with_reducible refine Fw.v_lst ?_ | with_reducible refine Fw.v_lstM ?_ | with_reducible refine Fw.v_slcH ?_ | with_reducible refine Fw.v_slcL ?_ | with_reducible refine Fw.v_isiT ?_ | with_reducible refine Fw.v_fstr ?_ | with_reducible refine Fw.v_fmt ?_ | with_reducible refine Fw.v_comp0 ?_ | with_reducible refine Fw.v_comp1 ?_ | with_reducible refine Fw.s_t0 ?_ | with_reducible refine Fw.s_t1 ?_ | with_reducible refine Fw.s_t2 ?_ | with_reducible refine Fw.s_l0 ?_ | with_reducible refine Fw.s_l1 ?_ | with_reducible refine Fw.s_l2 ?_ | with_reducible refine Fw.s_not ?_ | with_reducible refine Fw.s_neg ?_ | with_reducible refine Fw.o_add ?_ | with_reducible refine Fw.o_sub ?_ | with_reducible refine Fw.q_lt ?_ | with_reducible refine Fw.q_le ?_ | with_reducible refine Fw.q_gt ?_ | with_reducible refine Fw.q_ge ?_ | with_reducible refine Fw.q_eq ?_ | with_reducible refine Fw.q_ne ?_ | with_reducible refine Fw.q_eqB ?_ | with_reducible refine Fw.q_neB ?_ | with_reducible refine Fw.q_isN ?_ | with_reducible refine Fw.q_notN ?_ | with_reducible refine Fw.sat_cons ?_ | with_reducible refine Fw.w_asg ?_ | with_reducible refine Fw.w_par ?_ | with_reducible refine Fw.w_setI ?_ | with_reducible refine Fw.w_exp ?_ | with_reducible refine Fw.w_ret ?_ | with_reducible refine Fw.w_ite ?_ | with_reducible refine Fw.w_for ?_ | with_reducible refine Fw.w_while ?_ | with_reducible refine Fw.v_tst ?_ | ((with_reducible apply Fw.q_inT); next => exact rfl) | ((with_reducible apply Fw.s_sub); next => exact rfl) | ((with_reducible apply Fw.s_blt); next => exact rfl) | ((with_reducible apply Fw.s_tst); next => exact rfl) | ((with_reducible apply Fw.s_isi); next => exact rfl) | ((with_reducible apply Fw.s_asm); next => exact rfl) | ((with_reducible apply Fw.s_bnd); next => exact rfl) | ((with_reducible apply Fw.s_wlk); next => exact rfl) | ((with_reducible apply Fw.s_slcH); next => exact rfl) | ((with_reducible apply Fw.s_slcL); next => exact rfl) | ((with_reducible apply Fw.s_dsp); (next => exact rfl); (next => exact rfl)) | ((with_reducible apply Fw.s_set); (next => exact rfl); (next => exact rfl)) | ((with_reducible apply Fw.q_eqS); (next => first | exact ofStr_ok _ | assumption); (next => first | exact ofStr_ok _ | assumption)) | ((with_reducible refine Fw.o_mul ?_ ?_); next => first | assumption | exact mul_c (by omega) (by omega) | exact mul_cL (by omega) (by omega)) | ((with_reducible refine Fw.o_mod ?_ ?_); next => first | assumption | omega) | ((with_reducible refine Fw.o_div ?_ ?_); next => first | assumption | decide) | ((with_reducible refine Fw.o_pow ?_ ?_); next => decide))))
local macro_rules | `(tactic| walk_at "y") => `(tactic| (refine br (fun _ => ?_) (fun h => absurd h (by first | exact ft_no | exact tf_no | decide | simp)); walk_at "v"))
local macro_rules | `(tactic| walk_at "n") => `(tactic| (refine br (fun h => absurd h (by first | exact ft_no | exact tf_no | decide | simp)) (fun _ => ?_); (try refine sat_nil ?_); walk_at "v"))
section
variable {wf : Nat}
theorem source_ok {k : Nat} {ns : List Int} : (callI ft wf (k + 1) 5 [.p (.scr ns)] []).sat fun x S' => x = .m 0 ∧ Src S' := by
  refine sat_callG rfl rfl ?_
  show (Fw.run _ wf c__law_source [some (.p (.scr ns))] _).sat _ _
  unfold c__law_source
  walk_at "v"
  refine ⟨rfl, rfl, (ns.drop (HT.sIx (ns.map D.int).length 0 none)).take (HT.sIx (ns.map D.int).length (ns.map D.int).length (some 63) - HT.sIx (ns.map D.int).length 0 none), 0, 0, 12023, 0, ?_, by decide, by decide, by decide, by decide⟩
  unfold srcO Fw.cutD
  rw [List.map_take, List.map_drop]
  rfl
def body : List Sc := match c18 with
  | [_, .for _ _ _ b, _] => b
  | _ => []
def Inv (ns : List Int) (ρ : Fw.Env) (S : Store) : Prop := Src S ∧ ∃ x2 x3 x4, ρ = [some (.p (.scr ns)), some (.m 0), x2, x3, x4]
theorem body_tail {k : Nat} {ns : List Int} {x2 x4 : Option A} {S : Store} {d : D} {w g q : Int} (hS : Src S) (h : Me 6 d w g q) : (Fw.run (callI ft wf (k + 12)) wf (body.drop 2) [some (.p (.scr ns)), some (.m 0), x2, some (.p d), x4] S).sat (Inv ns) fun _ _ => False := by
  unfold body c18 c_law
  dsimp only [List.drop]
  walk_at "v"
  refine Rz.sat_eq (width_ok 6 d w g q h _ (by omega)) ?_
  walk_at "v"
  refine Rz.sat_eq (degree_ok 6 d w g q h _ (by omega)) ?_
  walk_at "v"
  refine Rz.sat_eq (products_ok 6 d w g q h (by omega) _ (by omega)) ?_
  walk_at "v"
  refine Rz.sat_eq (wide_ok 6 d w g q h _ (by omega)) ?_
  walk_at "v"
  refine Rz.sat_eq (ldegree_ok 6 d w g q h _ (by omega)) ?_
  walk_at "v"
  refine Rz.sat_eq (lproducts_ok 6 d w g q h (by omega) _ (by omega)) ?_
  walk_at "v"
  refine Rz.sat_eq (same_ok rfl 2 _ (by simp [Pl, LIM]) _ (by omega)) ?_
  walk_at "v"
  walk_at "n"
  refine Rz.sat_eq (width_ok 6 d w g q h _ (by omega)) ?_
  walk_at "v"
  refine Rz.sat_eq (degree_ok 6 d w g q h _ (by omega)) ?_
  walk_at "v"
  refine Rz.sat_eq (products_ok 6 d w g q h (by omega) _ (by omega)) ?_
  walk_at "v"
  refine Rz.sat_eq (same_ok rfl 2 _ (by simp [Pl, LIM]) _ (by omega)) ?_
  walk_at "v"
  walk_at "n"
  refine sat_nil ?_
  exact ⟨hS, _, _, _, rfl⟩
theorem body_ok (hw : 1000 ≤ wf) {k : Nat} {ns : List Int} {ρ : Fw.Env} {S : Store} (hI : Inv ns ρ S) : (Fw.run (callI ft wf (k + 12)) wf body ρ S).sat (Inv ns) fun _ _ => False := by
  obtain ⟨hS, x2, x3, x4, rfl⟩ := hI
  have tl := fun {x2 x4 : Option A} {S : Store} {d : D} {w g q : Int} hS h => body_tail (wf := wf) (k := k) (ns := ns) (x2 := x2) (x4 := x4) (S := S) (d := d) (w := w) (g := g) (q := q) hS h
  generalize hbd : body.drop 2 = bb at tl
  unfold body c18 c_law at hbd ⊢
  dsimp only [List.drop] at hbd ⊢
  rw [hbd]
  walk_at "v"
  refine Rz.sat_mono (free_ok hw 3 _ rfl _ (by omega) hS) ?_
  rintro _ S ⟨hS, p, rfl, w, g, q, hp⟩
  walk_at "v"
  refine Rz.sat_mono (draw_ok rfl hS (by decide) (by decide)) ?_
  rintro _ S ⟨hS, y, rfl, hy0, hy1⟩
  walk_at "v"
  refine br (fun h => ?_) (fun h => sat_nil ?_)
  · walk_at "v"
    refine Rz.sat_mono (draw_ok rfl hS (by decide) (by decide)) ?_
    rintro _ S ⟨hS, m, rfl, hm0, hm1⟩
    walk_at "v"
    refine sat_nil ?_
    have p4 : Me 4 (.tup [.str "power", p, .int m]) (m * w) (m * g) (prodL 1 (List.replicate m.toNat q)) := .inr (.inr (.inl ⟨p, m, w, g, q, rfl, hm0, hm1, hp, rfl, rfl, rfl⟩))
    have p5 : Me 5 (.tup [.str "sum", .str "i", .tup [.str "power", p, .int m]]) (m * w + 1) (m * g) (prodL 1 (List.replicate m.toNat q)) := .inr (.inl ⟨_, _, _, rfl, p4, rfl⟩)
    have p6 : Me 6 (.tup [.str "times", p, .tup [.str "sum", .str "i", .tup [.str "power", p, .int m]]]) (List.sum [w, m * w + 1]) (List.sum [g, m * g]) (prodL 1 [q, prodL 1 (List.replicate m.toNat q)]) :=
      .inr (.inr (.inr (.inr ⟨[p, .tup [.str "sum", .str "i", .tup [.str "power", p, .int m]]], [w, m * w + 1], [g, m * g], [q, prodL 1 (List.replicate m.toNat q)], rfl, by simp, by simp, ⟨hp.up.up, p5, trivial⟩, rfl, rfl, rfl⟩)))
    exact tl hS p6
  · exact tl hS hp.up.up.up
theorem law_true (hw : 1000 ≤ wf) (ns : List Int) : ∃ S', callI ft wf 20 18 [.p (.scr ns)] [] = .ok (.p (.bl true)) S' := by
  have : (callI ft wf 20 18 [.p (.scr ns)] []).sat fun x _ => x = .p (.bl true) := by
    refine sat_callG rfl rfl ?_
    show (Fw.run _ wf c18 [some (.p (.scr ns)), none, none, none, none] _).sat _ _
    rw [show c18 = [.asg (.nm 1) (.call 5 [.var 0] []), .for .range1 [.cst (.int 8)] (.nm 2) body, .ret (.cst (.bl true))] from rfl]
    walk_at "v"
    refine Rz.sat_mono source_ok ?_
    rintro _ S ⟨rfl, hS⟩
    walk_at "v"
    refine Rs.sat_mono (sat_for (R := fun _ _ => False) (fun _ ρ S => Inv ns ρ S) _ 0 _ _ ⟨hS, _, _, _, rfl⟩ ?_) ?_ (fun _ _ h => h.elim)
    · rintro j x ρ S _ ⟨hS, x2, x3, x4, rfl⟩
      exact ⟨_, rfl, body_ok hw ⟨hS, _, _, _, rfl⟩⟩
    · rintro ρ S ⟨hS, x2, x3, x4, rfl⟩
      obtain ⟨cs, at_, big, seed, cnt, rfl, _⟩ := hS
      walk_at "v"
      exact ⟨rfl, rfl⟩
  obtain ⟨a, S, e, rfl⟩ := this
  exact ⟨S, e⟩
end
end K11

namespace K11
open PySem PySem.Spec PyProof.Rows L2 Fw
theorem facts {K : PySem.W.Frag} {h : Heap} {mg : Str → Option Value} {f0 f1 f2 f3 f4 f5 f6 f7 f8 f9 f10 f11 f12 f13 f14 f15 f16 f17 f18 : Addr} (X : K.In h) (G : h.Ns mainGlobals mg)
    {od0 an0 : Option Addr} {sl0 : Array (Option Value)} {oc0 kV0 dc0 pm0 cd0 ct0 : Value} {od1 an1 : Option Addr} {sl1 : Array (Option Value)} {oc1 kV1 dc1 pm1 cd1 ct1 : Value} {od2 an2 : Option Addr} {sl2 : Array (Option Value)} {oc2 kV2 dc2 pm2 cd2 ct2 : Value} {od3 an3 : Option Addr} {sl3 : Array (Option Value)} {oc3 kV3 dc3 pm3 cd3 ct3 : Value} {od4 an4 : Option Addr} {sl4 : Array (Option Value)} {oc4 kV4 dc4 pm4 cd4 ct4 : Value} {od5 an5 : Option Addr} {sl5 : Array (Option Value)} {oc5 kV5 dc5 pm5 cd5 ct5 : Value} {od6 an6 : Option Addr} {sl6 : Array (Option Value)} {oc6 kV6 dc6 pm6 cd6 ct6 : Value} {od7 an7 : Option Addr} {sl7 : Array (Option Value)} {oc7 kV7 dc7 pm7 cd7 ct7 : Value} {od8 an8 : Option Addr} {sl8 : Array (Option Value)} {oc8 kV8 dc8 pm8 cd8 ct8 : Value} {od9 an9 : Option Addr} {sl9 : Array (Option Value)} {oc9 kV9 dc9 pm9 cd9 ct9 : Value} {od10 an10 : Option Addr} {sl10 : Array (Option Value)} {oc10 kV10 dc10 pm10 cd10 ct10 : Value} {od11 an11 : Option Addr} {sl11 : Array (Option Value)} {oc11 kV11 dc11 pm11 cd11 ct11 : Value} {od12 an12 : Option Addr} {sl12 : Array (Option Value)} {oc12 kV12 dc12 pm12 cd12 ct12 : Value} {od13 an13 : Option Addr} {sl13 : Array (Option Value)} {oc13 kV13 dc13 pm13 cd13 ct13 : Value} {od14 an14 : Option Addr} {sl14 : Array (Option Value)} {oc14 kV14 dc14 pm14 cd14 ct14 : Value} {od15 an15 : Option Addr} {sl15 : Array (Option Value)} {oc15 kV15 dc15 pm15 cd15 ct15 : Value} {od16 an16 : Option Addr} {sl16 : Array (Option Value)} {oc16 kV16 dc16 pm16 cd16 ct16 : Value} {od17 an17 : Option Addr} {sl17 : Array (Option Value)} {oc17 kV17 dc17 pm17 cd17 ct17 : Value} {od18 an18 : Option Addr} {sl18 : Array (Option Value)} {oc18 kV18 dc18 pm18 cd18 ct18 : Value}
    (a0 : PySem.W.nsIn K mainGlobals "inner_parts" = some (some (.ref f0))) (l0 : K.lookup f0 = some ⟨oc0, od0, .func (PySem.W.fnOf "inner_parts" "inner_parts" (defArgs (top 1)) (defBody (top 1)) (defScope (top 1)) .none kV0 dc0 pm0 an0 cd0 ct0), sl0⟩) (c0 : PySem.W.codeIn K cd0 "inner_parts" = true) (k0 : PySem.W.keepIn K (.ref f0) = true) (a1 : PySem.W.nsIn K mainGlobals "combined" = some (some (.ref f1))) (l1 : K.lookup f1 = some ⟨oc1, od1, .func (PySem.W.fnOf "combined" "combined" (defArgs (top 2)) (defBody (top 2)) (defScope (top 2)) .none kV1 dc1 pm1 an1 cd1 ct1), sl1⟩) (c1 : PySem.W.codeIn K cd1 "combined" = true) (k1 : PySem.W.keepIn K (.ref f1) = true) (a2 : PySem.W.nsIn K mainGlobals "width_of" = some (some (.ref f2))) (l2 : K.lookup f2 = some ⟨oc2, od2, .func (PySem.W.fnOf "width_of" "width_of" (defArgs (top 3)) (defBody (top 3)) (defScope (top 3)) .none kV2 dc2 pm2 an2 cd2 ct2), sl2⟩) (c2 : PySem.W.codeIn K cd2 "width_of" = true) (k2 : PySem.W.keepIn K (.ref f2) = true) (a3 : PySem.W.nsIn K mainGlobals "degree_of" = some (some (.ref f3))) (l3 : K.lookup f3 = some ⟨oc3, od3, .func (PySem.W.fnOf "degree_of" "degree_of" (defArgs (top 4)) (defBody (top 4)) (defScope (top 4)) .none kV3 dc3 pm3 an3 cd3 ct3), sl3⟩) (c3 : PySem.W.codeIn K cd3 "degree_of" = true) (k3 : PySem.W.keepIn K (.ref f3) = true) (a4 : PySem.W.nsIn K mainGlobals "products_of" = some (some (.ref f4))) (l4 : K.lookup f4 = some ⟨oc4, od4, .func (PySem.W.fnOf "products_of" "products_of" (defArgs (top 5)) (defBody (top 5)) (defScope (top 5)) .none kV4 dc4 pm4 an4 cd4 ct4), sl4⟩) (c4 : PySem.W.codeIn K cd4 "products_of" = true) (k4 : PySem.W.keepIn K (.ref f4) = true) (a5 : PySem.W.nsIn K mainGlobals "_law_source" = some (some (.ref f5))) (l5 : K.lookup f5 = some ⟨oc5, od5, .func (PySem.W.fnOf "_law_source" "_law_source" (defArgs (top 7)) (defBody (top 7)) (defScope (top 7)) .none kV5 dc5 pm5 an5 cd5 ct5), sl5⟩) (c5 : PySem.W.codeIn K cd5 "_law_source" = true) (k5 : PySem.W.keepIn K (.ref f5) = true) (a6 : PySem.W.nsIn K mainGlobals "_law_draw" = some (some (.ref f6))) (l6 : K.lookup f6 = some ⟨oc6, od6, .func (PySem.W.fnOf "_law_draw" "_law_draw" (defArgs (top 8)) (defBody (top 8)) (defScope (top 8)) .none kV6 dc6 pm6 an6 cd6 ct6), sl6⟩) (c6 : PySem.W.codeIn K cd6 "_law_draw" = true) (k6 : PySem.W.keepIn K (.ref f6) = true) (a7 : PySem.W.nsIn K mainGlobals "_law_of" = some (some (.ref f7))) (l7 : K.lookup f7 = some ⟨oc7, od7, .func (PySem.W.fnOf "_law_of" "_law_of" (defArgs (top 9)) (defBody (top 9)) (defScope (top 9)) .none kV7 dc7 pm7 an7 cd7 ct7), sl7⟩) (c7 : PySem.W.codeIn K cd7 "_law_of" = true) (k7 : PySem.W.keepIn K (.ref f7) = true) (a8 : PySem.W.nsIn K mainGlobals "_law_word" = some (some (.ref f8))) (l8 : K.lookup f8 = some ⟨oc8, od8, .func (PySem.W.fnOf "_law_word" "_law_word" (defArgs (top 10)) (defBody (top 10)) (defScope (top 10)) .none kV8 dc8 pm8 an8 cd8 ct8), sl8⟩) (c8 : PySem.W.codeIn K cd8 "_law_word" = true) (k8 : PySem.W.keepIn K (.ref f8) = true) (a9 : PySem.W.nsIn K mainGlobals "_law_same" = some (some (.ref f9))) (l9 : K.lookup f9 = some ⟨oc9, od9, .func (PySem.W.fnOf "_law_same" "_law_same" (defArgs (top 11)) (defBody (top 11)) (defScope (top 11)) .none kV9 dc9 pm9 an9 cd9 ct9), sl9⟩) (c9 : PySem.W.codeIn K cd9 "_law_same" = true) (k9 : PySem.W.keepIn K (.ref f9) = true) (a10 : PySem.W.nsIn K mainGlobals "_law_common" = some (some (.ref f10))) (l10 : K.lookup f10 = some ⟨oc10, od10, .func (PySem.W.fnOf "_law_common" "_law_common" (defArgs (top 12)) (defBody (top 12)) (defScope (top 12)) .none kV10 dc10 pm10 an10 cd10 ct10), sl10⟩) (c10 : PySem.W.codeIn K cd10 "_law_common" = true) (k10 : PySem.W.keepIn K (.ref f10) = true) (a11 : PySem.W.nsIn K mainGlobals "_law_low" = some (some (.ref f11))) (l11 : K.lookup f11 = some ⟨oc11, od11, .func (PySem.W.fnOf "_law_low" "_law_low" (defArgs (top 13)) (defBody (top 13)) (defScope (top 13)) .none kV11 dc11 pm11 an11 cd11 ct11), sl11⟩) (c11 : PySem.W.codeIn K cd11 "_law_low" = true) (k11 : PySem.W.keepIn K (.ref f11) = true) (a12 : PySem.W.nsIn K mainGlobals "_law_share" = some (some (.ref f12))) (l12 : K.lookup f12 = some ⟨oc12, od12, .func (PySem.W.fnOf "_law_share" "_law_share" (defArgs (top 14)) (defBody (top 14)) (defScope (top 14)) .none kV12 dc12 pm12 an12 cd12 ct12), sl12⟩) (c12 : PySem.W.codeIn K cd12 "_law_share" = true) (k12 : PySem.W.keepIn K (.ref f12) = true) (a13 : PySem.W.nsIn K mainGlobals "_law_inner" = some (some (.ref f13))) (l13 : K.lookup f13 = some ⟨oc13, od13, .func (PySem.W.fnOf "_law_inner" "_law_inner" (defArgs (top 15)) (defBody (top 15)) (defScope (top 15)) .none kV13 dc13 pm13 an13 cd13 ct13), sl13⟩) (c13 : PySem.W.codeIn K cd13 "_law_inner" = true) (k13 : PySem.W.keepIn K (.ref f13) = true) (a14 : PySem.W.nsIn K mainGlobals "_law_wide" = some (some (.ref f14))) (l14 : K.lookup f14 = some ⟨oc14, od14, .func (PySem.W.fnOf "_law_wide" "_law_wide" (defArgs (top 16)) (defBody (top 16)) (defScope (top 16)) .none kV14 dc14 pm14 an14 cd14 ct14), sl14⟩) (c14 : PySem.W.codeIn K cd14 "_law_wide" = true) (k14 : PySem.W.keepIn K (.ref f14) = true) (a15 : PySem.W.nsIn K mainGlobals "_law_degree" = some (some (.ref f15))) (l15 : K.lookup f15 = some ⟨oc15, od15, .func (PySem.W.fnOf "_law_degree" "_law_degree" (defArgs (top 17)) (defBody (top 17)) (defScope (top 17)) .none kV15 dc15 pm15 an15 cd15 ct15), sl15⟩) (c15 : PySem.W.codeIn K cd15 "_law_degree" = true) (k15 : PySem.W.keepIn K (.ref f15) = true) (a16 : PySem.W.nsIn K mainGlobals "_law_products" = some (some (.ref f16))) (l16 : K.lookup f16 = some ⟨oc16, od16, .func (PySem.W.fnOf "_law_products" "_law_products" (defArgs (top 18)) (defBody (top 18)) (defScope (top 18)) .none kV16 dc16 pm16 an16 cd16 ct16), sl16⟩) (c16 : PySem.W.codeIn K cd16 "_law_products" = true) (k16 : PySem.W.keepIn K (.ref f16) = true) (a17 : PySem.W.nsIn K mainGlobals "_law_free" = some (some (.ref f17))) (l17 : K.lookup f17 = some ⟨oc17, od17, .func (PySem.W.fnOf "_law_free" "_law_free" (defArgs (top 19)) (defBody (top 19)) (defScope (top 19)) .none kV17 dc17 pm17 an17 cd17 ct17), sl17⟩) (c17 : PySem.W.codeIn K cd17 "_law_free" = true) (k17 : PySem.W.keepIn K (.ref f17) = true) (a18 : PySem.W.nsIn K mainGlobals "law" = some (some (.ref f18))) (l18 : K.lookup f18 = some ⟨oc18, od18, .func (PySem.W.fnOf "law" "law" (defArgs (top 20)) (defBody (top 20)) (defScope (top 20)) .none kV18 dc18 pm18 an18 cd18 ct18), sl18⟩) (c18 : PySem.W.codeIn K cd18 "law" = true) (k18 : PySem.W.keepIn K (.ref f18) = true) (z0 : PySem.W.nsIn K mainGlobals "abs" = some none) (z1 : PySem.W.nsIn K mainGlobals "all" = some none) (z2 : PySem.W.nsIn K mainGlobals "bool" = some none) (z3 : PySem.W.nsIn K mainGlobals "int" = some none) (z4 : PySem.W.nsIn K mainGlobals "isinstance" = some none) (z5 : PySem.W.nsIn K mainGlobals "len" = some none) (z6 : PySem.W.nsIn K mainGlobals "list" = some none) (z7 : PySem.W.nsIn K mainGlobals "max" = some none) (z8 : PySem.W.nsIn K mainGlobals "range" = some none) (z9 : PySem.W.nsIn K mainGlobals "str" = some none) (z10 : PySem.W.nsIn K mainGlobals "sum" = some none) (z11 : PySem.W.nsIn K mainGlobals "tuple" = some none) (z12 : PySem.W.nsIn K mainGlobals "zip" = some none) :
    ∃ fa, Facts T ft fa K mg := by
  refine ⟨fun i => ([f0, f1, f2, f3, f4, f5, f6, f7, f8, f9, f10, f11, f12, f13, f14, f15, f16, f17, f18] : List Addr).getD i f0, ?_, ?_, ?_⟩
  · intro fi I h
    match fi, h with
    | 0, h =>
      cases h
      have F := fd_mk (st := (top 1)) l0 c0 k0
      have B : Binds K _ ["program"] [] := F.bindsN fun _ _ _ _ _ _ us hl => match us, hl with | [_], _ => rfl
      refine ⟨_, (top 1), n0, _, ⟨⟨_, _, F⟩, s0, rfl, rfl, rfl, K11.k0, PySem.W.mg_of X G a0, ?_, ?_⟩⟩
      · intro n ds hm
        simp only [i0, List.mem_cons, List.not_mem_nil, or_false, Prod.mk.injEq] at hm
        rcases hm with ⟨rfl, rfl⟩
        · exact dfl0 B
      · intro n ks asm hm
        cases hm
    | 1, h =>
      cases h
      have F := fd_mk (st := (top 2)) l1 c1 k1
      have B : Binds K _ ["program", "numbers"] [] := F.bindsN fun _ _ _ _ _ _ us hl => match us, hl with | [_, _], _ => rfl
      refine ⟨_, (top 2), n1, _, ⟨⟨_, _, F⟩, s1, rfl, rfl, rfl, K11.k1, PySem.W.mg_of X G a1, ?_, ?_⟩⟩
      · intro n ds hm
        simp only [i1, List.mem_cons, List.not_mem_nil, or_false, Prod.mk.injEq] at hm
        rcases hm with ⟨rfl, rfl⟩
        · exact dfl0 B
      · intro n ks asm hm
        cases hm
    | 2, h =>
      cases h
      have F := fd_mk (st := (top 3)) l2 c2 k2
      have B : Binds K _ ["program"] [] := F.bindsN fun _ _ _ _ _ _ us hl => match us, hl with | [_], _ => rfl
      refine ⟨_, (top 3), n2, _, ⟨⟨_, _, F⟩, s2, rfl, rfl, rfl, K11.k2, PySem.W.mg_of X G a2, ?_, ?_⟩⟩
      · intro n ds hm
        simp only [i2, List.mem_cons, List.not_mem_nil, or_false, Prod.mk.injEq] at hm
        rcases hm with ⟨rfl, rfl⟩
        · exact dfl0 B
      · intro n ks asm hm
        simp only [i2, List.mem_cons, List.not_mem_nil, or_false, Prod.mk.injEq] at hm
        rcases hm with ⟨rfl, rfl, rfl⟩
        · exact kba_in [0] rfl (kb_none F [0] fun _ _ _ _ _ _ us ws hl hw => match us, hl, ws, hw with | [], _, [_], _ => ⟨_, rfl, rfl⟩)
    | 3, h =>
      cases h
      have F := fd_mk (st := (top 4)) l3 c3 k3
      have B : Binds K _ ["program"] [] := F.bindsN fun _ _ _ _ _ _ us hl => match us, hl with | [_], _ => rfl
      refine ⟨_, (top 4), n3, _, ⟨⟨_, _, F⟩, s3, rfl, rfl, rfl, K11.k3, PySem.W.mg_of X G a3, ?_, ?_⟩⟩
      · intro n ds hm
        simp only [i3, List.mem_cons, List.not_mem_nil, or_false, Prod.mk.injEq] at hm
        rcases hm with ⟨rfl, rfl⟩
        · exact dfl0 B
      · intro n ks asm hm
        simp only [i3, List.mem_cons, List.not_mem_nil, or_false, Prod.mk.injEq] at hm
        rcases hm with ⟨rfl, rfl, rfl⟩
        · exact kba_in [0] rfl (kb_none F [0] fun _ _ _ _ _ _ us ws hl hw => match us, hl, ws, hw with | [], _, [_], _ => ⟨_, rfl, rfl⟩)
    | 4, h =>
      cases h
      have F := fd_mk (st := (top 5)) l4 c4 k4
      have B : Binds K _ ["program"] [] := F.bindsN fun _ _ _ _ _ _ us hl => match us, hl with | [_], _ => rfl
      refine ⟨_, (top 5), n4, _, ⟨⟨_, _, F⟩, s4, rfl, rfl, rfl, K11.k4, PySem.W.mg_of X G a4, ?_, ?_⟩⟩
      · intro n ds hm
        simp only [i4, List.mem_cons, List.not_mem_nil, or_false, Prod.mk.injEq] at hm
        rcases hm with ⟨rfl, rfl⟩
        · exact dfl0 B
      · intro n ks asm hm
        simp only [i4, List.mem_cons, List.not_mem_nil, or_false, Prod.mk.injEq] at hm
        rcases hm with ⟨rfl, rfl, rfl⟩
        · exact kba_in [0] rfl (kb_none F [0] fun _ _ _ _ _ _ us ws hl hw => match us, hl, ws, hw with | [], _, [_], _ => ⟨_, rfl, rfl⟩)
    | 5, h =>
      cases h
      have F := fd_mk (st := (top 7)) l5 c5 k5
      have B : Binds K _ ["_law_script"] [] := F.bindsN fun _ _ _ _ _ _ us hl => match us, hl with | [_], _ => rfl
      refine ⟨_, (top 7), n5, _, ⟨⟨_, _, F⟩, s5, rfl, rfl, rfl, K11.k5, PySem.W.mg_of X G a5, ?_, ?_⟩⟩
      · intro n ds hm
        simp only [i5, List.mem_cons, List.not_mem_nil, or_false, Prod.mk.injEq] at hm
        rcases hm with ⟨rfl, rfl⟩
        · exact dfl0 B
      · intro n ks asm hm
        cases hm
    | 6, h =>
      cases h
      have F := fd_mk (st := (top 8)) l6 c6 k6
      have B : Binds K _ ["_law_src", "_law_many7"] [] := F.bindsN fun _ _ _ _ _ _ us hl => match us, hl with | [_, _], _ => rfl
      refine ⟨_, (top 8), n6, _, ⟨⟨_, _, F⟩, s6, rfl, rfl, rfl, K11.k6, PySem.W.mg_of X G a6, ?_, ?_⟩⟩
      · intro n ds hm
        simp only [i6, List.mem_cons, List.not_mem_nil, or_false, Prod.mk.injEq] at hm
        rcases hm with ⟨rfl, rfl⟩
        · exact dfl0 B
      · intro n ks asm hm
        cases hm
    | 7, h =>
      cases h
      have F := fd_mk (st := (top 9)) l7 c7 k7
      have B : Binds K _ ["_law_src", "_law_things7"] [] := F.bindsN fun _ _ _ _ _ _ us hl => match us, hl with | [_, _], _ => rfl
      refine ⟨_, (top 9), n7, _, ⟨⟨_, _, F⟩, s7, rfl, rfl, rfl, K11.k7, PySem.W.mg_of X G a7, ?_, ?_⟩⟩
      · intro n ds hm
        simp only [i7, List.mem_cons, List.not_mem_nil, or_false, Prod.mk.injEq] at hm
        rcases hm with ⟨rfl, rfl⟩
        · exact dfl0 B
      · intro n ks asm hm
        cases hm
    | 8, h =>
      cases h
      have F := fd_mk (st := (top 10)) l8 c8 k8
      have B : Binds K _ ["_law_src", "_law_most"] [] := F.bindsN fun _ _ _ _ _ _ us hl => match us, hl with | [_, _], _ => rfl
      refine ⟨_, (top 10), n8, _, ⟨⟨_, _, F⟩, s8, rfl, rfl, rfl, K11.k8, PySem.W.mg_of X G a8, ?_, ?_⟩⟩
      · intro n ds hm
        simp only [i8, List.mem_cons, List.not_mem_nil, or_false, Prod.mk.injEq] at hm
        rcases hm with ⟨rfl, rfl⟩
        · exact dfl0 B
      · intro n ks asm hm
        cases hm
    | 9, h =>
      cases h
      have F := fd_mk (st := (top 11)) l9 c9 k9
      have B : Binds K _ ["_law_found", "_law_due"] [] := F.bindsN fun _ _ _ _ _ _ us hl => match us, hl with | [_, _], _ => rfl
      refine ⟨_, (top 11), n9, _, ⟨⟨_, _, F⟩, s9, rfl, rfl, rfl, K11.k9, PySem.W.mg_of X G a9, ?_, ?_⟩⟩
      · intro n ds hm
        simp only [i9, List.mem_cons, List.not_mem_nil, or_false, Prod.mk.injEq] at hm
        rcases hm with ⟨rfl, rfl⟩
        · exact dfl0 B
      · intro n ks asm hm
        cases hm
    | 10, h =>
      cases h
      have F := fd_mk (st := (top 12)) l10 c10 k10
      have B : Binds K _ ["_law_one", "_law_two"] [] := F.bindsN fun _ _ _ _ _ _ us hl => match us, hl with | [_, _], _ => rfl
      refine ⟨_, (top 12), n10, _, ⟨⟨_, _, F⟩, s10, rfl, rfl, rfl, K11.k10, PySem.W.mg_of X G a10, ?_, ?_⟩⟩
      · intro n ds hm
        simp only [i10, List.mem_cons, List.not_mem_nil, or_false, Prod.mk.injEq] at hm
        rcases hm with ⟨rfl, rfl⟩
        · exact dfl0 B
      · intro n ks asm hm
        cases hm
    | 11, h =>
      cases h
      have F := fd_mk (st := (top 13)) l11 c11 k11
      have B : Binds K _ ["_law_high7", "_law_under"] [] := F.bindsN fun _ _ _ _ _ _ us hl => match us, hl with | [_, _], _ => rfl
      refine ⟨_, (top 13), n11, _, ⟨⟨_, _, F⟩, s11, rfl, rfl, rfl, K11.k11, PySem.W.mg_of X G a11, ?_, ?_⟩⟩
      · intro n ds hm
        simp only [i11, List.mem_cons, List.not_mem_nil, or_false, Prod.mk.injEq] at hm
        rcases hm with ⟨rfl, rfl⟩
        · exact dfl0 B
      · intro n ks asm hm
        cases hm
    | 12, h =>
      cases h
      have F := fd_mk (st := (top 14)) l12 c12 k12
      have B : Binds K _ ["_law_src", "_law_most"] [] := F.bindsN fun _ _ _ _ _ _ us hl => match us, hl with | [_, _], _ => rfl
      refine ⟨_, (top 14), n12, _, ⟨⟨_, _, F⟩, s12, rfl, rfl, rfl, K11.k12, PySem.W.mg_of X G a12, ?_, ?_⟩⟩
      · intro n ds hm
        simp only [i12, List.mem_cons, List.not_mem_nil, or_false, Prod.mk.injEq] at hm
        rcases hm with ⟨rfl, rfl⟩
        · exact dfl0 B
      · intro n ks asm hm
        cases hm
    | 13, h =>
      cases h
      have F := fd_mk (st := (top 15)) l13 c13 k13
      have B : Binds K _ ["_law_program"] [] := F.bindsN fun _ _ _ _ _ _ us hl => match us, hl with | [_], _ => rfl
      refine ⟨_, (top 15), n13, _, ⟨⟨_, _, F⟩, s13, rfl, rfl, rfl, K11.k13, PySem.W.mg_of X G a13, ?_, ?_⟩⟩
      · intro n ds hm
        simp only [i13, List.mem_cons, List.not_mem_nil, or_false, Prod.mk.injEq] at hm
        rcases hm with ⟨rfl, rfl⟩
        · exact dfl0 B
      · intro n ks asm hm
        cases hm
    | 14, h =>
      cases h
      have F := fd_mk (st := (top 16)) l14 c14 k14
      have B : Binds K _ ["_law_program"] [] := F.bindsN fun _ _ _ _ _ _ us hl => match us, hl with | [_], _ => rfl
      refine ⟨_, (top 16), n14, _, ⟨⟨_, _, F⟩, s14, rfl, rfl, rfl, K11.k14, PySem.W.mg_of X G a14, ?_, ?_⟩⟩
      · intro n ds hm
        simp only [i14, List.mem_cons, List.not_mem_nil, or_false, Prod.mk.injEq] at hm
        rcases hm with ⟨rfl, rfl⟩
        · exact dfl0 B
      · intro n ks asm hm
        cases hm
    | 15, h =>
      cases h
      have F := fd_mk (st := (top 17)) l15 c15 k15
      have B : Binds K _ ["_law_program"] [] := F.bindsN fun _ _ _ _ _ _ us hl => match us, hl with | [_], _ => rfl
      refine ⟨_, (top 17), n15, _, ⟨⟨_, _, F⟩, s15, rfl, rfl, rfl, K11.k15, PySem.W.mg_of X G a15, ?_, ?_⟩⟩
      · intro n ds hm
        simp only [i15, List.mem_cons, List.not_mem_nil, or_false, Prod.mk.injEq] at hm
        rcases hm with ⟨rfl, rfl⟩
        · exact dfl0 B
      · intro n ks asm hm
        cases hm
    | 16, h =>
      cases h
      have F := fd_mk (st := (top 18)) l16 c16 k16
      have B : Binds K _ ["_law_program"] [] := F.bindsN fun _ _ _ _ _ _ us hl => match us, hl with | [_], _ => rfl
      refine ⟨_, (top 18), n16, _, ⟨⟨_, _, F⟩, s16, rfl, rfl, rfl, K11.k16, PySem.W.mg_of X G a16, ?_, ?_⟩⟩
      · intro n ds hm
        simp only [i16, List.mem_cons, List.not_mem_nil, or_false, Prod.mk.injEq] at hm
        rcases hm with ⟨rfl, rfl⟩
        · exact dfl0 B
      · intro n ks asm hm
        cases hm
    | 17, h =>
      cases h
      have F := fd_mk (st := (top 19)) l17 c17 k17
      have B : Binds K _ ["_law_src", "_law_deep"] [] := F.bindsN fun _ _ _ _ _ _ us hl => match us, hl with | [_, _], _ => rfl
      refine ⟨_, (top 19), n17, _, ⟨⟨_, _, F⟩, s17, rfl, rfl, rfl, K11.k17, PySem.W.mg_of X G a17, ?_, ?_⟩⟩
      · intro n ds hm
        simp only [i17, List.mem_cons, List.not_mem_nil, or_false, Prod.mk.injEq] at hm
        rcases hm with ⟨rfl, rfl⟩
        · exact dfl0 B
      · intro n ks asm hm
        cases hm
    | 18, h =>
      cases h
      have F := fd_mk (st := (top 20)) l18 c18 k18
      have B : Binds K _ ["_law_script"] [] := F.bindsN fun _ _ _ _ _ _ us hl => match us, hl with | [_], _ => rfl
      refine ⟨_, (top 20), n18, _, ⟨⟨_, _, F⟩, s18, rfl, rfl, rfl, K11.k18, PySem.W.mg_of X G a18, ?_, ?_⟩⟩
      · intro n ds hm
        simp only [i18, List.mem_cons, List.not_mem_nil, or_false, Prod.mk.injEq] at hm
        rcases hm with ⟨rfl, rfl⟩
        · exact dfl0 B
      · intro n ks asm hm
        cases hm
    | n + 19, h => cases h
  · intro x hx
    simp only [T, List.mem_cons, List.not_mem_nil, or_false] at hx
    rcases hx with rfl | rfl | rfl | rfl | rfl | rfl | rfl | rfl | rfl | rfl | rfl | rfl | rfl
    · exact PySem.W.mg_none_of X G z0
    · exact PySem.W.mg_none_of X G z1
    · exact PySem.W.mg_none_of X G z2
    · exact PySem.W.mg_none_of X G z3
    · exact PySem.W.mg_none_of X G z4
    · exact PySem.W.mg_none_of X G z5
    · exact PySem.W.mg_none_of X G z6
    · exact PySem.W.mg_none_of X G z7
    · exact PySem.W.mg_none_of X G z8
    · exact PySem.W.mg_none_of X G z9
    · exact PySem.W.mg_none_of X G z10
    · exact PySem.W.mg_none_of X G z11
    · exact PySem.W.mg_none_of X G z12
  · intro x d hx
    cases hx
end K11
open PySem PySem.W PyProof.Rows
set_option maxRecDepth 100000 in
set_option maxHeartbeats 0 in
theorem PySem.Challenge.cw_fewtell_k11_measures_of_programs_holds : PySem.Challenge.rw_fewtell_k11_measures_of_programs.Holds := by
  w_on; o_law; k_head; (case hw => w_witness2)
  k_fill
  refine Fw.walk (l := PySem.Challenge.rw_fewtell_k11_measures_of_programs) (T := K11.T) (ft := K11.ft) (wf := 1000) (k := 20) (li := 18) (I := K11.i18) (x := "_law_script") rfl rfl ⟨rfl, by decide, by decide⟩ (fun w h Y => PySem.W.kIn_of Y) rfl rfl rfl (fun ns _ => K11.law_true (Nat.le_refl _) ns) ?F ?B
  case F =>
    intro w mg h KX G
    refine' K11.facts KX G ?a0 ?l0 ?c0 ?k0 ?a1 ?l1 ?c1 ?k1 ?a2 ?l2 ?c2 ?k2 ?a3 ?l3 ?c3 ?k3 ?a4 ?l4 ?c4 ?k4 ?a5 ?l5 ?c5 ?k5 ?a6 ?l6 ?c6 ?k6 ?a7 ?l7 ?c7 ?k7 ?a8 ?l8 ?c8 ?k8 ?a9 ?l9 ?c9 ?k9 ?a10 ?l10 ?c10 ?k10 ?a11 ?l11 ?c11 ?k11 ?a12 ?l12 ?c12 ?k12 ?a13 ?l13 ?c13 ?k13 ?a14 ?l14 ?c14 ?k14 ?a15 ?l15 ?c15 ?k15 ?a16 ?l16 ?c16 ?k16 ?a17 ?l17 ?c17 ?k17 ?a18 ?l18 ?c18 ?k18 ?z0 ?z1 ?z2 ?z3 ?z4 ?z5 ?z6 ?z7 ?z8 ?z9 ?z10 ?z11 ?z12
    (case a0 => k_is); (case l0 => k_is); (case c0 => k_is); (case k0 => k_is); (case a1 => k_is); (case l1 => k_is)
    (case c1 => k_is); (case k1 => k_is); (case a2 => k_is); (case l2 => k_is); (case c2 => k_is); (case k2 => k_is)
    (case a3 => k_is); (case l3 => k_is); (case c3 => k_is); (case k3 => k_is); (case a4 => k_is); (case l4 => k_is)
    (case c4 => k_is); (case k4 => k_is); (case a5 => k_is); (case l5 => k_is); (case c5 => k_is); (case k5 => k_is)
    (case a6 => k_is); (case l6 => k_is); (case c6 => k_is); (case k6 => k_is); (case a7 => k_is); (case l7 => k_is)
    (case c7 => k_is); (case k7 => k_is); (case a8 => k_is); (case l8 => k_is); (case c8 => k_is); (case k8 => k_is)
    (case a9 => k_is); (case l9 => k_is); (case c9 => k_is); (case k9 => k_is); (case a10 => k_is); (case l10 => k_is)
    (case c10 => k_is); (case k10 => k_is); (case a11 => k_is); (case l11 => k_is); (case c11 => k_is); (case k11 => k_is)
    (case a12 => k_is); (case l12 => k_is); (case c12 => k_is); (case k12 => k_is); (case a13 => k_is); (case l13 => k_is)
    (case c13 => k_is); (case k13 => k_is); (case a14 => k_is); (case l14 => k_is); (case c14 => k_is); (case k14 => k_is)
    (case a15 => k_is); (case l15 => k_is); (case c15 => k_is); (case k15 => k_is); (case a16 => k_is); (case l16 => k_is)
    (case c16 => k_is); (case k16 => k_is); (case a17 => k_is); (case l17 => k_is); (case c17 => k_is); (case k17 => k_is)
    (case a18 => k_is); (case l18 => k_is); (case c18 => k_is); (case k18 => k_is); (case z0 => k_is); (case z1 => k_is)
    (case z2 => k_is); (case z3 => k_is); (case z4 => k_is); (case z5 => k_is); (case z6 => k_is); (case z7 => k_is)
    (case z8 => k_is); (case z9 => k_is); (case z10 => k_is); (case z11 => k_is); (case z12 => k_is)
  case B =>
    intro w mg h fa KX G _ fd F
    refine' Fw.bd_of (st := K11.top 20) KX G ?a ?l ?hb fa fd F
    (case a => k_is); (case l => k_is)
    case hb => exact fun v => rfl

