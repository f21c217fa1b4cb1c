import PyProof.Rows.All
import Wide.All
import OpenK.AllK
import Wide.FinOn
import HandS.ForMost
import HandS.Wide
import HandS.Deep
import HandS.IsInst
import HandS.FStr
import HandS.Flow
import HandS.Conv
import HandS.Zip
import HandS.Defaults
import HandS.Lambda
import HandS.ExcInit
import HandS.TryMany
import HandS.HotCalls
import HandS.ClsMeth
import HandS.Star
import HandS.EndOwn
import KE.KeyNested
import PyProof.DictRoadsH
import PyProof.DictMoreH
import KE.SortData
import HandS.TupMul
import PyProof.StrBlock2
import HandS.TupAny
import PyProof.CollectStr
import HandS.More
import KE.DataMinMax
import HandS.Dict
import HandS.CallLocal
import HandS.SortKw
import KE.GoesZip
import PyProof.EnumMake
import HandS.ExcField
import KE.KUnpackStar
import KE.KExcInit
import KE.KDictPairs
import KE.KDictWalk
import KE.KDictKeyed
import KE.KEqDict
import HandS.DictEq
import HandS.OwnEq
import HandS.Property
import PyProof.DictFindH
import PyProof.InstNe
import HandS.ExcIs
import KE.KNestM
import PySem.Challenge.RW_fewtell_k34_supplies_of_plans
import KE.IntTextLaws
import KE.IntTextText
set_option Elab.async false
set_option linter.all false
set_option maxRecDepth 100000
set_option maxHeartbeats 4000000
/-! Values without addresses, a small store of what may change, and what both stand for in the layer's heap. -/
namespace Fw
open PySem PySem.Spec PyProof.Rows L2

inductive Ty where
  | tNone | tBool | tInt | tStr | tTup | tLst
  deriving DecidableEq, Inhabited
def Ty.nm : Ty → String
  | .tNone => "NoneType" | .tBool => "bool" | .tInt => "int" | .tStr => "str" | .tTup => "tuple" | .tLst => "list"
/-- data that never changes; ins: an instance of the class numbered c, its attributes -/
inductive D where
  | non | bl (b : Bool) | int (i : Int) | str (x : Str) | tup (ds : List D) | lst (ds : List D) | scr (ns : List Int) | fn (i : Nat) | ty (n : Ty)
  | ins (c : Nat) (ns : List Str) (ds : List D) | kl (c : Nat) | dct (ks vs : List D) | exv (c : Nat) (ns : List Str) (ds : List D) | dks (ks : List Str) (vs : List D)
  deriving Inhabited
/-- a value: data, or a place of the store -/
inductive A where
  | p (d : D) | m (i : Nat)
/-- what stands in the store -/
inductive MO where
  | lst (xs : List D) | ins (c : Nat) (ns : List Str) (ds : List D) | dct (ks vs : List D) | dks (ks : List Str) (vs : List D) | inm (c : Nat) (ns : List Str) (xs : List A) | resv | dead
/-- something stands there -/
def MO.lv : MO → Prop
  | .dead => False
  | .resv => False
  | _ => True
abbrev Store := List MO
/-- where the store's things stand; E: lists that are being made, which nobody knows yet -/
structure Bk where
  l : List Addr
  E : List Addr
structure Z where
  B : Bk
  S : Store
  H : Hp

def live (B : Bk) (S : Store) (a : Addr) : Prop := (∃ (i : Nat) (o : MO), B.l[i]? = some a ∧ S[i]? = some o ∧ o.lv) ∨ a ∈ B.E
/-- a dict whose keys are texts -/
def ksO (ks : List Str) (vs : List V) : HO := .dK ((ks.map Sum.inr).zip vs)
/-- a dict at a: hash and address of its keys (tuples), its values -/
def DcO (a : Addr) (ep : Nat) (hs : List (Int × Addr)) (vs : List V) : HO := .ext fun h => ∃ o, h.get? a = some o ∧ o.ExactDict ∧ hs.length = vs.length ∧ ∃ (us : List Value) (es : Array DictEntry), Vals vs us ∧ o.data = .dict es ep ∧ es.toList = List.zipWith (fun (p : Int × Addr) (u : Value) => (⟨p.1, .ref p.2, u⟩ : DictEntry)) hs us
theorem vals_any : ∀ vs : List V, ∃ us, Vals vs us
  | [] => ⟨[], .nil⟩
  | v :: vs => by
    obtain ⟨us, r⟩ := vals_any vs
    cases v with
    | non => exact ⟨.none :: us, .cons rfl r⟩
    | bl b => exact ⟨.bool b :: us, .cons rfl r⟩
    | int i => exact ⟨.int i 0 :: us, .cons ⟨0, rfl⟩ r⟩
    | str x => exact ⟨.str x 0 :: us, .cons ⟨0, rfl⟩ r⟩
    | byt x => exact ⟨.bytes x 0 :: us, .cons ⟨0, rfl⟩ r⟩
    | flt x => exact ⟨.float x 0 :: us, .cons ⟨0, rfl⟩ r⟩
    | ref a => exact ⟨.ref a :: us, .cons rfl r⟩
    | ty n => exact ⟨.type n :: us, .cons rfl r⟩
theorem get_rep {n a : Nat} {o : Obj} (hd : o.data ≠ .freed) (h : a < n) : ({ objs := Array.replicate n o } : Heap).get? a = some o := by
  unfold Heap.get?
  have e : (Array.replicate n o)[a]? = some o := by rw [Array.getElem?_replicate, if_pos h]
  show (match (Array.replicate n o)[a]? with
    | some ⟨_, _, .freed, _⟩ => none
    | o => o) = _
  rw [e]
  obtain ⟨c, d, dt, sl⟩ := o
  cases dt <;> first | rfl | exact absurd rfl hd
theorem get_rep_eq {n a : Nat} {o o' : Obj} (hd : o.data ≠ .freed) (h : ({ objs := Array.replicate n o } : Heap).get? a = some o') : o' = o := by
  have hl := Heap.lt_size h
  have hl : a < (Array.replicate n o).size := hl
  rw [Array.size_replicate] at hl
  rw [get_rep hd hl] at h
  exact (Option.some.inj h).symm
/-- a thing of a kind that may change -/
def Chg (u : HO) : Prop := (∃ vs, u = .lst vs) ∨ (∃ C dx fs, u = .ins C dx fs) ∨ (∃ a ep hs vs, u = DcO a ep hs vs) ∨ (∃ e C d, u = exo e C d) ∨ (∃ dx fs, u = exd dx fs) ∨ ∃ kvs, u = .dK kvs
theorem Chg.lst {vs : List V} : Chg (.lst vs) := .inl ⟨vs, rfl⟩
theorem Chg.ins {C dx : Addr} {fs : List (Str × V)} : Chg (.ins C dx fs) := .inr (.inl ⟨C, dx, fs, rfl⟩)
theorem Chg.dct {a : Addr} {ep : Nat} {hs : List (Int × Addr)} {vs : List V} : Chg (DcO a ep hs vs) := .inr (.inr (.inl ⟨a, ep, hs, vs, rfl⟩))
theorem Chg.exo {e C : Addr} {d : Option Addr} : Chg (exo e C d) := .inr (.inr (.inr (.inl ⟨e, C, d, rfl⟩)))
theorem Chg.exd {dx : Addr} {fs : List (Str × V)} : Chg (exd dx fs) := .inr (.inr (.inr (.inr (.inl ⟨dx, fs, rfl⟩))))
theorem Chg.dks {ks : List Str} {vs : List V} : Chg (ksO ks vs) := .inr (.inr (.inr (.inr (.inr ⟨_, rfl⟩))))
/-- a code object is not a dict -/
theorem Chg.code {c : Addr} {q : Str} : ¬ Chg (LamX.CodeO c q) := fun z => by
  rcases z with ⟨_, e⟩ | ⟨_, _, _, e⟩ | ⟨a, ep, hs, vs, e⟩ | ⟨x, C, d, e⟩ | ⟨dx, fs, e⟩ | ⟨kvs, e⟩
  · unfold LamX.CodeO at e; cases e
  · unfold LamX.CodeO at e; cases e
  · unfold LamX.CodeO DcO at e
    injection e with e
    by_cases hl : hs.length = vs.length
    · obtain ⟨us, r⟩ := vals_any vs
      have e2 := congrFun e ({ objs := Array.replicate (a + 1) { cls := .type "dict", data := .dict (List.zipWith (fun (p : Int × Addr) (u : Value) => (⟨p.1, .ref p.2, u⟩ : DictEntry)) hs us).toArray ep } } : Heap)
      have hd : (Obj.data { cls := .type "dict", data := .dict (List.zipWith (fun (p : Int × Addr) (u : Value) => (⟨p.1, .ref p.2, u⟩ : DictEntry)) hs us).toArray ep }) ≠ .freed := fun z => by cases z
      have : ∃ o, ({ objs := Array.replicate (a + 1) { cls := .type "dict", data := .dict (List.zipWith (fun (p : Int × Addr) (u : Value) => (⟨p.1, .ref p.2, u⟩ : DictEntry)) hs us).toArray ep } } : Heap).get? a = some o ∧ o.ExactDict ∧ hs.length = vs.length ∧ ∃ (us : List Value) (es : Array DictEntry), Vals vs us ∧ o.data = .dict es ep ∧ es.toList = List.zipWith (fun (p : Int × Addr) (u : Value) => (⟨p.1, .ref p.2, u⟩ : DictEntry)) hs us :=
        ⟨_, get_rep hd (Nat.lt_succ_self a), ⟨rfl, rfl, rfl⟩, hl, us, _, r, rfl, by simp⟩
      rw [← e2] at this
      obtain ⟨oc, ws, t, h1, h2, _⟩ := this
      rw [get_rep_eq hd h1] at h2
      cases h2
    · have e2 := congrFun e ({ objs := Array.replicate (c + 1) { cls := .none, data := .fields #[.none, .str q 0] } } : Heap)
      have : ∃ (oc : Obj) (ws : Array Value) (t : Tok), ({ objs := Array.replicate (c + 1) { cls := .none, data := .fields #[.none, .str q 0] } } : Heap).get? c = some oc ∧ oc.data = .fields ws ∧ ws[1]? = some (.str q t) :=
        ⟨_, _, 0, get_rep (fun z => by cases z) (Nat.lt_succ_self c), rfl, rfl⟩
      rw [e2] at this
      obtain ⟨_, _, _, h, _⟩ := this
      exact hl h
  · unfold LamX.CodeO L2.exo at e
    injection e with e
    have e2 := congrFun e ({ objs := Array.replicate (c + 1) { cls := .none, data := .fields #[.none, .str q 0] } } : Heap)
    have : ∃ (oc : Obj) (ws : Array Value) (t : Tok), ({ objs := Array.replicate (c + 1) { cls := .none, data := .fields #[.none, .str q 0] } } : Heap).get? c = some oc ∧ oc.data = .fields ws ∧ ws[1]? = some (.str q t) :=
      ⟨_, _, 0, get_rep (fun z => by cases z) (Nat.lt_succ_self c), rfl, rfl⟩
    rw [e2] at this
    obtain ⟨t1, h⟩ := this
    have := get_rep_eq (fun z => by cases z) h
    cases this
  · unfold LamX.CodeO L2.exd at e
    injection e with e
    have e2 := congrFun e ({ objs := Array.replicate (c + 1) { cls := .none, data := .fields #[.none, .str q 0] } } : Heap)
    have : ∃ (oc : Obj) (ws : Array Value) (t : Tok), ({ objs := Array.replicate (c + 1) { cls := .none, data := .fields #[.none, .str q 0] } } : Heap).get? c = some oc ∧ oc.data = .fields ws ∧ ws[1]? = some (.str q t) :=
      ⟨_, _, 0, get_rep (fun z => by cases z) (Nat.lt_succ_self c), rfl, rfl⟩
    rw [e2] at this
    obtain ⟨mA, ⟨o, es, ep, h, hd, _⟩, _⟩ := this
    have := get_rep_eq (fun z => by cases z) h
    subst this
    cases hd
  · unfold LamX.CodeO at e; cases e
/-- where the defs and the classes stand; T: the tables of code objects -/
structure Ad where
  f : Nat → Addr
  c : Nat → Addr
  few : Addr
  mis : Addr
  T : List (Addr × Str)
/-- what else holds of the heap throughout -/
def Ad.iv (a : Ad) (H : Hp) : Prop := LamX.Tabs a.T H
theorem Ad.ivN (a : Ad) (H : Hp) (p : Addr) (o : HO) (hp : H p = none) (h : a.iv H) : a.iv (upd H p o) :=
  LamX.Tabs.ext h fun b u e => by
    rw [upd_ne (ne_of_none e hp)]
    exact e
theorem Ad.ivP (a : Ad) (H : Hp) (b : Addr) (u u' : HO) (hb : H b = some u) (hc : Chg u) (h : a.iv H) : a.iv (upd H b u') := fun p hp => by
  have ne : ∀ c w, H c = some w → ¬ Chg w → c ≠ b := fun c w e n z => by
    rw [z, hb] at e
    cases e
    exact n hc
  obtain ⟨ps, h1, h2, h3⟩ := h p hp
  refine ⟨ps, ?_, h2, fun pos cv hv => ?_⟩
  · rw [upd_ne (ne _ _ h1 fun z => by rcases z with ⟨_, e⟩ | ⟨_, _, _, e⟩ | ⟨_, _, _, _, e⟩ | ⟨_, _, _, e⟩ | ⟨_, _, e⟩ | ⟨_, e⟩ <;> cases e)]
    exact h1
  · obtain ⟨c, e1, e2⟩ := h3 pos cv hv
    refine ⟨c, e1, ?_⟩
    rw [upd_ne (ne _ _ e2 Chg.code)]
    exact e2
/-- what is fixed: the written part, where things stand -/
structure G where
  K : PySem.W.Frag
  fa : Ad
  w : World
mutual
/-- a key of a dict -/
def nkD : D → Option NestedKey
  | .non => some .none
  | .bl b => some (.num (if b then 1 else 0))
  | .int i => some (.num i)
  | .str x => some (.text x)
  | .tup ds => (nkL ds).map .tup
  | _ => none
def nkL : List D → Option (List NestedKey)
  | [] => some []
  | d :: ds => match nkD d, nkL ds with
    | some k, some ks => some (k :: ks)
    | _, _ => none
end
/-- different keys, none too deep -/
def keysOk : List D → Prop
  | ks => (ks.map nkD).Nodup

/-- a list of the written part -/
def KL (K : PySem.W.Frag) (a : Addr) (xs : List V) : Prop :=
  ∃ (o : Obj) (its : Array Value) (n : Nat), K.lookup a = some o ∧ o.cls = .type "list" ∧ o.dict = none ∧ o.data = .seq its n ∧ its.size ≤ sizeLine ∧ Vals xs its.toList
mutual
def Dat (g : G) (z : Z) : D → V → Prop
  | .non, v => v = .non
  | .bl b, v => v = .bl b
  | .int i, v => v = .int i
  | .str x, v => v = .str x
  | .tup ds, v => ∃ a vs, v = .ref a ∧ SqT g.K z.H a vs ∧ DatL g z ds vs
  | .lst ds, v => ∃ a vs, v = .ref a ∧ z.H a = some (.lst vs) ∧ ¬ live z.B z.S a ∧ DatL g z ds vs
  | .scr ns, v => ∃ a, v = .ref a ∧ ((∃ o, z.H a = some (.frz o (.lst (ns.map V.int)))) ∨ KL g.K a (ns.map V.int) ∨ (z.H a = some (.lst (ns.map V.int)) ∧ ¬ live z.B z.S a))
  | .fn i, v => v = .ref (g.fa.f i)
  | .ty n, v => v = .ty n.nm
  | .kl c, v => v = .ref (g.fa.c c)
  | .ins c ns ds, v => ∃ a dx vs, v = .ref a ∧ z.H a = some (.ins (g.fa.c c) dx (ns.zip vs)) ∧ ¬ live z.B z.S a ∧ ns.length = ds.length ∧ DatL g z ds vs
  | .dct ks vs, v => ∃ a ep hs ws, v = .ref a ∧ z.H a = some (DcO a ep hs ws) ∧ ¬ live z.B z.S a ∧ (a == sysModules) = false ∧ keysOk ks ∧ KeyL g z ks hs ∧ DatL g z vs ws
  | .exv c ns ds, v => ∃ a dx vs, v = .ref a ∧ z.H a = some (exo a (g.fa.c c) (some dx)) ∧ ¬ live z.B z.S a ∧ z.H dx = some (exd dx (ns.zip vs)) ∧ ¬ live z.B z.S dx ∧ ns.length = ds.length ∧ DatL g z ds vs
  | .dks ks vs, v => ∃ a ws, v = .ref a ∧ z.H a = some (ksO ks ws) ∧ ¬ live z.B z.S a ∧ ks.length = vs.length ∧ DatL g z vs ws
def KeyL (g : G) (z : Z) : List D → List (Int × Addr) → Prop
  | [], hs => hs = []
  | d :: ds, hs => ∃ k b r, hs = (k.hash g.w, b) :: r ∧ nkD d = some k ∧ k.depth ≤ 8 ∧ Dat g z d (.ref b) ∧ KeyL g z ds r
def DatL (g : G) (z : Z) : List D → List V → Prop
  | [], vs => vs = []
  | d :: ds, vs => ∃ v r, vs = v :: r ∧ Dat g z d v ∧ DatL g z ds r
end
def DatA (g : G) (z : Z) : A → V → Prop
  | .p d, v => Dat g z d v
  | .m i, v => ∃ a, z.B.l[i]? = some a ∧ v = .ref a ∧ z.S[i]? ≠ some .resv
def DatAL (g : G) (z : Z) : List A → List V → Prop
  | [], vs => vs = []
  | d :: ds, vs => ∃ v r, vs = v :: r ∧ DatA g z d v ∧ DatAL g z ds r
/-- a thing of the store and what stands for it, at a -/
def Ob (g : G) (z : Z) (a : Addr) : MO → HO → Prop
  | .lst xs, u => ∃ vs, u = .lst vs ∧ DatL g z xs vs
  | .ins c ns ds, u => ∃ dx vs, u = .ins (g.fa.c c) dx (ns.zip vs) ∧ ns.length = ds.length ∧ DatL g z ds vs
  | .dct ks vs, u => ∃ ep hs ws, u = DcO a ep hs ws ∧ (a == sysModules) = false ∧ keysOk ks ∧ KeyL g z ks hs ∧ DatL g z vs ws
  | .dks ks vs, u => ∃ ws, u = ksO ks ws ∧ ks.length = vs.length ∧ DatL g z vs ws
  | .inm c ns xs, u => ∃ dx vs, u = .ins (g.fa.c c) dx (ns.zip vs) ∧ ns.length = xs.length ∧ DatAL g z xs vs
  | .resv, _ => False
  | .dead, u => Chg u
theorem Ob.chgA {g : G} {z : Z} {a : Addr} {o : MO} {u : HO} (h : Ob g z a o u) : Chg u := by
  cases o with
  | lst xs =>
    obtain ⟨vs, rfl, _⟩ := h
    exact Chg.lst
  | ins c ns ds =>
    obtain ⟨dx, vs, rfl, _⟩ := h
    exact Chg.ins
  | dct ks vs =>
    obtain ⟨ep, hs, ws, rfl, _⟩ := h
    exact Chg.dct
  | dks ks vs =>
    obtain ⟨ws, rfl, _⟩ := h
    exact Chg.dks
  | inm c ns xs =>
    obtain ⟨dx, vs, rfl, _⟩ := h
    exact Chg.ins
  | resv => exact h.elim
  | dead => exact h
theorem Ob.chg {g : G} {z : Z} {a : Addr} {o : MO} {u : HO} (h : Ob g z a o u) (_ : o.lv) : Chg u := h.chgA

section
variable {g : G} {z z' z'' : Z}
mutual
theorem Dat.mono (ht : ∀ a vs, SqT g.K z.H a vs → SqT g.K z'.H a vs) (hl : ∀ a u, Chg u → z.H a = some u → ¬ live z.B z.S a → z'.H a = some u ∧ ¬ live z'.B z'.S a) (hf : ∀ a o u, z.H a = some (.frz o u) → z'.H a = some (.frz o u)) :
    ∀ (d : D) (v : V), Dat g z d v → Dat g z' d v
  | .non, _, h => h
  | .bl _, _, h => h
  | .int _, _, h => h
  | .str _, _, h => h
  | .tup ds, _, h => by
    obtain ⟨a, vs, e, t, l⟩ := h
    exact ⟨a, vs, e, ht a vs t, Dat.monoL ht hl hf ds vs l⟩
  | .lst ds, _, h => by
    obtain ⟨a, vs, e, t, n, l⟩ := h
    have q := hl a _ Chg.lst t n
    exact ⟨a, vs, e, q.1, q.2, Dat.monoL ht hl hf ds vs l⟩
  | .scr ns, _, h => by
    obtain ⟨a, e, t⟩ := h
    refine ⟨a, e, ?_⟩
    rcases t with ⟨o, t⟩ | t | ⟨t, n⟩
    · exact .inl ⟨o, hf a o _ t⟩
    · exact .inr (.inl t)
    · exact .inr (.inr (hl a _ Chg.lst t n))
  | .fn _, _, h => h
  | .ty _, _, h => h
  | .kl _, _, h => h
  | .ins c ns ds, _, h => by
    obtain ⟨a, dx, vs, e, t, n, e2, l⟩ := h
    have q := hl a _ Chg.ins t n
    exact ⟨a, dx, vs, e, q.1, q.2, e2, Dat.monoL ht hl hf ds vs l⟩
  | .dct ks vs, _, h => by
    obtain ⟨a, ep, hs, ws, e, t, n, y, ko, kl, l⟩ := h
    have q := hl a _ Chg.dct t n
    exact ⟨a, ep, hs, ws, e, q.1, q.2, y, ko, Dat.monoK ht hl hf ks hs kl, Dat.monoL ht hl hf vs ws l⟩
  | .exv c ns ds, _, h => by
    obtain ⟨a, dx, vs, e, t, n, t2, n2, e2, l⟩ := h
    have q := hl a _ Chg.exo t n
    have q2 := hl dx _ Chg.exd t2 n2
    exact ⟨a, dx, vs, e, q.1, q.2, q2.1, q2.2, e2, Dat.monoL ht hl hf ds vs l⟩
  | .dks ks vs, _, h => by
    obtain ⟨a, ws, e, t, n, e2, l⟩ := h
    have q := hl a _ Chg.dks t n
    exact ⟨a, ws, e, q.1, q.2, e2, Dat.monoL ht hl hf vs ws l⟩
theorem Dat.monoK (ht : ∀ a vs, SqT g.K z.H a vs → SqT g.K z'.H a vs) (hl : ∀ a u, Chg u → z.H a = some u → ¬ live z.B z.S a → z'.H a = some u ∧ ¬ live z'.B z'.S a) (hf : ∀ a o u, z.H a = some (.frz o u) → z'.H a = some (.frz o u)) :
    ∀ (ds : List D) (hs : List (Int × Addr)), KeyL g z ds hs → KeyL g z' ds hs
  | [], _, h => h
  | d :: ds, _, h => by
    obtain ⟨k, b, r, e, h1, h2, h3, h4⟩ := h
    exact ⟨k, b, r, e, h1, h2, Dat.mono ht hl hf d _ h3, Dat.monoK ht hl hf ds r h4⟩
theorem Dat.monoL (ht : ∀ a vs, SqT g.K z.H a vs → SqT g.K z'.H a vs) (hl : ∀ a u, Chg u → z.H a = some u → ¬ live z.B z.S a → z'.H a = some u ∧ ¬ live z'.B z'.S a) (hf : ∀ a o u, z.H a = some (.frz o u) → z'.H a = some (.frz o u)) :
    ∀ (ds : List D) (vs : List V), DatL g z ds vs → DatL g z' ds vs
  | [], _, h => h
  | d :: ds, _, h => by
    obtain ⟨v, r, e, a, b⟩ := h
    exact ⟨v, r, e, Dat.mono ht hl hf d v a, Dat.monoL ht hl hf ds r b⟩
end

/-- what was known is known -/
structure Stab (g : G) (z z' : Z) : Prop where
  dat : ∀ d v, Dat g z d v → Dat g z' d v
  pre : ∀ (i : Nat) a, z.B.l[i]? = some a → z.S[i]? ≠ some .resv → z'.B.l[i]? = some a ∧ z'.S[i]? ≠ some .resv
  same : z'.B.E = z.B.E
  keep : ∀ a ∈ z.B.E, z'.H a = z.H a
  non : ∀ a u, Chg u → z.H a = some u → ¬ live z.B z.S a → z'.H a = some u ∧ ¬ live z'.B z'.S a
theorem Stab.of (ht : ∀ a vs, SqT g.K z.H a vs → SqT g.K z'.H a vs) (hl : ∀ a u, Chg u → z.H a = some u → ¬ live z.B z.S a → z'.H a = some u ∧ ¬ live z'.B z'.S a) (hf : ∀ a o u, z.H a = some (.frz o u) → z'.H a = some (.frz o u))
    (hp : ∀ (i : Nat) a, z.B.l[i]? = some a → z.S[i]? ≠ some .resv → z'.B.l[i]? = some a ∧ z'.S[i]? ≠ some .resv) (hs : z'.B.E = z.B.E) (hk : ∀ a ∈ z.B.E, z'.H a = z.H a) : Stab g z z' := ⟨Dat.mono ht hl hf, hp, hs, hk, hl⟩
theorem Stab.refl : Stab g z z := ⟨fun _ _ h => h, fun _ _ h n => ⟨h, n⟩, rfl, fun _ _ => rfl, fun _ _ _ h n => ⟨h, n⟩⟩
theorem Stab.trans (a : Stab g z z') (b : Stab g z' z'') : Stab g z z'' := ⟨fun d v h => b.dat d v (a.dat d v h), fun i c h n => b.pre i c (a.pre i c h n).1 (a.pre i c h n).2, b.same.trans a.same, fun c h => (b.keep c (by rw [a.same]; exact h)).trans (a.keep c h), fun c u k h n => b.non c u k (a.non c u k h n).1 (a.non c u k h n).2⟩
theorem Stab.datL (s : Stab g z z') : ∀ {ds : List D} {vs : List V}, DatL g z ds vs → DatL g z' ds vs
  | [], _, h => h
  | d :: ds, _, ⟨v, r, e, a, b⟩ => ⟨v, r, e, s.dat d v a, s.datL b⟩
theorem Stab.datA (s : Stab g z z') : ∀ {x : A} {v : V}, DatA g z x v → DatA g z' x v
  | .p d, v, h => s.dat d v h
  | .m i, v, ⟨a, h, e, n⟩ => ⟨a, (s.pre i a h n).1, e, (s.pre i a h n).2⟩
theorem Stab.datAL (s : Stab g z z') : ∀ {ds : List A} {vs : List V}, DatAL g z ds vs → DatAL g z' ds vs
  | [], _, h => h
  | d :: ds, _, ⟨v, r, e, a, b⟩ => ⟨v, r, e, s.datA a, s.datAL b⟩
theorem Stab.keyL (s : Stab g z z') : ∀ {ds : List D} {hs : List (Int × Addr)}, KeyL g z ds hs → KeyL g z' ds hs
  | [], _, h => h
  | d :: ds, _, ⟨k, b, r, e, h1, h2, h3, h4⟩ => ⟨k, b, r, e, h1, h2, s.dat d _ h3, s.keyL h4⟩
theorem Stab.ob (s : Stab g z z') {a : Addr} {o : MO} {u : HO} (h : Ob g z a o u) : Ob g z' a o u := by
  cases o with
  | lst xs =>
    obtain ⟨vs, e, d⟩ := h
    exact ⟨vs, e, s.datL d⟩
  | ins c ns ds =>
    obtain ⟨dx, vs, e, n, d⟩ := h
    exact ⟨dx, vs, e, n, s.datL d⟩
  | dct ks vs =>
    obtain ⟨ep, hs, ws, e, y, ko, kl, d⟩ := h
    exact ⟨ep, hs, ws, e, y, ko, s.keyL kl, s.datL d⟩
  | dks ks vs =>
    obtain ⟨ws, e, n, d⟩ := h
    exact ⟨ws, e, n, s.datL d⟩
  | inm c ns xs =>
    obtain ⟨dx, vs, e, n, d⟩ := h
    exact ⟨dx, vs, e, n, s.datAL d⟩
  | resv => exact h
  | dead => exact h

structure StoreOk (g : G) (z : Z) : Prop where
  len : z.B.l.length = z.S.length
  nd : ∀ (i j : Nat) a, z.B.l[i]? = some a → z.B.l[j]? = some a → z.S[i]? ≠ some .resv → z.S[j]? ≠ some .resv → i = j
  obj : ∀ (i : Nat) a (o : MO), z.B.l[i]? = some a → z.S[i]? = some o → o ≠ .resv → ∃ u, z.H a = some u ∧ Ob g z a o u
  ex : ∀ a ∈ z.B.E, (∃ o, z.H a = some o ∧ Chg o) ∧ ∀ (i : Nat), z.B.l[i]? = some a → z.S[i]? = some .resv
  iv : g.fa.iv z.H
  lt : ∀ (i c : Nat) ns xs, z.S[i]? = some (.inm c ns xs) → ∀ j, A.m j ∈ xs → j < i
theorem StoreOk.has (k : StoreOk g z) : ∀ (i : Nat) a, z.B.l[i]? = some a → z.S[i]? ≠ some .resv → ∃ o, z.H a = some o := fun i a h n => by
  have hi : i < z.S.length := by
    rw [← k.len]
    exact (List.getElem?_eq_some_iff.mp h).1
  obtain ⟨u, e, _⟩ := k.obj i a _ h (List.getElem?_eq_getElem hi) fun q => n (by rw [List.getElem?_eq_getElem hi, q])
  exact ⟨u, e⟩
theorem StoreOk.ob (k : StoreOk g z) : ∀ (i : Nat) a xs, z.B.l[i]? = some a → z.S[i]? = some (.lst xs) → ∃ vs, z.H a = some (.lst vs) ∧ DatL g z xs vs := fun i a xs h1 h2 => by
  obtain ⟨u, e, vs, rfl, d⟩ := k.obj i a _ h1 h2 (fun z => by cases z)
  exact ⟨vs, e, d⟩

/-! ### the steps -/
theorem sqT_upd {K : PySem.W.Frag} {H : Hp} {p a : Addr} {o : HO} {vs : List V} (hp : H p = none) (h : SqT K H a vs) : SqT K (upd H p o) a vs := by
  rcases h with (h | ⟨u, h⟩) | h
  · exact .inl (.inl (by rw [upd_ne (ne_of_none h hp)]; exact h))
  · exact .inl (.inr ⟨u, by rw [upd_ne (ne_of_none h hp)]; exact h⟩)
  · exact .inr h
theorem at_upd {H : Hp} {p a : Addr} {o u : HO} (hp : H p = none) (h : H a = some u) : upd H p o a = some u := by
  rw [upd_ne (ne_of_none h hp)]
  exact h
/-- a new thing that never changes -/
theorem StoreOk.exne {B : Bk} {S : Store} {H : Hp} {p : Addr} (k : StoreOk g ⟨B, S, H⟩) (hp : H p = none) : ∀ a ∈ B.E, a ≠ p := fun a ha => by
  obtain ⟨⟨o, e, _⟩, _⟩ := k.ex a ha
  exact ne_of_none (show H a = some o from e) hp
theorem Stab.new {B : Bk} {S : Store} {H : Hp} {p : Addr} {o : HO} (k : StoreOk g ⟨B, S, H⟩) (hp : H p = none) : Stab g ⟨B, S, H⟩ ⟨B, S, upd H p o⟩ :=
  Stab.of (fun a vs h => sqT_upd hp h) (fun a u _ h n => ⟨at_upd hp h, n⟩) (fun a o u h => at_upd hp h) (fun _ _ h n => ⟨h, n⟩) rfl (fun a ha => upd_ne (k.exne hp a ha))
theorem StoreOk.new {B : Bk} {S : Store} {H : Hp} {p : Addr} {o : HO} (k : StoreOk g ⟨B, S, H⟩) (hp : H p = none) : StoreOk g ⟨B, S, upd H p o⟩ where
  len := k.len
  nd := k.nd
  obj := fun i a x h1 h2 n => by
    obtain ⟨u, e, d⟩ := k.obj i a x h1 h2 n
    exact ⟨u, at_upd hp e, (Stab.new k hp).ob d⟩
  lt := k.lt
  ex := fun a ha => ⟨by
    obtain ⟨u, e, c⟩ := (k.ex a ha).1
    exact ⟨u, at_upd hp e, c⟩, (k.ex a ha).2⟩
  iv := g.fa.ivN _ _ _ hp k.iv
theorem StoreOk.fresh {B : Bk} {S : Store} {H : Hp} {p : Addr} (k : StoreOk g ⟨B, S, H⟩) (hp : H p = none) : ¬ live B S p := fun h => by
  rcases h with ⟨i, xs, h1, h2, h3⟩ | h
  · obtain ⟨u, e⟩ := k.has i p h1 (fun q => by rw [show S[i]? = some xs from h2] at q; cases q; exact h3)
    have e' : H p = some u := e
    rw [hp] at e'
    cases e'
  · exact k.exne hp p h rfl
theorem StoreOk.notIn {B : Bk} {S : Store} {H : Hp} {p : Addr} (k : StoreOk g ⟨B, S, H⟩) (hp : H p = none) : ∀ (i : Nat), B.l[i]? = some p → S[i]? = some .resv := fun i hi => by
  by_cases hr : S[i]? = some .resv
  · exact hr
  · obtain ⟨u, e⟩ := k.has i p hi hr
    have e' : H p = some u := e
    rw [hp] at e'
    cases e'
/-- one more thing in the store -/
def Bk.add (B : Bk) (p : Addr) : Bk := ⟨B.l ++ [p], B.E⟩
theorem live_app {B : Bk} {S : Store} {p a : Addr} {o : MO} (hl : B.l.length = S.length) (hn : a ≠ p) (h : live (B.add p) (S ++ [o]) a) : live B S a := by
  rcases h with ⟨i, xs, h1, h2, h3⟩ | h
  · refine .inl ?_
    have h1 : (B.l ++ [p])[i]? = some a := h1
    by_cases hi : i < B.l.length
    · rw [List.getElem?_append_left hi] at h1
      rw [List.getElem?_append_left (by omega)] at h2
      exact ⟨i, xs, h1, h2, h3⟩
    · rw [List.getElem?_append_right (by omega)] at h1
      have : i - B.l.length = 0 := by
        by_cases z : i - B.l.length = 0
        · exact z
        · rw [List.getElem?_eq_none (by simp; omega)] at h1; cases h1
      rw [this] at h1
      have e : p = a := Option.some.inj h1
      exact absurd e.symm hn
  · exact .inr h
/-- a new thing of the store -/
theorem Stab.alloc {B : Bk} {S : Store} {H : Hp} {p : Addr} {u : HO} {o : MO} (k : StoreOk g ⟨B, S, H⟩) (hp : H p = none) : Stab g ⟨B, S, H⟩ ⟨B.add p, S ++ [o], upd H p u⟩ :=
  Stab.of (fun a vs h => sqT_upd hp h) (fun a w _ h n => ⟨at_upd hp h, fun q => n (live_app k.len (ne_of_none h hp) q)⟩) (fun a o u h => at_upd hp h) (fun i a h n => by
    have h' : B.l[i]? = some a := h
    have hl : B.l.length = S.length := k.len
    have hi := (List.getElem?_eq_some_iff.mp h').1
    refine ⟨?_, ?_⟩
    · show (B.l ++ [p])[i]? = some a
      rw [List.getElem?_append_left hi]
      exact h'
    · show (S ++ [o])[i]? ≠ _
      rw [List.getElem?_append_left (by omega)]
      exact n) rfl (fun a ha => upd_ne (k.exne hp a ha))
theorem app_cases {α : Type} {l : List α} {x y : α} {i : Nat} (h : (l ++ [x])[i]? = some y) : (i < l.length ∧ l[i]? = some y) ∨ (i = l.length ∧ x = y) := by
  by_cases hi : i < l.length
  · rw [List.getElem?_append_left hi] at h
    exact .inl ⟨hi, h⟩
  · have hi' : i = l.length := by
      have := (List.getElem?_eq_some_iff.mp h).1
      rw [List.length_append, List.length_singleton] at this
      omega
    subst hi'
    rw [List.getElem?_append_right (Nat.le_refl _), Nat.sub_self] at h
    exact .inr ⟨rfl, Option.some.inj h⟩
theorem StoreOk.allocO {B : Bk} {S : Store} {H : Hp} {p : Addr} {o : MO} {w : HO} (k : StoreOk g ⟨B, S, H⟩) (hp : H p = none) (d : Ob g ⟨B, S, H⟩ p o w) (hlt : ∀ c ns xs, o = .inm c ns xs → ∀ j, A.m j ∈ xs → j < S.length := by intro _ _ _ h; cases h) : StoreOk g ⟨B.add p, S ++ [o], upd H p w⟩ := by
  have hl : B.l.length = S.length := k.len
  have st : Stab g ⟨B, S, H⟩ ⟨B.add p, S ++ [o], upd H p w⟩ := Stab.alloc k hp
  have old : ∀ {i : Nat}, i < B.l.length → (S ++ [o])[i]? = S[i]? := fun {i} hi => List.getElem?_append_left (by omega)
  refine ⟨by show (B.l ++ [p]).length = (S ++ [o]).length; simp [hl], fun i j a h1 h2 n1 n2 => ?_, fun i a y h1 h2 hn => ?_, fun a ha => ?_, g.fa.ivN _ _ _ hp k.iv, fun i c ns xs h j hj => ?_⟩
  · rcases app_cases (show (B.l ++ [p])[i]? = some a from h1) with ⟨hi, h1'⟩ | ⟨hi, rfl⟩
    · have n1' : S[i]? ≠ some .resv := fun q => n1 (by show (S ++ [o])[i]? = _; rw [old hi]; exact q)
      rcases app_cases (show (B.l ++ [p])[j]? = some a from h2) with ⟨hj, h2'⟩ | ⟨hj, rfl⟩
      · exact k.nd i j a h1' h2' n1' fun q => n2 (by show (S ++ [o])[j]? = _; rw [old hj]; exact q)
      · exact absurd (k.notIn hp i h1') n1'
    · rcases app_cases (show (B.l ++ [p])[j]? = some p from h2) with ⟨hj, h2'⟩ | ⟨hj, _⟩
      · exact absurd (k.notIn hp j h2') fun q => n2 (by show (S ++ [o])[j]? = _; rw [old hj]; exact q)
      · rw [hi, hj]
  · rcases app_cases (show (B.l ++ [p])[i]? = some a from h1) with ⟨hi, h1'⟩ | ⟨hi, rfl⟩
    · have h2' : S[i]? = some y := by
        rw [← old hi]
        exact h2
      obtain ⟨u, e, q⟩ := k.obj i a y h1' h2' hn
      exact ⟨u, at_upd hp e, st.ob q⟩
    · have h2' : (S ++ [o])[i]? = some y := h2
      rw [hi, hl, List.getElem?_append_right (Nat.le_refl _), Nat.sub_self] at h2'
      have e2 : o = y := Option.some.inj h2'
      subst e2
      exact ⟨w, upd_same, st.ob d⟩
  · have ha : a ∈ B.E := ha
    obtain ⟨⟨u, e, c⟩, n⟩ := k.ex a ha
    refine ⟨⟨u, at_upd hp e, c⟩, fun i q => ?_⟩
    rcases app_cases (show (B.l ++ [p])[i]? = some a from q) with ⟨hi, h1'⟩ | ⟨hi, rfl⟩
    · show (S ++ [o])[i]? = _
      rw [old hi]
      exact n i h1'
    · exact absurd rfl (k.exne hp _ ha)
  · rcases app_cases (show (S ++ [o])[i]? = some _ from h) with ⟨_, h'⟩ | ⟨hi, h'⟩
    · exact k.lt i c ns xs h' j hj
    · rw [hi]
      exact hlt c ns xs h' j hj
theorem new_nr {S : Store} {o : MO} (h : o ≠ .resv) : (S ++ [o])[S.length]? ≠ some .resv := fun q => by
  rw [List.getElem?_append_right (Nat.le_refl _), Nat.sub_self] at q
  exact h (Option.some.inj q)
/-- a place that is kept free -/
theorem Stab.resv {B : Bk} {S : Store} {H : Hp} (k : StoreOk g ⟨B, S, H⟩) : Stab g ⟨B, S, H⟩ ⟨B.add 0, S ++ [.resv], H⟩ :=
  Stab.of (fun a vs h => h) (fun a w _ h n => ⟨h, fun q => n (by
    rcases q with ⟨i, xs, h1, h2, h3⟩ | q
    · rcases app_cases (show (S ++ [.resv])[i]? = some xs from h2) with ⟨hi, h2'⟩ | ⟨_, h2'⟩
      · have hl : B.l.length = S.length := k.len
        have h1 : (B.l ++ [0])[i]? = some a := h1
        rw [List.getElem?_append_left (by omega)] at h1
        exact .inl ⟨i, xs, h1, h2', h3⟩
      · subst h2'
        exact h3.elim
    · exact .inr q)⟩) (fun a o u h => h) (fun i a h n => by
    have h' : B.l[i]? = some a := h
    have hl : B.l.length = S.length := k.len
    have hi := (List.getElem?_eq_some_iff.mp h').1
    refine ⟨?_, ?_⟩
    · show (B.l ++ [0])[i]? = some a
      rw [List.getElem?_append_left hi]
      exact h'
    · show (S ++ [.resv])[i]? ≠ _
      rw [List.getElem?_append_left (by omega)]
      exact n) rfl (fun a ha => rfl)
theorem StoreOk.resv {B : Bk} {S : Store} {H : Hp} (k : StoreOk g ⟨B, S, H⟩) : StoreOk g ⟨B.add 0, S ++ [.resv], H⟩ := by
  have hl : B.l.length = S.length := k.len
  have st : Stab g ⟨B, S, H⟩ ⟨B.add 0, S ++ [.resv], H⟩ := Stab.resv k
  have new : (S ++ [MO.resv])[B.l.length]? = some .resv := by
    rw [hl, List.getElem?_append_right (Nat.le_refl _), Nat.sub_self]
    rfl
  have old : ∀ {i : Nat}, i < B.l.length → (S ++ [MO.resv])[i]? = S[i]? := fun {i} hi => List.getElem?_append_left (by omega)
  refine ⟨by show (B.l ++ [0]).length = (S ++ [MO.resv]).length; simp [hl], fun i j a h1 h2 n1 n2 => ?_, fun i a y h1 h2 hn => ?_, fun a ha => ?_, k.iv, fun i c ns xs h j hj => ?_⟩
  · rcases app_cases (show (B.l ++ [0])[i]? = some a from h1) with ⟨hi, h1'⟩ | ⟨hi, _⟩
    · rcases app_cases (show (B.l ++ [0])[j]? = some a from h2) with ⟨hj, h2'⟩ | ⟨hj, _⟩
      · exact k.nd i j a h1' h2' (fun q => n1 (by show (S ++ [MO.resv])[i]? = _; rw [old hi]; exact q)) fun q => n2 (by show (S ++ [MO.resv])[j]? = _; rw [old hj]; exact q)
      · exact absurd (by rw [hj]; exact new) n2
    · exact absurd (by rw [hi]; exact new) n1
  · rcases app_cases (show (B.l ++ [0])[i]? = some a from h1) with ⟨hi, h1'⟩ | ⟨hi, _⟩
    · have h2' : S[i]? = some y := by
        rw [← old hi]
        exact h2
      obtain ⟨u, e, q⟩ := k.obj i a y h1' h2' hn
      exact ⟨u, e, st.ob q⟩
    · have h2' : (S ++ [MO.resv])[i]? = some y := h2
      rw [hi, new] at h2'
      exact absurd (Option.some.inj h2').symm hn
  · have ha : a ∈ B.E := ha
    obtain ⟨x, n⟩ := k.ex a ha
    refine ⟨x, fun i q => ?_⟩
    rcases app_cases (show (B.l ++ [0])[i]? = some a from q) with ⟨hi, h1'⟩ | ⟨hi, _⟩
    · show (S ++ [MO.resv])[i]? = _
      rw [old hi]
      exact n i h1'
    · show (S ++ [MO.resv])[i]? = _
      rw [hi]
      exact new
  · rcases app_cases (show (S ++ [MO.resv])[i]? = some _ from h) with ⟨_, h'⟩ | ⟨hi, h'⟩
    · exact k.lt i c ns xs h' j hj
    · cases h'
theorem StoreOk.alloc {B : Bk} {S : Store} {H : Hp} {p : Addr} {xs : List D} {vs : List V} (k : StoreOk g ⟨B, S, H⟩) (hp : H p = none) (d : DatL g ⟨B, S, H⟩ xs vs) : StoreOk g ⟨B.add p, S ++ [.lst xs], upd H p (.lst vs)⟩ :=
  k.allocO hp ⟨vs, rfl, d⟩
theorem nodup_at {α : Type} {l : List α} (hN : l.Nodup) {i j : Nat} {x : α} (a : l[i]? = some x) (b : l[j]? = some x) : i = j := by
  obtain ⟨h1, e1⟩ := List.getElem?_eq_some_iff.mp a
  obtain ⟨h2, e2⟩ := List.getElem?_eq_some_iff.mp b
  exact (List.getElem_inj hN).mp (e1.trans e2.symm)
theorem chg_tup {u : HO} {vs : List V} (h : Chg u) : HO.tup vs ≠ u := fun z => by
  subst z
  rcases h with ⟨_, e⟩ | ⟨_, _, _, e⟩ | ⟨_, _, _, _, e⟩ | ⟨_, _, _, e⟩ | ⟨_, _, e⟩ | ⟨_, e⟩ <;> cases e
theorem chg_frz {u w : HO} {o : Obj} (h : Chg u) : HO.frz o w ≠ u := fun z => by
  subst z
  rcases h with ⟨_, e⟩ | ⟨_, _, _, e⟩ | ⟨_, _, _, _, e⟩ | ⟨_, _, _, e⟩ | ⟨_, _, e⟩ | ⟨_, e⟩ <;> cases e
/-- a thing of the store is changed -/
theorem Stab.putO {B : Bk} {S : Store} {H : Hp} {i : Nat} {a : Addr} {o o' : MO} {w : HO} (k : StoreOk g ⟨B, S, H⟩) (hb : B.l[i]? = some a) (hs : S[i]? = some o) (hn : o.lv) (hr : o' ≠ .resv := by intro h; cases h) : Stab g ⟨B, S, H⟩ ⟨B, S.set i o', upd H a w⟩ := by
  obtain ⟨u, e, ob⟩ := k.obj i a o hb hs (fun q => by rw [q] at hn; exact hn)
  have e : H a = some u := e
  have cu := ob.chg hn
  refine Stab.of (fun b us h => ?_) (fun b us _ h n => ?_) (fun b o u' h => (by show upd H a _ b = _; rw [upd_ne (ne_of (show H b = _ from h) e (chg_frz cu))]; exact h)) (fun j b h n => ⟨h, fun q => by
    have q : (S.set i o')[j]? = some .resv := q
    by_cases hij : i = j
    · subst hij
      rw [List.getElem?_set_self (List.getElem?_eq_some_iff.mp hs).1] at q
      exact hr (Option.some.inj q)
    · rw [List.getElem?_set_ne hij] at q
      exact n q⟩) rfl (fun b hb' => upd_ne fun z => by
    have := (k.ex b hb').2 i (by rw [z]; exact hb)
    rw [show S[i]? = some o from hs] at this
    cases this
    exact hn)
  · rcases h with (h | ⟨x, h⟩) | h
    · have h : H b = _ := h
      exact .inl (.inl (by show upd H a _ b = _; rw [upd_ne (ne_of h e (chg_tup cu))]; exact h))
    · have h : H b = _ := h
      exact .inl (.inr ⟨x, by show upd H a _ b = _; rw [upd_ne (ne_of h e (chg_frz cu))]; exact h⟩)
    · exact .inr h
  · have nb : b ≠ a := fun z => n (.inl ⟨i, o, by rw [z]; exact hb, hs, hn⟩)
    refine ⟨?_, fun q => ?_⟩
    · show upd H a _ b = _
      rw [upd_ne nb]
      exact h
    · rcases q with ⟨j, y, h1, h2, h3⟩ | q
      · have h2 : (S.set i o')[j]? = some y := h2
        by_cases hij : i = j
        · subst hij
          have h1 : B.l[i]? = some b := h1
          rw [hb] at h1
          exact nb (Option.some.inj h1).symm
        · rw [List.getElem?_set_ne hij] at h2
          exact n (.inl ⟨j, y, h1, h2, h3⟩)
      · exact n (.inr q)
theorem Stab.put {B : Bk} {S : Store} {H : Hp} {i : Nat} {a : Addr} {xs ys : List D} {vs : List V} (k : StoreOk g ⟨B, S, H⟩) (hb : B.l[i]? = some a) (hs : S[i]? = some (.lst xs)) : Stab g ⟨B, S, H⟩ ⟨B, S.set i (.lst ys), upd H a (.lst vs)⟩ :=
  Stab.putO k hb hs trivial
theorem set_cases {α : Type} {l : List α} {x y : α} {i j : Nat} (h : (l.set i x)[j]? = some y) : (i = j ∧ x = y) ∨ (i ≠ j ∧ l[j]? = some y) := by
  by_cases hij : i = j
  · subst hij
    have hl := (List.getElem?_eq_some_iff.mp h).1
    rw [List.length_set] at hl
    rw [List.getElem?_set_self hl] at h
    exact .inl ⟨rfl, Option.some.inj h⟩
  · rw [List.getElem?_set_ne hij] at h
    exact .inr ⟨hij, h⟩
theorem StoreOk.putO {B : Bk} {S : Store} {H : Hp} {i : Nat} {a : Addr} {o o' : MO} {w : HO} (k : StoreOk g ⟨B, S, H⟩) (hb : B.l[i]? = some a) (hs : S[i]? = some o) (hn : o.lv) (d : Ob g ⟨B, S, H⟩ a o' w) (hlt : ∀ c ns xs, o' = .inm c ns xs → ∀ j, A.m j ∈ xs → j < i := by intro _ _ _ h; cases h) :
    StoreOk g ⟨B, S.set i o', upd H a w⟩ := by
  have hr : o' ≠ .resv := fun q => by
    rw [q] at d
    exact d
  have hnr : S[i]? ≠ some .resv := fun q => by
    rw [hs] at q
    cases q
    exact hn
  have st : Stab g ⟨B, S, H⟩ ⟨B, S.set i o', upd H a w⟩ := Stab.putO k hb hs hn hr
  obtain ⟨u0, e0, ob0⟩ := k.obj i a o hb hs (fun q => by rw [q] at hn; exact hn)
  have nr : ∀ {j : Nat}, (S.set i o')[j]? ≠ some .resv → S[j]? ≠ some .resv := fun {j} n q => by
    by_cases hij : i = j
    · subst hij
      exact hnr q
    · exact n (by rw [List.getElem?_set_ne hij]; exact q)
  refine ⟨by show B.l.length = (S.set i _).length; rw [List.length_set]; exact k.len, fun j m b h1 h2 n1 n2 => k.nd j m b h1 h2 (nr n1) (nr n2), fun j b y h1 h2 hy => ?_, fun b hb' => ⟨?_, fun j q => ?_⟩, g.fa.ivP _ _ _ _ e0 (ob0.chg hn) k.iv, fun j c ns xs h m hm => ?_⟩
  · have h1 : B.l[j]? = some b := h1
    rcases set_cases (show (S.set i o')[j]? = some y from h2) with ⟨rfl, rfl⟩ | ⟨hij, h2'⟩
    · rw [hb] at h1
      cases h1
      exact ⟨w, upd_same, st.ob d⟩
    · obtain ⟨u, e, q⟩ := k.obj j b y h1 h2' hy
      have nb : b ≠ a := fun z => hij (k.nd i j b (by rw [z]; exact hb) h1 hnr fun q => by
        rw [show S[j]? = some y from h2'] at q
        exact hy (Option.some.inj q))
      exact ⟨u, by show upd H a _ b = _; rw [upd_ne nb]; exact e, st.ob q⟩
  · obtain ⟨u, e, c⟩ := (k.ex b hb').1
    exact ⟨u, by show upd H a _ b = _; rw [upd_ne fun z => hnr ((k.ex b hb').2 i (by rw [z]; exact hb))]; exact e, c⟩
  · have := (k.ex b hb').2 j q
    show (S.set i o')[j]? = _
    by_cases hij : i = j
    · subst hij
      exact absurd this hnr
    · rw [List.getElem?_set_ne hij]
      exact this
  · rcases set_cases (show (S.set i o')[j]? = some _ from h) with ⟨rfl, h'⟩ | ⟨_, h'⟩
    · exact hlt c ns xs h' m hm
    · exact k.lt j c ns xs h' m hm
theorem StoreOk.put {B : Bk} {S : Store} {H : Hp} {i : Nat} {a : Addr} {xs ys : List D} {vs : List V} (k : StoreOk g ⟨B, S, H⟩) (hb : B.l[i]? = some a) (hs : S[i]? = some (.lst xs)) (d : DatL g ⟨B, S, H⟩ ys vs) :
    StoreOk g ⟨B, S.set i (.lst ys), upd H a (.lst vs)⟩ := k.putO hb hs trivial ⟨vs, rfl, d⟩
theorem set_dead {S : Store} {i j : Nat} {o : MO} (h : (S.set i .dead)[j]? = some o) (n' : o.lv) : i ≠ j ∧ S[j]? = some o := by
  have n : o ≠ .dead := fun q => by
    rw [q] at n'
    exact n'
  by_cases hij : i = j
  · subst hij
    by_cases hl : i < S.length
    · rw [List.getElem?_set_self hl] at h
      exact absurd (Option.some.inj h).symm n
    · rw [List.getElem?_eq_none (by rw [List.length_set]; omega)] at h
      cases h
  · rw [List.getElem?_set_ne hij] at h
    exact ⟨hij, h⟩
theorem live_dead {B : Bk} {S : Store} {i : Nat} {a : Addr} (h : live B (S.set i .dead) a) : live B S a := by
  rcases h with ⟨j, o, h1, h2, h3⟩ | h
  · exact .inl ⟨j, o, h1, (set_dead h2 h3).2, h3⟩
  · exact .inr h
/-- a thing of the store is data from now on -/
theorem Stab.freeze {B : Bk} {S : Store} {H : Hp} {i : Nat} : Stab g ⟨B, S, H⟩ ⟨B, S.set i .dead, H⟩ :=
  Stab.of (fun _ _ h => h) (fun _ _ _ h n => ⟨h, fun q => n (live_dead q)⟩) (fun _ _ _ h => h) (fun j _ h n => ⟨h, fun q => by
    rcases set_cases (show (S.set i .dead)[j]? = some .resv from q) with ⟨_, h'⟩ | ⟨_, h'⟩
    · cases h'
    · exact n h'⟩) rfl (fun _ _ => rfl)
theorem StoreOk.freeze {B : Bk} {S : Store} {H : Hp} {i : Nat} (k : StoreOk g ⟨B, S, H⟩) (hnr : S[i]? ≠ some .resv) : StoreOk g ⟨B, S.set i .dead, H⟩ := by
  have nr : ∀ {j : Nat}, (S.set i .dead)[j]? ≠ some .resv → S[j]? ≠ some .resv := fun {j} n q => by
    by_cases hij : i = j
    · subst hij
      exact hnr q
    · exact n (by rw [List.getElem?_set_ne hij]; exact q)
  refine ⟨by show B.l.length = (S.set i _).length; rw [List.length_set]; exact k.len, fun j m b h1 h2 n1 n2 => k.nd j m b h1 h2 (nr n1) (nr n2), fun j b o h1 h2 hy => ?_, fun b hb' => ⟨(k.ex b hb').1, fun j q => ?_⟩, k.iv, fun j c ns xs h m hm => ?_⟩
  · rcases set_cases (show (S.set i .dead)[j]? = some o from h2) with ⟨rfl, rfl⟩ | ⟨_, h'⟩
    · have hj : i < S.length := by
        have h1 : B.l[i]? = some b := h1
        have q : B.l.length = S.length := k.len
        rw [← q]
        exact (List.getElem?_eq_some_iff.mp h1).1
      obtain ⟨u, e, q⟩ := k.obj i b _ h1 (List.getElem?_eq_getElem hj) (fun q => hnr (by rw [List.getElem?_eq_getElem hj, q]))
      exact ⟨u, e, q.chgA⟩
    · obtain ⟨u, e, q⟩ := k.obj j b o h1 h' hy
      exact ⟨u, e, Stab.freeze.ob q⟩
  · have := (k.ex b hb').2 j q
    show (S.set i .dead)[j]? = _
    by_cases hij : i = j
    · subst hij
      exact absurd this hnr
    · rw [List.getElem?_set_ne hij]
      exact this
  · rcases set_cases (show (S.set i .dead)[j]? = some _ from h) with ⟨_, h'⟩ | ⟨_, h'⟩
    · cases h'
    · exact k.lt j c ns xs h' m hm
theorem lv_nr {S : Store} {j : Nat} {o : MO} (h : S[j]? = some o) (hn : o.lv) : S[j]? ≠ some .resv := fun q => by
  rw [h] at q
  cases q
  exact hn
theorem freeze_dead {B : Bk} {S : Store} {H : Hp} {i : Nat} {a : Addr} (k : StoreOk g ⟨B, S, H⟩) (hb : B.l[i]? = some a) (hnr : S[i]? ≠ some .resv) : ¬ live B (S.set i .dead) a := fun h => by
  rcases h with ⟨j, o, h1, h2, h3⟩ | h
  · exact (set_dead h2 h3).1 (k.nd i j a hb h1 hnr (lv_nr (set_dead h2 h3).2 h3))
  · exact hnr ((k.ex a h).2 i hb)
/-- the heap grows -/
theorem Stab.ext {B : Bk} {S : Store} {H H' : Hp} (k : StoreOk g ⟨B, S, H⟩) (x : LamX.ExtN H H') : Stab g ⟨B, S, H⟩ ⟨B, S, H'⟩ := by
  have nc : ∀ {u : HO}, Chg u → ∀ ps, u ≠ .tbl ps := fun {u} h ps z => by
    subst z
    rcases h with ⟨_, e⟩ | ⟨_, _, _, e⟩ | ⟨_, _, _, _, e⟩ | ⟨_, _, _, e⟩ | ⟨_, _, e⟩ | ⟨_, e⟩ <;> cases e
  refine Stab.of (fun a vs h => ?_) (fun a u c h n => ⟨x a u h (nc c), n⟩) (fun a o u h => x a _ h (fun ps z => by cases z)) (fun _ _ h n => ⟨h, n⟩) rfl (fun a ha => ?_)
  · rcases h with (h | ⟨u, h⟩) | h
    · exact .inl (.inl (x a _ h (fun ps z => by cases z)))
    · exact .inl (.inr ⟨u, x a _ h (fun ps z => by cases z)⟩)
    · exact .inr h
  · obtain ⟨⟨o, e, c⟩, _⟩ := k.ex a ha
    exact (x a o e (nc c)).trans (Eq.symm e)
theorem StoreOk.ext {B : Bk} {S : Store} {H H' : Hp} (k : StoreOk g ⟨B, S, H⟩) (x : LamX.ExtN H H') (t : g.fa.iv H') : StoreOk g ⟨B, S, H'⟩ := by
  have nc : ∀ {u : HO}, Chg u → ∀ ps, u ≠ .tbl ps := fun {u} h ps z => by
    subst z
    rcases h with ⟨_, e⟩ | ⟨_, _, _, e⟩ | ⟨_, _, _, _, e⟩ | ⟨_, _, _, e⟩ | ⟨_, _, e⟩ | ⟨_, e⟩ <;> cases e
  refine ⟨k.len, k.nd, fun i a o h1 h2 hn => ?_, fun a ha => ?_, t, k.lt⟩
  · obtain ⟨u, e, q⟩ := k.obj i a o h1 h2 hn
    exact ⟨u, x a u e (nc q.chgA), (Stab.ext k x).ob q⟩
  · obtain ⟨⟨o, e, c⟩, n⟩ := k.ex a ha
    exact ⟨⟨o, x a o e (nc c), c⟩, n⟩
/-- what is dead behind the n-th place is forgotten -/
def allDead (S : Store) : Bool := S.all fun o => match o with
  | .dead => true
  | _ => false
def Bk.take (B : Bk) (n : Nat) : Bk := ⟨B.l.take n, B.E⟩
theorem at_take {α : Type} {l : List α} {n i : Nat} {a : α} (h : (l.take n)[i]? = some a) : l[i]? = some a := by
  have hi : i < n := by
    have := (List.getElem?_eq_some_iff.mp h).1
    rw [List.length_take] at this
    omega
  rw [List.getElem?_take_of_lt hi] at h
  exact h
theorem live_take {B : Bk} {S : Store} {n : Nat} {a : Addr} (h : live (B.take n) (S.take n) a) : live B S a := by
  rcases h with ⟨i, o, h1, h2, h3⟩ | h
  · exact .inl ⟨i, o, at_take h1, at_take h2, h3⟩
  · exact .inr h
theorem Dat.cut {B : Bk} {S : Store} {H : Hp} {n : Nat} {d : D} {v : V} (h : Dat g ⟨B, S, H⟩ d v) : Dat g ⟨B.take n, S.take n, H⟩ d v :=
  Dat.mono (z := ⟨B, S, H⟩) (z' := ⟨B.take n, S.take n, H⟩) (fun _ _ h => h) (fun _ _ _ h m => ⟨h, fun q => m (live_take (n := n) q)⟩) (fun _ _ _ h => h) d v h
theorem DatL.cutB {B : Bk} {S : Store} {H : Hp} {n : Nat} {d : List D} {v : List V} (h : DatL g ⟨B, S, H⟩ d v) : DatL g ⟨B.take n, S.take n, H⟩ d v :=
  Dat.monoL (z := ⟨B, S, H⟩) (z' := ⟨B.take n, S.take n, H⟩) (fun _ _ h => h) (fun _ _ _ h m => ⟨h, fun q => m (live_take (n := n) q)⟩) (fun _ _ _ h => h) d v h
theorem Stab.cut {B : Bk} {S : Store} {H : Hp} {n' : Nat} {z0 : Z} (s : Stab g z0 ⟨B, S, H⟩) (hn : z0.B.l.length ≤ n') : Stab g z0 ⟨B.take n', S.take n', H⟩ :=
  ⟨fun d v h => Dat.cut (s.dat d v h), fun i a h n => by
    have hi : i < n' := Nat.lt_of_lt_of_le (List.getElem?_eq_some_iff.mp h).1 hn
    have q := s.pre i a h n
    refine ⟨?_, ?_⟩
    · show (B.l.take n')[i]? = some a
      rw [List.getElem?_take_of_lt hi]
      exact q.1
    · show (S.take n')[i]? ≠ _
      rw [List.getElem?_take_of_lt hi]
      exact q.2, s.same, s.keep, fun a u c h m => ⟨(s.non a u c h m).1, fun q => (s.non a u c h m).2 (live_take (n := n') q)⟩⟩
theorem DatAL.cutLt {B : Bk} {S : Store} {H : Hp} {n : Nat} : ∀ {xs : List A} {vs : List V}, DatAL g ⟨B, S, H⟩ xs vs → (∀ j, A.m j ∈ xs → j < n) → DatAL g ⟨B.take n, S.take n, H⟩ xs vs
  | [], _, d, _ => d
  | x :: xs, _, ⟨v, r, e, d1, d2⟩, lt => by
    refine ⟨v, r, e, ?_, DatAL.cutLt d2 fun j hj => lt j (List.mem_cons_of_mem _ hj)⟩
    cases x with
    | p d => exact Dat.cut d1
    | m j =>
      obtain ⟨b, h1, h2, h3⟩ := d1
      have hj : j < n := lt j (List.mem_cons_self ..)
      refine ⟨b, ?_, h2, ?_⟩
      · show (B.l.take n)[j]? = some b
        rw [List.getElem?_take_of_lt hj]
        exact h1
      · show (S.take n)[j]? ≠ _
        rw [List.getElem?_take_of_lt hj]
        exact h3
theorem StoreOk.cut {B : Bk} {S : Store} {H : Hp} {n : Nat} (k : StoreOk g ⟨B, S, H⟩) : StoreOk g ⟨B.take n, S.take n, H⟩ := by
  have up : ∀ {i : Nat} {b : Addr}, (B.take n).l[i]? = some b → i < n := fun {i b} h => by
    have := (List.getElem?_eq_some_iff.mp (show (B.l.take n)[i]? = some b from h)).1
    rw [List.length_take] at this
    omega
  have nr : ∀ {i : Nat}, i < n → (S.take n)[i]? ≠ some .resv → S[i]? ≠ some .resv := fun {i} hi m q => m (by rw [List.getElem?_take_of_lt hi]; exact q)
  refine ⟨by show (B.l.take n).length = (S.take n).length; rw [List.length_take, List.length_take, show B.l.length = S.length from k.len], fun i j a h1 h2 n1 n2 => ?_, fun i a o h1 h2 hn => ?_, fun a ha => ⟨(k.ex a ha).1, fun i q => ?_⟩, k.iv, fun i c ns xs h j hj => ?_⟩
  · exact k.nd i j a (at_take (show (B.l.take n)[i]? = some a from h1)) (at_take (show (B.l.take n)[j]? = some a from h2)) (nr (up h1) n1) (nr (up h2) n2)
  · have hi := up h1
    have h2' := at_take (show (S.take n)[i]? = some _ from h2)
    obtain ⟨u, e, q⟩ := k.obj i a o (at_take (show (B.l.take n)[i]? = some a from h1)) h2' hn
    refine ⟨u, e, ?_⟩
    cases o with
    | lst xs =>
      obtain ⟨vs, e, d⟩ := q
      exact ⟨vs, e, DatL.cutB d⟩
    | ins c ns ds =>
      obtain ⟨dx, vs, e, l, d⟩ := q
      exact ⟨dx, vs, e, l, DatL.cutB d⟩
    | dct ks vs =>
      obtain ⟨ep, hs, ws, e, y, ko, kl, d⟩ := q
      exact ⟨ep, hs, ws, e, y, ko, Dat.monoK (z := ⟨B, S, H⟩) (z' := ⟨B.take n, S.take n, H⟩) (fun _ _ h => h) (fun _ _ _ h m => ⟨h, fun q => m (live_take (n := n) q)⟩) (fun _ _ _ h => h) ks hs kl, DatL.cutB d⟩
    | dks ks vs =>
      obtain ⟨ws, e, l, d⟩ := q
      exact ⟨ws, e, l, DatL.cutB d⟩
    | inm c ns xs =>
      obtain ⟨dx, vs, e, l, d⟩ := q
      exact ⟨dx, vs, e, l, DatAL.cutLt d fun j hj => Nat.lt_trans (k.lt i c ns xs h2' j hj) hi⟩
    | resv => exact q
    | dead => exact q
  · have hi := up q
    have := (k.ex a ha).2 i (at_take (show (B.l.take n)[i]? = some a from q))
    show (S.take n)[i]? = _
    rw [List.getElem?_take_of_lt hi]
    exact this
  · exact k.lt i c ns xs (at_take (show (S.take n)[i]? = some _ from h)) j hj
end
end Fw

/-! The small language: its codes and its evaluator. -/
namespace Fw
open PySem PySem.Spec PyProof.Rows L2

abbrev Env := List (Option A)
structure Exn where
  c : Nat
  ns : List Str
  ds : List D
def getN {α : Type} (n : Str) (ns : List Str) (ds : List α) : Option α := (ns.zip ds).lookup n
def Exn.at (e : Exn) (n : Str) : Option D := getN n e.ns e.ds
inductive Rz (α : Type) where
  | ok (a : α) (S : Store) | ex (e : Exn) (S : Store) | bad
def Rz.bind {α β : Type} (r : Rz α) (f : α → Store → Rz β) : Rz β := match r with
  | .ok a S => f a S
  | .ex e S => .ex e S
  | .bad => .bad
theorem Rz.bind_ok {α β : Type} {r : Rz α} {f : α → Store → Rz β} {b : β} {S' : Store} (h : r.bind f = .ok b S') : ∃ a S1, r = .ok a S1 ∧ f a S1 = .ok b S' := by
  cases r with
  | ok a S => exact ⟨a, S, rfl, h⟩
  | ex e S => cases h
  | bad => cases h
def Rz.of {α : Type} (o : Option α) (S : Store) : Rz α := match o with
  | some a => .ok a S
  | none => .bad
@[simp] theorem Rz.of_some {α : Type} (a : α) (S : Store) : Rz.of (some a) S = .ok a S := rfl
@[simp] theorem Rz.of_none {α : Type} (S : Store) : (Rz.of none S : Rz α) = .bad := rfl
theorem Rz.of_ok {α : Type} {o : Option α} {S S' : Store} {a : α} (h : Rz.of o S = .ok a S') : o = some a ∧ S' = S := by
  cases o with
  | none => cases h
  | some b => cases h; exact ⟨rfl, rfl⟩

def LIM : Nat := 100000
theorem lim_line : LIM ≤ sizeLine := by decide

/-! ### data -/
mutual
def D.py : D → Option PyData
  | .non => some .none
  | .bl b => some (.bool b)
  | .int i => some (.int i)
  | .str x => some (.str x)
  | .tup ds => (D.pyL ds).map .tuple
  | .lst ds => (D.pyL ds).map .list
  | .scr _ => none
  | .fn _ => none
  | .ty _ => none
  | .ins _ _ _ => none
  | .kl _ => none
  | .dct _ _ => none
  | .exv _ _ _ => none
  | .dks _ _ => none
def D.pyL : List D → Option (List PyData)
  | [] => some []
  | d :: ds => match d.py, D.pyL ds with
    | some a, some b => some (a :: b)
    | _, _ => none
end
/-- == -/
def eqF (d e : D) : Option Bool := match d.py, e.py with
  | some a, some b => if SeqAt.shaped a && SeqAt.shaped b then some (PyData.eqv a b) else none
  | _, _ => none
def D.ints : List D → Option (List Int)
  | [] => some []
  | .int i :: ds => (D.ints ds).map (i :: ·)
  | _ :: _ => none
def D.bls : List D → Option (List Bool)
  | [] => some []
  | .bl i :: ds => (D.bls ds).map (i :: ·)
  | _ :: _ => none
def D.strs : List D → Option (List Str)
  | [] => some []
  | .str i :: ds => (D.strs ds).map (i :: ·)
  | _ :: _ => none
def mulOk (i j : Int) : Bool := decide ((-(2 ^ 64) < i ∧ i < 2 ^ 64) ∨ (-(2 ^ 64) < j ∧ j < 2 ^ 64) ∨ i.natAbs.log2 + j.natAbs.log2 < 1000000)
def divOk (j : Int) : Bool := decide (j ≠ 0 ∧ j.natAbs.log2 < 9000)
def powOk (i j : Int) : Bool := decide (0 ≤ j ∧ j ≤ 1000000 ∧ i.natAbs < 2 ^ 64)
def intStr (i : Int) : Str := toString i

/-! ### operators -/
def binF (op : Operator) (x y : D) : Option D := match op, x, y with
  | .Add, .int i, .int j => some (.int (i + j))
  | .Sub, .int i, .int j => some (.int (i - j))
  | .Mult, .int i, .int j => if mulOk i j then some (.int (i * j)) else none
  | .FloorDiv, .int i, .int j => if divOk j then some (.int (i.fdiv j)) else none
  | .Mod, .int i, .int j => if j = 0 then none else some (.int (i.fmod j))
  | .Pow, .int i, .int j => if powOk i j then some (.int (i ^ j.toNat)) else none
  | .Add, .str i, .str j => if i.length + j.length ≤ LIM then some (.str (i ++ j)) else none
  | .Add, .tup xs, .tup ys => if xs.length + ys.length ≤ LIM then some (.tup (xs ++ ys)) else none
  | .Add, .lst xs, .lst ys => if xs.length + ys.length ≤ LIM then some (.lst (xs ++ ys)) else none
  | .Mult, .lst xs, .int k => if k < 1000000 ∧ -1000000 < k ∧ xs.length * k.toNat ≤ LIM then some (.lst (List.replicate k.toNat xs).flatten) else none
  | .Mult, .str x, .int k => if k < 1000 ∧ 0 ≤ k ∧ x.length ≤ 1000 then some (.str (Txt.mul x k)) else none
  | .Mult, .tup xs, .int k => if -1000 < k ∧ k ≤ 1000 ∧ 1 ≤ xs.length ∧ xs.length ≤ 1000 then some (.tup (List.replicate k.toNat xs).flatten) else none
  | _, _, _ => none
def cmpF (op : CmpOp) (x y : D) : Option Bool := match op, x, y with
  | .Eq, x, y => eqF x y
  | .NotEq, x, y => (eqF x y).map (! ·)
  | .Lt, .int i, .int j => some (decide (i < j))
  | .LtE, .int i, .int j => some (decide (i ≤ j))
  | .Gt, .int i, .int j => some (decide (j < i))
  | .GtE, .int i, .int j => some (decide (j ≤ i))
  | .Lt, .str i, .str j => some (decide (i.cps.toList < j.cps.toList))
  | .LtE, .str i, .str j => some (!decide (j.cps.toList < i.cps.toList))
  | .Gt, .str i, .str j => some (decide (j.cps.toList < i.cps.toList))
  | .GtE, .str i, .str j => some (!decide (i.cps.toList < j.cps.toList))
  | .In, .str i, .str j => signIn i j
  | .NotIn, .str i, .str j => (signIn i j).map (! ·)
  | .In, x, .lst ds => (inF x ds)
  | .NotIn, x, .lst ds => (inF x ds).map (! ·)
  | .In, x, .tup ds => (inFT x ds)
  | .NotIn, x, .tup ds => (inFT x ds).map (! ·)
  | _, _, _ => none
where
  signIn (i j : Str) : Option Bool := match i.cps.toList with
    | [c] => some (decide (c ∈ j.cps.toList))
    | _ => none
  inF (x : D) (ds : List D) : Option Bool := match x.py, D.pyL ds with
    | some a, some bs => if SeqAt.shaped a && SeqAt.shaped (.list bs) then some (bs.any fun z => PyData.eqv z a) else none
    | _, _ => none
  inFT (x : D) (ds : List D) : Option Bool := match x with
    | .str a => (D.strs ds).map fun bs => bs.any fun z => z == a
    | .int a => (D.ints ds).map fun bs => bs.any fun z => z == a
    | .non => (D.strs ds).map fun _ => false
    | _ => none
/-! dicts whose keys are tuples -/
def dKey : D → Option NestedKey
  | .tup ds => match nkD (.tup ds) with
    | some k => if k.depth ≤ 8 then some k else none
    | none => none
  | _ => none
def dFind (k : NestedKey) (ks vs : List D) : Option D := ((ks.zip vs).find? fun p => decide (nkD p.1 = some k)).map (·.2)
def dHas (k : NestedKey) (ks : List D) : Bool := ks.any fun d => decide (nkD d = some k)
def dPutK (d : D) (k : NestedKey) (ks : List D) : List D := if dHas k ks then ks else ks ++ [d]
def dPutV (k : NestedKey) (v : D) (ks vs : List D) : List D := if dHas k ks then List.zipWith (fun d w => if nkD d = some k then v else w) ks vs else vs ++ [v]
def pairsOf : List D → Option (List D × List D)
  | [] => some ([], [])
  | .tup [k, v] :: r => match dKey k, pairsOf r with
    | some _, some (ks, vs) => some (k :: ks, v :: vs)
    | _, _ => none
  | _ => none
def dctF : A → Option D
  | .p (.lst ds) => match pairsOf ds with
    | some (ks, vs) => if (ks.map nkD).Nodup ∧ ks.length ≤ LIM then some (.dct ks vs) else none
    | none => none
  | _ => none
def dictAt (x : A) (S : Store) : Option (List D × List D) := match x with
  | .p (.dct ks vs) => some (ks, vs)
  | .m j => match S[j]? with
    | some (.dct ks vs) => some (ks, vs)
    | _ => none
  | _ => none
/-! dicts whose keys are texts -/
def kAt (x : A) (S : Store) : Option (List Str × List D) := match x with
  | .p (.dks ks vs) => some (ks, vs)
  | .m j => match S[j]? with
    | some (.dks ks vs) => some (ks, vs)
    | _ => none
  | _ => none
def kPutN (k : Str) (ks : List Str) : List Str := if k ∈ ks then ks else ks ++ [k]
def kPutV (k : Str) (v : D) (ks : List Str) (vs : List D) : List D := if k ∈ ks then List.zipWith (fun m w => if m = k then v else w) ks vs else vs ++ [v]
/-- every pair of a dict of numbers stands in the other one -/
def dEqB (ks : List D) (is : List Int) (ks' : List D) (js : List Int) : Bool := (ks.zip is).all fun p => match nkD p.1 with
  | some nk => decide (((ks'.zip js).find? fun q => decide (nkD q.1 = some nk)).map (·.2) = some p.2)
  | none => false
def dEqF (x y : A) (S : Store) : Option Bool := match dictAt x S, dictAt y S with
  | some (ks, vs), some (ks', vs') => (match D.ints vs, D.ints vs' with
    | some is, some js => some (decide (ks.length = ks'.length) && dEqB ks is ks' js)
    | _, _ => none)
  | _, _ => none
def isF (x : A) : Bool := match x with
  | .p .non => true
  | _ => false
def cmpA (op : CmpOp) (x y : A) : Option Bool := match op, x, y with
  | .Is, x, .p .non => some (isF x)
  | .IsNot, x, .p .non => some (!isF x)
  | op, .p x, .p y => cmpF op x y
  | _, _, _ => none
/-- a list of the store read as it stands -/
def dig (x : A) (S : Store) : A := match x with
  | .p d => .p d
  | .m j => match S[j]? with
    | some (.lst ds) => .p (.lst ds)
    | _ => .m j
def truF (x : D) : Option Bool := match x with
  | .non => some false
  | .bl b => some b
  | .int i => some (i != 0)
  | .str y => if y.length ≤ LIM then some ((y.length : Int) != 0) else none
  | .tup ds => some (!ds.isEmpty)
  | .lst ds => some (!ds.isEmpty)
  | _ => none
def subF (x y : A) (S : Store) : Option A := match x, y with
  | .p (.lst ds), .p (.int i) => (atI ds i).map .p
  | .p (.tup ds), .p (.int i) => (atI ds i).map .p
  | .p (.str z), .p (.int i) => if z.length ≤ LIM then (atI z.cps.toList i).map fun c => .p (.str ⟨#[c]⟩) else none
  | .m j, .p (.int i) => match S[j]? with
    | some (.lst xs) => (atI xs i).map .p
    | _ => none
  | _, _ => none
def cutD {α : Type} (xs : List α) (lo hi : Option Int) : List α := (xs.drop (HT.sIx xs.length 0 lo)).take (HT.sIx xs.length xs.length hi - HT.sIx xs.length 0 lo)
def slcF (x : D) (lo hi : Option Int) : Option D := match x with
  | .lst ds => some (.lst (cutD ds lo hi))
  | .scr ns => some (.lst (cutD (ns.map .int) lo hi))
  | .tup ds => some (.tup (cutD ds lo hi))
  | .str z => if z.length ≤ LIM then some (.str (cutS z lo hi)) else none
  | _ => none

/-! ### calls of what is built in -/
inductive Blt where
  | len | abs | int | str | isi | all | any | sum | max | min | list | tuple | sorted
  deriving DecidableEq
def tyF (x : A) (S : Store) : Option Ty := match x with
  | .p .non => some .tNone
  | .p (.bl _) => some .tBool
  | .p (.int _) => some .tInt
  | .p (.str _) => some .tStr
  | .p (.tup _) => some .tTup
  | .p (.lst _) => some .tLst
  | .p (.scr _) => some .tLst
  | .m j => match S[j]? with
    | some (.lst _) => some .tLst
    | _ => none
  | _ => none
def isaF (t c : Ty) : Bool := t == c || (t == .tBool && c == .tInt)
def D.tys : List D → Option (List Ty)
  | [] => some []
  | .ty i :: ds => (D.tys ds).map (i :: ·)
  | _ :: _ => none
def maxI : List Int → Int
  | [] => 0
  | [x] => x
  | x :: xs => max x (maxI xs)
def minI : List Int → Int
  | [] => 0
  | [x] => x
  | x :: xs => min x (minI xs)
def maxDf (d : Int) : List Int → Int
  | [] => d
  | n :: ns => ns.foldl max n
def D.enc (d : D) : PyData := d.py.getD .none
def tupB : PyData → Bool
  | .tuple (_ :: _) => true
  | _ => false
def othB : PyData → Bool
  | .none => false
  | .tuple _ => false
  | _ => true
def sortOk (ps : List PyData) : Bool := (ps.all fun a => ps.all fun b => PySem.W.alike a b) && (ps.all tupB || ps.all othB) && ps.all fun a => decide (a.depth ≤ 60)
/-- sorted(ds) -/
def sortF (ds : List D) : Option (List D) := match D.pyL ds with
  | some ps => if sortOk ps && decide (ds.length ≤ LIM) then some (ds.mergeSort (PySem.W.dataLe false D.enc)) else none
  | none => none
/-- the least one of two tuples -/
def minOk (x y : PyData) : Bool := PySem.W.alike x x && PySem.W.alike x y && PySem.W.alike y x && PySem.W.alike y y && decide (x.depth ≤ 60) && decide (y.depth ≤ 60)
def minT (xs ys : List D) : Option A := match D.pyL xs, D.pyL ys with
  | some as, some bs => if minOk (.tuple as) (.tuple bs) then some (.p (.tup (if PySem.W.dataLt (.tuple bs) (.tuple as) then ys else xs))) else none
  | _, _ => none
def bltF (b : Blt) (xs : List A) (S : Store) : Option A := match b, xs with
  | .len, [.p (.lst ds)] => some (.p (.int ds.length))
  | .len, [.p (.tup ds)] => some (.p (.int ds.length))
  | .len, [.p (.scr ds)] => some (.p (.int ds.length))
  | .len, [.p (.str x)] => if x.length ≤ LIM then some (.p (.int x.length)) else none
  | .len, [.m j] => match S[j]? with
    | some (.lst ys) => some (.p (.int ys.length))
    | _ => none
  | .abs, [.p (.int i)] => some (.p (.int (if i < 0 then -i else i)))
  | .int, [.p (.int i)] => some (.p (.int i))
  | .int, [.p (.bl b)] => some (.p (.int (if b then 1 else 0)))
  | .str, [.p (.int i)] => if i.natAbs.log2 < 1920 then some (.p (.str (intStr i))) else none
  | .isi, [x, .p (.ty c)] => (tyF x S).map fun t => .p (.bl (isaF t c))
  | .all, [.p (.lst ds)] => (D.bls ds).map fun bs => .p (.bl (bs.all id))
  | .any, [.p (.lst ds)] => (D.bls ds).map fun bs => .p (.bl (bs.any id))
  | .sum, [.p (.lst ds)] => (D.ints ds).map fun ns => .p (.int ns.sum)
  | .max, [.p (.lst ds)] => match D.ints ds with
    | some (n :: ns) => some (.p (.int (maxI (n :: ns))))
    | _ => none
  | .min, [.p (.lst ds)] => match D.ints ds with
    | some (n :: ns) => some (.p (.int (minI (n :: ns))))
    | _ => none
  | .list, [.p (.lst ds)] => some (.p (.lst ds))
  | .list, [.p (.tup ds)] => some (.p (.lst ds))
  | .tuple, [.p (.lst ds)] => some (.p (.tup ds))
  | .tuple, [.p (.tup ds)] => some (.p (.tup ds))
  | .list, [.p (.str x)] => if x.length ≤ LIM then some (.p (.lst (x.cps.toList.map fun c => .str ⟨#[c]⟩))) else none
  | .min, [.p (.int i), .p (.int j)] => some (.p (.int (if j < i then j else i)))
  | .sorted, [.p (.lst ds)] => (sortF ds).map fun es => .p (.lst es)
  | .sorted, [.p (.tup ds)] => (sortF ds).map fun es => .p (.lst es)
  | .int, [.p (.str x)] => if x.length ≤ 640 then (PySem.intText? x).map fun n => .p (.int n) else none
  | .tuple, [.m j] => match S[j]? with
    | some (.lst ys) => some (.p (.tup ys))
    | _ => none
  | .min, [.p (.tup xs), .p (.tup ys)] => minT xs ys
  | _, _ => none
def maxF (x y : A) : Option A := match x, y with
  | .p (.lst ds), .p (.int d) => (D.ints ds).map fun ns => .p (.int (maxDf d ns))
  | _, _ => none
def fmtF (x : A) : Option A := match x with
  | .p (.str y) => if y.length ≤ LIM then some (.p (.str y)) else none
  | .p (.int i) => if i.natAbs.log2 < 1920 then some (.p (.str (intStr i))) else none
  | _ => none
/-- the texts one behind the other -/
def catF : Str → List A → Option Str
  | acc, [] => some acc
  | acc, .p (.str y) :: r => if acc.length + y.length ≤ LIM then catF (acc ++ y) r else none
  | _, _ :: _ => none

/-! ### what is walked -/
@[irreducible] def rgB (i : Int) : Bool := decide (-(2 ^ 62) ≤ i ∧ i < 2 ^ 62)
theorem rgB_iff {i : Int} : rgB i = true ↔ (-(2 ^ 62) ≤ i ∧ i < 2 ^ 62) := by
  unfold rgB
  exact decide_eq_true_iff
inductive ItK where
  | seq | range1 | range2 | zip | enum | keys
  deriving DecidableEq
def walkF (k : ItK) (xs : List A) : Option (List A) := match k, xs with
  | .seq, [.p (.lst ds)] => some (ds.map .p)
  | .seq, [.p (.tup ds)] => some (ds.map .p)
  | .seq, [.p (.str x)] => some (x.cps.toList.map fun c => .p (.str ⟨#[c]⟩))
  | .range1, [.p (.int j)] => if rgB j then some ((List.range j.toNat).map fun i => .p (.int (0 + (i : Nat)))) else none
  | .range2, [.p (.int i), .p (.int j)] => if rgB i && rgB j then some ((List.range (j - i).toNat).map fun n => .p (.int (i + (n : Nat)))) else none
  | .zip, [.p (.lst ds), .p (.lst es)] => some (List.zipWith (fun a b => .p (.tup [a, b])) ds es)
  | .zip, [.p (.tup ds), .p (.tup es)] => some (List.zipWith (fun a b => .p (.tup [a, b])) ds es)
  | .zip, [.p (.tup ds), .p (.lst es)] => some (List.zipWith (fun a b => .p (.tup [a, b])) ds es)
  | .keys, [.p (.dct ks _)] => some (ks.map .p)
  | .enum, [.p (.lst ds)] => some (ds.zipIdx.map fun (d, i) => .p (.tup [.int (i : Nat), d]))
  | .enum, [.p (.tup ds)] => some (ds.zipIdx.map fun (d, i) => .p (.tup [.int (i : Nat), d]))
  | _, _ => none
/-- where a value goes -/
inductive Tg where
  | nm (i : Nat) | tp (ts : List Tg)
mutual
def bindT : Tg → A → Env → Option Env
  | .nm i, x, ρ => some (ρ.set i (some x))
  | .tp ts, .p (.tup ds), ρ => bindTs ts ds ρ
  | .tp _, _, _ => none
def bindTs : List Tg → List D → Env → Option Env
  | [], [], ρ => some ρ
  | t :: ts, d :: ds, ρ => match bindT t (.p d) ρ with
    | some ρ1 => bindTs ts ds ρ1
    | none => none
  | _, _, _ => none
end
def wipeE (ρ : Env) : List Nat → Env
  | [] => ρ
  | v :: vs => (wipeE ρ vs).set v none

/-! ### methods -/
inductive Mth where
  | append | join | insert
  deriving DecidableEq
def mthF (m : Mth) (o : A) (xs : List A) (S : Store) : Rz A := match m, o, xs with
  | .append, .m j, [.p x] => match S[j]? with
    | some (.lst ys) => if ys.length < LIM then .ok (.p .non) (S.set j (.lst (ys ++ [x]))) else .bad
    | _ => .bad
  | .insert, .m j, [.p (.int i), .p x] => match S[j]? with
    | some (.lst ys) => if 0 ≤ i ∧ i.toNat ≤ ys.length ∧ ys.length < LIM then .ok (.p .non) (S.set j (.lst (ys.take i.toNat ++ x :: ys.drop i.toNat))) else .bad
    | _ => .bad
  | .join, .p (.str a), [.p (.lst ds)] => match D.strs ds with
    | some ys => if (ys.map (·.length)).sum + ys.length * a.length ≤ LIM then .ok (.p (.str (Txt.join a ys))) S else .bad
    | none => .bad
  | .join, .p (.str a), [.p (.tup ds)] => match D.strs ds with
    | some ys => if (ys.map (·.length)).sum + ys.length * a.length ≤ LIM then .ok (.p (.str (Txt.join a ys))) S else .bad
    | none => .bad
  | _, _, _ => .bad

/-- the method is the one that is meant -/
def mthTy (m : Mth) (o : A) (S : Store) : Bool := match m, o with
  | .append, .m j => match S[j]? with
    | some (.lst _) => true
    | _ => false
  | .insert, .m j => match S[j]? with
    | some (.lst _) => true
    | _ => false
  | .join, .p (.str _) => true
  | _, _ => false
/-! ### codes -/
/-- what is called: a def; a class; a class that a local holds; a classmethod with a star parameter -/
inductive Hd where
  | fn (f : Nat) (ds : List D) | make (ci fi : Nat) (ds : List D) | makeL (i ci fi : Nat) | makeM (ci fi : Nat) (ds : List D) | makeR (ci fi k : Nat) (ds : List D) | cmeth (ci fi : Nat) (m : Str)
/-- an own exception's class: its number, its code, the attribute of its parameter -/
structure Xi where
  c : Nat
  code : Str
  attr : Option Str
inductive C where
  | var (i : Nat) | cst (d : D)
  | bin (op : Operator) (a b : C) | neg (a : C)
  | cmp (op : CmpOp) (a b : C) | chain (op op' : CmpOp) (a b c : C)
  | and (a b : C) | or (a b : C) | not (a : C) | ite (t a b : C)
  | tup (cs : List C) | lst (cs : List C) | lstM (cs : List C)
  | tupS (fl : List Bool) (cs : List C) | lstS (fl : List Bool) (cs : List C) | listM (c : C)
  | dctP (c : C)
  | dctN | getD (o i : C) | inD (neg : Bool) (i o : C) | getO (o i d : C)
  | sub (a b : C) | slcL (a lo : C) | slcH (a hi : C) | slcB (a lo hi : C)
  | call (f : Nat) (cs : List C) (ds : List D)
  | callK (f : Nat) (cs : List C) (ks : List C) (asm : List (Nat ⊕ D))
  | blt (b : Blt) (cs : List C)
  | mth (m : Mth) (o : C) (cs : List C)
  | comp (k : ItK) (its : List C) (t : Tg) (own : List Nat) (cond : Option C) (e : C)
  | eqI (neg : Bool) (ci fi : Nat) (a b : C) | eqD (a b : C) | isI (ci : Nat) (o : C)
  | compM (i : C) (t : Tg) (own : List Nat) (cond : Option C) (e : C)
  | fstr (cs : List C) | fmt (c : C) | isiT (a : C) (cs : List Ty) | maxD (a d : C)
  | callV (i nf : Nat) (cs : List C)
  | fld (ci : Nat) (o : C) (n : Str) | ccst (ci : Nat) (n : Str) (d : D)
  | app (h : Hd) (cs : List C) | meth (ci fi : Nat) (m : Str) (o : C) (cs : List C) (ds : List D)
  | methK (ci fi : Nat) (m : Str) (o : C) (ks : List C) (asm : List (Nat ⊕ D)) | whyK (ci fi : Nat) (m : Str) (o : C) (ks : List C) (asm : List (Nat ⊕ D))
  | whyAK (fi : Nat) (cs ks : List C) (asm : List (Nat ⊕ D))
  | whyA (h : Hd) (cs : List C) | whyS (ci fi : Nat) (m : Str) (o : C) (cs : List C) (ds : List D)
  | nope | dctK | getK (o i : C) | inK (neg : Bool) (i o : C) | keysK (o : C)
  | mkx (x : Xi) (cs : List C) | fldX (o : C) (n : Str) (al : List Nat) | isX (o : C) (q : Str) (ns al : List Nat)
def asmF (asm : List (Nat ⊕ D)) (xs : List A) : Option (List A) := match asm with
  | [] => some []
  | .inl i :: r => match xs[i]?, asmF r xs with
    | some x, some ys => some (x :: ys)
    | _, _ => none
  | .inr d :: r => (asmF r xs).map (.p d :: ·)
/-- an own exception, not raised -/
def exvF (x : Xi) (xs : List A) : Option D := match x.attr, xs with
  | some a, [.p d] => some (.exv x.c [a, "code"] [d, .str x.code])
  | none, [] => some (.exv x.c ["code"] [.str x.code])
  | _, _ => none
def datas : List A → Option (List D)
  | [] => some []
  | .p d :: xs => (datas xs).map (d :: ·)
  | .m _ :: _ => none
/-- the value as a test, or as it is -/
def tst (t : Bool) (x : A) (S : Store) : Rz A := if t then (match x with
  | .p d => Rz.of ((truF d).map fun b => .p (.bl b)) S
  | .m _ => .bad) else .ok x S
/-- the names that hold no thing of the store -/
def boxE (ρ : Env) : Env := ρ.map fun x => match x with
  | some (.m _) => none
  | x => x
def compL (bnd : A → Option Env) (cond : Env → Store → Rz A) (elt : Env → Store → Rz A) : List A → Store → Rz (List D)
  | [], S => .ok [] S
  | x :: xs, S => match bnd x with
    | none => .bad
    | some ρ => (cond ρ S).bind fun b S1 => match b with
      | .p (.bl true) => (elt ρ S1).bind fun y S2 => match y with
        | .p d => (compL bnd cond elt xs S2).bind fun ds S3 => .ok (d :: ds) S3
        | .m _ => .bad
      | .p (.bl false) => compL bnd cond elt xs S1
      | _ => .bad
/-- an exception may not leave here -/
def Rz.np {α : Type} (r : Rz α) : Rz α := match r with
  | .ok a S => .ok a S
  | _ => .bad
/-- an instance, its class and attributes -/
def insF (x : A) (S : Store) : Option (Nat × List Str × List D) := match x with
  | .p (.ins c ns ds) => some (c, ns, ds)
  | .m j => match S[j]? with
    | some (.ins c ns ds) => some (c, ns, ds)
    | _ => none
  | _ => none
/-- an instance that may hold things of the store -/
def insG (x : A) (S : Store) : Option (Nat × List Str × List A) := match x with
  | .p (.ins c ns ds) => some (c, ns, ds.map .p)
  | .m j => match S[j]? with
    | some (.ins c ns ds) => some (c, ns, ds.map .p)
    | some (.inm c ns xs) => some (c, ns, xs)
    | _ => none
  | _ => none
/-- the attributes become data -/
def frzA (n : Nat) (S : Store) : List A → Option (List D)
  | [] => some []
  | .p d :: r => (frzA n S r).map (d :: ·)
  | .m j :: r => if n ≤ j then (match S[j]? with
    | some (.lst ds) => (frzA n S r).map (.lst ds :: ·)
    | some (.dks ks vs) => (frzA n S r).map (.dks ks vs :: ·)
    | _ => none) else none
/-- a new instance whose attributes hold lists and dicts while it is made -/
def mkR (cl : Nat → List A → Store → Rz A) (ci fi k : Nat) (xs : List A) (S : Store) : Rz A := match cl fi (.m (S.length + k) :: xs) (S ++ List.replicate k .resv ++ [.inm ci [] []]) with
  | .ok (.p .non) S' => match S'[S.length + k]? with
    | some (.inm c ns as) => if c = ci then (match frzA S.length S' as with
      | some ds => .ok (.p (.ins ci ns ds)) (S'.take S.length)
      | none => .bad) else .bad
    | _ => .bad
  | .ex e S' => .ex e (S'.take S.length)
  | _ => .bad
/-- a new instance -/
def mkF (cl : Nat → List A → Store → Rz A) (ci fi : Nat) (xs : List A) (S : Store) : Rz A := match cl fi (.m S.length :: xs) (S ++ [.ins ci [] []]) with
  | .ok (.p .non) S' => match S'[S.length]? with
    | some (.ins c ns ds) => if c = ci then .ok (.p (.ins ci ns ds)) (S'.take S.length) else .bad
    | _ => .bad
  | .ex e S' => .ex e (S'.take S.length)
  | _ => .bad
/-- a new instance that may change later -/
def mkM (cl : Nat → List A → Store → Rz A) (ci fi : Nat) (xs : List A) (S : Store) : Rz A := match cl fi (.m S.length :: xs) (S ++ [.ins ci [] []]) with
  | .ok (.p .non) S' => match S'[S.length]? with
    | some (.ins c _ _) => if c = ci then .ok (.m S.length) S' else .bad
    | _ => .bad
  | .ex e S' => .ex e (S'.take S.length)
  | _ => .bad
def appF (cl : Nat → List A → Store → Rz A) (h : Hd) (ρ : Env) (xs : List A) (S : Store) : Rz A := match h with
  | .fn f ds => cl f (xs ++ ds.map .p) S
  | .make ci fi ds => mkF cl ci fi (xs ++ ds.map .p) S
  | .makeM ci fi ds => mkM cl ci fi (xs ++ ds.map .p) S
  | .makeR ci fi k ds => mkR cl ci fi k (xs ++ ds.map .p) S
  | .makeL i ci fi => match ρ[i]? with
    | some (some (.p (.kl c))) => if c = ci then mkF cl ci fi xs S else .bad
    | _ => .bad
  | .cmeth ci fi _ => match datas xs with
    | some ds => if ds.length ≤ LIM then cl fi [.p (.kl ci), .p (.tup ds)] S else .bad
    | none => .bad
/-- which attribute the law's own helper tells of which code -/
def fldM (k : Str) : Option Str :=
  if k ∈ (["InvalidName", "DuplicateName", "UnknownName"] : List Str) then some "name" else
  if k ∈ (["InvalidPart", "InvalidTrait", "InvalidRow", "InvalidWave", "InvalidSight", "InvalidDrawing"] : List Str) then some "index" else
  if k ∈ (["InvalidPerson", "InvalidEntry", "InvalidNumber", "InvalidWeb", "NotTold"] : List Str) then some "given" else
  if k ∈ (["TooWide", "TooLarge", "TooMany"] : List Str) then some "most" else
  if k ∈ (["Unseen", "Barred"] : List Str) then some "web" else
  if k = "InvalidProgram" then some "path" else
  if k = "InvalidText" then some "position" else
  if k = "InvalidPage" then some "line" else none
def fldNames : List Str := ["name", "index", "given", "most", "web", "path", "position", "line"]
/-- what it tells of an exception -/
def whyF (e : Exn) : Option D := match e.at "code" with
  | some (.str k) => (match fldM k with
    | some attr => e.at attr
    | none => some .non).map fun d => .tup [.str k, d]
  | _ => none
def whyR (r : Rz A) : Rz A := match r with
  | .ok _ S => .ok (.p (.tup [.str "value", .non])) S
  | .ex e S => Rz.of ((whyF e).map .p) S
  | .bad => .bad
/-- the items of a list or a tuple -/
def sqF (x : A) (S : Store) : Option (List D) := match x with
  | .p (.tup ds) => some ds
  | .p (.lst ds) => some ds
  | .m j => match S[j]? with
    | some (.lst ds) => some ds
    | _ => none
  | _ => none
mutual
def ev (cl : Nat → List A → Store → Rz A) (t : Bool) : C → Env → Store → Rz A
  | .var i, ρ, S => match ρ[i]? with
    | some (some x) => tst t x S
    | _ => .bad
  | .cst d, _, S => tst t (.p d) S
  | .bin op a b, ρ, S => (ev cl false a ρ S).bind fun x S1 => (ev cl false b ρ S1).bind fun y S2 => match x, y with
    | .p x, .p y => (Rz.of (binF op x y) S2).bind fun z S3 => tst t (.p z) S3
    | _, _ => .bad
  | .neg a, ρ, S => (ev cl false a ρ S).bind fun x S1 => match x with
    | .p (.int i) => tst t (.p (.int (-i))) S1
    | _ => .bad
  | .cmp op a b, ρ, S => (ev cl false a ρ S).bind fun x S1 => (ev cl false b ρ S1).bind fun y S2 => (Rz.of (cmpA op (dig x S2) (dig y S2)) S2).bind fun z S3 => .ok (.p (.bl z)) S3
  | .chain op op' a b c, ρ, S => (ev cl false a ρ S).bind fun x S1 => (ev cl false b ρ S1).bind fun y S2 => (Rz.of (cmpA op x y) S2).bind fun z S3 =>
      if z then (ev cl false c ρ S3).bind fun w S4 => (Rz.of (cmpA op' (dig y S4) (dig w S4)) S4).bind fun z S5 => .ok (.p (.bl z)) S5 else .ok (.p (.bl false)) S3
  | .and a b, ρ, S => if t then (ev cl true a ρ S).bind fun x S1 => match x with
      | .p (.bl true) => ev cl true b ρ S1
      | .p (.bl false) => .ok (.p (.bl false)) S1
      | _ => .bad
    else (ev cl false a ρ S).bind fun x S1 => (tst true x S1).bind fun y S1 => match y with
      | .p (.bl true) => ev cl false b ρ S1
      | .p (.bl false) => .ok x S1
      | _ => .bad
  | .or a b, ρ, S => if t then (ev cl true a ρ S).bind fun x S1 => match x with
      | .p (.bl false) => ev cl true b ρ S1
      | .p (.bl true) => .ok (.p (.bl true)) S1
      | _ => .bad
    else (ev cl false a ρ S).bind fun x S1 => (tst true x S1).bind fun y S1 => match y with
      | .p (.bl false) => ev cl false b ρ S1
      | .p (.bl true) => .ok x S1
      | _ => .bad
  | .not a, ρ, S => (ev cl true a ρ S).bind fun x S1 => match x with
      | .p (.bl b) => .ok (.p (.bl (!b))) S1
      | _ => .bad
  | .ite c a b, ρ, S => (ev cl true c ρ S).bind fun x S1 => match x with
      | .p (.bl true) => ev cl t a ρ S1
      | .p (.bl false) => ev cl t b ρ S1
      | _ => .bad
  | .tup cs, ρ, S => (evs cl cs ρ S).bind fun xs S1 => match datas xs with
      | some ds => if ds.length ≤ LIM then tst t (.p (.tup ds)) S1 else .bad
      | none => .bad
  | .lst cs, ρ, S => (evs cl cs ρ S).bind fun xs S1 => match datas xs with
      | some ds => if ds.length ≤ LIM then tst t (.p (.lst ds)) S1 else .bad
      | none => .bad
  | .lstM cs, ρ, S => (evs cl cs ρ S).bind fun xs S1 => match datas xs with
      | some ds => if ds.length ≤ LIM && !t then .ok (.m S1.length) (S1 ++ [.lst ds]) else .bad
      | none => .bad
  | .listM c, ρ, S => (ev cl false c ρ S).bind fun x S1 => match x with
      | .p (.lst ds) => if t then .bad else .ok (.m S1.length) (S1 ++ [.lst ds])
      | .p (.tup ds) => if t then .bad else .ok (.m S1.length) (S1 ++ [.lst ds])
      | _ => .bad
  | .dctP c, ρ, S => (ev cl false c ρ S).bind fun x S1 => match dctF x with
      | some d => tst t (.p d) S1
      | none => .bad
  | .dctN, ρ, S => if t then .bad else .ok (.m S.length) (S ++ [.dct [] []])
  | .getD o i, ρ, S => (ev cl false o ρ S).bind fun x S1 => (ev cl false i ρ S1).bind fun y S2 => match dictAt x S2, y with
      | some (ks, vs), .p y => (match dKey y with
        | some k => (Rz.of (dFind k ks vs) S2).bind fun z S3 => tst t (.p z) S3
        | none => .bad)
      | _, _ => .bad
  | .inD neg i o, ρ, S => (ev cl false i ρ S).bind fun y S1 => (ev cl false o ρ S1).bind fun x S2 => match dictAt x S2, y with
      | some (ks, vs), .p y => (match dKey y with
        | some k => .ok (.p (.bl (if neg then !dHas k ks else dHas k ks))) S2
        | none => .bad)
      | _, _ => .bad
  | .getO o i d, ρ, S => (ev cl false o ρ S).bind fun x S1 => if (dictAt x S1).isSome then (ev cl false i ρ S1).bind fun y S2 => (ev cl false d ρ S2).bind fun z S3 => match dictAt x S3, y, z with
      | some (ks, vs), .p y, .p z => (match dKey y with
        | some k => tst t (.p ((dFind k ks vs).getD z)) S3
        | none => .bad)
      | _, _, _ => .bad else .bad
  | .tupS fl cs, ρ, S => (evsS cl fl cs ρ S).bind fun xs S1 => match datas xs with
      | some ds => if ds.length ≤ LIM then tst t (.p (.tup ds)) S1 else .bad
      | none => .bad
  | .lstS fl cs, ρ, S => (evsS cl fl cs ρ S).bind fun xs S1 => match datas xs with
      | some ds => if ds.length ≤ LIM then tst t (.p (.lst ds)) S1 else .bad
      | none => .bad
  | .sub a b, ρ, S => (ev cl false a ρ S).bind fun x S1 => (ev cl false b ρ S1).bind fun y S2 => (Rz.of (subF x y S2) S2).bind fun z S3 => tst t z S3
  | .slcL a lo, ρ, S => (ev cl false a ρ S).bind fun x S1 => (ev cl false lo ρ S1).bind fun l S2 => match x, l with
      | .p x, .p (.int l) => (Rz.of (slcF x (some l) none) S2).bind fun z S3 => tst t (.p z) S3
      | _, _ => .bad
  | .slcH a hi, ρ, S => (ev cl false a ρ S).bind fun x S1 => (ev cl false hi ρ S1).bind fun l S2 => match x, l with
      | .p x, .p (.int l) => (Rz.of (slcF x none (some l)) S2).bind fun z S3 => tst t (.p z) S3
      | _, _ => .bad
  | .slcB a lo hi, ρ, S => (ev cl false a ρ S).bind fun x S1 => (ev cl false lo ρ S1).bind fun l S2 => (ev cl false hi ρ S2).bind fun h S3 => match x, l, h with
      | .p x, .p (.int l), .p (.int h) => (Rz.of (slcF x (some l) (some h)) S3).bind fun z S4 => tst t (.p z) S4
      | _, _, _ => .bad
  | .call f cs ds, ρ, S => (evs cl cs ρ S).bind fun xs S1 => (cl f (xs ++ ds.map .p) S1).bind fun z S2 => tst t z S2
  | .callK f cs ks asm, ρ, S => (evs cl cs ρ S).bind fun xs S1 => (evs cl ks ρ S1).bind fun ys S2 => (Rz.of (asmF asm (xs ++ ys)) S2).bind fun zs S3 => (cl f zs S3).bind fun z S4 => tst t z S4
  | .blt b cs, ρ, S => (evs cl cs ρ S).bind fun xs S1 => (Rz.of (bltF b xs S1) S1).bind fun z S2 => tst t z S2
  | .mth m o cs, ρ, S => (ev cl false o ρ S).bind fun x S1 => if mthTy m x S1 then (evs cl cs ρ S1).bind fun xs S2 => (mthF m x xs S2).bind fun z S3 => tst t z S3 else .bad
  | .comp k its tg own cond e, ρ, S => (evs cl its ρ S).bind fun xs S1 => (Rz.of (walkF k xs) S1).bind fun items S1 =>
      (compL (fun x => bindT tg x (wipeE ρ own)) (match cond with
        | none => fun _ S => .ok (.p (.bl true)) S
        | some c => ev cl true c) (ev cl false e) items S1).bind fun ds S2 => if ds.length < LIM then tst t (.p (.lst ds)) S2 else .bad
  | .eqI neg ci fi a b, ρ, S => (ev cl false a ρ S).bind fun x S1 => (ev cl false b ρ S1).bind fun y S2 => match insF x S2, insF y S2 with
    | some (c, _, _), some (c', _, _) => if c = ci ∧ c' = ci then (cl fi [x, y] S2).np.bind fun z S3 => (match z with
        | .p (.bl r) => .ok (.p (.bl (if neg then !r else r))) S3
        | _ => .bad) else .bad
    | _, _ => .bad
  | .isI ci o, ρ, S => (ev cl false o ρ S).bind fun x S1 => match insF x S1 with
    | some (c, _, _) => if c = ci then .ok (.p (.bl true)) S1 else .bad
    | none => .bad
  | .eqD a b, ρ, S => (ev cl false a ρ S).bind fun x S1 => (ev cl false b ρ S1).bind fun y S2 => match dEqF x y S2 with
    | some r => .ok (.p (.bl r)) S2
    | none => .bad
  | .compM i tg own cond e, ρ, S => (ev cl false i ρ S).bind fun x S1 => (match x with
    | .m j => (match S1[j]? with
      | some (.lst xs) => (compL (fun x => bindT tg x (wipeE (boxE ρ) own)) (match cond with
        | none => fun _ S => .ok (.p (.bl true)) S
        | some c => ev cl true c) (ev cl false e) (xs.map .p) []).bind fun ds S2 => if decide (ds.length < LIM) && S2.isEmpty then tst t (.p (.lst ds)) S1 else .bad
      | _ => .bad)
    | _ => .bad)
  | .dctK, ρ, S => if t then .bad else .ok (.m S.length) (S ++ [.dks [] []])
  | .getK o i, ρ, S => (ev cl false o ρ S).bind fun x S1 => (ev cl false i ρ S1).bind fun y S2 => match kAt x S2, y with
      | some (ks, vs), .p (.str k) => (Rz.of (getN k ks vs) S2).bind fun z S3 => tst t (.p z) S3
      | _, _ => .bad
  | .inK neg i o, ρ, S => (ev cl false i ρ S).bind fun y S1 => (ev cl false o ρ S1).bind fun x S2 => match kAt x S2, y with
      | some (ks, vs), .p (.str k) => .ok (.p (.bl (if neg then !decide (k ∈ ks) else decide (k ∈ ks)))) S2
      | _, _ => .bad
  | .keysK o, ρ, S => (ev cl false o ρ S).bind fun x S1 => match kAt x S1 with
      | some (ks, _) => if ks.length ≤ LIM then tst t (.p (.lst (ks.map .str))) S1 else .bad
      | none => .bad
  | .fstr cs, ρ, S => (evs cl cs ρ S).bind fun xs S1 => (Rz.of (catF Str.empty xs) S1).bind fun z S2 => tst t (.p (.str z)) S2
  | .isiT a cs, ρ, S => (ev cl false a ρ S).bind fun x S1 => match tyF x S1 with
      | some t => .ok (.p (.bl (cs.any fun c => isaF t c))) S1
      | none => .bad
  | .callV i nf cs, ρ, S => (match ρ[i]? with
    | some (some (.p (.fn f))) => if f < nf then (evs cl cs ρ S).bind fun xs S1 => (cl f xs S1).bind fun z S2 => tst t z S2 else .bad
    | _ => .bad)
  | .fld ci o n, ρ, S => (ev cl false o ρ S).bind fun x S1 => match insG x S1 with
    | some (c, ns, ds) => if c = ci then (Rz.of (getN n ns ds) S1).bind fun d S2 => tst t d S2 else .bad
    | none => .bad
  | .ccst _ _ d, _, S => tst t (.p d) S
  | .app h cs, ρ, S => ((evs cl cs ρ S).np.bind fun xs S1 => appF cl h ρ xs S1).bind fun z S2 => tst t z S2
  | .meth ci fi m o cs ds, ρ, S => ((ev cl false o ρ S).np.bind fun x S1 => match insG x S1 with
    | some (c, ns, _) => if c = ci && !(ns.any fun n => n == m) then (evs cl cs ρ S1).np.bind fun xs S2 => cl fi (x :: (xs ++ ds.map .p)) S2 else .bad
    | none => .bad).bind fun z S3 => tst t z S3
  | .whyAK fi cs ks asm, ρ, S => (whyR ((evs cl cs ρ S).np.bind fun xs S1 => (evs cl ks ρ S1).np.bind fun ys S2 => (match asmF asm (xs ++ ys) with
      | some zs => cl fi zs S2
      | none => .bad))).bind fun z S3 => tst t z S3
  | .whyA h cs, ρ, S => (whyR ((evs cl cs ρ S).np.bind fun xs S1 => appF cl h ρ xs S1)).bind fun z S2 => tst t z S2
  | .whyS ci fi m o cs ds, ρ, S => (whyR ((ev cl false o ρ S).np.bind fun x S1 => match insG x S1 with
    | some (c, ns, _) => if c = ci && !(ns.any fun n => n == m) then (evs cl cs ρ S1).np.bind fun xs S2 => cl fi (x :: (xs ++ ds.map .p)) S2 else .bad
    | none => .bad)).bind fun z S3 => tst t z S3
  | .methK ci fi m o ks asm, ρ, S => ((ev cl false o ρ S).np.bind fun x S1 => match insG x S1 with
    | some (c, ns, _) => if c = ci && !(ns.any fun n => n == m) then (evs cl ks ρ S1).np.bind fun ys S2 => (match asmF asm (x :: ys) with
      | some zs => cl fi zs S2
      | none => .bad) else .bad
    | none => .bad).bind fun z S3 => tst t z S3
  | .whyK ci fi m o ks asm, ρ, S => (whyR ((ev cl false o ρ S).np.bind fun x S1 => match insG x S1 with
    | some (c, ns, _) => if c = ci && !(ns.any fun n => n == m) then (evs cl ks ρ S1).np.bind fun ys S2 => (match asmF asm (x :: ys) with
      | some zs => cl fi zs S2
      | none => .bad) else .bad
    | none => .bad)).bind fun z S3 => tst t z S3
  | .maxD a d, ρ, S => (ev cl false a ρ S).bind fun x S1 => (ev cl false d ρ S1).bind fun y S2 => (Rz.of (maxF x y) S2).bind fun z S3 => tst t z S3
  | .fmt c, ρ, S => (ev cl false c ρ S).bind fun x S1 => (Rz.of (fmtF x) S1).bind fun z S2 => tst t z S2
  | .nope, _, _ => .bad
  | .mkx x cs, ρ, S => (evs cl cs ρ S).bind fun xs S1 => match exvF x xs with
    | some d => tst t (.p d) S1
    | none => .bad
  | .fldX o n al, ρ, S => (ev cl false o ρ S).bind fun x S1 => match x with
    | .p (.exv c ns ds) => if al.contains c then (Rz.of (getN n ns ds) S1).bind fun d S2 => tst t (.p d) S2 else .bad
    | _ => .bad
  | .isX o _ ns al, ρ, S => (ev cl false o ρ S).bind fun x S1 => match x with
    | .p (.exv c _ _) => if al.contains c then .ok (.p (.bl (ns.contains c))) S1 else .bad
    | _ => .bad
def evs (cl : Nat → List A → Store → Rz A) : List C → Env → Store → Rz (List A)
  | [], _, S => .ok [] S
  | c :: cs, ρ, S => (ev cl false c ρ S).bind fun x S1 => (evs cl cs ρ S1).bind fun xs S2 => .ok (x :: xs) S2
/-- items, some of them opened -/
def evsS (cl : Nat → List A → Store → Rz A) : List Bool → List C → Env → Store → Rz (List A)
  | fl, [], _, S => if fl.isEmpty then .ok [] S else .bad
  | fl, c :: cs, ρ, S => match fl with
    | [] => .bad
    | true :: fl => (ev cl false c ρ S).bind fun x S1 => match sqF x S1 with
      | some ds => (evsS cl fl cs ρ S1).bind fun xs S2 => .ok (ds.map .p ++ xs) S2
      | none => .bad
    | false :: fl => (ev cl false c ρ S).bind fun x S1 => (evsS cl fl cs ρ S1).bind fun xs S2 => .ok (x :: xs) S2
end

/-- a call that may raise -/
inductive XC where
  | app (h : Hd) (cs : List C) | meth (ci fi : Nat) (m : Str) (o : C) (cs : List C) (ds : List D) | methK (ci fi : Nat) (m : Str) (o : C) (ks : List C) (asm : List (Nat ⊕ D)) | appK (fi : Nat) (cs ks : List C) (asm : List (Nat ⊕ D))
def xcF (cl : Nat → List A → Store → Rz A) (x : XC) (ρ : Env) (S : Store) : Rz A := match x with
  | .appK fi cs ks asm => (evs cl cs ρ S).np.bind fun xs S1 => (evs cl ks ρ S1).np.bind fun ys S2 => (match asmF asm (xs ++ ys) with
      | some zs => cl fi zs S2
      | none => .bad)
  | .app h cs => (evs cl cs ρ S).np.bind fun xs S1 => appF cl h ρ xs S1
  | .meth ci fi m o cs ds => (ev cl false o ρ S).np.bind fun x S1 => match insG x S1 with
    | some (c, ns, _) => if c = ci && !(ns.any fun n => n == m) then (evs cl cs ρ S1).np.bind fun xs S2 => cl fi (x :: (xs ++ ds.map .p)) S2 else .bad
    | none => .bad
  | .methK ci fi m o ks asm => (ev cl false o ρ S).np.bind fun x S1 => match insG x S1 with
    | some (c, ns, _) => if c = ci && !(ns.any fun n => n == m) then (evs cl ks ρ S1).np.bind fun ys S2 => (match asmF asm (x :: ys) with
      | some zs => cl fi zs S2
      | none => .bad) else .bad
    | none => .bad
/-- an expression in which a call may raise -/
def getF (x y z : A) (S : Store) : Rz A := match dictAt x S, y, z with
  | some (ks, vs), .p y, .p z => (match dKey y with
    | some k => .ok (.p ((dFind k ks vs).getD z)) S
    | none => .bad)
  | _, _, _ => .bad
inductive CXx where
  | p (c : C) | x (xc : XC) | tup (cs : List CXx) | lst (cs : List CXx) | lstM (cs : List CXx) | neg (c : CXx) | int (c : CXx) | app (o : C) (c : CXx) | getO (o : C) (c : CXx) (d : C)
mutual
def evX (cl : Nat → List A → Store → Rz A) : CXx → Env → Store → Rz A
  | .p c, ρ, S => (ev cl false c ρ S).np
  | .x xc, ρ, S => xcF cl xc ρ S
  | .tup cs, ρ, S => (evXs cl cs ρ S).bind fun xs S1 => match datas xs with
      | some ds => if ds.length ≤ LIM then .ok (.p (.tup ds)) S1 else .bad
      | none => .bad
  | .lst cs, ρ, S => (evXs cl cs ρ S).bind fun xs S1 => match datas xs with
      | some ds => if ds.length ≤ LIM then .ok (.p (.lst ds)) S1 else .bad
      | none => .bad
  | .lstM cs, ρ, S => (evXs cl cs ρ S).bind fun xs S1 => match datas xs with
      | some ds => if ds.length ≤ LIM then .ok (.m S1.length) (S1 ++ [.lst ds]) else .bad
      | none => .bad
  | .neg c, ρ, S => (evX cl c ρ S).bind fun x S1 => match x with
      | .p (.int i) => .ok (.p (.int (-i))) S1
      | _ => .bad
  | .int c, ρ, S => (evX cl c ρ S).bind fun x S1 => Rz.of (bltF .int [x] S1) S1
  | .app o c, ρ, S => (ev cl false o ρ S).np.bind fun x S1 => if mthTy .append x S1 then (evX cl c ρ S1).bind fun y S2 => mthF .append x [y] S2 else .bad
  | .getO o c d, ρ, S => (ev cl false o ρ S).np.bind fun x S1 => if (dictAt x S1).isSome then (evX cl c ρ S1).bind fun y S2 => (ev cl false d ρ S2).np.bind fun z S3 => getF x y z S3 else .bad
def evXs (cl : Nat → List A → Store → Rz A) : List CXx → Env → Store → Rz (List A)
  | [], _, S => .ok [] S
  | c :: cs, ρ, S => (evX cl c ρ S).bind fun x S1 => (evXs cl cs ρ S1).bind fun xs S2 => .ok (x :: xs) S2
end
/-! ### statements -/
/-- an attribute is set -/
def putN {α : Type} (n : Str) (d : α) : List Str → List α → List Str × List α
  | [], _ => ([n], [d])
  | m :: ns, x :: ds => if m = n then (m :: ns, d :: ds) else (m :: (putN n d ns ds).1, x :: (putN n d ns ds).2)
  | m :: ns, [] => (m :: ns, [])
def exnF (x : Xi) (xs : List A) : Option Exn := match x.attr, xs with
  | some a, [.p d] => some ⟨x.c, ["code", a], [.str x.code, d]⟩
  | none, [] => some ⟨x.c, ["code"], [.str x.code]⟩
  | _, _ => none
inductive Sc where
  | asg (t : Tg) (c : C) | par (i j : Nat) (a b : C) | parT (i j : Nat) (a b : C) | setI (o i v : C)
  | exp (c : C) | ret (c : C) | retN | ite (c : C) (a b : List Sc)
  | for (k : ItK) (its : List C) (t : Tg) (body : List Sc) | while (c : C) (body : List Sc)
  | frz (i : Nat) | pass | brk | cnt
  | asgX (t : Tg) (x : XC) | expX (x : XC) | retX (x : XC) | raise (x : Xi) (cs : List C) | setF (ci : Nat) (o : C) (n : Str) (v : C)
  | asgE (t : Tg) (x : CXx) | expE (x : CXx) | retE (x : CXx) | augF (ci : Nat) (o : C) (n : Str) (sb : Bool) (v : C) | asgS (i j : Nat) (c : C)
  | setD (o i v : C) | nope | setK (o i v : C) | setR (ci : Nat) (o : Nat) (n : Str) (r : Nat) (dk : Bool)
inductive Rs where
  | nx (ρ : Env) (S : Store) | rt (x : A) (S : Store) | bk (ρ : Env) (S : Store) | ct (ρ : Env) (S : Store) | ex (e : Exn) (S : Store) | bad
def Rz.then {α : Type} (r : Rz α) (f : α → Store → Rs) : Rs := match r with
  | .ok a S => f a S
  | _ => .bad
def Rz.thenX {α : Type} (r : Rz α) (f : α → Store → Rs) : Rs := match r with
  | .ok a S => f a S
  | .ex e S => .ex e S
  | .bad => .bad
def Rs.then (r : Rs) (f : Env → Store → Rs) : Rs := match r with
  | .nx ρ S => f ρ S
  | r => r
def forL (bnd : A → Env → Option Env) (body : Env → Store → Rs) : List A → Env → Store → Rs
  | [], ρ, S => .nx ρ S
  | x :: xs, ρ, S => match bnd x ρ with
    | none => .bad
    | some ρ1 => match body ρ1 S with
      | .nx ρ2 S2 => forL bnd body xs ρ2 S2
      | .ct ρ2 S2 => forL bnd body xs ρ2 S2
      | .bk ρ2 S2 => .nx ρ2 S2
      | r => r
def whileL (cond : Env → Store → Rz A) (body : Env → Store → Rs) : Nat → Env → Store → Rs
  | 0, _, _ => .bad
  | n + 1, ρ, S => (cond ρ S).then fun x S1 => match x with
    | .p (.bl false) => .nx ρ S1
    | .p (.bl true) => match body ρ S1 with
      | .nx ρ2 S2 => whileL cond body n ρ2 S2
      | .ct ρ2 S2 => whileL cond body n ρ2 S2
      | .bk ρ2 S2 => .nx ρ2 S2
      | r => r
    | _ => .bad
mutual
def run1 (cl : Nat → List A → Store → Rz A) (wf : Nat) : Sc → Env → Store → Rs
  | .asg t c, ρ, S => (ev cl false c ρ S).then fun x S1 => match bindT t x ρ with
    | some ρ1 => .nx ρ1 S1
    | none => .bad
  | .par i j a b, ρ, S => (ev cl false a ρ S).then fun x S1 => (ev cl false b ρ S1).then fun y S2 => .nx ((ρ.set i (some x)).set j (some y)) S2
  | .parT i j a b, ρ, S => (ev cl false a ρ S).then fun x S1 => (ev cl false b ρ S1).then fun y S2 => .nx ((ρ.set i (some x)).set j (some y)) S2
  | .setI o i v, ρ, S => (ev cl false v ρ S).then fun x S1 => (ev cl false o ρ S1).then fun o S2 => (ev cl false i ρ S2).then fun i S3 => match o, i with
    | .m j, .p (.int k) => match S3[j]?, x with
      | some (.lst ys), .p x => match ixN ys.length k with
        | some n => .nx ρ (S3.set j (.lst (ys.set n x)))
        | none => .bad
      | _, _ => .bad
    | _, _ => .bad
  | .exp c, ρ, S => (ev cl false c ρ S).then fun _ S1 => .nx ρ S1
  | .ret c, ρ, S => (ev cl false c ρ S).then fun x S1 => .rt x S1
  | .retN, _, S => .rt (.p .non) S
  | .ite c a b, ρ, S => (ev cl true c ρ S).then fun x S1 => match x with
    | .p (.bl true) => run cl wf a ρ S1
    | .p (.bl false) => run cl wf b ρ S1
    | _ => .bad
  | .for k its t body, ρ, S => (evs cl its ρ S).then fun xs S1 => (Rz.of (walkF k xs) S1).then fun items S1 => forL (bindT t) (run cl wf body) items ρ S1
  | .while c body, ρ, S => whileL (ev cl true c) (run cl wf body) wf ρ S
  | .frz i, ρ, S => match ρ[i]? with
    | some (some (.m j)) => match S[j]? with
      | some (.lst ds) => .nx (ρ.set i (some (.p (.lst ds)))) (S.set j .dead)
      | some (.dct ks vs) => .nx (ρ.set i (some (.p (.dct ks vs)))) (S.set j .dead)
      | _ => .bad
    | _ => .bad
  | .asgX t x, ρ, S => (xcF cl x ρ S).thenX fun x S1 => match bindT t x ρ with
    | some ρ1 => .nx ρ1 S1
    | none => .bad
  | .expX x, ρ, S => (xcF cl x ρ S).thenX fun _ S1 => .nx ρ S1
  | .retX x, ρ, S => (xcF cl x ρ S).thenX fun x S1 => .rt x S1
  | .raise x cs, ρ, S => (evs cl cs ρ S).then fun xs S1 => match exnF x xs with
    | some e => .ex e S1
    | none => .bad
  | .setF ci o n v, ρ, S => (ev cl false v ρ S).then fun x S1 => (ev cl false o ρ S1).then fun o S2 => match o, x with
    | .m j, .p d => match S2[j]? with
      | some (.ins c ns ds) => if c = ci ∧ ns.length < 900 then .nx ρ (S2.set j (.ins c (putN n d ns ds).1 (putN n d ns ds).2)) else .bad
      | some (.inm c ns xs) => if c = ci ∧ ns.length < 900 then .nx ρ (S2.set j (.inm c (putN n (.p d) ns xs).1 (putN n (.p d) ns xs).2)) else .bad
      | _ => .bad
    | _, _ => .bad
  | .setR ci o n r dk, ρ, S => match ρ[o]? with
    | some (some (.m i)) => (match S[i]? with
      | some (.inm c ns xs) => if c = ci ∧ ns.length < 900 ∧ r < i then (match S[i - (r + 1)]? with
        | some .resv => .nx ρ ((S.set (i - (r + 1)) (if dk then .dks [] [] else .lst [])).set i (.inm c (putN n (.m (i - (r + 1))) ns xs).1 (putN n (.m (i - (r + 1))) ns xs).2))
        | _ => .bad) else .bad
      | _ => .bad)
    | _ => .bad
  | .setK o i v, ρ, S => (ev cl false v ρ S).then fun v S1 => (ev cl false o ρ S1).then fun o S2 => (ev cl false i ρ S2).then fun y S3 => match o, y, v with
    | .m j, .p (.str k), .p v => (match S3[j]? with
      | some (.dks ks vs) => if vs.length ≤ LIM then .nx ρ (S3.set j (.dks (kPutN k ks) (kPutV k v ks vs))) else .bad
      | _ => .bad)
    | _, _, _ => .bad
  | .asgE t x, ρ, S => (evX cl x ρ S).thenX fun x S1 => match bindT t x ρ with
    | some ρ1 => .nx ρ1 S1
    | none => .bad
  | .expE x, ρ, S => (evX cl x ρ S).thenX fun _ S1 => .nx ρ S1
  | .retE x, ρ, S => (evX cl x ρ S).thenX fun x S1 => .rt x S1
  | .augF ci o n sb v, ρ, S => (ev cl false o ρ S).then fun o S1 => match o with
    | .m j => match S1[j]? with
      | some (.ins c ns ds) => if c = ci then (match getN n ns ds with
        | some (.int i) => (ev cl false v ρ S1).then fun y S2 => match y, S2[j]? with
          | .p (.int k), some (.ins c' ns' ds') => if c' = ci ∧ ns'.length < 900 then .nx ρ (S2.set j (.ins c' (putN n (.int (if sb then i - k else i + k)) ns' ds').1 (putN n (.int (if sb then i - k else i + k)) ns' ds').2)) else .bad
          | _, _ => .bad
        | _ => .bad) else .bad
      | _ => .bad
    | _ => .bad
  | .asgS i j c, ρ, S => (ev cl false c ρ S).then fun x S1 => match x with
    | .p (.tup (d :: ds)) => if ds.length ≤ 1000 then .nx ((ρ.set i (some (.p d))).set j (some (.p (.lst ds)))) S1 else .bad
    | _ => .bad
  | .setD o i v, ρ, S => (ev cl false v ρ S).then fun v S1 => (ev cl false o ρ S1).then fun o S2 => (ev cl false i ρ S2).then fun y S3 => match o, y, v with
    | .m j, .p y, .p v => (match S3[j]?, dKey y with
      | some (.dct ks vs), some k => if vs.length ≤ LIM then .nx ρ (S3.set j (.dct (dPutK y k ks) (dPutV k v ks vs))) else .bad
      | _, _ => .bad)
    | _, _, _ => .bad
  | .nope, _, _ => .bad
  | .pass, ρ, S => .nx ρ S
  | .brk, ρ, S => .bk ρ S
  | .cnt, ρ, S => .ct ρ S
def run (cl : Nat → List A → Store → Rz A) (wf : Nat) : List Sc → Env → Store → Rs
  | [], ρ, S => .nx ρ S
  | c :: cs, ρ, S => (run1 cl wf c ρ S).then fun ρ1 S1 => run cl wf cs ρ1 S1
end
/-- a def: how many parameters, how many names, its code -/
structure Fn where
  np : Nat
  nn : Nat
  code : List Sc
def isP : A → Bool
  | .p _ => true
  | .m _ => false
/-- the store behind a call -/
def fin (n : Nat) (x : A) (S' : Store) : Rz A := if S'.length = n then .ok x S' else if isP x then .ok x (S'.take n) else .ok x S'
def callI (ft : List Fn) (wf : Nat) : Nat → Nat → List A → Store → Rz A
  | 0, _, _, _ => .bad
  | k + 1, f, xs, S => match ft[f]? with
    | none => .bad
    | some i => if xs.length = i.np then (match run (callI ft wf k) wf i.code (xs.map some ++ List.replicate (i.nn - i.np) none) S with
      | .rt x S' => fin S.length x S'
      | .nx _ S' => fin S.length (.p .non) S'
      | .ex e S' => .ex e (S'.take S.length)
      | _ => .bad) else .bad
end Fw

namespace L2
open PySem PySem.Spec PyProof.Rows
theorem tuple_mulW1 (l : Addr) (items : Array Value) (n : Nat) (dd : Option Addr) (sl : Array (Option Value)) (u : Tok) :
    Meets (Builtin.«tuple.__mul__» ⟨[.ref l, .int 1 u], []⟩) (fun _ R s => s.heap.get? l = some { cls := .type "tuple", dict := dd, data := .seq items n, slots := sl } ∧ R (.ok (.ret (Value.ref l))) s) :=
  .of_wp fun prog w A R s h => by
    obtain ⟨hp, g, d, tk, os⟩ := s
    obtain ⟨hl, h⟩ := h
    have f1 := AutoSeq1.idx_int
    have c1 : (items.isEmpty || (1 : Int) == 1) = true := by rw [show ((1 : Int) == 1) = true from rfl, Bool.or_true]
    wp_walk using wpAny_loadPart' hl
    repeat (first
      | (refine wpAny_ite_false (decide_eq_false (by decide)) ?_; wp_walk using wpAny_loadPart' hl)
      | (refine wpAny_ite_true (decide_eq_true (by rw [c1])) ?_; wp_walk using wpAny_loadPart' hl))
    exact ⟨_, rfl, h⟩
theorem tuple_mulW0 (l : Addr) (items : Array Value) (n : Nat) (dd : Option Addr) (sl : Array (Option Value)) (x : Int) (u : Tok) (c0 : (decide (x < -(2 ^ 63)) || decide (x ≥ 2 ^ 63)) = false) (c1 : (items.isEmpty || x == 1) = false) (c2 : (decide (x ≤ 0) || items.isEmpty) = true) :
    Meets (Builtin.«tuple.__mul__» ⟨[.ref l, .int x u], []⟩) (fun _ R s => s.heap.get? l = some { cls := .type "tuple", dict := dd, data := .seq items n, slots := sl } ∧
      R (.ok (.ret (Value.ref s.heap.objs.size))) { s with heap := s.heap.push { cls := Value.type "tuple", data := Data.seq #[] }, toks := s.toks }) :=
  .of_wp fun prog w A R s h => by
    obtain ⟨hp, g, d, tk, os⟩ := s
    obtain ⟨hl, h⟩ := h
    have f1 := AutoSeq1.idx_int
    wp_walk using wpAny_loadPart' hl
    repeat (first
      | (refine wpAny_ite_false (decide_eq_false (by rw [c0]; exact Bool.false_ne_true)) ?_; wp_walk using wpAny_loadPart' hl)
      | (refine wpAny_ite_false (decide_eq_false (by rw [c1]; exact Bool.false_ne_true)) ?_; wp_walk using wpAny_loadPart' hl)
      | (refine wpAny_ite_true (decide_eq_true (by rw [c2])) ?_; wp_walk using wpAny_loadPart' hl))
    exact ⟨_, rfl, h⟩
/-- tuple * int, the int of any size between -1000 and 1000 -/
def rRepA (K : PySem.W.Frag) : R2 := fun x y H Q => ∃ l k xs, x = .ref l ∧ y = .int k ∧ SqT K H l xs ∧ xs ≠ [] ∧ -1000 < k ∧ k ≤ 1000 ∧ xs.length ≤ 1000 ∧ (k = 1 → Q (.ref l) H) ∧ (k ≠ 1 → ∀ p, H p = none → Q (.ref p) (upd H p (.tup (List.replicate k.toNat xs).flatten)))
theorem op_repA {X : Cx} : OpR X (binaryOp .Mult) (rRepA X.K) := by
  intro pins s σ H x y v u Q I rx ry h
  obtain ⟨l, k, xs, rfl, rfl, hT, hne, h1, h2, hz, q1, q⟩ := h
  by_cases hk2 : 2 ≤ k
  · exact op_repT _ _ _ _ _ _ _ _ _ I rx ry ⟨l, k, xs, rfl, rfl, hT, hne, hk2, h2, hz, q (by omega)⟩
  cases rx
  obtain ⟨t, rfl⟩ := ry
  obtain ⟨its, r, ⟨⟨cls, dd, data, sl⟩, ho, hc, n, hd⟩, hs⟩ := I.tuple hT
  simp only at hc hd
  subst hc hd
  have hle : its.length = xs.length := r.length.symm
  have hn : its ≠ [] := fun e => hne (by
    rw [e] at hle
    exact List.eq_nil_of_length_eq_zero hle.symm)
  have hi : its.toArray.isEmpty = false := by
    cases its with
    | nil => exact absurd rfl hn
    | cons a b => rfl
  by_cases hk : k = 1
  · subst hk
    refine wpAny_binaryOp_repeat_ref (T := "tuple") (U := "int") (by decide) ⟨_, ho, rfl⟩ (fun s' => typeIs_int s' 1 t) noFill_tuple_mul F.fills_int_mul F.slot_int_rmul repeat_tuple F.slot_int_index.lookup
      (call_meets F.slot_int_rmul (typeIs_int s 1 t) F.entry_int_rmul (F.args_int_rmul_2 _ _) (int_rmul_tuple 1 t l its.toArray n dd sl)
        ⟨ho, rfl, ⟨_, ho, rfl⟩, call_meets F.slot_tuple_mul ⟨_, ho, rfl⟩ F.entry_tuple_mul (F.args_tuple_mul_2 _ _) (tuple_mulW1 l its.toArray n dd sl t) ⟨ho, ?_⟩⟩)
    exact ⟨.ref l, H, I, rfl, q1 rfl⟩
  · have c0 : (decide (k < -(2 ^ 63)) || decide (k ≥ 2 ^ 63)) = false := by
      rw [decide_eq_false (by omega), decide_eq_false (by omega)] <;> rfl
    have c1 : (its.toArray.isEmpty || k == 1) = false := by
      rw [hi, Bool.false_or]
      exact beq_eq_false_iff_ne.mpr hk
    have c2 : (decide (k ≤ 0) || its.toArray.isEmpty) = true := by
      rw [decide_eq_true (show k ≤ 0 by omega)]
      rfl
    refine wpAny_binaryOp_repeat_ref (T := "tuple") (U := "int") (by decide) ⟨_, ho, rfl⟩ (fun s' => typeIs_int s' k t) noFill_tuple_mul F.fills_int_mul F.slot_int_rmul repeat_tuple F.slot_int_index.lookup
      (call_meets F.slot_int_rmul (typeIs_int s k t) F.entry_int_rmul (F.args_int_rmul_2 _ _) (int_rmul_tuple k t l its.toArray n dd sl)
        ⟨ho, rfl, ⟨_, ho, rfl⟩, call_meets F.slot_tuple_mul ⟨_, ho, rfl⟩ F.entry_tuple_mul (F.args_tuple_mul_2 _ _) (tuple_mulW0 l its.toArray n dd sl k t c0 c1 c2) ⟨ho, ?_⟩⟩)
    have ek : List.replicate k.toNat xs = [] := by
      rw [show k.toNat = 0 by omega]
      rfl
    have q := q hk
    rw [ek] at q
    refine ⟨.ref s.heap.objs.size, _, I.laid (t' := s.toks) (o := .tup []) (fun b ob q => Heap.get?_push_of_some _ q) (Nat.le_refl _) ?_, rfl, q _ (I.hok.fresh (Nat.le_refl _))⟩
    exact ⟨by rw [sizeLine_eq]; exact Nat.zero_le _, [], r.rep 0, IsTup.new _ _⟩
end L2

/-! What the evaluator's answers are worth: the operators. -/
namespace Fw
open PySem PySem.Spec PyProof.Rows L2

structure EnvOk (g : G) (z : Z) (ρ : Env) (σ : L2.St) : Prop where
  len : ρ.length = σ.length
  get : ∀ (i : Nat) x, ρ[i]? = some (some x) → ∃ v, σ[i]? = some (some v) ∧ DatA g z x v
section
variable {g : G} {B B' : Bk} {S S' : Store} {H H' : Hp} {ρ : Env} {σ : L2.St} {z z' : Z}
theorem EnvOk.mono (e : EnvOk g z ρ σ) (s : Stab g z z') : EnvOk g z' ρ σ := ⟨e.len, fun i x h => by
  obtain ⟨v, a, b⟩ := e.get i x h
  exact ⟨v, a, s.datA b⟩⟩
theorem EnvOk.set (e : EnvOk g z ρ σ) {i : Nat} {x : A} {v : V} (d : DatA g z x v) : EnvOk g z (ρ.set i (some x)) (σ.set i (some v)) := by
  refine ⟨by rw [List.length_set, List.length_set]; exact e.len, fun j y h => ?_⟩
  by_cases hij : i = j
  · subst hij
    by_cases hl : i < ρ.length
    · rw [List.getElem?_set_self hl] at h
      cases h
      exact ⟨v, by rw [List.getElem?_set_self (by rw [← e.len]; exact hl)], d⟩
    · rw [List.getElem?_eq_none (by rw [List.length_set]; omega)] at h
      cases h
  · rw [List.getElem?_set_ne hij] at h
    obtain ⟨w, a, b⟩ := e.get j y h
    exact ⟨w, by rw [List.getElem?_set_ne hij]; exact a, b⟩
theorem EnvOk.none (e : EnvOk g z ρ σ) {i : Nat} : EnvOk g z (ρ.set i Option.none) (σ.set i Option.none) := by
  refine ⟨by rw [List.length_set, List.length_set]; exact e.len, fun j y h => ?_⟩
  by_cases hij : i = j
  · subst hij
    by_cases hl : i < ρ.length
    · rw [List.getElem?_set_self hl] at h
      cases h
    · rw [List.getElem?_eq_none (by rw [List.length_set]; omega)] at h
      cases h
  · rw [List.getElem?_set_ne hij] at h
    obtain ⟨w, a, b⟩ := e.get j y h
    exact ⟨w, by rw [List.getElem?_set_ne hij]; exact a, b⟩
theorem EnvOk.wipe (e : EnvOk g z ρ σ) : ∀ vs : List Nat, EnvOk g z (wipeE ρ vs) (L2.wipe σ vs)
  | [] => e
  | v :: vs => (e.wipe vs).none
end

/-! ### the readings -/
def tE (g : G) (m : Env → Store → Rz A) : TE := fun σ H Q => ∃ B S ρ x S', EnvOk g ⟨B, S, H⟩ ρ σ ∧ StoreOk g ⟨B, S, H⟩ ∧ m ρ S = .ok x S' ∧
  ∀ v B' H', StoreOk g ⟨B', S', H'⟩ → Stab g ⟨B, S, H⟩ ⟨B', S', H'⟩ → DatA g ⟨B', S', H'⟩ x v → Q v H'
def tT (g : G) (m : Env → Store → Rz A) : TT := fun σ H Q => ∃ B S ρ b S', EnvOk g ⟨B, S, H⟩ ρ σ ∧ StoreOk g ⟨B, S, H⟩ ∧ m ρ S = .ok (.p (.bl b)) S' ∧
  ∀ B' H', StoreOk g ⟨B', S', H'⟩ → Stab g ⟨B, S, H⟩ ⟨B', S', H'⟩ → Q b H'
def tA (g : G) (m : Env → Store → Rz (List A)) : TA := fun σ H Q => ∃ B S ρ xs S', EnvOk g ⟨B, S, H⟩ ρ σ ∧ StoreOk g ⟨B, S, H⟩ ∧ m ρ S = .ok xs S' ∧
  ∀ vs B' H', StoreOk g ⟨B', S', H'⟩ → Stab g ⟨B, S, H⟩ ⟨B', S', H'⟩ → DatAL g ⟨B', S', H'⟩ xs vs → Q vs H'
abbrev gx (X : Cx) (fa : Ad) : G := ⟨X.K, fa, X.w⟩
theorem _root_.L2.CX.no {P : Program} {w : World} {outer : List PySem.Env} {H : Hp} {s s' : Shared} {u : Value} (h : L2.CX P w outer H s (fun _ _ _ => False) u s') : False := by
  obtain ⟨_, _, _, _, _, _, _, _, _, _, _, _, z⟩ := h
  exact z
theorem passN {X : Cx} : Passes (L2.CX X.prog X.w) X E0 := fun _ _ _ _ _ _ _ z => (L2.CX.no z).elim
section
variable {g : G} {B : Bk} {S S' : Store} {H : Hp} {ρ : Env} {σ : L2.St}
theorem tE.use {m : Env → Store → Rz A} {x : A} {Q : VK} (eo : EnvOk g ⟨B, S, H⟩ ρ σ) (so : StoreOk g ⟨B, S, H⟩) (hm : m ρ S = .ok x S')
    (k : ∀ v B' H', StoreOk g ⟨B', S', H'⟩ → Stab g ⟨B, S, H⟩ ⟨B', S', H'⟩ → EnvOk g ⟨B', S', H'⟩ ρ σ → DatA g ⟨B', S', H'⟩ x v → Q v H') : tE g m σ H Q :=
  ⟨B, S, ρ, x, S', eo, so, hm, fun v B' H' so' st dv => k v B' H' so' st (eo.mono st) dv⟩
theorem tT.use {m : Env → Store → Rz A} {b : Bool} {Q : Bool → Hp → Prop} (eo : EnvOk g ⟨B, S, H⟩ ρ σ) (so : StoreOk g ⟨B, S, H⟩) (hm : m ρ S = .ok (.p (.bl b)) S')
    (k : ∀ B' H', StoreOk g ⟨B', S', H'⟩ → Stab g ⟨B, S, H⟩ ⟨B', S', H'⟩ → EnvOk g ⟨B', S', H'⟩ ρ σ → Q b H') : tT g m σ H Q :=
  ⟨B, S, ρ, b, S', eo, so, hm, fun B' H' so' st => k B' H' so' st (eo.mono st)⟩
theorem tA.use {m : Env → Store → Rz (List A)} {xs : List A} {Q : List V → Hp → Prop} (eo : EnvOk g ⟨B, S, H⟩ ρ σ) (so : StoreOk g ⟨B, S, H⟩) (hm : m ρ S = .ok xs S')
    (k : ∀ vs B' H', StoreOk g ⟨B', S', H'⟩ → Stab g ⟨B, S, H⟩ ⟨B', S', H'⟩ → EnvOk g ⟨B', S', H'⟩ ρ σ → DatAL g ⟨B', S', H'⟩ xs vs → Q vs H') : tA g m σ H Q :=
  ⟨B, S, ρ, xs, S', eo, so, hm, fun vs B' H' so' st dv => k vs B' H' so' st (eo.mono st) dv⟩
end

/-! ### lists of data -/
section
variable {g : G} {z : Z}
theorem DatL.len : ∀ {ds : List D} {vs : List V}, DatL g z ds vs → vs.length = ds.length
  | [], _, h => by
    rw [h]
    rfl
  | d :: ds, _, ⟨v, r, e, _, b⟩ => by
    rw [e, List.length_cons, List.length_cons, b.len]
theorem DatAL.len : ∀ {ds : List A} {vs : List V}, DatAL g z ds vs → vs.length = ds.length
  | [], _, h => by
    rw [h]
    rfl
  | d :: ds, _, ⟨v, r, e, _, b⟩ => by
    rw [e, List.length_cons, List.length_cons, b.len]
theorem DatL.get : ∀ {ds : List D} {vs : List V} {i : Nat} {d : D}, DatL g z ds vs → ds[i]? = some d → ∃ v, vs[i]? = some v ∧ Dat g z d v
  | [], _, i, d, _, h => by simp at h
  | c :: ds, _, 0, d, ⟨v, r, e, a, _⟩, h => by
    simp at h
    subst h
    exact ⟨v, by rw [e]; rfl, a⟩
  | c :: ds, _, i + 1, d, ⟨v, r, e, _, b⟩, h => by
    obtain ⟨w, h1, h2⟩ := DatL.get (i := i) (d := d) b (by simpa using h)
    exact ⟨w, by rw [e]; simpa using h1, h2⟩
theorem DatAL.get : ∀ {ds : List A} {vs : List V} {i : Nat} {d : A}, DatAL g z ds vs → ds[i]? = some d → ∃ v, vs[i]? = some v ∧ DatA g z d v
  | [], _, i, d, _, h => by simp at h
  | c :: ds, _, 0, d, ⟨v, r, e, a, _⟩, h => by
    simp at h
    subst h
    exact ⟨v, by rw [e]; rfl, a⟩
  | c :: ds, _, i + 1, d, ⟨v, r, e, _, b⟩, h => by
    obtain ⟨w, h1, h2⟩ := DatAL.get (i := i) (d := d) b (by simpa using h)
    exact ⟨w, by rw [e]; simpa using h1, h2⟩
theorem DatL.app : ∀ {ds es : List D} {vs ws : List V}, DatL g z ds vs → DatL g z es ws → DatL g z (ds ++ es) (vs ++ ws)
  | [], es, _, ws, h, k => by
    rw [h]
    exact k
  | d :: ds, es, _, ws, ⟨v, r, e, a, b⟩, k => ⟨v, r ++ ws, by rw [e]; rfl, a, b.app k⟩
theorem DatAL.app : ∀ {ds es : List A} {vs ws : List V}, DatAL g z ds vs → DatAL g z es ws → DatAL g z (ds ++ es) (vs ++ ws)
  | [], es, _, ws, h, k => by
    rw [h]
    exact k
  | d :: ds, es, _, ws, ⟨v, r, e, a, b⟩, k => ⟨v, r ++ ws, by rw [e]; rfl, a, b.app k⟩
theorem DatL.drop : ∀ {ds : List D} {vs : List V} (n : Nat), DatL g z ds vs → DatL g z (ds.drop n) (vs.drop n)
  | _, _, 0, h => h
  | [], _, n + 1, h => by
    rw [h]
    rfl
  | d :: ds, _, n + 1, ⟨v, r, e, a, b⟩ => by
    rw [e]
    exact b.drop n
theorem DatL.take : ∀ {ds : List D} {vs : List V} (n : Nat), DatL g z ds vs → DatL g z (ds.take n) (vs.take n)
  | _, _, 0, h => rfl
  | [], _, n + 1, h => by
    rw [h]
    rfl
  | d :: ds, _, n + 1, ⟨v, r, e, a, b⟩ => ⟨v, r.take n, by rw [e]; rfl, a, b.take n⟩
theorem DatL.cut {ds : List D} {vs : List V} (h : DatL g z ds vs) (lo hi : Option Int) : DatL g z (cutD ds lo hi) (cutV vs lo hi) := by
  unfold cutD cutV
  rw [h.len]
  exact (h.drop _).take _
theorem DatL.rep {ds : List D} {vs : List V} (h : DatL g z ds vs) : ∀ k : Nat, DatL g z (List.replicate k ds).flatten (List.replicate k vs).flatten
  | 0 => rfl
  | k + 1 => by
    rw [List.replicate_succ, List.replicate_succ, List.flatten_cons, List.flatten_cons]
    exact h.app (h.rep k)
theorem DatL.ofInts : ∀ ns : List Int, DatL g z (ns.map D.int) (ns.map V.int)
  | [] => rfl
  | n :: ns => ⟨.int n, ns.map V.int, rfl, rfl, DatL.ofInts ns⟩
theorem DatL.ints : ∀ {ds : List D} {ns : List Int} {vs : List V}, D.ints ds = some ns → DatL g z ds vs → vs = ns.map V.int
  | [], ns, vs, e, h => by
    cases e
    exact h
  | .int i :: ds, ns, vs, e, ⟨v, r, e1, a, b⟩ => by
    rw [D.ints] at e
    cases h : D.ints ds with
    | none => rw [h] at e; cases e
    | some ms =>
      rw [h] at e
      cases e
      rw [e1, show v = V.int i from a, DatL.ints h b]
      rfl
theorem DatL.bls : ∀ {ds : List D} {ns : List Bool} {vs : List V}, D.bls ds = some ns → DatL g z ds vs → vs = ns.map V.bl
  | [], ns, vs, e, h => by
    cases e
    exact h
  | .bl i :: ds, ns, vs, e, ⟨v, r, e1, a, b⟩ => by
    rw [D.bls] at e
    cases h : D.bls ds with
    | none => rw [h] at e; cases e
    | some ms =>
      rw [h] at e
      cases e
      rw [e1, show v = V.bl i from a, DatL.bls h b]
      rfl
theorem DatL.strs : ∀ {ds : List D} {ns : List Str} {vs : List V}, D.strs ds = some ns → DatL g z ds vs → vs = ns.map V.str
  | [], ns, vs, e, h => by
    cases e
    exact h
  | .str i :: ds, ns, vs, e, ⟨v, r, e1, a, b⟩ => by
    rw [D.strs] at e
    cases h : D.strs ds with
    | none => rw [h] at e; cases e
    | some ms =>
      rw [h] at e
      cases e
      rw [e1, show v = V.str i from a, DatL.strs h b]
      rfl
theorem DatAL.datas : ∀ {xs : List A} {ds : List D} {vs : List V}, datas xs = some ds → DatAL g z xs vs → DatL g z ds vs
  | [], ds, vs, e, h => by
    cases e
    exact h
  | .p d :: xs, ds, vs, e, ⟨v, r, e1, a, b⟩ => by
    rw [Fw.datas] at e
    cases h : Fw.datas xs with
    | none => rw [h] at e; cases e
    | some ms =>
      rw [h] at e
      cases e
      exact ⟨v, r, e1, a, DatAL.datas h b⟩
theorem DatL.ofP : ∀ {ds : List D} {vs : List V}, DatL g z ds vs → DatAL g z (ds.map A.p) vs
  | [], _, h => h
  | d :: ds, _, ⟨v, r, e, a, b⟩ => ⟨v, r, e, a, b.ofP⟩
theorem DatL.at {ds : List D} {vs : List V} {i : Int} {d : D} (h : DatL g z ds vs) (e : atI ds i = some d) : ∃ v, atI vs i = some v ∧ Dat g z d v := by
  unfold atI at e ⊢
  rw [h.len]
  cases q : ixN ds.length i with
  | none => rw [q] at e; cases e
  | some j =>
    rw [q] at e
    exact h.get e
theorem DatAL.at {ds : List A} {vs : List V} {i : Int} {d : A} (h : DatAL g z ds vs) (e : atI ds i = some d) : ∃ v, atI vs i = some v ∧ DatA g z d v := by
  unfold atI at e ⊢
  rw [h.len]
  cases q : ixN ds.length i with
  | none => rw [q] at e; cases e
  | some j =>
    rw [q] at e
    exact h.get e
mutual
theorem Dat.dp : ∀ (d : D) (v : V) (a : PyData), d.py = some a → Dat g z d v → Dp g.K z.H v a
  | .non, v, a, e, h => by
    simp only [D.py, Option.some.injEq] at e
    subst e
    rw [show v = V.non from h]
    exact .non
  | .bl b, v, a, e, h => by
    simp only [D.py, Option.some.injEq] at e
    subst e
    rw [show v = V.bl b from h]
    exact .bl b
  | .int b, v, a, e, h => by
    simp only [D.py, Option.some.injEq] at e
    subst e
    rw [show v = V.int b from h]
    exact .int b
  | .str b, v, a, e, h => by
    simp only [D.py, Option.some.injEq] at e
    subst e
    rw [show v = V.str b from h]
    exact .str b
  | .tup ds, v, a, e, h => by
    obtain ⟨p, vs, rfl, t, l⟩ := h
    simp only [D.py] at e
    cases q : D.pyL ds with
    | none => rw [q] at e; cases e
    | some as =>
      rw [q] at e
      cases e
      exact .tup t (Dat.dpL ds vs as q l)
  | .lst ds, v, a, e, h => by
    obtain ⟨p, vs, rfl, t, _, l⟩ := h
    simp only [D.py] at e
    cases q : D.pyL ds with
    | none => rw [q] at e; cases e
    | some as =>
      rw [q] at e
      cases e
      exact .lst (SqL.of t) (Dat.dpL ds vs as q l)
  | .scr _, _, _, e, _ => by simp [D.py] at e
  | .fn _, _, _, e, _ => by simp [D.py] at e
  | .ty _, _, _, e, _ => by simp [D.py] at e
theorem Dat.dpL : ∀ (ds : List D) (vs : List V) (as : List PyData), D.pyL ds = some as → DatL g z ds vs → DpAll g.K z.H vs as
  | [], vs, as, e, h => by
    simp only [D.pyL, Option.some.injEq] at e
    subst e
    rw [show vs = [] from h]
    exact .nil
  | d :: ds, vs, as, e, h => by
    obtain ⟨v, r, rfl, a, b⟩ := h
    simp only [D.pyL] at e
    cases q : d.py with
    | none => rw [q] at e; cases e
    | some x =>
      cases q2 : D.pyL ds with
      | none => rw [q, q2] at e; cases e
      | some xs =>
        rw [q, q2] at e
        cases e
        exact .cons (Dat.dp d v x q a) (Dat.dpL ds r xs q2 b)
end
end
/-! ### the operators on data -/
theorem lim_le {n : Nat} (h : n ≤ LIM) : n ≤ sizeLine := Nat.le_trans h lim_line
theorem mulOk.ok {i j : Int} (h : mulOk i j = true) : IntMulOk i j := by
  unfold mulOk at h
  rcases of_decide_eq_true h with h | h | h
  · exact CMul.ok (.inl h)
  · exact CMul.ok (.inr h)
  · exact CMulW.ok h
theorem op_mulA {X : Cx} : OpR X (binaryOp .Mult) (rI (fun i j => mulOk i j = true) fun i j => .int (i * j)) := opI fun _ _ _ _ _ _ _ hc q => mul_int q (mulOk.ok hc)
theorem op_fdivA {X : Cx} : OpR X (binaryOp .FloorDiv) (rI (fun _ j => divOk j = true) fun i j => .int (i.fdiv j)) := opI fun i j _ _ _ _ _ hc q => by
  have h := of_decide_eq_true hc
  exact floordiv_int h.1 q (.inl (PyProof.noPylong_of_log2 h.2))
theorem op_powA {X : Cx} : OpR X (binaryOp .Pow) (rI (fun i j => powOk i j = true) fun i j => .int (i ^ j.toNat)) := opI fun _ _ _ _ _ _ _ hc q => by
  have h := of_decide_eq_true hc
  exact pow_int_small h.1 h.2.1 h.2.2 q
theorem op_mulS {X : Cx} : OpR X (binaryOp .Mult) (fun x y H Q => ∃ z k, x = .str z ∧ y = .int k ∧ k < 1000 ∧ 0 ≤ k ∧ z.length ≤ 1000 ∧ Q (.str (Txt.mul z k)) H) := by
  rintro pins s σ H x y u v Q I rx ry ⟨z, k, rfl, rfl, h1, h0, h2, q⟩
  obtain ⟨t, rfl⟩ := (show ∃ t, u = Value.str z t from rx)
  obtain ⟨t', rfl⟩ := (show ∃ t', v = Value.int k t' from ry)
  refine SB.mul ⟨?_, fun h3 _ => ?_, fun _ _ => ?_⟩ fun t' k' => ⟨.str (Txt.mul z k), H, I.tok _, ⟨t', rfl⟩, q⟩
  · rw [Bool.or_eq_false_iff]
    exact ⟨decide_eq_false (by omega), decide_eq_false (by omega)⟩
  · have : (2 ^ 63 - 1 : Int) / k ≥ (2 ^ 63 - 1) / 1000 := by
      refine Int.le_ediv_of_mul_le (by omega) ?_
      have : (2 ^ 63 - 1 : Int) / 1000 * k ≤ (2 ^ 63 - 1) / 1000 * 1000 := Int.mul_le_mul_of_nonneg_left (by omega) (by decide)
      exact Int.le_trans this (by decide)
    have e : (2 ^ 63 - 1 : Int) / 1000 = 9223372036854775 := by decide
    omega
  · have : z.length * k.toNat ≤ 1000 * 1000 := Nat.mul_le_mul h2 (by omega)
    refine decide_eq_false ?_
    have e : sizeLine = 16777216 := sizeLine_eq
    omega
section
variable {X : Cx} {fa : Ad}
/-- what an operator's answer on data is worth -/
def BinOk (X : Cx) (fa : Ad) (f : Value → Value → Sem Value) (x y z : D) : Prop := ∃ r : R2, OpR X f r ∧
  ∀ v w B S H (Q : VK), StoreOk (gx X fa) ⟨B, S, H⟩ → Dat (gx X fa) ⟨B, S, H⟩ x v → Dat (gx X fa) ⟨B, S, H⟩ y w →
    (∀ u H', StoreOk (gx X fa) ⟨B, S, H'⟩ → Stab (gx X fa) ⟨B, S, H⟩ ⟨B, S, H'⟩ → Dat (gx X fa) ⟨B, S, H'⟩ z u → Q u H') → r v w H Q
theorem new_tup {g : G} {B : Bk} {S : Store} {H : Hp} {p : Addr} {ds : List D} {vs : List V} (so : StoreOk g ⟨B, S, H⟩) (hp : H p = none) (dl : DatL g ⟨B, S, H⟩ ds vs) : Dat g ⟨B, S, upd H p (.tup vs)⟩ (.tup ds) (.ref p) :=
  ⟨p, vs, rfl, SqT.of upd_same, (Stab.new so hp).datL dl⟩
theorem new_lst {g : G} {B : Bk} {S : Store} {H : Hp} {p : Addr} {ds : List D} {vs : List V} (so : StoreOk g ⟨B, S, H⟩) (hp : H p = none) (dl : DatL g ⟨B, S, H⟩ ds vs) : Dat g ⟨B, S, upd H p (.lst vs)⟩ (.lst ds) (.ref p) :=
  ⟨p, vs, rfl, upd_same, so.fresh hp, (Stab.new so hp).datL dl⟩
theorem bin_ok {op : Operator} {x y z : D} (h : binF op x y = some z) : BinOk X fa (binaryOp op) x y z := by
  unfold binF at h
  split at h
  case h_1 i j =>
    cases h
    exact ⟨_, op_add, fun v w B S H Q so d1 d2 k => ⟨i, j, d1, d2, k _ H so Stab.refl rfl⟩⟩
  case h_2 i j =>
    cases h
    exact ⟨_, op_sub, fun v w B S H Q so d1 d2 k => ⟨i, j, d1, d2, k _ H so Stab.refl rfl⟩⟩
  case h_3 i j =>
    split at h
    · rename_i hc
      cases h
      exact ⟨_, op_mulA, fun v w B S H Q so d1 d2 k => ⟨i, j, d1, d2, hc, k _ H so Stab.refl rfl⟩⟩
    · cases h
  case h_4 i j =>
    split at h
    · rename_i hc
      cases h
      exact ⟨_, op_fdivA, fun v w B S H Q so d1 d2 k => ⟨i, j, d1, d2, hc, k _ H so Stab.refl rfl⟩⟩
    · cases h
  case h_5 i j =>
    split at h
    · cases h
    · rename_i hc
      cases h
      exact ⟨_, op_modN, fun v w B S H Q so d1 d2 k => ⟨i, j, d1, d2, hc, k _ H so Stab.refl rfl⟩⟩
  case h_6 i j =>
    split at h
    · rename_i hc
      cases h
      exact ⟨_, op_powA, fun v w B S H Q so d1 d2 k => ⟨i, j, d1, d2, hc, k _ H so Stab.refl rfl⟩⟩
    · cases h
  case h_7 i j =>
    split at h
    · rename_i hc
      cases h
      exact ⟨_, op_add_str, fun v w B S H Q so d1 d2 k => ⟨i, j, d1, d2, lim_le hc, k _ H so Stab.refl rfl⟩⟩
    · cases h
  case h_8 xs ys =>
    split at h
    · rename_i hc
      cases h
      refine ⟨_, op_catA, fun v w B S H Q so d1 d2 k => ?_⟩
      obtain ⟨a, vs, rfl, t1, l1⟩ := d1
      obtain ⟨b, ws, rfl, t2, l2⟩ := d2
      refine ⟨a, b, vs, ws, rfl, rfl, t1, t2, by rw [l1.len, l2.len]; exact lim_le hc, fun e => ?_, fun _ e => ?_, fun _ _ p hp => ?_⟩
      · refine k _ H so Stab.refl ⟨b, ws, rfl, t2, ?_⟩
        have := l1.app l2
        rw [e, List.nil_append] at this
        exact this
      · refine k _ H so Stab.refl ⟨a, vs, rfl, t1, ?_⟩
        have := l1.app l2
        rw [e, List.append_nil] at this
        exact this
      · exact k _ _ (so.new hp) (Stab.new so hp) (new_tup so hp (l1.app l2))
    · cases h
  case h_9 xs ys =>
    split at h
    · rename_i hc
      cases h
      refine ⟨_, op_cat, fun v w B S H Q so d1 d2 k => ?_⟩
      obtain ⟨a, vs, rfl, t1, n1, l1⟩ := d1
      obtain ⟨b, ws, rfl, t2, n2, l2⟩ := d2
      exact ⟨a, b, vs, ws, rfl, rfl, t1, t2, by rw [l1.len, l2.len]; exact lim_le hc, fun p hp => k _ _ (so.new hp) (Stab.new so hp) (new_lst so hp (l1.app l2))⟩
    · cases h
  case h_10 xs n =>
    split at h
    · rename_i hc
      cases h
      refine ⟨_, op_rep, fun v w B S H Q so d1 d2 k => ?_⟩
      obtain ⟨a, vs, rfl, t1, n1, l1⟩ := d1
      exact ⟨a, n, vs, rfl, d2, t1, by omega, by omega, by rw [l1.len]; exact lim_le hc.2.2, fun p hp => k _ _ (so.new hp) (Stab.new so hp) (new_lst so hp (l1.rep _))⟩
    · cases h
  case h_11 x n =>
    split at h
    · rename_i hc
      cases h
      exact ⟨_, op_mulS, fun v w B S H Q so d1 d2 k => ⟨x, n, d1, d2, hc.1, hc.2.1, hc.2.2, k _ H so Stab.refl rfl⟩⟩
    · cases h
  case h_12 xs n =>
    split at h
    · rename_i hc
      cases h
      refine ⟨_, op_repA, fun v w B S H Q so d1 d2 k => ?_⟩
      have d0 := d1
      obtain ⟨a, vs, rfl, t1, l1⟩ := d1
      refine ⟨a, n, vs, rfl, d2, t1, fun e => ?_, hc.1, hc.2.1, by rw [l1.len]; exact hc.2.2.2, fun e1 => k _ H so Stab.refl ?_, fun _ p hp => k _ _ (so.new hp) (Stab.new so hp) (new_tup so hp (l1.rep _))⟩
      rotate_left
      · subst e1
        rw [show (List.replicate (1 : Int).toNat xs).flatten = xs from List.append_nil xs]
        exact d0
      have := l1.len
      rw [e, List.length_nil] at this
      omega
    · cases h
  case h_13 => cases h
end
end Fw

/-! What the evaluator's answers are worth: comparisons, truth, items, slices, built-in calls. -/
namespace Fw
open PySem PySem.Spec PyProof.Rows L2
section
variable {X : Cx} {fa : Ad}
/-- what a comparison's answer is worth -/
def CmpOk (X : Cx) (fa : Ad) (f : Value → Value → Sem Value) (x y : A) (b : Bool) : Prop := ∃ r : R2, OpR X f r ∧
  ∀ v w B S H (Q : VK), StoreOk (gx X fa) ⟨B, S, H⟩ → DatA (gx X fa) ⟨B, S, H⟩ x v → DatA (gx X fa) ⟨B, S, H⟩ y w → Q (.bl b) H → r v w H Q
theorem any_eqv : ∀ {bs : List Str} {a : Str}, (bs.map V.str).any (fun y => eqV y (.str a)) = bs.any fun z => z == a
  | [], _ => rfl
  | b :: bs, a => by
    rw [List.map_cons, List.any_cons, List.any_cons, any_eqv]
    rfl
theorem flat_strs : ∀ bs : List Str, (bs.map V.str).all flatV = true
  | [] => rfl
  | b :: bs => by
    rw [List.map_cons, List.all_cons, flat_strs bs]
    rfl
theorem any_eqvN (bs : List Str) : ((bs.map V.str).any fun y => eqV y .non) = false := by
  rw [List.any_eq_false]
  intro y hy
  obtain ⟨z, _, rfl⟩ := List.mem_map.mp hy
  rw [show eqV (V.str z) .non = false from rfl]
  decide
theorem any_eqvI : ∀ {bs : List Int} {a : Int}, (bs.map V.int).any (fun y => eqV y (.int a)) = bs.any fun z => z == a
  | [], _ => rfl
  | b :: bs, a => by
    rw [List.map_cons, List.any_cons, List.any_cons, any_eqvI]
    rfl
theorem flat_ints : ∀ bs : List Int, (bs.map V.int).all flatV = true
  | [] => rfl
  | b :: bs => by
    rw [List.map_cons, List.all_cons, flat_ints bs]
    rfl
theorem sign_eq {i : Str} {c : Nat} (h : i.cps.toList = [c]) : i = ⟨#[c]⟩ := by
  obtain ⟨a⟩ := i
  have : a = #[c] := by
    have h' : a.toList = (#[c] : Array Nat).toList := h
    exact Array.toList_inj.mp h'
  rw [this]
theorem cmpF_ok {op : CmpOp} {x y : D} {b : Bool} {k : Nat} (hr : Room k X.A) (h : cmpF op x y = some b) : CmpOk X fa (compareOp op) (.p x) (.p y) b := by
  have hu : X.A.units + 65 < cLine := by have := hr.un; omega
  unfold cmpF at h
  split at h
  case h_1 x y =>
    unfold eqF at h
    split at h
    · rename_i a c ha hc
      split at h
      · rename_i hs
        cases h
        rw [Bool.and_eq_true] at hs
        exact ⟨_, op_eqD (by omega), fun v w B S H Q so d1 d2 q => ⟨a, c, Dat.dp _ v a ha d1, Dat.dp _ w c hc d2, hs.1, hs.2, q⟩⟩
      · cases h
    · cases h
  case h_2 x y =>
    unfold eqF at h
    split at h
    · rename_i a c ha hc
      split at h
      · rename_i hs
        cases h
        rw [Bool.and_eq_true] at hs
        exact ⟨_, op_neD (by omega), fun v w B S H Q so d1 d2 q => ⟨a, c, Dat.dp _ v a ha d1, Dat.dp _ w c hc d2, hs.1, hs.2, q⟩⟩
      · cases h
    · cases h
  case h_3 i j => cases h; exact ⟨_, op_lt, fun v w B S H Q so d1 d2 q => ⟨i, j, d1, d2, q⟩⟩
  case h_4 i j => cases h; exact ⟨_, op_le, fun v w B S H Q so d1 d2 q => ⟨i, j, d1, d2, q⟩⟩
  case h_5 i j => cases h; exact ⟨_, op_gt, fun v w B S H Q so d1 d2 q => ⟨i, j, d1, d2, q⟩⟩
  case h_6 i j => cases h; exact ⟨_, op_ge, fun v w B S H Q so d1 d2 q => ⟨i, j, d1, d2, q⟩⟩
  case h_7 i j => cases h; exact ⟨_, op_lt_str, fun v w B S H Q so d1 d2 q => ⟨i, j, d1, d2, q⟩⟩
  case h_8 i j => cases h; exact ⟨_, op_le_str, fun v w B S H Q so d1 d2 q => ⟨i, j, d1, d2, q⟩⟩
  case h_9 i j => cases h; exact ⟨_, op_gt_str, fun v w B S H Q so d1 d2 q => ⟨i, j, d1, d2, q⟩⟩
  case h_10 i j => cases h; exact ⟨_, op_ge_str, fun v w B S H Q so d1 d2 q => ⟨i, j, d1, d2, q⟩⟩
  case h_11 i j =>
    unfold cmpF.signIn at h
    split at h
    · rename_i c hc
      cases h
      exact ⟨_, op_in_sign, fun v w B S H Q so d1 d2 q => ⟨c, j, by rw [show v = V.str i from d1, sign_eq hc], d2, q⟩⟩
    · cases h
  case h_12 i j =>
    unfold cmpF.signIn at h
    split at h
    · rename_i c hc
      cases h
      exact ⟨_, op_notIn_sign, fun v w B S H Q so d1 d2 q => ⟨c, j, by rw [show v = V.str i from d1, sign_eq hc], d2, q⟩⟩
    · cases h
  case h_13 x ds _ =>
    unfold cmpF.inF at h
    split at h
    · rename_i a bs ha hb
      split at h
      · rename_i hs
        cases h
        rw [Bool.and_eq_true] at hs
        refine ⟨_, op_inD hu, fun v w B S H Q so d1 d2 q => ⟨a, bs, Dat.dp _ v a ha d1, Dat.dp (.lst _) w (.list bs) (by simp only [D.py, hb, Option.map_some]) d2, hs.1, hs.2, q⟩⟩
      · cases h
    · cases h
  case h_14 x ds _ =>
    unfold cmpF.inF at h
    split at h
    · rename_i a bs ha hb
      split at h
      · rename_i hs
        cases h
        rw [Bool.and_eq_true] at hs
        refine ⟨_, op_notInD hu, fun v w B S H Q so d1 d2 q => ⟨a, bs, Dat.dp _ v a ha d1, Dat.dp (.lst _) w (.list bs) (by simp only [D.py, hb, Option.map_some]) d2, hs.1, hs.2, q⟩⟩
      · cases h
    · cases h
  case h_15 _ x ds =>
    unfold cmpF.inFT at h
    split at h
    · rename_i a
      cases ha : D.strs ds with
      | none => rw [ha] at h; cases h
      | some bs =>
        rw [ha] at h
        cases h
        refine ⟨_, op_in_seq, fun v w B S H Q so d1 d2 q => ?_⟩
        obtain ⟨p, vs, rfl, t, l⟩ := d2
        have e := l.strs ha
        subst e
        refine ⟨p, _, rfl, .inr t, by rw [show v = V.str a from d1]; rfl, flat_strs bs, ?_⟩
        rw [show v = V.str a from d1]
        show Q (.bl ((bs.map V.str).any fun y => eqV y (.str a))) H
        rw [any_eqv]
        exact q
    · rename_i a
      cases ha : D.ints ds with
      | none => rw [ha] at h; cases h
      | some bs =>
        rw [ha] at h
        cases h
        refine ⟨_, op_in_seq, fun v w B S H Q so d1 d2 q => ?_⟩
        obtain ⟨p, vs, rfl, t, l⟩ := d2
        have e := l.ints ha
        subst e
        refine ⟨p, _, rfl, .inr t, by rw [show v = V.int a from d1]; rfl, flat_ints bs, ?_⟩
        rw [show v = V.int a from d1]
        show Q (.bl ((bs.map V.int).any fun y => eqV y (.int a))) H
        rw [any_eqvI]
        exact q
    · cases ha : D.strs ds with
      | none => rw [ha] at h; cases h
      | some bs =>
        rw [ha] at h
        cases h
        refine ⟨_, op_in_seq, fun v w B S H Q so d1 d2 q => ?_⟩
        obtain ⟨p, vs, rfl, t, l⟩ := d2
        have e := l.strs ha
        subst e
        refine ⟨p, _, rfl, .inr t, by rw [show v = V.non from d1]; rfl, flat_strs bs, ?_⟩
        rw [show v = V.non from d1]
        show Q (.bl ((bs.map V.str).any fun y => eqV y .non)) H
        rw [any_eqvN]
        exact q
    · cases h
  case h_16 _ x ds =>
    unfold cmpF.inFT at h
    split at h
    · rename_i a
      cases ha : D.strs ds with
      | none => rw [ha] at h; cases h
      | some bs =>
        rw [ha] at h
        cases h
        refine ⟨_, op_notIn_seq, fun v w B S H Q so d1 d2 q => ?_⟩
        obtain ⟨p, vs, rfl, t, l⟩ := d2
        have e := l.strs ha
        subst e
        refine ⟨p, _, rfl, .inr t, by rw [show v = V.str a from d1]; rfl, flat_strs bs, ?_⟩
        rw [show v = V.str a from d1]
        show Q (.bl (!(bs.map V.str).any fun y => eqV y (.str a))) H
        rw [any_eqv]
        exact q
    · rename_i a
      cases ha : D.ints ds with
      | none => rw [ha] at h; cases h
      | some bs =>
        rw [ha] at h
        cases h
        refine ⟨_, op_notIn_seq, fun v w B S H Q so d1 d2 q => ?_⟩
        obtain ⟨p, vs, rfl, t, l⟩ := d2
        have e := l.ints ha
        subst e
        refine ⟨p, _, rfl, .inr t, by rw [show v = V.int a from d1]; rfl, flat_ints bs, ?_⟩
        rw [show v = V.int a from d1]
        show Q (.bl (!(bs.map V.int).any fun y => eqV y (.int a))) H
        rw [any_eqvI]
        exact q
    · cases ha : D.strs ds with
      | none => rw [ha] at h; cases h
      | some bs =>
        rw [ha] at h
        cases h
        refine ⟨_, op_notIn_seq, fun v w B S H Q so d1 d2 q => ?_⟩
        obtain ⟨p, vs, rfl, t, l⟩ := d2
        have e := l.strs ha
        subst e
        refine ⟨p, _, rfl, .inr t, by rw [show v = V.non from d1]; rfl, flat_strs bs, ?_⟩
        rw [show v = V.non from d1]
        show Q (.bl (!(bs.map V.str).any fun y => eqV y .non)) H
        rw [any_eqvN]
        exact q
    · cases h
  case h_17 => cases h
theorem isF_ok {g : G} {z : Z} {x : A} {v : V} (h : DatA g z x v) : decide (v = V.non) = isF x := by
  cases x with
  | m i =>
    obtain ⟨a, _, rfl, _⟩ := h
    rfl
  | p d =>
    cases d with
    | non => rw [show v = V.non from h]; rfl
    | bl b => rw [show v = V.bl b from h]; rfl
    | int b => rw [show v = V.int b from h]; rfl
    | str b => rw [show v = V.str b from h]; rfl
    | tup ds => obtain ⟨a, vs, rfl, _⟩ := h; rfl
    | lst ds => obtain ⟨a, vs, rfl, _⟩ := h; rfl
    | scr ds => obtain ⟨a, rfl, _⟩ := h; rfl
    | fn b => rw [show v = V.ref _ from h]; rfl
    | ty b => rw [show v = V.ty _ from h]; rfl
    | kl b => rw [show v = V.ref _ from h]; rfl
    | ins c ns ds => obtain ⟨a, dx, vs, rfl, _⟩ := h; rfl
    | dct ks vs => obtain ⟨a, ep, hs, ws, rfl, _⟩ := h; rfl
    | exv c ns ds => obtain ⟨a, dx, vs, rfl, _⟩ := h; rfl
    | dks ks vs => obtain ⟨a, ws, rfl, _⟩ := h; rfl
theorem cmp_ok {op : CmpOp} {x y : A} {b : Bool} {k : Nat} (hr : Room k X.A) (h : cmpA op x y = some b) : CmpOk X fa (compareOp op) x y b := by
  unfold cmpA at h
  split at h
  · cases h
    exact ⟨_, op_isN, fun v w B S H Q so d1 d2 q => ⟨d2, by rw [isF_ok d1]; exact q⟩⟩
  · cases h
    exact ⟨_, op_notN, fun v w B S H Q so d1 d2 q => ⟨d2, by rw [isF_ok d1]; exact q⟩⟩
  · exact cmpF_ok hr h
  · cases h
theorem tru_dat {B : Bk} {S : Store} {H : Hp} {d : D} {v : V} {b : Bool} (h : truF d = some b) (dv : Dat (gx X fa) ⟨B, S, H⟩ d v) : TruV X.K v H b := by
  cases d with
  | non => cases h; rw [show v = V.non from dv]; rfl
  | bl c => cases h; rw [show v = V.bl _ from dv]; rfl
  | int i => cases h; rw [show v = V.int i from dv]; rfl
  | str x =>
    rw [show v = V.str x from dv]
    unfold truF at h
    dsimp only at h
    split at h
    · rename_i hl
      cases h
      exact ⟨lim_le hl, rfl⟩
    · cases h
  | tup ds =>
    cases h
    obtain ⟨a, vs, rfl, t, l⟩ := dv
    refine .inr (.inl ⟨vs, t, ?_⟩)
    have := l.len
    cases ds <;> cases vs <;> first | rfl | (simp at this)
  | lst ds =>
    cases h
    obtain ⟨a, vs, rfl, t, _, l⟩ := dv
    refine .inl ⟨vs, SqL.of t, ?_⟩
    have := l.len
    cases ds <;> cases vs <;> first | rfl | (simp at this)
  | scr _ => cases h
  | fn _ => cases h
  | ty _ => cases h
  | kl _ => cases h
  | ins _ _ _ => cases h
  | dct _ _ => cases h
  | exv _ _ _ => cases h
  | dks _ _ => cases h

/-- an item -/
def SubOk (X : Cx) (fa : Ad) (S : Store) (x y z : A) : Prop := ∃ r : R2, IxR X r ∧
  ∀ v w B H (Q : VK), StoreOk (gx X fa) ⟨B, S, H⟩ → DatA (gx X fa) ⟨B, S, H⟩ x v → DatA (gx X fa) ⟨B, S, H⟩ y w → (∀ u, DatA (gx X fa) ⟨B, S, H⟩ z u → Q u H) → r v w H Q
theorem sub_ok {S : Store} {x y z : A} (h : subF x y S = some z) : SubOk X fa S x y z := by
  unfold subF at h
  split at h
  · rename_i ds i
    cases q : atI ds i with
    | none => rw [q] at h; cases h
    | some d =>
      rw [q] at h
      cases h
      refine ⟨_, ix_list, fun v w B H Q so d1 d2 k => ?_⟩
      obtain ⟨p, vs, rfl, t, _, l⟩ := d1
      obtain ⟨u, e, du⟩ := l.at q
      exact ⟨p, vs, i, u, rfl, d2, SqL.of t, e, k u du⟩
  · rename_i ds i
    cases q : atI ds i with
    | none => rw [q] at h; cases h
    | some d =>
      rw [q] at h
      cases h
      refine ⟨_, ix_tup, fun v w B H Q so d1 d2 k => ?_⟩
      obtain ⟨p, vs, rfl, t, l⟩ := d1
      obtain ⟨u, e, du⟩ := l.at q
      exact ⟨p, vs, i, u, rfl, d2, t, e, k u du⟩
  · rename_i s i
    split at h
    · rename_i hl
      cases q : atI s.cps.toList i with
      | none => rw [q] at h; cases h
      | some c =>
        rw [q] at h
        cases h
        exact ⟨_, ix_str, fun v w B H Q so d1 d2 k => ⟨s, i, c, d1, d2, lim_le hl, q, k _ rfl⟩⟩
    · cases h
  · rename_i j i
    split at h
    · rename_i xs hs
      cases q : atI xs i with
      | none => rw [q] at h; cases h
      | some d =>
        rw [q] at h
        cases h
        refine ⟨_, ix_list, fun v w B H Q so d1 d2 k => ?_⟩
        obtain ⟨a, hb, rfl, _⟩ := d1
        obtain ⟨vs, e, l⟩ := so.ob j a xs hb hs
        obtain ⟨u, e2, du⟩ := l.at q
        exact ⟨a, vs, i, u, rfl, d2, SqL.of e, e2, k u du⟩
    · cases h
  · cases h
/-- a slice -/
def SlcOk (X : Cx) (fa : Ad) (x : D) (lo hi : Option Int) (z : D) : Prop := ∃ r, SlR X r ∧
  ∀ v B S H (Q : VK), StoreOk (gx X fa) ⟨B, S, H⟩ → Dat (gx X fa) ⟨B, S, H⟩ x v →
    (∀ u H', StoreOk (gx X fa) ⟨B, S, H'⟩ → Stab (gx X fa) ⟨B, S, H⟩ ⟨B, S, H'⟩ → Dat (gx X fa) ⟨B, S, H'⟩ z u → Q u H') → r v lo hi H Q
theorem slc_ok {x z : D} {lo hi : Option Int} (h : slcF x lo hi = some z) : SlcOk X fa x lo hi z := by
  unfold slcF at h
  split at h
  · rename_i ds
    cases h
    refine ⟨_, sl_list, fun v B S H Q so d k => ?_⟩
    obtain ⟨a, vs, rfl, t, _, l⟩ := d
    exact ⟨a, vs, rfl, SqL.of t, fun p hp => k _ _ (so.new hp) (Stab.new so hp) (new_lst so hp (l.cut lo hi))⟩
  · rename_i ns
    cases h
    refine ⟨_, sl_list, fun v B S H Q so d k => ?_⟩
    obtain ⟨a, rfl, t⟩ := d
    refine ⟨a, ns.map V.int, rfl, ?_, fun p hp => k _ _ (so.new hp) (Stab.new so hp) (new_lst so hp ((DatL.ofInts ns).cut lo hi))⟩
    rcases t with ⟨o, t⟩ | t | ⟨t, _⟩
    · exact .inl (.inr ⟨o, t⟩)
    · exact .inr t
    · exact SqL.of t
  · rename_i ds
    cases h
    refine ⟨_, sl_tupA, fun v B S H Q so d k => ?_⟩
    obtain ⟨a, vs, rfl, t, l⟩ := d
    refine ⟨a, vs, rfl, t, fun e => k _ _ so Stab.refl ⟨a, vs, rfl, t, ?_⟩, fun _ p hp => k _ _ (so.new hp) (Stab.new so hp) (new_tup so hp (l.cut lo hi))⟩
    have c := l.cut lo hi
    have ec : cutV vs lo hi = vs := by
      unfold cutV
      rw [e.1, e.2, List.drop_zero, Nat.sub_zero, List.take_length]
    rw [ec] at c
    exact c
  · rename_i s
    split at h
    · rename_i hl
      cases h
      exact ⟨_, sl_str, fun v B S H Q so d k => ⟨s, d, lim_le hl, k _ _ so Stab.refl rfl⟩⟩
    · cases h
  · cases h
end
end Fw

/-! list(x) of a text. -/
namespace Fw
open PySem PySem.Spec PyProof.Rows L2
section
variable {prog : Program} {w : World} {A : Around} {E : Value → Shared → Prop} {s : Shared}
theorem extend_str {R : Result → Shared → Prop} (hh : A.handled = none) (x : Str) (t : Tok) (S : Addr) (res : Value) (c0 : Nat) (hS : s.heap.get? S = some { cls := .type "list", data := .seq #[] c0 })
    (hR : ∀ h' tk acc c, (∀ b o, b ≠ S → s.heap.get? b = some o → h'.get? b = some o) → h'.get? S = some { cls := .type "list", dict := none, data := .seq acc c, slots := #[] } → ItemsOf (SignAt x) acc x.cps.size → R (.ok (.ret res)) { s with heap := h', toks := tk }) (hn : x.cps.size ≤ sizeLine) :
    wpAny (model prog w) A.in1 (Builtin.List.listExtendWith (.ref S) (.str x t) res)
      (fun fin s' => match fin with | .done f => R (.ok f) s' | .again c' => c'.quiet = true ∧ codeAny (model prog w) A c' R s') (fun e s' => R (.error e) s') s := by
  have hSf : S ∉ [s.heap.objs.size] := fun hm => Nat.ne_of_lt (Heap.lt_size hS) (List.mem_singleton.mp hm)
  unfold Builtin.List.listExtendWith
  refine wpAny_bind (wpAny_typeOf (T := "str") (v := .str x t) rfl ?_)
  have e1 : Builtin.List.listSameRef (.ref S) (.str x t) = false := rfl
  have e2 : (Value.type "str" == Value.type "list") = false := by decide
  have e3 : (Value.type "str" == Value.type "tuple") = false := by decide
  simp only [e1, e2, e3, Bool.or_false, Bool.false_eq_true, if_false]
  refine wpAny_bind (wpAny_pyIter_str fun o St W hst => ?_)
  refine wpAny_bind (wpAny_holding ?_)
  unfold Builtin.List.listLengthHint
  refine wpAny_bind (wpAny_specialOf (T := "str") (v := .str x t) rfl F.str_len ?_)
  wp_delta
  refine wpAny_bind (wpAny_isInstance (T := "str") (v := .str x t) (b := true) rfl (by rw [isSubtype_type]; kernel_rfl) ?_)
  refine wpAny_bind (wpAny_typeOf (T := "str") (v := .str x t) rfl ?_)
  refine wpAny_pure ?_
  rw [if_neg (by decide)]
  refine wpAny_pure ⟨plainId_quiet F.plain_extend_loop _, codeAny_extend_loopS (W A.in1 hh).toS hn _ hSf _ x.cps.size 0 _ _ _ rfl (Nat.zero_le _) hst (Heap.get?_push_of_some _ hS) (ItemsOf.nil _) fun s' acc c hm hS' hacc => ?_⟩
  rw [Moved.eq_with hm]
  refine hR s'.heap s'.toks acc c (fun b ob hb e => hm.heap b ob (fun hmem => ?_) (Heap.get?_push_of_some _ e)) hS' hacc
  rcases List.mem_cons.mp hmem with e' | hmem
  · exact hb e'
  · exact absurd (Heap.lt_size e) (by rw [List.mem_singleton.mp hmem]; exact Nat.lt_irrefl _)
theorem init_str {R : Result → Shared → Prop} (hh : A.handled = none) (x : Str) (t : Tok) (S : Addr) (hS : s.heap.get? S = some { cls := .type "list", data := .seq #[] })
    (hR : ∀ h' tk acc c, (∀ b o, b ≠ S → s.heap.get? b = some o → h'.get? b = some o) → h'.get? S = some { cls := .type "list", dict := none, data := .seq acc c, slots := #[] } → ItemsOf (SignAt x) acc x.cps.size → R (.ok (.ret .none)) { s with heap := h', toks := tk }) (hn : x.cps.size ≤ sizeLine) :
    wpAny (model prog w) A.in1 (Builtin.«list.__init__» ⟨[.ref S, .str x t], []⟩)
      (fun fin s' => match fin with | .done f => R (.ok f) s' | .again c' => c'.quiet = true ∧ codeAny (model prog w) A c' R s') (fun e s' => R (.error e) s') s := by
  show wpAny _ _ (do let old ← Builtin.List.listItems (.ref S); Builtin.List.listUpdate (.ref S) (fun _ => #[]); letGo old.toList.reverse; Builtin.List.listExtendWith (.ref S) (.str x t) .none) _ _ s
  refine wpAny_bind ?_
  unfold Builtin.List.listItems
  refine wpAny_bind (wpAny_seqItems hS rfl (wpAny_pure ?_))
  show wpAny _ _ (updateSeq S (fun _ => #[]) >>= fun _ => letGo (#[] : Array Value).toList.reverse >>= fun _ => Builtin.List.listExtendWith (.ref S) (.str x t) .none) _ _ s
  refine wpAny_bind (wpAny_updateSeq hS rfl ?_)
  have hS2 := Heap.get?_update_self (Obj.mapSeq (fun _ => (#[] : Array Value))) hS rfl
  have oth : ∀ b o, b ≠ S → s.heap.get? b = some o → (s.heap.update S (Obj.mapSeq (fun _ => (#[] : Array Value)))).get? b = some o := fun b o hb e => (Heap.get?_update_other _ _ (Ne.symm hb)).trans e
  refine wpAny_bind (wpAny_letGo ?_)
  exact extend_str hh x t S .none _ hS2 (fun h' tk acc c hk hS' hacc => hR h' tk acc c (fun b o hb e => hk b o hb (oth b o hb e)) hS' hacc) hn
theorem list_str {x : Str} {t : Tok} {Q : Value → Shared → Prop} (hh : A.handled = none) (hn : x.cps.size ≤ sizeLine)
    (hQ : ∀ h' tk acc c, (∀ b o, s.heap.get? b = some o → h'.get? b = some o) → h'.get? s.heap.objs.size = some { cls := .type "list", dict := none, data := .seq acc c, slots := #[] } → ItemsOf (SignAt x) acc x.cps.size → Q (.ref s.heap.objs.size) { s with heap := h', toks := tk }) :
    wpAny (model prog w) A (call (.type "list") [.str x t]) Q E s := by
  refine callType_codes (Q₁ := fun obj s1 => obj = .ref s.heap.objs.size ∧ s1 = { s with heap := s.heap.push { cls := .type "list", data := .seq #[] } }) PySem.F.called_list (PySem.F.typeCall_list_1 _) PySem.F.entry_list_init (code_list_new _ ⟨rfl, rfl⟩) fun obj s1 h1 => ?_
  obtain ⟨rfl, rfl⟩ := h1
  have hS : (s.heap.push { cls := .type "list", data := .seq #[] }).get? s.heap.objs.size = some { cls := .type "list", data := .seq #[] } := Heap.get?_push_size _ rfl
  refine ⟨⟨_, hS, rfl⟩, PySem.F.args_list_init_2 _ _, init_str (A := A.in1) hh x t _ hS (fun h' tk acc c hk hS' hacc => ?_) hn⟩
  exact ⟨rfl, hQ h' tk acc c (fun b o e => hk b o (Nat.ne_of_lt (Heap.lt_size e)) (Heap.get?_push_of_some _ e)) hS' hacc⟩
end
def charsV (x : Str) : List V := x.cps.toList.map fun c => V.str ⟨#[c]⟩
theorem call_list_s {X : Cx} (hc : X.calm = true) : CallR X (.type "list") (fun xs H Q => ∃ x, xs = [.str x] ∧ x.cps.size ≤ sizeLine ∧ ∀ q, H q = none → Q (.ref q) (upd H q (.lst (charsV x)))) := by
  intro pins s σ H xs us Q I r h
  obtain ⟨x, rfl, hz, q⟩ := h
  obtain ⟨u, rfl, t, rfl⟩ := vals1 r
  refine list_str (I.ok.hd hc) hz fun h' tk acc c hk e hi => ?_
  have hlen : (charsV x).length = x.cps.size := by
    unfold charsV
    rw [List.length_map, Array.length_toList]
  refine ⟨.ref s.heap.objs.size, upd H s.heap.objs.size (.lst (charsV x)), I.laid hk (Nat.le_refl _) ⟨by rw [hlen]; exact hz, acc.toList, c, ?_, by rw [Array.toArray_toList]; exact e⟩, rfl, q _ (I.hok.fresh (Nat.le_refl _))⟩
  refine vals_of_idx _ _ (by rw [hlen, Array.length_toList]; exact hi.1) fun j u hj => ?_
  obtain ⟨c, t', hc, rfl⟩ := hi.2 j u (by rw [← Array.getElem?_toList]; exact hj)
  exact ⟨.str ⟨#[c]⟩, by unfold charsV; rw [List.getElem?_map, Array.getElem?_toList, hc]; rfl, ⟨_, rfl⟩⟩
end Fw

/-! sorted. -/
namespace Fw
open PySem PySem.Spec PyProof.Rows L2
section
open PySem.Calls PySem.W
variable {prog : Program} {w : World} {A : Around} {E : Value → Shared → Prop} {s : Shared}
/-- the items of a tuple, collected -/
theorem collect_tup {l : Addr} {o : Obj} {vs : List Value} {n : Nat} {Q : List Value → Shared → Prop} (ho : s.heap.get? l = some o) (hc : o.cls = .type "tuple") (hd : o.data = .seq vs.toArray n)
    (h : Q vs { s with heap := (s.heap.push (seqObj "list" #[] 0)).update s.heap.objs.size (Obj.mapSeq (· ++ vs.toArray)) }) (hsz : vs.length ≤ sizeLine) :
    wpAny (model prog w) A (collect (.ref l)) Q E s := by
  unfold collect
  refine wpAny_bind (wpAny_runValue (codeAny_builtin entry_proto_collect' ?_))
  show wpAny _ _ (do again (.builtin "list.__iadd__" ⟨[← newList [], .ref l], []⟩)) _ _ s
  refine wpAny_bind (wpAny_newList (wpAny_pure ⟨Code.quiet_builtin _ (by decide +kernel), codeAny_builtin entry_list_iadd' ?_⟩))
  show wpAny _ _ (Builtin.List.listExtendWith (.ref s.heap.objs.size) (.ref l) (.ref s.heap.objs.size)) _ _ { s with heap := s.heap.push (seqObj "list" #[] 0) }
  unfold Builtin.List.listExtendWith
  have ho' : (s.heap.push (seqObj "list" #[] 0)).get? l = some o := Heap.get?_push_of_some _ ho
  refine wpAny_bind (wpAny_typeOf (T := "tuple") ⟨o, ho', hc⟩ ?_)
  have ht : (Value.type "tuple" == Value.type "tuple") = true := by rfl
  rw [if_pos (by rw [ht]; simp)]
  refine wpAny_bind (listItems_at ho' hd ?_)
  refine wpAny_bind (listItems_at (xs := #[]) (n := 0) (Heap.get?_push_size _ rfl) rfl ?_)
  rw [if_neg (by simp)]
  refine wpAny_bind (listUpdate_at (xs := #[]) (n := 0) (Heap.get?_push_size _ rfl) rfl ?_ (Nat.zero_le _) (by show (#[] ++ vs.toArray).size ≤ sizeLine + 1; simp only [Array.size_append, List.size_toArray, List.length_nil]; omega))
  refine wpAny_pure ?_
  show wpAny (model prog w) A (do
      let o ← load s.heap.objs.size
      match o.data with
      | .seq xs _ => pure xs.toList
      | _ => unsupported "internal:collect") Q E { s with heap := (s.heap.push (seqObj "list" #[] 0)).update s.heap.objs.size (Obj.mapSeq (· ++ vs.toArray)) }
  refine wpAny_bind (wpAny_load (get?_update_seq (Heap.get?_push_size _ rfl) _) ?_)
  show wpAny _ _ (pure ((#[] : Array Value) ++ vs.toArray).toList) Q E _
  rw [show ((#[] : Array Value) ++ vs.toArray).toList = vs by simp]
  exact wpAny_pure h
/-- sorted of what can be collected -/
theorem sorted_it {β : Type} {v : Value} {vs : List Value} {bs : List β} {enc : β → PyData} {R : Value → β → Prop} {Q : Value → Shared → Prop}
    (hcol : ∀ (A' : Around) (E' : Value → Shared → Prop) (Q' : List Value → Shared → Prop), Q' vs { s with heap := (s.heap.push (seqObj "list" #[] 0)).update s.heap.objs.size (Obj.mapSeq (· ++ vs.toArray)) } → wpAny (model prog w) A' (collect v) Q' E' s)
    (e : PySem.W.EachIs R vs bs) (er : PySem.W.EachIs (fun v b => ∃ as, Reads s.heap v (enc b) as) vs bs) (hal : PySem.W.AllAlike (bs.map enc)) (hk : PySem.W.Sortable (bs.map enc)) (hL : bs.length ≤ sizeLine)
    (hu : ∀ b, b ∈ bs → A.units + 2 + (enc b).depth < cLine) (h : ∀ out, out.length = bs.length → PySem.W.EachIs R out (bs.mergeSort (PySem.W.dataLe false enc)) → Q (.ref (s.heap.objs.size + 1)) { s with heap := sortedAll s.heap vs (List.toArray out) }) :
    wpAny (model prog w) A (call (.builtin "sorted") [v]) Q E s := by
  have hL' : vs.length ≤ sizeLine := by rw [e.length]; exact hL
  have er' : PySem.W.EachIs (fun v b => ∃ as, Reads (PySem.W.sortingHeap (PySem.W.copyHeap s.heap vs) (s.heap.objs.size + 1) vs) v (enc b) as) vs bs := er.mono fun _ _ ⟨as, r⟩ => ⟨as, PyProof.Rows.Reads.keeps (fun _ _ => PySem.W.sorting_copy_old) r⟩
  have S := PySem.W.SortsAt.data (prog := prog) (w := w) (A := A.in1.in1) (s := { s with heap := PySem.W.sortingHeap (PySem.W.copyHeap s.heap vs) (s.heap.objs.size + 1) vs }) (PySem.W.each_map (R := fun v d => ∃ as, Reads (PySem.W.sortingHeap (PySem.W.copyHeap s.heap vs) (s.heap.objs.size + 1) vs) v d as) enc er') hal hk (PySem.W.bound_map hu)
  have hh := h _ (by rw [PySem.W.sortVals_length false rfl]; exact e.length) (PySem.W.sortVals_data false e er' hal)
  refine call_function_entry_kw kind_sorted plain_sorted entry_sorted (args_sorted1 _) ?_
  unfold Builtin.«sorted»
  refine wpAny_bind (m := checkCount "sorted" 1 1 _) (wpAny_pure ?_)
  refine wpAny_bind (hcol _ _ _ ?_)
  refine wpAny_bind (wpAny_newList ?_ hL')
  have hsz : ((s.heap.push (seqObj "list" #[] 0)).update s.heap.objs.size (Obj.mapSeq (· ++ vs.toArray))).objs.size = s.heap.objs.size + 1 := by
    rw [Heap.size_update, size_push']
  show wpAny _ _ _ _ _ { s with heap := PySem.W.copyHeap s.heap vs }
  rw [hsz]
  refine wpAny_bind (wpAny_holding (wpAny_call_entry_kw slot_list_sort ⟨_, PySem.W.copyHeap_at s.heap vs, rfl⟩ entry_list_sort ?body (args_list_sort _)))
  case body =>
    show wpAny (model prog w) A.in1.in1 (Builtin.«list.sort» ⟨[.ref (s.heap.objs.size + 1)], []⟩) _ _ _
    refine PySem.W.list_sort_vals (s := { s with heap := PySem.W.copyHeap s.heap vs }) (PySem.W.copyHeap_at s.heap vs) S hL' ?_
    exact ⟨_, rfl, wpAny_pure ⟨_, rfl, hh⟩⟩
end
theorem each_vals : ∀ {bs : List (V × D)} {its : List Value}, Vals (bs.map (·.1)) its → PySem.W.EachIs (fun v b => RelV b.1 v) its bs
  | [], _, .nil => .nil
  | _ :: _, _, .cons r t => .cons r (each_vals t)
theorem vals_each : ∀ {bs : List (V × D)} {its : List Value}, PySem.W.EachIs (fun v b => RelV b.1 v) its bs → Vals (bs.map (·.1)) its
  | [], _, .nil => .nil
  | _ :: _, _, .cons r t => .cons r (vals_each t)
/-- what is sorted -/
structure SortH (K : PySem.W.Frag) (H : Hp) (bs : List (V × D)) : Prop where
  dp : ∀ b ∈ bs, Dp K H b.1 b.2.enc
  al : PySem.W.AllAlike (bs.map fun b => b.2.enc)
  so : PySem.W.Sortable (bs.map fun b => b.2.enc)
  ln : bs.length ≤ LIM
  dd : ∀ b ∈ bs, b.2.enc.depth ≤ 60
def rSortD (K : PySem.W.Frag) : List V → Hp → VK → Prop := fun vs H Q => ∃ (a : Addr) (bs : List (V × D)), vs = [V.ref a] ∧ (SqL K H a (bs.map (·.1)) ∨ SqT K H a (bs.map (·.1))) ∧ SortH K H bs ∧
  ∀ (ys : List V) (p : Addr), H p = none → ys = (bs.mergeSort (PySem.W.dataLe false fun b => b.2.enc)).map (·.1) → Q (.ref p) (upd H p (.lst ys))
theorem each_reads {X : Cx} {pins : List (Addr × Obj)} {σ : L2.St} {H : Hp} {s : Shared} (I : Inv X pins σ H s) : ∀ {bs : List (V × D)} {its : List Value}, (∀ b ∈ bs, Dp X.K H b.1 b.2.enc) → Vals (bs.map (·.1)) its → PySem.W.EachIs (fun v b => ∃ as, Reads s.heap v b.2.enc as) its bs
  | [], _, _, .nil => .nil
  | b :: bs, _, h, .cons r t => .cons (Dp.reads I _ _ _ (h b (List.mem_cons_self ..)) r) (each_reads I (fun x hx => h x (List.mem_cons_of_mem _ hx)) t)
theorem cr_sortD {X : Cx} {k : Nat} (hr : Room k X.A) : CallR X (.builtin "sorted") (rSortD X.K) := by
  intro pins s σ H vs us Q I r h
  obtain ⟨a, bs, rfl, hs, sh, q⟩ := h
  have hu : X.A.units + 65 < cLine := by have := hr.un; omega
  have hL : bs.length ≤ sizeLine := Nat.le_trans sh.ln lim_line
  rw [Vals.ref1 r]
  have key : ∀ its : List Value, Vals (bs.map (·.1)) its → (∀ (A' : Around) (E' : Value → Shared → Prop) (Q' : List Value → Shared → Prop), Q' its { s with heap := (s.heap.push (seqObj "list" #[] 0)).update s.heap.objs.size (Obj.mapSeq (· ++ its.toArray)) } → wpAny (model X.prog X.w) A' (collect (.ref a)) Q' E' s) →
      wpAny (model X.prog X.w) X.A (call (.builtin "sorted") [.ref a]) (EP X pins σ Q) X.xe s := fun its rv hcol => by
    refine sorted_it hcol (each_vals rv) (each_reads I sh.dp rv) sh.al sh.so hL (fun b hb => by have := sh.dd b hb; omega) fun out hlen he => ?_
    obtain ⟨ep, he'⟩ := PyProof.Rows.sortedAll_at s.heap its out.toArray
    have rv2 := vals_each he
    have hl2 : ((bs.mergeSort (PySem.W.dataLe false fun b => b.2.enc)).map (·.1)).length ≤ sizeLine := by
      rw [List.length_map, List.length_mergeSort]
      exact hL
    exact ⟨.ref _, upd H (s.heap.objs.size + 1) (.lst ((bs.mergeSort (PySem.W.dataLe false fun b => b.2.enc)).map (·.1))), I.laid (t' := s.toks) (fun _ _ => PyProof.Rows.sortedAll_old) (Nat.le_succ _) ⟨hl2, out, ep, rv2, he'⟩, rfl, q _ _ (I.hok.fresh (Nat.le_succ _)) rfl⟩
  rcases hs with hs | hs
  · obtain ⟨its, rv, hl, hz⟩ := I.list hs
    exact key its rv fun A' E' Q' hq => collect_list hl.isList hq (by rw [← rv.length]; exact hz)
  · obtain ⟨its, rv, ht, hz⟩ := I.tuple hs
    refine key its rv fun A' E' Q' hq => ?_
    obtain ⟨o, h1, h2, n, h3⟩ := ht
    exact collect_tup h1 h2 h3 hq (by rw [← rv.length]; exact hz)
theorem datL_zip {g : G} {z : Z} : ∀ {ds : List D} {ws : List V}, DatL g z ds ws → ∃ bs : List (V × D), bs.map (·.1) = ws ∧ bs.map (·.2) = ds ∧ ∀ b ∈ bs, Dat g z b.2 b.1
  | [], ws, h => ⟨[], by rw [show ws = [] from h]; rfl, rfl, by simp⟩
  | d :: ds, ws, h => by
    obtain ⟨v, r, rfl, h1, h2⟩ := h
    obtain ⟨bs, e1, e2, e3⟩ := datL_zip h2
    refine ⟨(v, d) :: bs, by rw [List.map_cons, e1], by rw [List.map_cons, e2], fun b hb => ?_⟩
    rcases List.mem_cons.mp hb with rfl | hb
    · exact h1
    · exact e3 b hb
theorem datL_of {g : G} {z : Z} : ∀ {bs : List (V × D)}, (∀ b ∈ bs, Dat g z b.2 b.1) → DatL g z (bs.map (·.2)) (bs.map (·.1))
  | [], _ => rfl
  | b :: bs, h => ⟨_, _, rfl, h b (List.mem_cons_self ..), datL_of fun x hx => h x (List.mem_cons_of_mem _ hx)⟩
theorem pyL_enc : ∀ {ds : List D} {ps : List PyData}, D.pyL ds = some ps → ps = ds.map D.enc ∧ ∀ d ∈ ds, d.py = some d.enc
  | [], ps, h => by
    rw [D.pyL] at h
    cases h
    exact ⟨rfl, by simp⟩
  | d :: ds, ps, h => by
    rw [D.pyL] at h
    split at h
    · rename_i a b ha hb
      cases h
      obtain ⟨e1, e2⟩ := pyL_enc hb
      have ed : d.enc = a := by
        unfold D.enc
        rw [ha]
        rfl
      refine ⟨by rw [List.map_cons, ed, e1], fun x hx => ?_⟩
      rcases List.mem_cons.mp hx with rfl | hx
      · rw [ed]
        exact ha
      · exact e2 x hx
    · cases h
theorem sort_dat {X : Cx} {fa : Ad} {B : Bk} {S : Store} {H : Hp} {ds es : List D} {ws : List V} (l : DatL (gx X fa) ⟨B, S, H⟩ ds ws) (q : sortF ds = some es) :
    ∃ bs : List (V × D), bs.map (·.1) = ws ∧ bs.map (·.2) = ds ∧ SortH X.K H bs ∧ ∀ ys : List V, ys = (bs.mergeSort (PySem.W.dataLe false fun b => b.2.enc)).map (·.1) → DatL (gx X fa) ⟨B, S, H⟩ es ys := by
  obtain ⟨bs, e1, e2, e3⟩ := datL_zip l
  unfold sortF at q
  split at q
  · rename_i ps hps
    split at q
    · rename_i hok
      cases q
      obtain ⟨p1, p2⟩ := pyL_enc hps
      rw [Bool.and_eq_true] at hok
      obtain ⟨hok, hl⟩ := hok
      have hl := of_decide_eq_true hl
      unfold sortOk at hok
      rw [Bool.and_eq_true, Bool.and_eq_true, List.all_eq_true, List.all_eq_true] at hok
      obtain ⟨⟨h1, h2⟩, h3⟩ := hok
      have em : (bs.map fun b => b.2.enc) = ps := by
        rw [p1, ← e2, List.map_map]
        rfl
      refine ⟨bs, e1, e2, ⟨fun b hb => ?_, ?_, ?_, ?_, fun b hb => ?_⟩, fun ys hy => ?_⟩
      · have hm : b.2 ∈ ds := by
          rw [← e2]
          exact List.mem_map_of_mem hb
        exact Dat.dp _ _ _ (p2 _ hm) (e3 b hb)
      · rw [em]
        intro d hd d' hd'
        exact List.all_eq_true.mp (h1 d hd) d' hd'
      · rw [em]
        rw [Bool.or_eq_true, List.all_eq_true, List.all_eq_true] at h2
        rcases h2 with h2 | h2
        · refine .inl fun d hd => ?_
          have := h2 d hd
          unfold tupB at this
          split at this
          · exact ⟨_, _, rfl⟩
          · cases this
        · refine .inr fun d hd => ?_
          have := h2 d hd
          constructor
          · rintro rfl
            cases this
          · rintro xs rfl
            cases this
      · have := congrArg List.length e2
        rw [List.length_map] at this
        omega
      · have hm : b.2.enc ∈ ps := by
          rw [← em]
          exact List.mem_map_of_mem (f := fun b : V × D => b.2.enc) hb
        exact of_decide_eq_true (h3 _ hm)
      · have er : (bs.mergeSort (PySem.W.dataLe false fun b => b.2.enc)).map (·.2) = ds.mergeSort (PySem.W.dataLe false D.enc) := by
          rw [← e2]
          exact List.map_mergeSort fun a _ b _ => rfl
        rw [hy, ← er]
        exact datL_of fun b hb => e3 b ((List.mergeSort_perm _ _).mem_iff.mp hb)
    · cases q
  · cases q
/-! min of two tuples -/
section
open PySem.Calls PySem.W
variable {prog : Program} {w : World} {A : Around} {E : Value → Shared → Prop} {s : Shared}
theorem call_min_twoH {a b : Value} {Q : Value → Shared → Prop}
    (h : wpAny (model prog w) A.in1 (pyIter (.ref s.heap.objs.size)) (fun it s₂ => ∃ I fp wr G n P St H bt, it = .ref I ∧ WalksS prog w A.in1 I fp wr G n P St ∧ St 0 s₂ ∧ (∀ b ∈ fp, b < s₂.heap.objs.size) ∧ 0 < n ∧
      (∀ b o, H.get? b = some o → b ∉ wr) ∧ (∀ b o, H.get? b = some o → s₂.heap.get? b = some o) ∧ CmpIn prog w A.in1 .Lt H P bt ∧ ∀ v s', P (argBest bt (n - 1)) v → Moved wr G s₂ s' → Q v s') E
      { s with heap := s.heap.push { cls := .type "tuple", data := .seq #[a, b] } }) :
    wpAny (model prog w) A (call (.builtin "min") [a, b]) Q E s := by
  have hname : (toString "min" ++ toString ".loop" : String) = "min.loop" := by decide
  refine call_function_tree F.kind_min F.plain_min F.entry_min (F.args_min2 _ _) ?_
  show wpAny _ A.in1 (Builtin.Builtins.bindParams "min" ["key", "default"] 0 ⟨[], []⟩ >>= _) _ _ s
  refine wpAny_bind (wpAny_of_eq (show Builtin.Builtins.bindParams "min" ["key", "default"] 0 ⟨[], []⟩ = pure [none, none] from rfl) ?_)
  show wpAny _ A.in1 (newTuple [a, b] >>= _) _ _ s
  refine wpAny_bind (wpAny_newObj_type ?_)
  refine wpAny_bind (wpAny_mono h (fun it s₂ h₂ => ?_) fun _ _ e => e)
  obtain ⟨I, fp, wr, G, n, P, St, H, bt, rfl, W, hst, hfp, hn, hw, hkeep, hcmp, hQ⟩ := h₂
  refine wpAny_bind (wpAny_newObj_type ?_)
  have hSf : s₂.heap.objs.size ∉ fp := fun hm => Nat.lt_irrefl _ (hfp _ hm)
  rw [hname]
  refine wpAny_pure ⟨plainId_quiet F.plain_min_loop _, codeAny_min_loop_firstH W H hw bt hcmp s₂.heap.objs.size hSf (fresh_in hkeep) _ hn (fun b o e => Heap.get?_push_of_some _ (hkeep b o e)) (W.frame 0 s₂ _ s₂.toks hst (Nat.le_refl _) fun b _ o e => Heap.get?_push_of_some _ e) (Heap.get?_push_size _ rfl) fun v s' hP hm => ?_⟩
  exact hQ v s' hP (Moved.drop_new (tk := s₂.toks) hm (Nat.le_refl _))
theorem min_two_data {a b : Value} {x y : PyData} {as bs : List Addr} {Q : Value → Shared → Prop} (hh : A.handled = none) (ra : Reads s.heap a x as) (rb : Reads s.heap b y bs) (ha : PySem.W.AlikeAll [x, y]) (hu : A.units + 1 + PyData.depthAll [x, y] < cLine)
    (h : ∀ h' tk, (∀ b o, s.heap.get? b = some o → h'.get? b = some o) → Q (if PySem.W.dataLt y x then b else a) { s with heap := h', toks := tk }) :
    wpAny (model prog w) A (call (.builtin "min") [a, b]) Q E s := by
  have hT : (s.heap.push { cls := .type "tuple", data := .seq #[a, b] }).IsTuple s.heap.objs.size #[a, b] := ⟨_, Heap.get?_push_size _ rfl, rfl, 0, rfl⟩
  have kp : ∀ c o, s.heap.get? c = some o → (s.heap.push { cls := .type "tuple", data := .seq #[a, b] }).get? c = some o := fun c o e => Heap.get?_push_of_some _ e
  have hr : ReadsAll (s.heap.push { cls := .type "tuple", data := .seq #[a, b] }) (#[a, b] : Array Value).toList [x, y] (as ++ (bs ++ [])) := .cons (PySem.W.reads_keeps kp ra) (.cons (PySem.W.reads_keeps kp rb) .nil)
  refine call_min_twoH (PySem.W.iter_tupleW (A := A.in1) (s := { s with heap := s.heap.push { cls := .type "tuple", data := .seq #[a, b] } }) hh hT fun s₂ e W st hfp hw hk => ?_)
  refine ⟨_, _, _, _, _, _, _, s.heap.push { cls := .type "tuple", data := .seq #[a, b] }, _, rfl, W, st, hfp, Nat.zero_lt_succ 1, hw, hk, PySem.W.cmpIn_lt (A := A.in1) (s := { s with heap := s.heap.push { cls := .type "tuple", data := .seq #[a, b] } }) hr ha (by show A.units + 1 + _ < _; exact hu), fun v s' hP m => ?_⟩
  obtain ⟨h', tk, rfl, hk'⟩ := PySem.W.moved_old e rfl m
  have q := h h' tk fun c o e => hk' c o (kp c o e)
  have e1 : (#[a, b] : Array Value).size - 1 = 1 := rfl
  rw [e1] at hP
  have ev : v = if PySem.W.dataLt y x then b else a := by
    by_cases hb : PySem.W.dataLt y x = true
    · have ea : argBest (fun i j => PySem.W.dataLt ([x, y].getD i .none) ([x, y].getD j .none)) 1 = 1 := if_pos hb
      rw [ea] at hP
      rw [if_pos hb]
      exact (Option.some.inj hP).symm
    · have ea : argBest (fun i j => PySem.W.dataLt ([x, y].getD i .none) ([x, y].getD j .none)) 1 = 0 := if_neg hb
      rw [ea] at hP
      rw [if_neg hb]
      exact (Option.some.inj hP).symm
  rw [ev]
  exact q
end
def rMinT (K : PySem.W.Frag) : List V → Hp → VK → Prop := fun vs H Q => ∃ (v w : V) (x y : PyData), vs = [v, w] ∧ Dp K H v x ∧ Dp K H w y ∧ PySem.W.AlikeAll [x, y] ∧ x.depth ≤ 60 ∧ y.depth ≤ 60 ∧ Q (if PySem.W.dataLt y x then w else v) H
theorem cr_minT {X : Cx} {k : Nat} (hc : X.calm = true) (hr : Room k X.A) : CallR X (.builtin "min") (rMinT X.K) := by
  intro pins s σ H vs us Q I r h
  obtain ⟨v, w, x, y, rfl, d1, d2, al, h1, h2, q⟩ := h
  obtain ⟨u, u', rfl, r1, r2⟩ := vals2 r
  obtain ⟨as, ra⟩ := Dp.reads I _ _ _ d1 r1
  obtain ⟨bs, rb⟩ := Dp.reads I _ _ _ d2 r2
  have hu : X.A.units + 65 < cLine := by have := hr.un; omega
  have hd : PyData.depthAll [x, y] ≤ 60 := by
    show max x.depth (max y.depth (PyData.depthAll [])) ≤ 60
    have : PyData.depthAll [] = 0 := rfl
    omega
  refine min_two_data (I.ok.hd hc) ra rb al (by omega) fun h' tk k => ⟨_, H, I.kept k, ?_, q⟩
  by_cases hb : PySem.W.dataLt y x = true
  · rw [if_pos hb, if_pos hb]; exact r2
  · rw [if_neg hb, if_neg hb]; exact r1
theorem min_dat {X : Cx} {fa : Ad} {B : Bk} {S : Store} {H : Hp} {xs ys : List D} {v w : V} {z : A} (d1 : Dat (gx X fa) ⟨B, S, H⟩ (.tup xs) v) (d2 : Dat (gx X fa) ⟨B, S, H⟩ (.tup ys) w) (q : minT xs ys = some z) :
    ∃ x y : PyData, Dp X.K H v x ∧ Dp X.K H w y ∧ PySem.W.AlikeAll [x, y] ∧ x.depth ≤ 60 ∧ y.depth ≤ 60 ∧ DatA (gx X fa) ⟨B, S, H⟩ z (if PySem.W.dataLt y x then w else v) := by
  unfold minT at q
  split at q
  · rename_i as bs ha hb
    split at q
    · rename_i hok
      cases q
      unfold minOk at hok
      rw [Bool.and_eq_true, Bool.and_eq_true, Bool.and_eq_true, Bool.and_eq_true, Bool.and_eq_true] at hok
      obtain ⟨⟨⟨⟨⟨h1, h2⟩, h3⟩, h4⟩, h5⟩, h6⟩ := hok
      refine ⟨.tuple as, .tuple bs, Dat.dp (.tup xs) v _ (by rw [D.py, ha]; rfl) d1, Dat.dp (.tup ys) w _ (by rw [D.py, hb]; rfl) d2, ⟨fun x hx y hy => ?_, fun x hx => ?_⟩, of_decide_eq_true h5, of_decide_eq_true h6, ?_⟩
      · simp only [List.mem_cons, List.not_mem_nil, or_false] at hx hy
        rcases hx with rfl | rfl <;> rcases hy with rfl | rfl <;> assumption
      · simp only [List.mem_cons, List.not_mem_nil, or_false] at hx
        rcases hx with rfl | rfl <;> exact fun z => by cases z
      · by_cases hl : PySem.W.dataLt (.tuple bs) (.tuple as) = true
        · rw [if_pos hl, if_pos hl]; exact d2
        · rw [if_neg hl, if_neg hl]; exact d1
    · cases q
  · cases q
end Fw

/-! Dicts whose keys are tuples of any depth. -/
namespace Fw
open PySem PySem.Spec PyProof.Rows L2
mutual
def nkP : PyData → Option NestedKey
  | .none => some .none
  | .bool b => some (.num (if b then 1 else 0))
  | .int i => some (.num i)
  | .str x => some (.text x)
  | .tuple ds => (nkPs ds).map .tup
  | _ => none
def nkPs : List PyData → Option (List NestedKey)
  | [] => some []
  | d :: ds => match nkP d, nkPs ds with
    | some k, some ks => some (k :: ks)
    | _, _ => none
end
mutual
theorem nkD_py : ∀ (d : D) (k : NestedKey), nkD d = some k → ∃ p, d.py = some p ∧ nkP p = some k
  | .non, k, h => ⟨_, rfl, h⟩
  | .bl _, k, h => ⟨_, rfl, h⟩
  | .int _, k, h => ⟨_, rfl, h⟩
  | .str _, k, h => ⟨_, rfl, h⟩
  | .tup ds, k, h => by
    rw [nkD] at h
    cases q : nkL ds with
    | none => rw [q] at h; cases h
    | some ks =>
      rw [q] at h
      cases h
      obtain ⟨ps, h1, h2⟩ := nkL_py ds ks q
      exact ⟨.tuple ps, by rw [D.py, h1]; rfl, by rw [nkP, h2]; rfl⟩
  | .lst _, k, h => by rw [nkD] at h; cases h; all_goals intros; contradiction
  | .scr _, k, h => by rw [nkD] at h; cases h; all_goals intros; contradiction
  | .fn _, k, h => by rw [nkD] at h; cases h; all_goals intros; contradiction
  | .ty _, k, h => by rw [nkD] at h; cases h; all_goals intros; contradiction
  | .ins _ _ _, k, h => by rw [nkD] at h; cases h; all_goals intros; contradiction
  | .kl _, k, h => by rw [nkD] at h; cases h; all_goals intros; contradiction
  | .dct _ _, k, h => by rw [nkD] at h; cases h; all_goals intros; contradiction
  | .exv _ _ _, k, h => by rw [nkD] at h; cases h; all_goals intros; contradiction
  | .dks _ _, k, h => by rw [nkD] at h; cases h; all_goals intros; contradiction
theorem nkL_py : ∀ (ds : List D) (ks : List NestedKey), nkL ds = some ks → ∃ ps, D.pyL ds = some ps ∧ nkPs ps = some ks
  | [], ks, h => by
    rw [nkL] at h
    cases h
    exact ⟨[], rfl, rfl⟩
  | d :: ds, ks, h => by
    rw [nkL] at h
    split at h
    · rename_i k ks' h1 h2
      cases h
      obtain ⟨p, e1, e2⟩ := nkD_py d k h1
      obtain ⟨ps, e3, e4⟩ := nkL_py ds ks' h2
      exact ⟨p :: ps, by rw [D.pyL, e1, e3], by rw [nkPs, e2, e4]⟩
    · cases h
end
mutual
theorem reads_nested {h : Heap} : ∀ (p : PyData) (k : NestedKey) (v : Value) (as : List Addr), nkP p = some k → Reads h v p as → NestedIs h k v
  | .none, k, v, as, hk, r => by
    cases hk
    cases r
    exact .none
  | .bool b, k, v, as, hk, r => by
    cases hk
    cases r
    exact .bool rfl
  | .int i, k, v, as, hk, r => by
    cases hk
    cases r
    exact .int _ _
  | .str x, k, v, as, hk, r => by
    cases hk
    cases r
    exact .text _ _
  | .tuple ds, k, v, as, hk, r => by
    rw [nkP] at hk
    cases q : nkPs ds with
    | none => rw [q] at hk; cases hk
    | some ks =>
      rw [q] at hk
      cases hk
      cases r with
      | tuple h1 h2 h3 h4 => exact .tup h1 h2 h3 (reads_nestedL ds ks _ _ q h4)
  | .list _, k, v, as, hk, r => by rw [nkP] at hk; cases hk; all_goals intros; contradiction
  | .dict _, k, v, as, hk, r => by rw [nkP] at hk; cases hk; all_goals intros; contradiction
theorem reads_nestedL {h : Heap} : ∀ (ps : List PyData) (ks : List NestedKey) (vs : List Value) (as : List Addr), nkPs ps = some ks → ReadsAll h vs ps as → NestedAll h ks vs
  | [], ks, vs, as, hk, r => by
    rw [nkPs] at hk
    cases hk
    cases r
    exact .nil
  | p :: ps, ks, vs, as, hk, r => by
    rw [nkPs] at hk
    split at hk
    · rename_i k ks' h1 h2
      cases hk
      cases r with
      | cons r1 r2 => exact .cons (reads_nested p k _ _ h1 r1) (reads_nestedL ps ks' _ _ h2 r2)
    · cases hk
end
/-- a key at b -/
def KyAt (K : PySem.W.Frag) (H : Hp) (k : NestedKey) (b : Addr) : Prop := k.depth ≤ 8 ∧ ∃ p, nkP p = some k ∧ Dp K H (.ref b) p
def KyH (K : PySem.W.Frag) (w : World) (H : Hp) : List NestedKey → List (Int × Addr) → Prop
  | [], hs => hs = []
  | k :: ks, hs => ∃ b r, hs = (k.hash w, b) :: r ∧ KyAt K H k b ∧ KyH K w H ks r
def mk3 : List NestedKey → List (Int × Addr) → List Value → List (NestedKey × Addr × Value)
  | k :: ks, h :: hs, u :: us => (k, h.2, u) :: mk3 ks hs us
  | _, _, _ => []
def valD (ks : List NestedKey) (ws : List V) (k : NestedKey) : Option V := ((ks.zip ws).find? fun p => decide (p.1 = k)).map (·.2)
/-- a dict at a, its keys, its values -/
def DcAt (K : PySem.W.Frag) (w : World) (H : Hp) (a : Addr) (ks : List NestedKey) (hs : List (Int × Addr)) (ws : List V) : Prop := (∃ ep, H a = some (DcO a ep hs ws)) ∧ (a == sysModules) = false ∧ ks.Nodup ∧ KyH K w H ks hs
section
variable {X : Cx} {pins : List (Addr × Obj)} {σ : L2.St} {H : Hp} {s : Shared} {a b : Addr} {k : NestedKey} {ks : List NestedKey} {hs : List (Int × Addr)} {ws : List V}
theorem ky_is (I : Inv X pins σ H s) (g : KyAt X.K H k b) : (nestedKind X.prog X.w).is s.heap k b := by
  obtain ⟨h1, p, h2, h3⟩ := g
  obtain ⟨as, r⟩ := Dp.reads I p (.ref b) (.ref b) h3 rfl
  exact ⟨reads_nested p k _ _ h2 r, h1⟩
theorem KyH.len {K : PySem.W.Frag} {w : World} : ∀ {ks : List NestedKey} {hs : List (Int × Addr)}, KyH K w H ks hs → hs.length = ks.length
  | [], hs, h => by rw [show hs = [] from h]; rfl
  | k :: ks, _, ⟨b, r, e, _, h⟩ => by rw [e, List.length_cons, List.length_cons, KyH.len h]
theorem mk3_keys : ∀ {ks : List NestedKey} {hs : List (Int × Addr)} {us : List Value}, hs.length = ks.length → us.length = ks.length → (mk3 ks hs us).map (·.1) = ks
  | [], hs, us, h1, h2 => by cases hs <;> cases us <;> first | rfl | cases h1 | cases h2
  | k :: ks, [], us, h1, h2 => by cases h1
  | k :: ks, h :: hs, [], h1, h2 => by cases h2
  | k :: ks, h :: hs, u :: us, h1, h2 => by
    rw [mk3, List.map_cons, mk3_keys (by simpa using h1) (by simpa using h2)]
theorem mk3_entry {P : Program} {w : World} {K : PySem.W.Frag} : ∀ {ks : List NestedKey} {hs : List (Int × Addr)} {us : List Value}, KyH K w H ks hs → us.length = ks.length → (mk3 ks hs us).map (entryOfKey (nestedKind P w)) = List.zipWith (fun (p : Int × Addr) (u : Value) => (⟨p.1, .ref p.2, u⟩ : DictEntry)) hs us
  | [], hs, us, h, h2 => by
    rw [show hs = [] from h]
    cases us <;> rfl
  | k :: ks, _, [], ⟨b, r, e, _, h⟩, h2 => by cases h2
  | k :: ks, _, u :: us, ⟨b, r, e, _, h⟩, h2 => by
    rw [e, mk3, List.map_cons, List.zipWith_cons_cons, mk3_entry h (by simpa using h2)]
    rfl
theorem mk3_is (I : Inv X pins σ H s) : ∀ {ks : List NestedKey} {hs : List (Int × Addr)} {us : List Value}, KyH X.K X.w H ks hs → ∀ x ∈ mk3 ks hs us, (nestedKind X.prog X.w).is s.heap x.1 x.2.1
  | [], hs, us, h, x, hx => by cases hs <;> cases us <;> cases hx
  | k :: ks, _, [], ⟨b, r, e, _, h⟩, x, hx => by rw [e] at hx; cases hx
  | k :: ks, _, u :: us, ⟨b, r, e, g, h⟩, x, hx => by
    rw [e, mk3] at hx
    rcases List.mem_cons.mp hx with rfl | hx
    · exact ky_is I g
    · exact mk3_is I h x hx
theorem mk3_val : ∀ {ks : List NestedKey} {hs : List (Int × Addr)} {ws : List V} {us : List Value}, hs.length = ks.length → Vals ws us → RelO (valD ks ws k) ((atKey (mk3 ks hs us) k).map (·.2))
  | [], hs, ws, us, h, r => by
    have : mk3 [] hs us = [] := by cases hs <;> cases us <;> rfl
    rw [this]
    exact True.intro
  | k' :: ks, [], ws, us, h, r => by cases h
  | k' :: ks, h' :: hs, _, _, h, .nil => by
    have : valD (k' :: ks) [] k = none := by simp [valD]
    rw [this]
    exact True.intro
  | k' :: ks, h' :: hs, w :: ws, u :: us, h, .cons r1 r2 => by
    rw [mk3]
    by_cases e : k' = k
    · have e1 : valD (k' :: ks) (w :: ws) k = some w := by simp [valD, List.find?_cons, e]
      have e2 : atKey ((k', h'.2, u) :: mk3 ks hs us) k = some (h'.2, u) := by simp [atKey, List.find?_cons, e]
      rw [e1, e2]
      exact r1
    · have e1 : valD (k' :: ks) (w :: ws) k = valD ks ws k := by simp [valD, List.find?_cons, e]
      have e2 : atKey ((k', h'.2, u) :: mk3 ks hs us) k = atKey (mk3 ks hs us) k := by simp [atKey, List.find?_cons, e]
      rw [e1, e2]
      exact mk3_val (by simpa using h) r2
theorem dc_at (I : Inv X pins σ H s) (g : DcAt X.K X.w H a ks hs ws) : ws.length = ks.length ∧ ∃ us, Vals ws us ∧ s.heap.DictOfH (nestedKind X.prog X.w) a (mk3 ks hs us) := by
  obtain ⟨⟨ep, h1⟩, h2, h3, h4⟩ := g
  obtain ⟨φ, _, _⟩ := I.hok a _ h1
  obtain ⟨o, ho, e1, e2, us, es, r, e3, e4⟩ := φ
  have hl := h4.len
  have hu : us.length = ks.length := by rw [← r.length, ← e2, hl]
  refine ⟨by rw [← e2, hl], us, r, o, es, ep, ho, e1, e3, ?_, mk3_is I h4, ?_⟩
  · rw [e4, mk3_entry h4 hu]
  · rw [mk3_keys hl hu]
    exact h3
end
end Fw

/-! Dicts whose keys are tuples: what is asked of them and done to them. -/
namespace Fw
open PySem PySem.Spec PyProof.Rows L2
def putHs (w : World) (ks : List NestedKey) (hs : List (Int × Addr)) (k : NestedKey) (b : Addr) : List (Int × Addr) := if k ∈ ks then hs else hs ++ [(k.hash w, b)]
def putWs {α : Type} (ks : List NestedKey) (ws : List α) (k : NestedKey) (v : α) : List α := if k ∈ ks then List.zipWith (fun k' w => if k' = k then v else w) ks ws else ws ++ [v]
def putKs (ks : List NestedKey) (k : NestedKey) : List NestedKey := if k ∈ ks then ks else ks ++ [k]
theorem dco_ok {P : Program} {w : World} {H : Hp} {h : Heap} {a : Addr} {hs : List (Int × Addr)} {ws : List V} {o : Obj} {us : List Value} {es : Array DictEntry} {ep : Nat} (h1 : h.get? a = some o) (h2 : o.ExactDict) (h3 : hs.length = ws.length) (r : Vals ws us) (h4 : o.data = .dict es ep)
    (h5 : es.toList = List.zipWith (fun (p : Int × Addr) (u : Value) => (⟨p.1, .ref p.2, u⟩ : DictEntry)) hs us) : ObjOk P w H h a (DcO a ep hs ws) :=
  ⟨⟨o, h1, h2, h3, us, es, r, h4, h5⟩, ⟨o, h1⟩, fun g1 g2 ⟨o, e, x⟩ st => ⟨o, st o e, x⟩⟩
theorem mem_atKey : ∀ {ks : List NestedKey} {hs : List (Int × Addr)} {us : List Value} {k : NestedKey}, hs.length = ks.length → us.length = ks.length → (atKey (mk3 ks hs us) k).isSome = decide (k ∈ ks)
  | [], hs, us, k, h1, h2 => by
    have : mk3 [] hs us = [] := by cases hs <;> cases us <;> rfl
    rw [this]
    simp [atKey]
  | k' :: ks, [], us, k, h1, h2 => by cases h1
  | k' :: ks, h :: hs, [], k, h1, h2 => by cases h2
  | k' :: ks, h :: hs, u :: us, k, h1, h2 => by
    rw [mk3]
    have ih := mem_atKey (ks := ks) (hs := hs) (us := us) (k := k) (by simpa using h1) (by simpa using h2)
    by_cases e : k' = k
    · simp [atKey, List.find?_cons, e]
    · have e2 : atKey ((k', h.2, u) :: mk3 ks hs us) k = atKey (mk3 ks hs us) k := by simp [atKey, List.find?_cons, e]
      rw [e2, ih, decide_eq_decide, List.mem_cons]
      exact ⟨.inr, fun z => z.resolve_left fun z => e z.symm⟩
theorem mk3_app : ∀ {ks : List NestedKey} {hs : List (Int × Addr)} {us : List Value} {k : NestedKey} {n : Int} {b : Addr} {u : Value}, hs.length = ks.length → us.length = ks.length → mk3 (ks ++ [k]) (hs ++ [(n, b)]) (us ++ [u]) = mk3 ks hs us ++ [(k, b, u)]
  | [], hs, us, k, n, b, u, h1, h2 => by
    cases hs with
    | nil =>
      cases us with
      | nil => rfl
      | cons _ _ => cases h2
    | cons _ _ => cases h1
  | k' :: ks, [], us, k, n, b, u, h1, h2 => by cases h1
  | k' :: ks, h :: hs, [], k, n, b, u, h1, h2 => by cases h2
  | k' :: ks, h :: hs, u' :: us, k, n, b, u, h1, h2 => by
    rw [List.cons_append, List.cons_append, List.cons_append, mk3, mk3, mk3_app (by simpa using h1) (by simpa using h2)]
    rfl
theorem mk3_map : ∀ {ks : List NestedKey} {hs : List (Int × Addr)} {us : List Value} {k : NestedKey} {u : Value}, hs.length = ks.length → us.length = ks.length → (mk3 ks hs us).map (putAt k u) = mk3 ks hs (List.zipWith (fun k' w => if k' = k then u else w) ks us)
  | [], hs, us, k, u, h1, h2 => by cases hs <;> cases us <;> rfl
  | k' :: ks, [], us, k, u, h1, h2 => by cases h1
  | k' :: ks, h :: hs, [], k, u, h1, h2 => by cases h2
  | k' :: ks, h :: hs, u' :: us, k, u, h1, h2 => by
    rw [mk3, List.map_cons, List.zipWith_cons_cons, mk3, mk3_map (by simpa using h1) (by simpa using h2)]
    unfold putAt
    by_cases e : k' = k
    · rw [if_pos e, if_pos e]
    · rw [if_neg e, if_neg e]
theorem vals_zip {k : NestedKey} {v : V} {u : Value} (r : RelV v u) : ∀ {ks : List NestedKey} {ws : List V} {us : List Value}, Vals ws us → Vals (List.zipWith (fun k' w => if k' = k then v else w) ks ws) (List.zipWith (fun k' w => if k' = k then u else w) ks us)
  | [], _, _, h => by cases h <;> exact .nil
  | k' :: ks, _, _, .nil => .nil
  | k' :: ks, w :: ws, u' :: us, .cons r1 r2 => by
    rw [List.zipWith_cons_cons, List.zipWith_cons_cons]
    refine .cons ?_ (vals_zip r r2)
    by_cases e : k' = k
    · rw [if_pos e, if_pos e]; exact r
    · rw [if_neg e, if_neg e]; exact r1
section
variable {X : Cx} {pins : List (Addr × Obj)} {σ : L2.St} {H : Hp} {s : Shared} {a b : Addr} {k : NestedKey} {ks : List NestedKey} {hs : List (Int × Addr)} {ws : List V} {v d : V} {r : Value} {A : Around} {E : Value → Shared → Prop}
theorem dc_room (hu : A.units + 9 < cLine) : (nestedKind X.prog X.w).room A.in1 := by
  show A.units + 1 + 8 < cLine
  omega
theorem dc_getItem {Q : Value → Shared → Prop} (hu : A.units + 9 < cLine) (I : Inv X pins σ H s) (g : DcAt X.K X.w H a ks hs ws) (hk : KyAt X.K H k b) (l : valD ks ws k = some v) (h : ∀ w' s', Inv X pins σ H s' → RelV v w' → Q w' s') :
    wpAny (model X.prog X.w) A (getItem (.ref a) (.ref b)) Q E s := by
  obtain ⟨hl, us, rel, dd⟩ := dc_at I g
  obtain ⟨w', hw, rw'⟩ := RelO.some_of (v := v) (o := (atKey (mk3 ks hs us) k).map (·.2)) (by rw [← l]; exact mk3_val g.2.2.2.len rel)
  obtain ⟨p, hp, hp2⟩ := Option.map_eq_some_iff.mp hw
  refine wpAny_getItem_heap (dc_room (X := X) hu) (ky_is I hk) dd hp ?_
  rw [hp2]
  exact h w' _ (I.tok _) rw'
theorem dc_in {Q : Value → Shared → Prop} (hu : A.units + 9 < cLine) (I : Inv X pins σ H s) (g : DcAt X.K X.w H a ks hs ws) (hk : KyAt X.K H k b) (h : ∀ s', Inv X pins σ H s' → Q (.bool (decide (k ∈ ks))) s') :
    wpAny (model X.prog X.w) A (compareOp .In (.ref b) (.ref a)) Q E s := by
  obtain ⟨hl, us, rel, dd⟩ := dc_at I g
  refine wpAny_in_heap (dc_room (X := X) hu) (ky_is I hk) g.2.1 dd ?_
  rw [mem_atKey g.2.2.2.len (by rw [← rel.length, hl])]
  exact h _ (I.tok _)
theorem dc_notIn {Q : Value → Shared → Prop} (hu : A.units + 9 < cLine) (I : Inv X pins σ H s) (g : DcAt X.K X.w H a ks hs ws) (hk : KyAt X.K H k b) (h : ∀ s', Inv X pins σ H s' → Q (.bool (!decide (k ∈ ks))) s') :
    wpAny (model X.prog X.w) A (compareOp .NotIn (.ref b) (.ref a)) Q E s := by
  obtain ⟨hl, us, rel, dd⟩ := dc_at I g
  refine wpAny_notIn_heap (dc_room (X := X) hu) (ky_is I hk) g.2.1 dd ?_
  rw [mem_atKey g.2.2.2.len (by rw [← rel.length, hl])]
  exact h _ (I.tok _)
theorem dc_setItem {Q : Unit → Shared → Prop} (hu : A.units + 9 < cLine) (I : Inv X pins σ H s) (g : DcAt X.K X.w H a ks hs ws) (hk : KyAt X.K H k b) (rv : RelV v r) (hz : ws.length ≤ sizeLine)
    (h : ∀ ep s', Inv X pins σ (upd H a (DcO a ep (putHs X.w ks hs k b) (putWs ks ws k v))) s' → Q () s') :
    wpAny (model X.prog X.w) A (setItem (.ref a) (.ref b) r) Q E s := by
  obtain ⟨hl, us, rel, dd⟩ := dc_at I g
  have hul : us.length = ks.length := by rw [← rel.length, hl]
  have hhl := g.2.2.2.len
  have hml : (mk3 ks hs us).length = ks.length := by
    have := congrArg List.length (mk3_keys hhl hul)
    rw [List.length_map] at this
    exact this
  refine wpAny_setItem_heap (hsz := by rw [hml, ← hl]; exact hz) (dc_room (X := X) hu) (ky_is I hk) dd fun h' dd' hs' => ?_
  obtain ⟨q, es, ep, hq, h2, h3, h4, _, h5⟩ := dd'
  refine h ep _ ?_
  have mu : Mut (H a) := by
    obtain ⟨ep0, e0⟩ := g.1
    rw [e0]
    exact True.intro
  refine d_write I mu hs' ⟨q, hq⟩ ?_
  have hm := mem_atKey (k := k) hhl hul
  by_cases hin : k ∈ ks
  · have e1 : storedH (mk3 ks hs us) k b r = mk3 ks hs (List.zipWith (fun k' w => if k' = k then r else w) ks us) := by
      unfold storedH
      rw [hm, decide_eq_true hin, if_pos rfl, mk3_map hhl hul]
    have hzl : (List.zipWith (fun k' w => if k' = k then r else w) ks us).length = ks.length := by rw [List.length_zipWith, hul, Nat.min_self]
    rw [e1, mk3_entry g.2.2.2 hzl] at h4
    unfold putHs putWs
    rw [if_pos hin, if_pos hin]
    exact dco_ok hq h2 (by rw [List.length_zipWith, hhl, hl, Nat.min_self]) (vals_zip rv rel) h3 h4
  · have e1 : storedH (mk3 ks hs us) k b r = mk3 (ks ++ [k]) (hs ++ [(k.hash X.w, b)]) (us ++ [r]) := by
      unfold storedH
      rw [hm, decide_eq_false hin, if_neg (by decide), mk3_app hhl hul]
    have hky : KyH X.K X.w H (ks ++ [k]) (hs ++ [(k.hash X.w, b)]) := by
      have : ∀ (ks : List NestedKey) (hs : List (Int × Addr)), KyH X.K X.w H ks hs → KyH X.K X.w H (ks ++ [k]) (hs ++ [(k.hash X.w, b)]) := by
        intro ks
        induction ks with
        | nil =>
          intro hs e
          rw [show hs = [] from e]
          exact ⟨b, [], rfl, hk, rfl⟩
        | cons k' ks ih =>
          rintro hs ⟨b', r', e, g1, g2⟩
          rw [e]
          exact ⟨b', r' ++ [(k.hash X.w, b)], rfl, g1, ih r' g2⟩
      exact this ks hs g.2.2.2
    rw [e1, mk3_entry hky (by rw [List.length_append, List.length_append, hul]; rfl)] at h4
    unfold putHs putWs
    rw [if_neg hin, if_neg hin]
    exact dco_ok hq h2 (by rw [List.length_append, List.length_append, hhl, hl]; rfl) (rel.append (.cons rv .nil)) h3 h4
theorem dc_get2 {Q : Value → Shared → Prop} (hu : A.units + 9 < cLine) (I : Inv X pins σ H s) (g : DcAt X.K X.w H a ks hs ws) (hk : KyAt X.K H k b) (rd : RelV d r) (h : ∀ w' s', Inv X pins σ H s' → RelV ((valD ks ws k).getD d) w' → Q w' s') :
    wpAny (model X.prog X.w) A (call (.builtin "dict.get") [.ref a, .ref b, r]) Q E s := by
  obtain ⟨hl, us, rel, dd⟩ := dc_at I g
  refine call_meetsIn PySem.F.slot_dict_get dd.typeIs PySem.F.entry_dict_get (PySem.F.args_dict_get_3 _ _ _) (meetsH_dict_get_default (nestedKind X.prog X.w) a b g.2.1 r) ⟨dc_room (X := X) hu, k, _, ky_is I hk, dd, h _ _ (I.tok _) ?_⟩
  exact (mk3_val g.2.2.2.len rel).getD rd
theorem dc_typeIs (I : Inv X pins σ H s) (g : DcAt X.K X.w H a ks hs ws) : s.TypeIs (.ref a) "dict" := by
  obtain ⟨hl, us, rel, dd⟩ := dc_at I g
  exact dd.typeIs
theorem dc_noDict (I : Inv X pins σ H s) (g : DcAt X.K X.w H a ks hs ws) : ∀ c, Value.ref a = .ref c → ∃ ob, s.heap.get? c = some ob ∧ ob.dict = none := fun c q => by
  cases q
  obtain ⟨hl, us, rel, ob, _, _, h1, h2, _⟩ := dc_at I g
  exact ⟨ob, h1, h2.2.1⟩
end
section
variable {X : Cx} {o i e f value : Expr} {pos pos' apos cpos : Pos} {td ty tv tx : TE}
/-- {} -/
theorem pe_dnewC : PE X (.Dict [] [] pos) (fun _ H Q => ∀ p, H p = none → (p == sysModules) = false → Q (.ref p) (upd H p (DcO p 0 [] []))) := ⟨fun pins s σ H Q I h => by
  have hb : (s.heap.objs.size == sysModules) = false := beq_eq_false_iff_ne.mpr (Ne.symm (Nat.ne_of_lt I.big))
  exact wpAny_Dict_empty ⟨.ref s.heap.objs.size, _, I.laid (a := s.heap.objs.size) (o := DcO s.heap.objs.size 0 [] []) (t' := s.toks) (fun _ _ q => Heap.get?_push_of_some _ q) (Nat.le_refl _)
    (dco_ok (us := []) (es := #[]) (ep := 0) (Heap.get?_push_size _ rfl) ⟨rfl, rfl, rfl⟩ rfl .nil rfl rfl), rfl, h _ (I.hok.fresh (Nat.le_refl _)) hb⟩⟩
/-- d[y] -/
def tDcGet (td ty : TE) (X : Cx) : TE := fun σ H Q => td σ H fun x H1 => ty σ H1 fun y H2 => ∃ a b ks hs ws k v, x = .ref a ∧ y = .ref b ∧ DcAt X.K X.w H2 a ks hs ws ∧ KyAt X.K H2 k b ∧ valD ks ws k = some v ∧ Q v H2
theorem pe_dcget (hu : X.A.units + 9 < cLine) (ho : PE X o td) (hi : PE X i ty) (hs : NoSl i) : PE X (.Subscript o i pos) (tDcGet td ty X) := by
  refine ⟨fun pins s σ H Q I h => ?_⟩
  refine subD_of PySem.F.slot_dict_getitem.lookup hs (thn (ho.run pins s σ H _ I h) fun u s1 ⟨x, H1, I1, rx, q1⟩ => thn (hi.run pins s1 σ H1 _ I1 q1) fun iv s2 ⟨y, H2, I2, ry, a, b, ks, hs, ws, k, v, ex, ey, g, hk, l, q2⟩ => ?_)
  subst ex
  subst ey
  obtain rfl : u = Value.ref a := rx
  obtain rfl : iv = Value.ref b := ry
  exact ⟨dc_typeIs I2 g, dc_getItem hu I2 g hk l fun w' s3 I3 rw' => ⟨v, H2, I3, rw', q2⟩⟩
/-- y in d, y not in d -/
def tDcIn (neg : Bool) (ty td : TE) (X : Cx) : TE := fun σ H Q => ty σ H fun y H1 => td σ H1 fun x H2 => ∃ a b ks hs ws k, x = .ref a ∧ y = .ref b ∧ DcAt X.K X.w H2 a ks hs ws ∧ KyAt X.K H2 k b ∧ Q (.bl (if neg then !decide (k ∈ ks) else decide (k ∈ ks))) H2
theorem pc_dcin (hu : X.A.units + 9 < cLine) (hi : PE X i ty) (ho : PE X o td) : PC X .In i o (tDcIn false ty td X) := by
  refine ⟨fun pins s σ H Q I h => ?_⟩
  refine thn (hi.run pins s σ H _ I h) fun iv s1 ⟨y, H1, I1, ry, q1⟩ => thn (ho.run pins s1 σ H1 _ I1 q1) fun u s2 ⟨x, H2, I2, rx, a, b, ks, hs, ws, k, ex, ey, g, hk, q2⟩ => ?_
  subst ex
  subst ey
  obtain rfl : u = Value.ref a := rx
  obtain rfl : iv = Value.ref b := ry
  exact dc_in hu I2 g hk fun s3 I3 => ⟨.bl (decide (k ∈ ks)), H2, I3, rfl, q2⟩
theorem pc_dcnotin (hu : X.A.units + 9 < cLine) (hi : PE X i ty) (ho : PE X o td) : PC X .NotIn i o (tDcIn true ty td X) := by
  refine ⟨fun pins s σ H Q I h => ?_⟩
  refine thn (hi.run pins s σ H _ I h) fun iv s1 ⟨y, H1, I1, ry, q1⟩ => thn (ho.run pins s1 σ H1 _ I1 q1) fun u s2 ⟨x, H2, I2, rx, a, b, ks, hs, ws, k, ex, ey, g, hk, q2⟩ => ?_
  subst ex
  subst ey
  obtain rfl : u = Value.ref a := rx
  obtain rfl : iv = Value.ref b := ry
  exact dc_notIn hu I2 g hk fun s3 I3 => ⟨.bl (!decide (k ∈ ks)), H2, I3, rfl, q2⟩
/-- d[y] = v -/
def sDcPut (td ty tv : TE) (X : Cx) : TS := fun Dn σ H => tv σ H fun v H1 => td σ H1 fun x H2 => ty σ H2 fun y H3 => ∃ a b ks hs ws k, x = .ref a ∧ y = .ref b ∧ DcAt X.K X.w H3 a ks hs ws ∧ KyAt X.K H3 k b ∧ ws.length ≤ sizeLine ∧ ∀ ep, Dn.nx σ (upd H3 a (DcO a ep (putHs X.w ks hs k b) (putWs ks ws k v)))
theorem ps_dcput (hu : X.A.units + 9 < cLine) (ho : PE X o td) (hi : PE X i ty) (hv : PE X value tv) (hs : swapsWith value (some (.Subscript o i pos')) pos.line X.env = pure false) :
    PS X (.Assign [.Subscript o i pos'] value pos) (sDcPut td ty tv X) := by
  refine ⟨fun pins s σ H Dn I h => ?_⟩
  refine wpAny_Assign_Subscript (thn (hv.run pins s σ H _ I h) fun r s1 ⟨v, H1, I1, rv, q1⟩ => thn (ho.run pins s1 σ H1 _ I1 q1) fun u s2 ⟨x, H2, I2, rx, q2⟩ => thn (hi.run pins s2 σ H2 _ I2 q2) fun iv s3 ⟨y, H3, I3, ry, a, b, ks, hs, ws, k, ex, ey, g, hk, hz, q3⟩ => ?_) hs
  subst ex
  subst ey
  obtain rfl : u = Value.ref a := rx
  obtain rfl : iv = Value.ref b := ry
  exact dc_setItem hu I3 g hk rv hz fun ep s4 I4 => ⟨σ, _, I4, q3 ep⟩
/-- d.get(y, z) -/
def tDcGet2 (td ty tx : TE) (X : Cx) : TE := fun σ H Q => td σ H fun x H1 => ∃ a ks0 hs0 ws0, x = .ref a ∧ DcAt X.K X.w H1 a ks0 hs0 ws0 ∧ ty σ H1 fun y H2 => tx σ H2 fun z H3 => ∃ b ks hs ws k, y = .ref b ∧ DcAt X.K X.w H3 a ks hs ws ∧ KyAt X.K H3 k b ∧ Q ((valD ks ws k).getD z) H3
theorem pe_dcget2 (hu : X.A.units + 9 < cLine) (ho : PE X o td) (he : PE X e ty) (hf : PE X f tx) (m : M2 X o "get" apos e f cpos) : PE X (.Call (.Attribute o "get" apos) [e, f] [] cpos) (tDcGet2 td ty tx X) := by
  refine ⟨fun pins s σ H Q I h => ?_⟩
  refine wpAny_Call_method m.base m.few m.line PySem.F.plainAttrs_dict PySem.F.slot_dict_get PySem.F.type_dict_get (thn (ho.run pins s σ H _ I h) fun u s1 ⟨x, H1, I1, rx, a, ks0, hs0, ws0, ex, g0, q1⟩ => ?_)
  subst ex
  obtain rfl : u = Value.ref a := rx
  refine ⟨dc_typeIs I1 g0, dc_noDict I1 g0, ?_⟩
  rw [m.trees]
  refine Calls.callWith_builtin rfl (Calls.evalArgs_plain (Calls.spliced_cons (thn (he.run pins s1 σ H1 _ I1 q1) fun iv s2 ⟨y, H2, I2, ry, q2⟩ =>
    Calls.spliced_cons (thn (hf.run pins s2 σ H2 _ I2 q2) fun fv s3 ⟨z, H3, I3, rz, b, ks, hs, ws, k, ey, g, hk, q3⟩ => Calls.spliced_nil ?_))))
  subst ey
  obtain rfl : iv = Value.ref b := ry
  exact dc_get2 hu I3 g hk rz fun w' s4 I4 rw' => ⟨_, H3, I4, rw', q3⟩
end
end Fw

/-! What the evaluator's answers are worth: built-in calls. -/
namespace Fw
open PySem PySem.Spec PyProof.Rows L2
def Blt.val : Blt → Value
  | .len => .builtin "len" | .abs => .builtin "abs" | .int => .type "int" | .str => .type "str" | .isi => .builtin "isinstance" | .all => .builtin "all" | .any => .builtin "any"
  | .sum => .builtin "sum" | .max => .builtin "max" | .min => .builtin "min" | .list => .type "list" | .tuple => .type "tuple" | .sorted => .builtin "sorted"
def Blt.nm : Blt → Str
  | .len => "len" | .abs => "abs" | .int => "int" | .str => "str" | .isi => "isinstance" | .all => "all" | .any => "any"
  | .sum => "sum" | .max => "max" | .min => "min" | .list => "list" | .tuple => "tuple" | .sorted => "sorted"
theorem Blt.boot (b : Blt) : bootBuiltins b.nm = some b.val := by cases b <;> decide +kernel
theorem Blt.nn (b : Blt) : b.nm ≠ "__name__" := by cases b <;> decide +kernel
theorem Blt.nd (b : Blt) : (b.nm == ("__debug__" : Str)) = false := by cases b <;> decide +kernel
theorem kit_isa (t c : Ty) : kitB t.nm c.nm = some (isaF t c) := by cases t <;> cases c <;> decide +kernel
theorem maxI_mem : ∀ {n : Int} {ns : List Int}, maxI (n :: ns) ∈ n :: ns
  | n, [] => by simp [maxI]
  | n, m :: ns => by
    have ih := maxI_mem (n := m) (ns := ns)
    show max n (maxI (m :: ns)) ∈ _
    rcases Int.le_total n (maxI (m :: ns)) with h | h
    · rw [Int.max_eq_right h]
      exact List.mem_cons_of_mem _ ih
    · rw [Int.max_eq_left h]
      exact List.mem_cons_self ..
theorem maxI_ge : ∀ {n : Int} {ns : List Int} {y : Int}, y ∈ n :: ns → y ≤ maxI (n :: ns)
  | n, [], y, h => by
    rw [List.mem_singleton.mp h]
    exact Int.le_refl _
  | n, m :: ns, y, h => by
    show y ≤ max n (maxI (m :: ns))
    rcases List.mem_cons.mp h with h | h
    · rw [h]
      exact Int.le_max_left ..
    · exact Int.le_trans (maxI_ge h) (Int.le_max_right ..)
theorem minI_mem : ∀ {n : Int} {ns : List Int}, minI (n :: ns) ∈ n :: ns
  | n, [] => by simp [minI]
  | n, m :: ns => by
    have ih := minI_mem (n := m) (ns := ns)
    show min n (minI (m :: ns)) ∈ _
    rcases Int.le_total n (minI (m :: ns)) with h | h
    · rw [Int.min_eq_left h]
      exact List.mem_cons_self ..
    · rw [Int.min_eq_right h]
      exact List.mem_cons_of_mem _ ih
theorem minI_le : ∀ {n : Int} {ns : List Int} {y : Int}, y ∈ n :: ns → minI (n :: ns) ≤ y
  | n, [], y, h => by
    rw [List.mem_singleton.mp h]
    exact Int.le_refl _
  | n, m :: ns, y, h => by
    show min n (minI (m :: ns)) ≤ y
    rcases List.mem_cons.mp h with h | h
    · rw [h]
      exact Int.min_le_left ..
    · exact Int.le_trans (Int.min_le_right ..) (minI_le h)
section
variable {X : Cx} {fa : Ad}
theorem sqT_tyX {K : PySem.W.Frag} {H : Hp} {a : Addr} {xs : List V} (h : SqT K H a xs) : TyX K H (.ref a) (.type "tuple") := by
  rcases h with (h | ⟨o, h⟩) | ⟨o, its, n, h, c, _⟩
  · exact .base (.tup h)
  · exact .fTuple h
  · exact .kTuple h c
theorem ty_ok {B : Bk} {S : Store} {H : Hp} {x : A} {v : V} {t : Ty} (so : StoreOk (gx X fa) ⟨B, S, H⟩) (h : tyF x S = some t) (d : DatA (gx X fa) ⟨B, S, H⟩ x v) : TyX X.K H v (.type t.nm) := by
  unfold tyF at h
  split at h
  · cases h; rw [show v = V.non from d]; exact .base .non
  · cases h; rw [show v = V.bl _ from d]; exact .base (.bl _)
  · cases h; rw [show v = V.int _ from d]; exact .base (.int _)
  · cases h; rw [show v = V.str _ from d]; exact .base (.str _)
  · cases h
    obtain ⟨a, vs, rfl, t, _⟩ := d
    exact sqT_tyX t
  · cases h
    obtain ⟨a, vs, rfl, t, _⟩ := d
    exact .base (.lst t)
  · cases h
    obtain ⟨a, rfl, t⟩ := d
    rcases t with ⟨o, t⟩ | ⟨o, its, n, e, c, _⟩ | ⟨t, _⟩
    · exact .base (.frz t)
    · exact .kList e c
    · exact .base (.lst t)
  · rename_i j
    split at h
    · rename_i xs hs
      cases h
      obtain ⟨a, hb, rfl, _⟩ := d
      obtain ⟨vs, e, _⟩ := so.ob j a xs hb hs
      exact .base (.lst e)
    · cases h
  · cases h
def BltOk (X : Cx) (fa : Ad) (f : Value) (S : Store) (xs : List A) (z : A) : Prop := ∃ r, CallR X f r ∧
  ∀ vs B H (Q : VK), StoreOk (gx X fa) ⟨B, S, H⟩ → DatAL (gx X fa) ⟨B, S, H⟩ xs vs →
    (∀ u H', StoreOk (gx X fa) ⟨B, S, H'⟩ → Stab (gx X fa) ⟨B, S, H⟩ ⟨B, S, H'⟩ → DatA (gx X fa) ⟨B, S, H'⟩ z u → Q u H') → r vs H Q
theorem DatAL.one {g : G} {z : Z} {x : A} {vs : List V} (h : DatAL g z [x] vs) : ∃ v, vs = [v] ∧ DatA g z x v := by
  obtain ⟨v, r, e, d, e2⟩ := h
  exact ⟨v, by rw [e, show r = [] from e2], d⟩
theorem DatAL.two {g : G} {z : Z} {x y : A} {vs : List V} (h : DatAL g z [x, y] vs) : ∃ v w, vs = [v, w] ∧ DatA g z x v ∧ DatA g z y w := by
  obtain ⟨v, r, e, d, h2⟩ := h
  obtain ⟨w, rfl, d2⟩ := DatAL.one h2
  exact ⟨v, w, e, d, d2⟩
theorem blt_ok {b : Blt} {S : Store} {xs : List A} {z : A} {k : Nat} (hc : X.calm = true) (hr : Room k X.A) (h : bltF b xs S = some z) : BltOk X fa b.val S xs z := by
  unfold bltF at h
  split at h
  case h_1 ds =>
    cases h
    refine ⟨_, call_len_seq, fun vs B H Q so d k => ?_⟩
    obtain ⟨v, rfl, a, ws, rfl, t, _, l⟩ := d.one
    refine ⟨a, ws, rfl, .inl (SqL.of t), ?_⟩
    rw [l.len]
    exact k _ H so Stab.refl rfl
  case h_2 ds =>
    cases h
    refine ⟨_, call_len_seq, fun vs B H Q so d k => ?_⟩
    obtain ⟨v, rfl, a, ws, rfl, t, l⟩ := d.one
    refine ⟨a, ws, rfl, .inr t, ?_⟩
    rw [l.len]
    exact k _ H so Stab.refl rfl
  case h_3 ds =>
    cases h
    refine ⟨_, call_len_seq, fun vs B H Q so d k => ?_⟩
    obtain ⟨v, rfl, a, rfl, t⟩ := d.one
    refine ⟨a, ds.map V.int, rfl, .inl ?_, ?_⟩
    · rcases t with ⟨o, t⟩ | t | ⟨t, _⟩
      · exact .inl (.inr ⟨o, t⟩)
      · exact .inr t
      · exact SqL.of t
    · rw [List.length_map]
      exact k _ H so Stab.refl rfl
  case h_4 x =>
    split at h
    · rename_i hl
      cases h
      refine ⟨_, call_len_str, fun vs B H Q so d k => ?_⟩
      obtain ⟨v, rfl, e⟩ := d.one
      exact ⟨x, by rw [show v = V.str x from e], lim_le hl, k _ H so Stab.refl rfl⟩
    · cases h
  case h_5 j =>
    split at h
    · rename_i ys hs
      cases h
      refine ⟨_, call_len_seq, fun vs B H Q so d k => ?_⟩
      obtain ⟨v, rfl, a, hb, rfl, _⟩ := d.one
      obtain ⟨ws, e, l⟩ := so.ob j a ys hb hs
      refine ⟨a, ws, rfl, .inl (SqL.of e), ?_⟩
      rw [l.len]
      exact k _ H so Stab.refl rfl
    · cases h
  case h_6 i =>
    cases h
    refine ⟨_, call_abs, fun vs B H Q so d k => ?_⟩
    obtain ⟨v, rfl, e⟩ := d.one
    exact ⟨i, by rw [show v = V.int i from e], k _ H so Stab.refl rfl⟩
  case h_7 i =>
    cases h
    refine ⟨_, call_int1, fun vs B H Q so d k => ?_⟩
    obtain ⟨v, rfl, e⟩ := d.one
    exact .inl ⟨i, by rw [show v = V.int i from e], k _ H so Stab.refl rfl⟩
  case h_8 b =>
    cases h
    refine ⟨_, call_int1, fun vs B H Q so d k => ?_⟩
    obtain ⟨v, rfl, e⟩ := d.one
    exact .inr ⟨b, by rw [show v = V.bl b from e], k _ H so Stab.refl rfl⟩
  case h_9 i =>
    split at h
    · rename_i hl
      cases h
      refine ⟨_, call_str_int, fun vs B H Q so d k => ?_⟩
      obtain ⟨v, rfl, e⟩ := d.one
      exact ⟨i, by rw [show v = V.int i from e], hl, k _ H so Stab.refl rfl⟩
    · cases h
  case h_10 x c =>
    cases q : tyF x S with
    | none => rw [q] at h; cases h
    | some t =>
      rw [q] at h
      cases h
      refine ⟨_, call_isi, fun vs B H Q so d k => ?_⟩
      obtain ⟨v, w, rfl, d1, d2⟩ := d.two
      exact ⟨v, w, .type t.nm, .type c.nm, isaF t c, rfl, by rw [show w = V.ty c.nm from d2]; exact .ty _, ty_ok so q d1, kit_ty (kit_isa t c), k _ H so Stab.refl rfl⟩
  case h_11 ds =>
    cases q : D.bls ds with
    | none => rw [q] at h; cases h
    | some bs =>
      rw [q] at h
      cases h
      refine ⟨_, cr_all hc, fun vs B H Q so d k => ?_⟩
      obtain ⟨v, rfl, a, ws, rfl, t, _, l⟩ := d.one
      exact ⟨a, bs, rfl, by rw [← l.bls q]; exact SqL.of t, k _ H so Stab.refl rfl⟩
  case h_12 ds =>
    cases q : D.bls ds with
    | none => rw [q] at h; cases h
    | some bs =>
      rw [q] at h
      cases h
      refine ⟨_, cr_any hc, fun vs B H Q so d k => ?_⟩
      obtain ⟨v, rfl, a, ws, rfl, t, _, l⟩ := d.one
      exact ⟨a, bs, rfl, by rw [← l.bls q]; exact SqL.of t, k _ H so Stab.refl rfl⟩
  case h_13 ds =>
    cases q : D.ints ds with
    | none => rw [q] at h; cases h
    | some bs =>
      rw [q] at h
      cases h
      refine ⟨_, cr_sum hc, fun vs B H Q so d k => ?_⟩
      obtain ⟨v, rfl, a, ws, rfl, t, _, l⟩ := d.one
      exact ⟨a, bs, rfl, by rw [← l.ints q]; exact SqL.of t, k _ H so Stab.refl rfl⟩
  case h_14 ds =>
    split at h
    · rename_i n ns q
      cases h
      refine ⟨_, cr_max hc, fun vs B H Q so d k => ?_⟩
      obtain ⟨v, rfl, a, ws, rfl, t, _, l⟩ := d.one
      refine ⟨a, n :: ns, rfl, by rw [← l.ints q]; exact SqL.of t, Nat.succ_pos _, fun m hm hy => ?_⟩
      have : m = maxI (n :: ns) := Int.le_antisymm (maxI_ge hm) (hy _ maxI_mem)
      rw [this]
      exact k _ H so Stab.refl rfl
    · cases h
  case h_15 ds =>
    split at h
    · rename_i n ns q
      cases h
      refine ⟨_, cr_min hc, fun vs B H Q so d k => ?_⟩
      obtain ⟨v, rfl, a, ws, rfl, t, _, l⟩ := d.one
      refine ⟨a, n :: ns, rfl, by rw [← l.ints q]; exact SqL.of t, Nat.succ_pos _, fun m hm hy => ?_⟩
      have : m = minI (n :: ns) := Int.le_antisymm (hy _ minI_mem) (minI_le hm)
      rw [this]
      exact k _ H so Stab.refl rfl
    · cases h
  case h_16 ds =>
    cases h
    refine ⟨_, call_list_of, fun vs B H Q so d k => ?_⟩
    obtain ⟨v, rfl, a, ws, rfl, t, _, l⟩ := d.one
    exact ⟨a, ws, rfl, .inl (SqL.of t), fun p hp => k _ _ (so.new hp) (Stab.new so hp) (new_lst so hp l)⟩
  case h_17 ds =>
    cases h
    refine ⟨_, call_list_of, fun vs B H Q so d k => ?_⟩
    obtain ⟨v, rfl, a, ws, rfl, t, l⟩ := d.one
    exact ⟨a, ws, rfl, .inr t, fun p hp => k _ _ (so.new hp) (Stab.new so hp) (new_lst so hp l)⟩
  case h_18 ds =>
    cases h
    refine ⟨_, call_tuple_of, fun vs B H Q so d k => ?_⟩
    obtain ⟨v, rfl, a, ws, rfl, t, _, l⟩ := d.one
    exact ⟨a, ws, rfl, .inl ⟨SqL.of t, fun p hp => k _ _ (so.new hp) (Stab.new so hp) (new_tup so hp l)⟩⟩
  case h_19 ds =>
    cases h
    refine ⟨_, call_tuple_of, fun vs B H Q so d k => ?_⟩
    obtain ⟨v, rfl, a, ws, rfl, t, l⟩ := d.one
    exact ⟨a, ws, rfl, .inr ⟨t, k _ H so Stab.refl ⟨a, ws, rfl, t, l⟩⟩⟩
  case h_20 x =>
    split at h
    · rename_i hl
      cases h
      refine ⟨_, call_list_s hc, fun vs B H Q so d k => ?_⟩
      obtain ⟨v, rfl, dv⟩ := d.one
      rw [show v = V.str x from dv]
      refine ⟨x, rfl, lim_le hl, fun p hp => k _ _ (so.new hp) (Stab.new so hp) (new_lst so hp ?_)⟩
      unfold charsV
      have : ∀ l : List Nat, DatL (gx X fa) ⟨B, S, H⟩ (l.map fun c => D.str ⟨#[c]⟩) (l.map fun c => V.str ⟨#[c]⟩) := by
        intro l
        induction l with
        | nil => rfl
        | cons c l ih => exact ⟨_, _, rfl, rfl, ih⟩
      exact this _
    · cases h
  case h_21 i j =>
    cases h
    refine ⟨_, call_min2 hc, fun vs B H Q so d k => ?_⟩
    obtain ⟨v, w, rfl, d1, d2⟩ := d.two
    exact ⟨i, j, by rw [show v = V.int i from d1, show w = V.int j from d2], k _ H so Stab.refl rfl⟩
  case h_22 ds =>
    cases q : sortF ds with
    | none => rw [q] at h; cases h
    | some es =>
      rw [q] at h
      cases h
      refine ⟨_, cr_sortD hr, fun vs B H Q so d k => ?_⟩
      obtain ⟨v, rfl, a, ws, rfl, t, _, l⟩ := d.one
      obtain ⟨bs, e1, e2, h1, h2⟩ := sort_dat (X := X) (fa := fa) l q
      exact ⟨a, bs, rfl, .inl (by rw [e1]; exact SqL.of t), h1, fun ys p hp hy => k _ _ (so.new hp) (Stab.new so hp) (new_lst so hp (h2 ys hy))⟩
  case h_23 ds =>
    cases q : sortF ds with
    | none => rw [q] at h; cases h
    | some es =>
      rw [q] at h
      cases h
      refine ⟨_, cr_sortD hr, fun vs B H Q so d k => ?_⟩
      obtain ⟨v, rfl, a, ws, rfl, t, l⟩ := d.one
      obtain ⟨bs, e1, e2, h1, h2⟩ := sort_dat (X := X) (fa := fa) l q
      exact ⟨a, bs, rfl, .inr (by rw [e1]; exact t), h1, fun ys p hp hy => k _ _ (so.new hp) (Stab.new so hp) (new_lst so hp (h2 ys hy))⟩
  case h_24 x =>
    split at h
    · rename_i hl
      cases q : PySem.intText? x with
      | none => rw [q] at h; cases h
      | some n =>
        rw [q] at h
        cases h
        refine ⟨_, call_int_str, fun vs B H Q so d k => ?_⟩
        obtain ⟨v, rfl, e⟩ := d.one
        exact ⟨x, n, by rw [show v = V.str x from e], q, hl, k _ H so Stab.refl rfl⟩
    · cases h
  case h_25 j =>
    split at h
    · rename_i ys hs
      cases h
      refine ⟨_, call_tuple_of, fun vs B H Q so d k => ?_⟩
      obtain ⟨v, rfl, a, hb, rfl, _⟩ := d.one
      obtain ⟨ws, e, l⟩ := so.ob j a ys hb hs
      exact ⟨a, ws, rfl, .inl ⟨SqL.of e, fun p hp => k _ _ (so.new hp) (Stab.new so hp) (new_tup so hp l)⟩⟩
    · cases h
  case h_26 xs ys =>
    refine ⟨_, cr_minT hc hr, fun vs B H Q so d k => ?_⟩
    obtain ⟨v, w, rfl, d1, d2⟩ := d.two
    obtain ⟨x, y, p1, p2, al, h1, h2, dz⟩ := min_dat (X := X) (fa := fa) d1 d2 h
    exact ⟨v, w, x, y, rfl, p1, p2, al, h1, h2, k _ H so Stab.refl dz⟩
  case h_27 => cases h
end
end Fw

/-! Expressions. -/
namespace Fw
open PySem PySem.Spec PyProof.Rows L2
abbrev SE (fa : Ad) (cl : Nat → List A → Store → Rz A) (X : Cx) (e : Expr) (c : C) : Prop := PE X e (tE (gx X fa) (ev cl false c))
abbrev ST (fa : Ad) (cl : Nat → List A → Store → Rz A) (X : Cx) (e : Expr) (c : C) : Prop := PT X e (tT (gx X fa) (ev cl true c))
abbrev SW (fa : Ad) (cl : Nat → List A → Store → Rz A) (X : Cx) (e : Expr) (c : C) : Prop := PW X e (tT (gx X fa) (ev cl true c))
abbrev SA (fa : Ad) (cl : Nat → List A → Store → Rz A) (X : Cx) (es : List Expr) (cs : List C) : Prop := PA X es (tA (gx X fa) (evs cl cs))
theorem _root_.L2.PE.imp {X : Cx} {e : Expr} {t t' : TE} (h : PE X e t) (f : ∀ σ H Q, t' σ H Q → t σ H Q) : PE X e t' := ⟨fun pins s σ H Q I q => h.run pins s σ H Q I (f σ H Q q)⟩
theorem _root_.L2.PT.imp {X : Cx} {e : Expr} {t t' : TT} (h : PT X e t) (f : ∀ σ H Q, t' σ H Q → t σ H Q) : PT X e t' := ⟨fun pins s σ H Q I q => h.run pins s σ H Q I (f σ H Q q)⟩
theorem _root_.L2.PW.imp {X : Cx} {e : Expr} {t t' : TT} (h : PW X e t) (f : ∀ σ H Q, t' σ H Q → t σ H Q) : PW X e t' := ⟨fun w pins s σ H Q I q => h.run w pins s σ H Q I (f σ H Q q)⟩
theorem _root_.L2.PA.imp {X : Cx} {e : List Expr} {t t' : TA} (h : PA X e t) (f : ∀ σ H Q, t' σ H Q → t σ H Q) : PA X e t' := ⟨fun p pins s σ H Q I q => h.run p pins s σ H Q I (f σ H Q q)⟩
theorem tst_f {x : A} {S : Store} : tst false x S = .ok x S := rfl
theorem tst_t {x : A} {S S' : Store} {y : A} (h : tst true x S = .ok y S') : ∃ d b, x = .p d ∧ truF d = some b ∧ y = .p (.bl b) ∧ S' = S := by
  cases x with
  | m i => cases h
  | p d =>
    have h' : Rz.of ((truF d).map fun b => A.p (.bl b)) S = .ok y S' := h
    obtain ⟨e, rfl⟩ := Rz.of_ok h'
    cases q : truF d with
    | none => rw [q] at e; cases e
    | some b =>
      rw [q] at e
      cases e
      exact ⟨d, b, rfl, q, rfl, rfl⟩
section
variable {fa : Ad} {cl : Nat → List A → Store → Rz A} {X : Cx} {e a b : Expr} {c ca cb : C} {pos : Pos} {k : Nat}
/-- a value as a test -/
theorem st_of (h : SE fa cl X e c) (ht : ∀ ρ S, ev cl true c ρ S = (ev cl false c ρ S).bind (tst true)) (he : ∀ whole, isTrue e X.env whole = (do let v ← whole; standAt e.pos; holding [v] (truthy v))) : ST fa cl X e c :=
  (pt_truth h he).imp fun σ H Q q => by
    obtain ⟨B, S, ρ, b, S', eo, so, hm, k⟩ := q
    rw [ht] at hm
    obtain ⟨x, S1, hx, h2⟩ := Rz.bind_ok hm
    obtain ⟨d, b', rfl, hb, e2, rfl⟩ := tst_t h2
    cases e2
    exact tE.use eo so hx fun v B' H' so' st _ dv => ⟨b, tru_dat hb dv, k B' H' so' st⟩
theorem se_var {i : Nat} {x : Str} (hN : X.N[i]? = some x) (hv : Vis X.env.scope x) (hd : (x == ("__debug__" : Str)) = false) (hcd : (x == ("__classdict__" : Str)) = false) : SE fa cl X (.Name x pos) (.var i) :=
  (pe_var hN hv hd hcd).imp fun σ H Q q => by
    obtain ⟨B, S, ρ, x, S', eo, so, hm, k⟩ := q
    rw [ev] at hm
    split at hm
    · rename_i y hy
      rw [tst_f] at hm
      cases hm
      obtain ⟨v, hv, dv⟩ := eo.get i _ hy
      exact ⟨v, hv, k v B H so Stab.refl dv⟩
    · cases hm
theorem se_cst {d : D} {v : V} (h : PE X e (tC v)) (hd : ∀ z, Dat (gx X fa) z d v) : SE fa cl X e (.cst d) := h.imp fun σ H Q q => by
  obtain ⟨B, S, ρ, x, S', eo, so, hm, k⟩ := q
  rw [ev, tst_f] at hm
  cases hm
  exact k v B H so Stab.refl (hd _)
theorem se_bin {op : Operator} (ha : SE fa cl X a ca) (hb : SE fa cl X b cb) : SE fa cl X (.BinOp a op b pos) (.bin op ca cb) := by
  refine ⟨fun pins s σ H Q I q => ?_⟩
  obtain ⟨B, S, ρ, z, S', eo, so, hm, k⟩ := q
  rw [ev] at hm
  obtain ⟨x, S1, hx, hm1⟩ := Rz.bind_ok hm
  obtain ⟨y, S2, hy, hm2⟩ := Rz.bind_ok hm1
  split at hm2
  · rename_i x y
    obtain ⟨w, S3, hw, hm3⟩ := Rz.bind_ok hm2
    obtain ⟨gw, rfl⟩ := Rz.of_ok hw
    rw [tst_f] at hm3
    cases hm3
    obtain ⟨r, hr, ok⟩ := bin_ok (X := X) (fa := fa) gw
    refine (pe_op hr ha hb).run pins s σ H Q I ?_
    refine tE.use eo so hx fun v1 B1 H1 so1 st1 eo1 d1 => tE.use eo1 so1 hy fun v2 B2 H2 so2 st2 eo2 d2 => ?_
    exact ok v1 v2 B2 _ H2 Q so2 (st2.dat _ _ d1) d2 fun u H' so' st' du => k u B2 H' so' ((st1.trans st2).trans st') du
  · cases hm2
theorem se_neg (ha : SE fa cl X a ca) : SE fa cl X (.UnaryOp .USub a pos) (.neg ca) := by
  refine (pe_un un_neg ha).imp fun σ H Q q => ?_
  obtain ⟨B, S, ρ, z, S', eo, so, hm, k⟩ := q
  rw [ev] at hm
  obtain ⟨x, S1, hx, hm1⟩ := Rz.bind_ok hm
  split at hm1
  · rename_i i
    rw [tst_f] at hm1
    cases hm1
    exact tE.use eo so hx fun v1 B1 H1 so1 st1 eo1 d1 => ⟨i, d1, k _ B1 H1 so1 st1 rfl⟩
  · cases hm1
theorem notSet_marks {op : CmpOp} {b : Expr} (h : ∀ es k p, b ≠ .Set es k p) : behindInMarks op b = false := by
  unfold behindInMarks
  split
  · rename_i es k p
    exact absurd rfl (h es k p)
  · rfl
theorem dig1 {g : G} {B : Bk} {S : Store} {H : Hp} {x : A} {v : V} (k : StoreOk g ⟨B, S, H⟩) (d : DatA g ⟨B, S, H⟩ x v) : ∃ S', StoreOk g ⟨B, S', H⟩ ∧ Stab g ⟨B, S, H⟩ ⟨B, S', H⟩ ∧ DatA g ⟨B, S', H⟩ (dig x S) v := by
  cases x with
  | p e => exact ⟨S, k, Stab.refl, d⟩
  | m j =>
    unfold dig
    dsimp only
    split
    · rename_i ds hj
      obtain ⟨a, ha, rfl, hnr⟩ := d
      obtain ⟨vs, hv, hd⟩ := k.ob j a ds ha hj
      exact ⟨S.set j .dead, k.freeze hnr, Stab.freeze, a, vs, rfl, hv, freeze_dead k ha hnr, Stab.freeze.datL hd⟩
    · exact ⟨S, k, Stab.refl, d⟩
theorem dig2 {g : G} {B : Bk} {S : Store} {H : Hp} {x y : A} {v w : V} (k : StoreOk g ⟨B, S, H⟩) (d : DatA g ⟨B, S, H⟩ x v) (e : DatA g ⟨B, S, H⟩ y w) : ∃ S', StoreOk g ⟨B, S', H⟩ ∧ DatA g ⟨B, S', H⟩ (dig x S) v ∧ DatA g ⟨B, S', H⟩ (dig y S) w := by
  obtain ⟨S1, k1, s1, d1⟩ := dig1 k d
  cases y with
  | p f => exact ⟨S1, k1, d1, s1.datA e⟩
  | m j =>
    cases hj : S[j]? with
    | none => exact ⟨S1, k1, d1, by rw [show dig (.m j) S = .m j by simp [dig, hj]]; exact s1.datA e⟩
    | some o =>
      cases o with
      | lst ds =>
        obtain ⟨a, ha, rfl, hnr⟩ := e
        have hnr1 := (s1.pre j a ha hnr).2
        have ha1 := (s1.pre j a ha hnr).1
        obtain ⟨vs, hv, hd⟩ := k.ob j a ds ha hj
        refine ⟨S1.set j .dead, k1.freeze hnr1, Stab.freeze.datA d1, ?_⟩
        rw [show dig (.m j) S = .p (.lst ds) by simp [dig, hj]]
        exact ⟨a, vs, rfl, hv, freeze_dead k1 ha1 hnr1, Stab.freeze.datL (s1.datL hd)⟩
      | dead => exact ⟨S1, k1, d1, by rw [show dig (.m j) S = .m j by simp [dig, hj]]; exact s1.datA e⟩
      | ins c ns ds => exact ⟨S1, k1, d1, by rw [show dig (.m j) S = .m j by simp [dig, hj]]; exact s1.datA e⟩
      | dct ks vs => exact ⟨S1, k1, d1, by rw [show dig (.m j) S = .m j by simp [dig, hj]]; exact s1.datA e⟩
      | dks ks vs => exact ⟨S1, k1, d1, by rw [show dig (.m j) S = .m j by simp [dig, hj]]; exact s1.datA e⟩
      | inm c ns xs => exact ⟨S1, k1, d1, by rw [show dig (.m j) S = .m j by simp [dig, hj]]; exact s1.datA e⟩
      | resv => exact ⟨S1, k1, d1, by rw [show dig (.m j) S = .m j by simp [dig, hj]]; exact s1.datA e⟩
theorem cmp_run {x y : A} {z : Bool} {S S1 S2 : Store} {B : Bk} {ρ : Env} {σ : L2.St} {H : Hp} {r : R2} {Q : VK} (eo : EnvOk (gx X fa) ⟨B, S, H⟩ ρ σ) (so : StoreOk (gx X fa) ⟨B, S, H⟩)
    (hx : ev cl false ca ρ S = .ok x S1) (hy : ev cl false cb ρ S1 = .ok y S2)
    (ok : ∀ v w B S H (Q : VK), StoreOk (gx X fa) ⟨B, S, H⟩ → DatA (gx X fa) ⟨B, S, H⟩ (dig x S2) v → DatA (gx X fa) ⟨B, S, H⟩ (dig y S2) w → Q (.bl z) H → r v w H Q)
    (k : ∀ B' H', StoreOk (gx X fa) ⟨B', S2, H'⟩ → Stab (gx X fa) ⟨B, S, H⟩ ⟨B', S2, H'⟩ → Q (.bl z) H') : tOp r (tE (gx X fa) (ev cl false ca)) (tE (gx X fa) (ev cl false cb)) σ H Q :=
  tE.use eo so hx fun v1 B1 H1 so1 st1 eo1 d1 => tE.use eo1 so1 hy fun v2 B2 H2 so2 st2 eo2 d2 => by
    obtain ⟨S3, k3, e1, e2⟩ := dig2 so2 (st2.datA d1) d2
    exact ok v1 v2 B2 S3 H2 Q k3 e1 e2 (k B2 H2 so2 (st1.trans st2))
theorem se_cmp {op : CmpOp} (hr : Room k X.A) (ha : SE fa cl X a ca) (hb : SE fa cl X b cb) (hs : ∀ es k p, b ≠ .Set es k p) : SE fa cl X (.Compare a [op] [b] pos) (.cmp op ca cb) := by
  refine ⟨fun pins s σ H Q I q => ?_⟩
  obtain ⟨B, S, ρ, z, S', eo, so, hm, k⟩ := q
  rw [ev] at hm
  obtain ⟨x, S1, hx, hm1⟩ := Rz.bind_ok hm
  obtain ⟨y, S2, hy, hm2⟩ := Rz.bind_ok hm1
  obtain ⟨w, S3, hw, hm3⟩ := Rz.bind_ok hm2
  obtain ⟨gw, rfl⟩ := Rz.of_ok hw
  cases hm3
  obtain ⟨r, hop, ok⟩ := cmp_ok (X := X) (fa := fa) hr gw
  exact (pe_cmpR hop ha hb (notSet_marks hs)).run pins s σ H Q I (cmp_run eo so hx hy ok fun B' H' so' st => k _ B' H' so' st rfl)
theorem st_cmp {op : CmpOp} (hr : Room k X.A) (ha : SE fa cl X a ca) (hb : SE fa cl X b cb) (hs : ∀ es k p, b ≠ .Set es k p) : ST fa cl X (.Compare a [op] [b] pos) (.cmp op ca cb) := by
  refine ⟨fun pins s σ H Q I q => ?_⟩
  obtain ⟨B, S, ρ, z, S', eo, so, hm, k⟩ := q
  rw [ev] at hm
  obtain ⟨x, S1, hx, hm1⟩ := Rz.bind_ok hm
  obtain ⟨y, S2, hy, hm2⟩ := Rz.bind_ok hm1
  obtain ⟨w, S3, hw, hm3⟩ := Rz.bind_ok hm2
  obtain ⟨gw, rfl⟩ := Rz.of_ok hw
  cases hm3
  obtain ⟨r, hop, ok⟩ := cmp_ok (X := X) (fa := fa) hr gw
  exact (pt_cmpR hop ha hb (notSet_marks hs)).run pins s σ H Q I (cmp_run eo so hx hy ok fun B' H' so' st => ⟨_, rfl, k B' H' so' st⟩)
theorem chain_run {op op' : CmpOp} {x : A} {S S' : Store} {B : Bk} {ρ : Env} {σ : L2.St} {H : Hp} {z : Bool} (hr : Room k X.A) (eo : EnvOk (gx X fa) ⟨B, S, H⟩ ρ σ) (so : StoreOk (gx X fa) ⟨B, S, H⟩) {cc : C}
    (hm : ev cl false (.chain op op' ca cb cc) ρ S = .ok (.p (.bl z)) S') : ∃ r r', OpR X (compareOp op) r ∧ OpR X (compareOp op') r' ∧ ∀ Q : VK, (∀ B' H', StoreOk (gx X fa) ⟨B', S', H'⟩ → Stab (gx X fa) ⟨B, S, H⟩ ⟨B', S', H'⟩ → Q (.bl z) H') →
      tChain r r' (tE (gx X fa) (ev cl false ca)) (tE (gx X fa) (ev cl false cb)) (tE (gx X fa) (ev cl false cc)) σ H Q := by
  rw [ev] at hm
  obtain ⟨x, S1, hx, hm1⟩ := Rz.bind_ok hm
  obtain ⟨y, S2, hy, hm2⟩ := Rz.bind_ok hm1
  obtain ⟨w, S3, hw, hm3⟩ := Rz.bind_ok hm2
  obtain ⟨gw, rfl⟩ := Rz.of_ok hw
  obtain ⟨r, hop, ok⟩ := cmp_ok (X := X) (fa := fa) hr gw
  cases w with
  | true =>
    simp only [if_true] at hm3
    obtain ⟨w2, S4, hw2, hm4⟩ := Rz.bind_ok hm3
    obtain ⟨z2, S5, hz2, hm5⟩ := Rz.bind_ok hm4
    obtain ⟨gz2, rfl⟩ := Rz.of_ok hz2
    cases hm5
    obtain ⟨r', hop', ok'⟩ := cmp_ok (X := X) (fa := fa) hr gz2
    refine ⟨r, r', hop, hop', fun Q k => ?_⟩
    refine tE.use eo so hx fun v1 B1 H1 so1 st1 eo1 d1 => tE.use eo1 so1 hy fun v2 B2 H2 so2 st2 eo2 d2 => ?_
    refine ok v1 v2 B2 _ H2 _ so2 (st2.datA d1) d2 ⟨true, rfl, ?_⟩
    simp only [if_true]
    exact tE.use eo2 so2 hw2 fun v3 B3 H3 so3 st3 eo3 d3 => by
      obtain ⟨S9, k9, e1, e2⟩ := dig2 so3 (st3.datA d2) d3
      exact ok' v2 v3 B3 S9 H3 Q k9 e1 e2 (k B3 H3 so3 ((st1.trans st2).trans st3))
  | false =>
    simp only [Bool.false_eq_true, if_false] at hm3
    cases hm3
    refine ⟨r, fun _ _ _ _ => False, hop, fun _ _ _ _ _ _ _ _ _ _ _ _ f => f.elim, fun Q k => ?_⟩
    refine tE.use eo so hx fun v1 B1 H1 so1 st1 eo1 d1 => tE.use eo1 so1 hy fun v2 B2 H2 so2 st2 eo2 d2 => ?_
    refine ok v1 v2 B2 _ H2 _ so2 (st2.datA d1) d2 ⟨false, rfl, ?_⟩
    simp only [Bool.false_eq_true, if_false]
    exact k B2 H2 so2 (st1.trans st2)
theorem chain_bl {t : Bool} {op op' : CmpOp} {cc : C} {ρ : Env} {S S' : Store} {x : A} (h : ev cl t (.chain op op' ca cb cc) ρ S = .ok x S') : ev cl false (.chain op op' ca cb cc) ρ S = .ok x S' ∧ ∃ b, x = .p (.bl b) := by
  rw [ev] at h
  refine ⟨by rw [ev]; exact h, ?_⟩
  obtain ⟨x, S1, hx, hm1⟩ := Rz.bind_ok h
  obtain ⟨y, S2, hy, hm2⟩ := Rz.bind_ok hm1
  obtain ⟨w, S3, hw, hm3⟩ := Rz.bind_ok hm2
  split at hm3
  · obtain ⟨w2, S4, hw2, hm4⟩ := Rz.bind_ok hm3
    obtain ⟨z2, S5, hz2, hm5⟩ := Rz.bind_ok hm4
    cases hm5
    exact ⟨_, rfl⟩
  · cases hm3
    exact ⟨_, rfl⟩
theorem notSet_last {op op' : CmpOp} {b c : Expr} (h : ∀ es k p, c ≠ .Set es k p) : lastMarks [op, op'] [b, c] = false := by
  show lastMarks [op'] [c] = false
  exact notSet_marks h
theorem se_chain {op op' : CmpOp} {d : Expr} {cd : C} (hr : Room k X.A) (ha : SE fa cl X a ca) (hb : SE fa cl X b cb) (hd : SE fa cl X d cd) (hs : ∀ es k p, d ≠ .Set es k p) : SE fa cl X (.Compare a [op, op'] [b, d] pos) (.chain op op' ca cb cd) := by
  refine ⟨fun pins s σ H Q I q => ?_⟩
  obtain ⟨B, S, ρ, z, S', eo, so, hm, k⟩ := q
  obtain ⟨hm, b', rfl⟩ := chain_bl hm
  obtain ⟨r, r', h1, h2, rd⟩ := chain_run (x := .m 0) hr eo so hm
  exact (pe_chain h1 h2 ha hb hd (notSet_last hs)).run pins s σ H Q I (rd Q fun B' H' so' st => k _ B' H' so' st rfl)
theorem st_chain {op op' : CmpOp} {d : Expr} {cd : C} (hr : Room k X.A) (ha : SE fa cl X a ca) (hb : SE fa cl X b cb) (hd : SE fa cl X d cd) (hs : ∀ es k p, d ≠ .Set es k p) : ST fa cl X (.Compare a [op, op'] [b, d] pos) (.chain op op' ca cb cd) := by
  refine ⟨fun pins s σ H Q I q => ?_⟩
  obtain ⟨B, S, ρ, z, S', eo, so, hm, k⟩ := q
  obtain ⟨hm, b', hb'⟩ := chain_bl hm
  obtain ⟨r, r', h1, h2, rd⟩ := chain_run (x := .m 0) hr eo so hm
  exact (pt_chain h1 h2 ha hb hd (notSet_last hs)).run pins s σ H Q I (rd _ fun B' H' so' st => ⟨_, rfl, k B' H' so' st⟩)
/-! ### and, or, not -/
variable {rest : List Expr}
theorem se_andC (ha : SE fa cl X a ca) (hb : SE fa cl X (.BoolOp .And (b :: rest) pos) cb) : SE fa cl X (.BoolOp .And (a :: b :: rest) pos) (.and ca cb) := by
  refine (pe_andT ha hb).imp fun σ H Q q => ?_
  obtain ⟨B, S, ρ, z, S', eo, so, hm, k⟩ := q
  rw [ev] at hm
  simp only [Bool.false_eq_true, if_false] at hm
  obtain ⟨x, S1, hx, hm1⟩ := Rz.bind_ok hm
  obtain ⟨y, S2, hy, hm2⟩ := Rz.bind_ok hm1
  obtain ⟨d, b', rfl, hb', rfl, rfl⟩ := tst_t hy
  refine tE.use eo so hx fun v1 B1 H1 so1 st1 eo1 d1 => ⟨b', tru_dat hb' d1, ?_⟩
  cases b' with
  | true =>
    simp only [if_true]
    exact tE.use eo1 so1 hm2 fun v2 B2 H2 so2 st2 eo2 d2 => k v2 B2 H2 so2 (st1.trans st2) d2
  | false =>
    simp only [Bool.false_eq_true, if_false]
    cases hm2
    exact k v1 B1 H1 so1 st1 d1
theorem se_orC (ha : SE fa cl X a ca) (hb : SE fa cl X (.BoolOp .Or (b :: rest) pos) cb) : SE fa cl X (.BoolOp .Or (a :: b :: rest) pos) (.or ca cb) := by
  refine (pe_orT ha hb).imp fun σ H Q q => ?_
  obtain ⟨B, S, ρ, z, S', eo, so, hm, k⟩ := q
  rw [ev] at hm
  simp only [Bool.false_eq_true, if_false] at hm
  obtain ⟨x, S1, hx, hm1⟩ := Rz.bind_ok hm
  obtain ⟨y, S2, hy, hm2⟩ := Rz.bind_ok hm1
  obtain ⟨d, b', rfl, hb', rfl, rfl⟩ := tst_t hy
  refine tE.use eo so hx fun v1 B1 H1 so1 st1 eo1 d1 => ⟨b', tru_dat hb' d1, ?_⟩
  cases b' with
  | false =>
    simp only [Bool.false_eq_true, if_false]
    exact tE.use eo1 so1 hm2 fun v2 B2 H2 so2 st2 eo2 d2 => k v2 B2 H2 so2 (st1.trans st2) d2
  | true =>
    simp only [if_true]
    cases hm2
    exact k v1 B1 H1 so1 st1 d1
theorem se_one {op : BoolOp} (ha : SE fa cl X a ca) : SE fa cl X (.BoolOp op [a] pos) ca := pe_one ha
theorem sw_and1 (ha : ST fa cl X a ca) : SW fa cl X (.BoolOp .And [a] pos) ca := pw_and1 ha
theorem sw_or1 (ha : ST fa cl X a ca) : SW fa cl X (.BoolOp .Or [a] pos) ca := pw_or1 ha
theorem ev_bl {x : A} {S' : Store} {ρ : Env} {S : Store} {cc : C} (h : ev cl true cc ρ S = .ok x S') : True := trivial
theorem sw_andC (ha : ST fa cl X a ca) (hb : SW fa cl X (.BoolOp .And (b :: rest) pos) cb) : SW fa cl X (.BoolOp .And (a :: b :: rest) pos) (.and ca cb) := by
  refine (pw_and ha hb).imp fun σ H Q q => ?_
  obtain ⟨B, S, ρ, z, S', eo, so, hm, k⟩ := q
  rw [ev] at hm
  simp only [if_true] at hm
  obtain ⟨x, S1, hx, hm1⟩ := Rz.bind_ok hm
  split at hm1
  · refine tT.use eo so hx fun B1 H1 so1 st1 eo1 => ?_
    simp only [if_true]
    exact tT.use eo1 so1 hm1 fun B2 H2 so2 st2 eo2 => k B2 H2 so2 (st1.trans st2)
  · cases hm1
    refine tT.use eo so hx fun B1 H1 so1 st1 eo1 => ?_
    simp only [Bool.false_eq_true, if_false]
    exact k B1 H1 so1 st1
  · cases hm1
theorem sw_orC (ha : ST fa cl X a ca) (hb : SW fa cl X (.BoolOp .Or (b :: rest) pos) cb) : SW fa cl X (.BoolOp .Or (a :: b :: rest) pos) (.or ca cb) := by
  refine (pw_or ha hb).imp fun σ H Q q => ?_
  obtain ⟨B, S, ρ, z, S', eo, so, hm, k⟩ := q
  rw [ev] at hm
  simp only [if_true] at hm
  obtain ⟨x, S1, hx, hm1⟩ := Rz.bind_ok hm
  split at hm1
  · refine tT.use eo so hx fun B1 H1 so1 st1 eo1 => ?_
    simp only [Bool.false_eq_true, if_false]
    exact tT.use eo1 so1 hm1 fun B2 H2 so2 st2 eo2 => k B2 H2 so2 (st1.trans st2)
  · cases hm1
    refine tT.use eo so hx fun B1 H1 so1 st1 eo1 => ?_
    simp only [if_true]
    exact k B1 H1 so1 st1
  · cases hm1
theorem st_not (ha : ST fa cl X a ca) : ST fa cl X (.UnaryOp .Not a pos) (.not ca) := by
  refine (pt_not ha).imp fun σ H Q q => ?_
  obtain ⟨B, S, ρ, z, S', eo, so, hm, k⟩ := q
  rw [ev] at hm
  obtain ⟨x, S1, hx, hm1⟩ := Rz.bind_ok hm
  split at hm1
  · cases hm1
    exact tT.use eo so hx fun B1 H1 so1 st1 eo1 => k B1 H1 so1 st1
  · cases hm1
theorem not_run {pins : List (Addr × Obj)} {s : Shared} {Q : Value → Shared → Prop} (h : wpAny (model X.prog X.w) X.A (isTrue a X.env (eval a X.env)) (fun b s1 => Q (.bool (!b)) s1) X.xe s) : True := trivial
theorem se_ite {t : Expr} {ct : C} (ht : ST fa cl X t ct) (ha : SE fa cl X a ca) (hb : SE fa cl X b cb) : SE fa cl X (.IfExp t a b pos) (.ite ct ca cb) := by
  refine (pe_ifExp ht ha hb).imp fun σ H Q q => ?_
  obtain ⟨B, S, ρ, z, S', eo, so, hm, k⟩ := q
  rw [ev] at hm
  obtain ⟨x, S1, hx, hm1⟩ := Rz.bind_ok hm
  split at hm1
  · refine tT.use eo so hx fun B1 H1 so1 st1 eo1 => ?_
    simp only [if_true]
    exact tE.use eo1 so1 hm1 fun v2 B2 H2 so2 st2 eo2 d2 => k v2 B2 H2 so2 (st1.trans st2) d2
  · refine tT.use eo so hx fun B1 H1 so1 st1 eo1 => ?_
    simp only [Bool.false_eq_true, if_false]
    exact tE.use eo1 so1 hm1 fun v2 B2 H2 so2 st2 eo2 d2 => k v2 B2 H2 so2 (st1.trans st2) d2
  · cases hm1
/-! ### arguments, displays -/
variable {es : List Expr} {cs : List C}
theorem sa_nil : SA fa cl X [] [] := pa_nil.imp fun σ H Q q => by
  obtain ⟨B, S, ρ, z, S', eo, so, hm, k⟩ := q
  rw [evs] at hm
  cases hm
  exact k [] B H so Stab.refl rfl
theorem sa_cons (ha : SE fa cl X e c) (hr : SA fa cl X es cs) (hs : starEach (e :: es) X.env = (false, eval e X.env) :: starEach es X.env) : SA fa cl X (e :: es) (c :: cs) := (pa_cons ha hr hs).imp fun σ H Q q => by
  obtain ⟨B, S, ρ, z, S', eo, so, hm, k⟩ := q
  rw [evs] at hm
  obtain ⟨x, S1, hx, hm1⟩ := Rz.bind_ok hm
  obtain ⟨xs, S2, hy, hm2⟩ := Rz.bind_ok hm1
  cases hm2
  exact tE.use eo so hx fun v1 B1 H1 so1 st1 eo1 d1 => tA.use eo1 so1 hy fun vs B2 H2 so2 st2 eo2 d2 => k _ B2 H2 so2 (st1.trans st2) ⟨v1, vs, rfl, st2.datA d1, d2⟩
theorem se_tup {x1 : Nat} (h : SA fa cl X es cs) : SE fa cl X (.Tuple es x1 pos) (.tup cs) := (pe_tup h).imp fun σ H Q q => by
  obtain ⟨B, S, ρ, z, S', eo, so, hm, k⟩ := q
  rw [ev] at hm
  obtain ⟨xs, S1, hx, hm1⟩ := Rz.bind_ok hm
  split at hm1
  · rename_i ds hd
    split at hm1
    · rename_i hl
      rw [tst_f] at hm1
      cases hm1
      refine tA.use eo so hx fun vs B1 H1 so1 st1 eo1 d1 => ?_
      have dl := DatAL.datas hd d1
      exact ⟨by rw [dl.len]; exact lim_le hl, fun p hp => k _ B1 _ (so1.new hp) (st1.trans (Stab.new so1 hp)) (new_tup so1 hp dl)⟩
    · cases hm1
  · cases hm1
theorem se_lst (h : SA fa cl X es cs) : SE fa cl X (.List es pos) (.lst cs) := (pe_lst h).imp fun σ H Q q => by
  obtain ⟨B, S, ρ, z, S', eo, so, hm, k⟩ := q
  rw [ev] at hm
  obtain ⟨xs, S1, hx, hm1⟩ := Rz.bind_ok hm
  split at hm1
  · rename_i ds hd
    split at hm1
    · rename_i hl
      rw [tst_f] at hm1
      cases hm1
      refine tA.use eo so hx fun vs B1 H1 so1 st1 eo1 d1 => ?_
      have dl := DatAL.datas hd d1
      exact ⟨by rw [dl.len]; exact lim_le hl, fun p hp => k _ B1 _ (so1.new hp) (st1.trans (Stab.new so1 hp)) (new_lst so1 hp dl)⟩
    · cases hm1
  · cases hm1
theorem se_lstM (h : SA fa cl X es cs) : SE fa cl X (.List es pos) (.lstM cs) := (pe_lst h).imp fun σ H Q q => by
  obtain ⟨B, S, ρ, z, S', eo, so, hm, k⟩ := q
  rw [ev] at hm
  obtain ⟨xs, S1, hx, hm1⟩ := Rz.bind_ok hm
  split at hm1
  · rename_i ds hd
    split at hm1
    · rename_i hl
      cases hm1
      rw [Bool.and_eq_true] at hl
      refine tA.use eo so hx fun vs B1 H1 so1 st1 eo1 d1 => ?_
      have dl := DatAL.datas hd d1
      refine ⟨by rw [dl.len]; exact lim_le (of_decide_eq_true hl.1), fun p hp => k _ (B1.add p) _ (so1.alloc hp dl) (st1.trans (Stab.alloc so1 hp)) ⟨p, ?_, rfl, new_nr (fun z => by cases z)⟩⟩
      show (B1.l ++ [p])[S1.length]? = some p
      rw [← show B1.l.length = S1.length from so1.len, List.getElem?_append_right (Nat.le_refl _), Nat.sub_self]
      rfl
    · cases hm1
  · cases hm1
/-! ### displays with opened items -/
abbrev SAS (fa : Ad) (cl : Nat → List A → Store → Rz A) (X : Cx) (es : List Expr) (fl : List Bool) (cs : List C) : Prop := PA X es (tA (gx X fa) (evsS cl fl cs))
theorem sas_nil : SAS fa cl X [] [] [] := pa_nil.imp fun σ H Q q => by
  obtain ⟨B, S, ρ, z, S', eo, so, hm, k⟩ := q
  rw [evsS] at hm
  cases hm
  exact k [] B H so Stab.refl rfl
theorem sas_cons {fl : List Bool} (ha : SE fa cl X e c) (hr : SAS fa cl X es fl cs) (hs : starEach (e :: es) X.env = (false, eval e X.env) :: starEach es X.env) : SAS fa cl X (e :: es) (false :: fl) (c :: cs) := (pa_cons ha hr hs).imp fun σ H Q q => by
  obtain ⟨B, S, ρ, z, S', eo, so, hm, k⟩ := q
  rw [evsS] at hm
  try dsimp only at hm
  obtain ⟨x, S1, hx, hm1⟩ := Rz.bind_ok hm
  obtain ⟨xs, S2, hy, hm2⟩ := Rz.bind_ok hm1
  cases hm2
  exact tE.use eo so hx fun v1 B1 H1 so1 st1 eo1 d1 => tA.use eo1 so1 hy fun vs B2 H2 so2 st2 eo2 d2 => k _ B2 H2 so2 (st1.trans st2) ⟨v1, vs, rfl, st2.datA d1, d2⟩
theorem sq_ok {g : G} {B : Bk} {S : Store} {H : Hp} {x : A} {v : V} {ds : List D} (so : StoreOk g ⟨B, S, H⟩) (d : DatA g ⟨B, S, H⟩ x v) (h : sqF x S = some ds) : ∃ p vs, v = V.ref p ∧ (SqT g.K H p vs ∨ SqL g.K H p vs) ∧ DatL g ⟨B, S, H⟩ ds vs := by
  unfold sqF at h
  split at h
  · cases h
    obtain ⟨a, vs, rfl, t, l⟩ := d
    exact ⟨a, vs, rfl, .inl t, l⟩
  · cases h
    obtain ⟨a, vs, rfl, t, _, l⟩ := d
    exact ⟨a, vs, rfl, .inr (SqL.of t), l⟩
  · rename_i j
    split at h
    · rename_i es hs
      cases h
      obtain ⟨a, hb, rfl, _⟩ := d
      obtain ⟨ws, e, l⟩ := so.ob j a _ hb hs
      exact ⟨a, ws, rfl, .inr (SqL.of e), l⟩
    · cases h
  · cases h
theorem sas_star {fl : List Bool} {p : Pos} (ha : SE fa cl X e c) (hr : SAS fa cl X es fl cs) (hs : starEach (.Starred e p :: es) X.env = (true, eval e X.env) :: starEach es X.env) : SAS fa cl X (.Starred e p :: es) (true :: fl) (c :: cs) := (StX.pa_star ha hr hs).imp fun σ H Q q => by
  obtain ⟨B, S, ρ, z, S', eo, so, hm, k⟩ := q
  rw [evsS] at hm
  try dsimp only at hm
  obtain ⟨x, S1, hx, hm1⟩ := Rz.bind_ok hm
  split at hm1
  · rename_i ds hd
    obtain ⟨xs, S2, hy, hm2⟩ := Rz.bind_ok hm1
    cases hm2
    refine tE.use eo so hx fun v1 B1 H1 so1 st1 eo1 d1 => ?_
    obtain ⟨p, us, rfl, hq, dl⟩ := sq_ok so1 d1 hd
    refine ⟨p, us, rfl, hq, tA.use eo1 so1 hy fun vs B2 H2 so2 st2 eo2 d2 => k _ B2 H2 so2 (st1.trans st2) ?_⟩
    have := (st2.datL dl).ofP
    exact this.app d2
  · cases hm1
theorem se_tupS {x1 : Nat} {fl : List Bool} (h : SAS fa cl X es fl cs) : SE fa cl X (.Tuple es x1 pos) (.tupS fl cs) := (pe_tup h).imp fun σ H Q q => by
  obtain ⟨B, S, ρ, z, S', eo, so, hm, k⟩ := q
  rw [ev] at hm
  obtain ⟨xs, S1, hx, hm1⟩ := Rz.bind_ok hm
  split at hm1
  · rename_i ds hd
    split at hm1
    · rename_i hl
      rw [tst_f] at hm1
      cases hm1
      refine tA.use eo so hx fun vs B1 H1 so1 st1 eo1 d1 => ?_
      have dl := DatAL.datas hd d1
      exact ⟨by rw [dl.len]; exact lim_le hl, fun p hp => k _ B1 _ (so1.new hp) (st1.trans (Stab.new so1 hp)) (new_tup so1 hp dl)⟩
    · cases hm1
  · cases hm1
theorem se_lstS {fl : List Bool} (h : SAS fa cl X es fl cs) : SE fa cl X (.List es pos) (.lstS fl cs) := (pe_lst h).imp fun σ H Q q => by
  obtain ⟨B, S, ρ, z, S', eo, so, hm, k⟩ := q
  rw [ev] at hm
  obtain ⟨xs, S1, hx, hm1⟩ := Rz.bind_ok hm
  split at hm1
  · rename_i ds hd
    split at hm1
    · rename_i hl
      rw [tst_f] at hm1
      cases hm1
      refine tA.use eo so hx fun vs B1 H1 so1 st1 eo1 d1 => ?_
      have dl := DatAL.datas hd d1
      exact ⟨by rw [dl.len]; exact lim_le hl, fun p hp => k _ B1 _ (so1.new hp) (st1.trans (Stab.new so1 hp)) (new_lst so1 hp dl)⟩
    · cases hm1
  · cases hm1
/-! ### items, slices -/
theorem se_sub (ha : SE fa cl X a ca) (hb : SE fa cl X b cb) (hs : PlainIx b) : SE fa cl X (.Subscript a b pos) (.sub ca cb) := by
  refine ⟨fun pins s σ H Q I q => ?_⟩
  obtain ⟨B, S, ρ, z, S', eo, so, hm, k⟩ := q
  rw [ev] at hm
  obtain ⟨x, S1, hx, hm1⟩ := Rz.bind_ok hm
  obtain ⟨y, S2, hy, hm2⟩ := Rz.bind_ok hm1
  obtain ⟨w, S3, hw, hm3⟩ := Rz.bind_ok hm2
  obtain ⟨gw, rfl⟩ := Rz.of_ok hw
  rw [tst_f] at hm3
  cases hm3
  obtain ⟨r, hr, ok⟩ := sub_ok (X := X) (fa := fa) gw
  refine (pe_ix hr ha hb hs).run pins s σ H Q I ?_
  exact tE.use eo so hx fun v1 B1 H1 so1 st1 eo1 d1 => tE.use eo1 so1 hy fun v2 B2 H2 so2 st2 eo2 d2 => ok v1 v2 B2 H2 Q so2 (st2.datA d1) d2 fun u du => k u B2 H2 so2 (st1.trans st2) du
theorem slc_fin {x z : D} {lo hi : Option Int} {v : V} {B B2 : Bk} {S S2 : Store} {H H2 : Hp} {Q : VK} {r : V → Option Int → Option Int → Hp → VK → Prop}
    (ok : ∀ v B S H (Q : VK), StoreOk (gx X fa) ⟨B, S, H⟩ → Dat (gx X fa) ⟨B, S, H⟩ x v → (∀ u H', StoreOk (gx X fa) ⟨B, S, H'⟩ → Stab (gx X fa) ⟨B, S, H⟩ ⟨B, S, H'⟩ → Dat (gx X fa) ⟨B, S, H'⟩ z u → Q u H') → r v lo hi H Q)
    (so : StoreOk (gx X fa) ⟨B2, S2, H2⟩) (st : Stab (gx X fa) ⟨B, S, H⟩ ⟨B2, S2, H2⟩) (d : Dat (gx X fa) ⟨B2, S2, H2⟩ x v)
    (k : ∀ v B' H', StoreOk (gx X fa) ⟨B', S2, H'⟩ → Stab (gx X fa) ⟨B, S, H⟩ ⟨B', S2, H'⟩ → DatA (gx X fa) ⟨B', S2, H'⟩ (.p z) v → Q v H') : r v lo hi H2 Q :=
  ok v B2 S2 H2 Q so d fun u H' so' st' du => k u B2 H' so' (st.trans st') du
theorem se_slcL {p2 : Pos} (ha : SE fa cl X a ca) (hb : SE fa cl X b cb) : SE fa cl X (.Subscript a (.Slice (some b) none none p2) pos) (.slcL ca cb) := by
  refine ⟨fun pins s σ H Q I q => ?_⟩
  obtain ⟨B, S, ρ, z, S', eo, so, hm, k⟩ := q
  rw [ev] at hm
  obtain ⟨x, S1, hx, hm1⟩ := Rz.bind_ok hm
  obtain ⟨y, S2, hy, hm2⟩ := Rz.bind_ok hm1
  split at hm2
  · rename_i x l
    obtain ⟨w, S3, hw, hm3⟩ := Rz.bind_ok hm2
    obtain ⟨gw, rfl⟩ := Rz.of_ok hw
    rw [tst_f] at hm3
    cases hm3
    obtain ⟨r, hr, ok⟩ := slc_ok (X := X) (fa := fa) gw
    refine (pe_slice hr ha (po_some hb) po_none).run pins s σ H Q I ?_
    exact tE.use eo so hx fun v1 B1 H1 so1 st1 eo1 d1 => tE.use eo1 so1 hy fun v2 B2 H2 so2 st2 eo2 d2 => ⟨l, d2, slc_fin ok so2 (st1.trans st2) (st2.dat _ _ d1) k⟩
  · cases hm2
theorem se_slcH {p2 : Pos} (ha : SE fa cl X a ca) (hb : SE fa cl X b cb) : SE fa cl X (.Subscript a (.Slice none (some b) none p2) pos) (.slcH ca cb) := by
  refine ⟨fun pins s σ H Q I q => ?_⟩
  obtain ⟨B, S, ρ, z, S', eo, so, hm, k⟩ := q
  rw [ev] at hm
  obtain ⟨x, S1, hx, hm1⟩ := Rz.bind_ok hm
  obtain ⟨y, S2, hy, hm2⟩ := Rz.bind_ok hm1
  split at hm2
  · rename_i x l
    obtain ⟨w, S3, hw, hm3⟩ := Rz.bind_ok hm2
    obtain ⟨gw, rfl⟩ := Rz.of_ok hw
    rw [tst_f] at hm3
    cases hm3
    obtain ⟨r, hr, ok⟩ := slc_ok (X := X) (fa := fa) gw
    refine (pe_slice hr ha po_none (po_some hb)).run pins s σ H Q I ?_
    exact tE.use eo so hx fun v1 B1 H1 so1 st1 eo1 d1 => tE.use eo1 so1 hy fun v2 B2 H2 so2 st2 eo2 d2 => ⟨l, d2, slc_fin ok so2 (st1.trans st2) (st2.dat _ _ d1) k⟩
  · cases hm2
theorem se_slcB {p2 : Pos} {d : Expr} {cd : C} (ha : SE fa cl X a ca) (hb : SE fa cl X b cb) (hd : SE fa cl X d cd) : SE fa cl X (.Subscript a (.Slice (some b) (some d) none p2) pos) (.slcB ca cb cd) := by
  refine ⟨fun pins s σ H Q I q => ?_⟩
  obtain ⟨B, S, ρ, z, S', eo, so, hm, k⟩ := q
  rw [ev] at hm
  obtain ⟨x, S1, hx, hm1⟩ := Rz.bind_ok hm
  obtain ⟨y, S2, hy, hm2⟩ := Rz.bind_ok hm1
  obtain ⟨y2, S2', hy2, hm3⟩ := Rz.bind_ok hm2
  split at hm3
  · rename_i x l h
    obtain ⟨w, S3, hw, hm4⟩ := Rz.bind_ok hm3
    obtain ⟨gw, rfl⟩ := Rz.of_ok hw
    rw [tst_f] at hm4
    cases hm4
    obtain ⟨r, hr, ok⟩ := slc_ok (X := X) (fa := fa) gw
    refine (pe_slice hr ha (po_some hb) (po_some hd)).run pins s σ H Q I ?_
    exact tE.use eo so hx fun v1 B1 H1 so1 st1 eo1 d1 => tE.use eo1 so1 hy fun v2 B2 H2 so2 st2 eo2 d2 => ⟨l, d2, tE.use eo2 so2 hy2 fun v3 B3 H3 so3 st3 eo3 d3 => ⟨h, d3, slc_fin ok so3 ((st1.trans st2).trans st3) (st3.dat _ _ (st2.dat _ _ d1)) k⟩⟩
  · cases hm3
/-! ### built-in calls -/
theorem se_blt {f : Blt} {p : Pos} {k : Nat} (hc : X.calm = true) (hro : Room k X.A) (hg : Gl X f.nm) (hmg : X.mg f.nm = none) (h : SA fa cl X (e :: es) (c :: cs)) (he : starEach (e :: es) X.env = (false, eval e X.env) :: starEach es X.env) (hpl : (backTo pos (starEach es X.env)).any (·.1) = false) :
    SE fa cl X (.Call (.Name f.nm p) (e :: es) [] pos) (.blt f (c :: cs)) := by
  refine ⟨fun pins s σ H Q I q => ?_⟩
  obtain ⟨B, S, ρ, z, S', eo, so, hm, k⟩ := q
  rw [ev] at hm
  obtain ⟨xs, S1, hx, hm1⟩ := Rz.bind_ok hm
  obtain ⟨w, S3, hw, hm2⟩ := Rz.bind_ok hm1
  obtain ⟨gw, rfl⟩ := Rz.of_ok hw
  rw [tst_f] at hm2
  cases hm2
  obtain ⟨r, hr, ok⟩ := blt_ok (X := X) (fa := fa) hc hro gw
  have rd : tCB r (tA (gx X fa) (evs cl (c :: cs))) σ H Q := tA.use eo so hx fun vs B1 H1 so1 st1 eo1 d1 => ok vs B1 H1 Q so1 d1 fun u H' so' st' du => k u B1 H' so' (st1.trans st') du
  have hv : (∃ id, f.val = .builtin id) ∨ ∃ T, f.val = .type T := by cases f <;> first | exact .inl ⟨_, rfl⟩ | exact .inr ⟨_, rfl⟩
  rcases hv with ⟨id, hv⟩ | ⟨T, hv⟩
  · rw [hv] at hr
    exact (pe_callB hr hg hmg (f.boot.trans (by rw [hv])) h f.nn f.nd he hpl).run pins s σ H Q I rd
  · rw [hv] at hr
    exact (pe_callTy hr hg hmg (f.boot.trans (by rw [hv])) h f.nn f.nd he hpl).run pins s σ H Q I rd
/-- list(c), to be changed -/
theorem se_listM {p : Pos} (hg : Gl X "list") (hmg : X.mg "list" = none) (h : SA fa cl X [e] [c]) (he : starEach [e] X.env = (false, eval e X.env) :: starEach [] X.env) (hpl : (backTo pos (starEach [] X.env)).any (·.1) = false) :
    SE fa cl X (.Call (.Name "list" p) [e] [] pos) (.listM c) := by
  refine ⟨fun pins s σ H Q I q => ?_⟩
  obtain ⟨B, S, ρ, z, S', eo, so, hm, k⟩ := q
  rw [ev] at hm
  obtain ⟨x, S1, hx, hm1⟩ := Rz.bind_ok hm
  have hxs : evs cl [c] ρ S = .ok [x] S1 := by
    rw [evs, hx, Rz.bind, evs]
    rfl
  have rd : tCB (fun xs H Q => ∃ p ys, xs = [V.ref p] ∧ (SqL X.K H p ys ∨ SqT X.K H p ys) ∧ ∀ l, H l = none → Q (.ref l) (upd H l (.lst ys))) (tA (gx X fa) (evs cl [c])) σ H Q := tA.use eo so hxs fun vs B1 H1 so1 st1 eo1 d1 => by
    have fin : ∀ (ds : List D) (ws : List V), DatL (gx X fa) ⟨B1, S1, H1⟩ ds ws → z = .m S1.length ∧ S' = S1 ++ [.lst ds] → ∀ p, H1 p = none → Q (.ref p) (upd H1 p (.lst ws)) := fun ds ws l hz p hp => by
      obtain ⟨rfl, rfl⟩ := hz
      refine k _ (B1.add p) _ (so1.alloc hp l) (st1.trans (Stab.alloc so1 hp)) ⟨p, ?_, rfl, new_nr (fun z => by cases z)⟩
      show (B1.l ++ [p])[S1.length]? = some p
      rw [← show B1.l.length = S1.length from so1.len, List.getElem?_append_right (Nat.le_refl _), Nat.sub_self]
      rfl
    split at hm1
    · cases hm1
      obtain ⟨v, rfl, a, ws, rfl, t, _, l⟩ := d1.one
      exact ⟨a, ws, rfl, .inl (SqL.of t), fin _ _ l ⟨rfl, rfl⟩⟩
    · cases hm1
      obtain ⟨v, rfl, a, ws, rfl, t, l⟩ := d1.one
      exact ⟨a, ws, rfl, .inr t, fin _ _ l ⟨rfl, rfl⟩⟩
    · cases hm1
  exact (pe_callTy call_list_of hg hmg (Blt.boot .list) h (Blt.nn .list) (Blt.nd .list) he hpl).run pins s σ H Q I rd
/-! ### texts -/
theorem se_fmt (ha : SE fa cl X a ca) : SE fa cl X (.FormattedValue a (-1) none pos) (.fmt ca) := (pe_fmt ha).imp fun σ H Q q => by
  obtain ⟨B, S, ρ, z, S', eo, so, hm, k⟩ := q
  rw [ev] at hm
  obtain ⟨x, S1, hx, hm1⟩ := Rz.bind_ok hm
  obtain ⟨w, S3, hw, hm2⟩ := Rz.bind_ok hm1
  obtain ⟨gw, rfl⟩ := Rz.of_ok hw
  rw [tst_f] at hm2
  cases hm2
  refine tE.use eo so hx fun v1 B1 H1 so1 st1 eo1 d1 => ?_
  unfold fmtF at gw
  split at gw
  · rename_i y
    split at gw
    · rename_i hl
      cases gw
      exact .inl ⟨y, d1, lim_le hl, k _ B1 H1 so1 st1 rfl⟩
    · cases gw
  · rename_i i
    split at gw
    · rename_i hl
      cases gw
      exact .inr ⟨i, d1, hl, k _ B1 H1 so1 st1 rfl⟩
    · cases gw
  · cases gw
/-- the parts of an f-string -/
inductive SJ (fa : Ad) (cl : Nat → List A → Store → Rz A) (X : Cx) : List Expr → List C → Prop where
  | nil : SJ fa cl X [] []
  | cons {e : Expr} {c : C} {es : List Expr} {cs : List C} (h : SE fa cl X e c) (r : SJ fa cl X es cs) : SJ fa cl X (e :: es) (c :: cs)
theorem SJ.pj : ∀ {es : List Expr} {cs : List C}, SJ fa cl X es cs → PJ X es (cs.map fun c => tE (gx X fa) (ev cl false c))
  | _, _, .nil => .nil
  | _, _, .cons h r => .cons h r.pj
theorem tJs_run {out : Str} {S' : Store} {σ : L2.St} {ρ : Env} : ∀ (cs : List C) (acc : Str) (S : Store) (B : Bk) (H : Hp) (xs : List A) (Q : Str → Hp → Prop), EnvOk (gx X fa) ⟨B, S, H⟩ ρ σ → StoreOk (gx X fa) ⟨B, S, H⟩ → evs cl cs ρ S = .ok xs S' → catF acc xs = some out →
    (∀ B' H', StoreOk (gx X fa) ⟨B', S', H'⟩ → Stab (gx X fa) ⟨B, S, H⟩ ⟨B', S', H'⟩ → Q out H') → tJs (cs.map fun c => tE (gx X fa) (ev cl false c)) acc σ H Q
  | [], acc, S, B, H, xs, Q, eo, so, hx, hc, k => by
    rw [evs] at hx
    cases hx
    cases hc
    exact k B H so Stab.refl
  | c :: cs, acc, S, B, H, xs, Q, eo, so, hx, hc, k => by
    rw [evs] at hx
    obtain ⟨x, S1, h1, hx⟩ := Rz.bind_ok hx
    obtain ⟨ys, S2, h2, hx⟩ := Rz.bind_ok hx
    cases hx
    show tE (gx X fa) (ev cl false c) σ H _
    refine tE.use eo so h1 fun v1 B1 H1 so1 st1 eo1 d1 => ?_
    cases x with
    | m j => simp [catF] at hc
    | p d =>
      cases d with
      | str y =>
        rw [catF] at hc
        split at hc
        · rename_i hl
          refine ⟨y, d1, ?_, tJs_run cs (acc ++ y) S1 B1 H1 ys Q eo1 so1 h2 hc fun B' H' so' st' => k B' H' so' (st1.trans st')⟩
          have : (acc ++ y).length = acc.length + y.length := by
            first | exact Str.length_append .. | (show (acc.cps ++ y.cps).size = _; exact Array.size_append ..)
          rw [this]
          exact lim_le hl
        · cases hc
      | _ => simp [catF] at hc
theorem se_fstr {v1 v2 : Expr} {es : List Expr} (h : SJ fa cl X (v1 :: v2 :: es) cs) : SE fa cl X (.JoinedStr (v1 :: v2 :: es) pos) (.fstr cs) := (pe_joined h.pj).imp fun σ H Q q => by
  obtain ⟨B, S, ρ, z, S', eo, so, hm, k⟩ := q
  rw [ev] at hm
  obtain ⟨xs, S1, hx, hm1⟩ := Rz.bind_ok hm
  obtain ⟨w, S3, hw, hm2⟩ := Rz.bind_ok hm1
  obtain ⟨gw, rfl⟩ := Rz.of_ok hw
  rw [tst_f] at hm2
  cases hm2
  exact tJs_run cs Str.empty S B H xs _ eo so hx gw fun B' H' so' st' => k _ B' H' so' st' rfl
end
end Fw

/-! Tests and values, calls, targets, what is walked, comprehensions. -/
namespace Fw
open PySem PySem.Spec PyProof.Rows L2
theorem tst_bl {t b : Bool} {S : Store} : tst t (.p (.bl b)) S = .ok (.p (.bl b)) S := by cases t <;> rfl
theorem bind_tst {r : Rz A} : (r.bind fun x S => tst true x S) = r.bind (tst true) := rfl
theorem Rz.assoc {α β γ : Type} (r : Rz α) (f : α → Store → Rz β) (g : β → Store → Rz γ) : (r.bind f).bind g = r.bind fun a S => (f a S).bind g := by cases r <;> rfl
theorem Rz.ext {α β : Type} (r : Rz α) {f g : α → Store → Rz β} (h : ∀ a S, f a S = g a S) : r.bind f = r.bind g := by
  cases r with
  | ok a S => exact h a S
  | ex e S => rfl
  | bad => rfl
theorem tst_two (r : Rz A) : (r.bind fun z S => tst true z S) = (r.bind fun z S => tst false z S).bind (tst true) := by cases r <;> rfl
/-- a test is the truth of the value -/
theorem ev_tst {cl : Nat → List A → Store → Rz A} : ∀ (c : C) (ρ : Env) (S : Store), ev cl true c ρ S = (ev cl false c ρ S).bind (tst true)
  | .var i, ρ, S => by
    rw [ev, ev]
    split <;> rfl
  | .cst d, ρ, S => by
    rw [ev, ev]
    rfl
  | .fld ci o n, ρ, S => by
    rw [ev, ev, Rz.assoc]
    refine Rz.ext _ fun x S1 => ?_
    split
    · split
      · rw [Rz.assoc]
        rfl
      · rfl
    · rfl
  | .ccst _ _ d, ρ, S => by
    rw [ev, ev]
    rfl
  | .app h cs, ρ, S => by
    rw [ev, ev]
    exact tst_two _
  | .meth ci fi m o cs ds, ρ, S => by
    rw [ev, ev]
    exact tst_two _
  | .whyA h cs, ρ, S => by
    rw [ev, ev]
    exact tst_two _
  | .whyAK fi cs ks asm, ρ, S => by
    rw [ev, ev]
    exact tst_two _
  | .whyS ci fi m o cs ds, ρ, S => by
    rw [ev, ev]
    exact tst_two _
  | .methK ci fi m o ks asm, ρ, S => by
    rw [ev, ev]
    exact tst_two _
  | .whyK ci fi m o ks asm, ρ, S => by
    rw [ev, ev]
    exact tst_two _
  | .bin op a b, ρ, S => by
    rw [ev, ev, Rz.assoc]
    refine Rz.ext _ fun x S1 => ?_
    rw [Rz.assoc]
    refine Rz.ext _ fun y S2 => ?_
    cases x <;> cases y <;> first | rfl | (dsimp only; rw [Rz.assoc]; rfl)
  | .neg a, ρ, S => by
    rw [ev, ev, Rz.assoc]
    refine Rz.ext _ fun x S1 => ?_
    split <;> rfl
  | .cmp op a b, ρ, S => by
    rw [ev, ev, Rz.assoc]
    refine Rz.ext _ fun x S1 => ?_
    rw [Rz.assoc]
    refine Rz.ext _ fun y S2 => ?_
    rw [Rz.assoc]
    rfl
  | .chain op op' a b c, ρ, S => by
    rw [ev, ev, Rz.assoc]
    refine Rz.ext _ fun x S1 => ?_
    rw [Rz.assoc]
    refine Rz.ext _ fun y S2 => ?_
    rw [Rz.assoc]
    refine Rz.ext _ fun z S3 => ?_
    split
    · rw [Rz.assoc]
      refine Rz.ext _ fun w S4 => ?_
      rw [Rz.assoc]
      rfl
    · rfl
  | .and a b, ρ, S => by
    rw [ev, ev]
    simp only [if_true, Bool.false_eq_true, if_false]
    rw [ev_tst a, Rz.assoc, Rz.assoc]
    refine Rz.ext _ fun x S1 => ?_
    rw [Rz.assoc]
    cases h : tst true x S1 with
    | ex e S => rfl
    | bad => rfl
    | ok y S2 =>
      obtain ⟨d, b', rfl, hb, rfl, rfl⟩ := tst_t h
      cases b' with
      | true => exact ev_tst b ρ _
      | false => exact h.symm
  | .or a b, ρ, S => by
    rw [ev, ev]
    simp only [if_true, Bool.false_eq_true, if_false]
    rw [ev_tst a, Rz.assoc, Rz.assoc]
    refine Rz.ext _ fun x S1 => ?_
    rw [Rz.assoc]
    cases h : tst true x S1 with
    | ex e S => rfl
    | bad => rfl
    | ok y S2 =>
      obtain ⟨d, b', rfl, hb, rfl, rfl⟩ := tst_t h
      cases b' with
      | false => exact ev_tst b ρ _
      | true => exact h.symm
  | .not a, ρ, S => by
    rw [ev, ev, Rz.assoc]
    refine Rz.ext _ fun x S1 => ?_
    split <;> rfl
  | .ite c a b, ρ, S => by
    rw [ev, ev, Rz.assoc]
    refine Rz.ext _ fun x S1 => ?_
    split
    · exact ev_tst a ρ _
    · exact ev_tst b ρ _
    · rfl
  | .tup cs, ρ, S => by
    rw [ev, ev, Rz.assoc]
    refine Rz.ext _ fun x S1 => ?_
    split
    · split <;> rfl
    · rfl
  | .tupS fl cs, ρ, S => by
    rw [ev, ev, Rz.assoc]
    refine Rz.ext _ fun x S1 => ?_
    split
    · split <;> rfl
    · rfl
  | .lstS fl cs, ρ, S => by
    rw [ev, ev, Rz.assoc]
    refine Rz.ext _ fun x S1 => ?_
    split
    · split <;> rfl
    · rfl
  | .lst cs, ρ, S => by
    rw [ev, ev, Rz.assoc]
    refine Rz.ext _ fun x S1 => ?_
    split
    · split <;> rfl
    · rfl
  | .dctP c, ρ, S => by
    rw [ev, ev, Rz.assoc]
    refine Rz.ext _ fun x S1 => ?_
    split <;> rfl
  | .dctN, ρ, S => by
    rw [ev, ev]
    rfl
  | .dctK, ρ, S => by
    rw [ev, ev]
    rfl
  | .getK o i, ρ, S => by
    rw [ev, ev, Rz.assoc]
    refine Rz.ext _ fun x S1 => ?_
    rw [Rz.assoc]
    refine Rz.ext _ fun y S2 => ?_
    split
    · rw [Rz.assoc]
      exact Rz.ext _ fun z S3 => rfl
    · rfl
  | .inK neg i o, ρ, S => by
    rw [ev, ev, Rz.assoc]
    refine Rz.ext _ fun x S1 => ?_
    rw [Rz.assoc]
    refine Rz.ext _ fun y S2 => ?_
    split <;> rfl
  | .keysK o, ρ, S => by
    rw [ev, ev, Rz.assoc]
    refine Rz.ext _ fun x S1 => ?_
    split
    · split <;> rfl
    · rfl
  | .getD o i, ρ, S => by
    rw [ev, ev, Rz.assoc]
    refine Rz.ext _ fun x S1 => ?_
    rw [Rz.assoc]
    refine Rz.ext _ fun y S2 => ?_
    split
    · split
      · rw [Rz.assoc]
        exact Rz.ext _ fun z S3 => rfl
      · rfl
    · rfl
  | .inD neg i o, ρ, S => by
    rw [ev, ev, Rz.assoc]
    refine Rz.ext _ fun x S1 => ?_
    rw [Rz.assoc]
    refine Rz.ext _ fun y S2 => ?_
    split
    · split <;> rfl
    · rfl
  | .eqI neg ci fi a b, ρ, S => by
    rw [ev, ev, Rz.assoc]
    refine Rz.ext _ fun x S1 => ?_
    rw [Rz.assoc]
    refine Rz.ext _ fun y S2 => ?_
    split
    · split
      · rw [Rz.assoc]
        refine Rz.ext _ fun z S3 => ?_
        split <;> rfl
      · rfl
    · rfl
  | .nope, ρ, S => by
    rw [ev, ev]
    rfl
  | .mkx x cs, ρ, S => by
    rw [ev, ev, Rz.assoc]
    refine Rz.ext _ fun x S1 => ?_
    split <;> rfl
  | .fldX o n al, ρ, S => by
    rw [ev, ev, Rz.assoc]
    refine Rz.ext _ fun x S1 => ?_
    split
    · split
      · rw [Rz.assoc]
        rfl
      · rfl
    · rfl
  | .isX o q ns al, ρ, S => by
    rw [ev, ev, Rz.assoc]
    refine Rz.ext _ fun x S1 => ?_
    split
    · split <;> rfl
    · rfl
  | .isI ci o, ρ, S => by
    rw [ev, ev, Rz.assoc]
    refine Rz.ext _ fun x S1 => ?_
    split
    · split <;> rfl
    · rfl
  | .eqD a b, ρ, S => by
    rw [ev, ev, Rz.assoc]
    refine Rz.ext _ fun x S1 => ?_
    rw [Rz.assoc]
    refine Rz.ext _ fun y S2 => ?_
    split <;> rfl
  | .getO o i d, ρ, S => by
    rw [ev, ev, Rz.assoc]
    refine Rz.ext _ fun x S1 => ?_
    split
    · rw [Rz.assoc]
      refine Rz.ext _ fun y S2 => ?_
      rw [Rz.assoc]
      refine Rz.ext _ fun z S3 => ?_
      split
      · split <;> rfl
      · rfl
    · rfl
  | .listM c, ρ, S => by
    rw [ev, ev, Rz.assoc]
    refine Rz.ext _ fun x S1 => ?_
    split <;> rfl
  | .lstM cs, ρ, S => by
    rw [ev, ev, Rz.assoc]
    refine Rz.ext _ fun x S1 => ?_
    split
    · rename_i ds _
      cases h : decide (ds.length ≤ LIM) <;> simp [h] <;> rfl
    · rfl
  | .sub a b, ρ, S => by
    rw [ev, ev, Rz.assoc]
    refine Rz.ext _ fun x S1 => ?_
    rw [Rz.assoc]
    refine Rz.ext _ fun y S2 => ?_
    rw [Rz.assoc]
    rfl
  | .slcL a b, ρ, S => by
    rw [ev, ev, Rz.assoc]
    refine Rz.ext _ fun x S1 => ?_
    rw [Rz.assoc]
    refine Rz.ext _ fun y S2 => ?_
    split
    · rw [Rz.assoc]
      rfl
    · rfl
  | .slcH a b, ρ, S => by
    rw [ev, ev, Rz.assoc]
    refine Rz.ext _ fun x S1 => ?_
    rw [Rz.assoc]
    refine Rz.ext _ fun y S2 => ?_
    split
    · rw [Rz.assoc]
      rfl
    · rfl
  | .slcB a b c, ρ, S => by
    rw [ev, ev, Rz.assoc]
    refine Rz.ext _ fun x S1 => ?_
    rw [Rz.assoc]
    refine Rz.ext _ fun y S2 => ?_
    rw [Rz.assoc]
    refine Rz.ext _ fun w S3 => ?_
    split
    · rw [Rz.assoc]
      rfl
    · rfl
  | .call f cs ds, ρ, S => by
    rw [ev, ev, Rz.assoc]
    refine Rz.ext _ fun x S1 => ?_
    rw [Rz.assoc]
    rfl
  | .callK f cs ks asm, ρ, S => by
    rw [ev, ev, Rz.assoc]
    refine Rz.ext _ fun x S1 => ?_
    rw [Rz.assoc]
    refine Rz.ext _ fun y S2 => ?_
    rw [Rz.assoc]
    refine Rz.ext _ fun w S3 => ?_
    rw [Rz.assoc]
    rfl
  | .blt b cs, ρ, S => by
    rw [ev, ev, Rz.assoc]
    refine Rz.ext _ fun x S1 => ?_
    rw [Rz.assoc]
    rfl
  | .mth m o cs, ρ, S => by
    rw [ev, ev, Rz.assoc]
    refine Rz.ext _ fun x S1 => ?_
    split
    · rw [Rz.assoc]
      refine Rz.ext _ fun y S2 => ?_
      rw [Rz.assoc]
      rfl
    · rfl
  | .comp k its tg own none e, ρ, S => by
    rw [ev, ev, Rz.assoc]
    refine Rz.ext _ fun x S1 => ?_
    rw [Rz.assoc]
    refine Rz.ext _ fun y S2 => ?_
    rw [Rz.assoc]
    refine Rz.ext _ fun w S3 => ?_
    split <;> rfl
  | .comp k its tg own (some c) e, ρ, S => by
    rw [ev, ev, Rz.assoc]
    refine Rz.ext _ fun x S1 => ?_
    rw [Rz.assoc]
    refine Rz.ext _ fun y S2 => ?_
    rw [Rz.assoc]
    refine Rz.ext _ fun w S3 => ?_
    split <;> rfl
  | .compM i tg own none e, ρ, S => by
    rw [ev, ev, Rz.assoc]
    refine Rz.ext _ fun x S1 => ?_
    split
    · split
      · rw [Rz.assoc]
        refine Rz.ext _ fun y S2 => ?_
        split <;> rfl
      · rfl
    · rfl
  | .compM i tg own (some c) e, ρ, S => by
    rw [ev, ev, Rz.assoc]
    refine Rz.ext _ fun x S1 => ?_
    split
    · split
      · rw [Rz.assoc]
        refine Rz.ext _ fun y S2 => ?_
        split <;> rfl
      · rfl
    · rfl
  | .fstr cs, ρ, S => by
    rw [ev, ev, Rz.assoc]
    refine Rz.ext _ fun x S1 => ?_
    rw [Rz.assoc]
    rfl
  | .callV i nf cs, ρ, S => by
    rw [ev, ev]
    split
    · split
      · rw [Rz.assoc]
        refine Rz.ext _ fun x S1 => ?_
        rw [Rz.assoc]
        rfl
      · rfl
    · rfl
  | .maxD a d, ρ, S => by
    rw [ev, ev, Rz.assoc]
    refine Rz.ext _ fun x S1 => ?_
    rw [Rz.assoc]
    refine Rz.ext _ fun y S2 => ?_
    rw [Rz.assoc]
    rfl
  | .fmt c, ρ, S => by
    rw [ev, ev, Rz.assoc]
    refine Rz.ext _ fun x S1 => ?_
    rw [Rz.assoc]
    rfl
  | .isiT a cs, ρ, S => by
    rw [ev, ev, Rz.assoc]
    refine Rz.ext _ fun x S1 => ?_
    split <;> rfl
section
variable {fa : Ad} {cl : Nat → List A → Store → Rz A} {X : Cx} {e a b : Expr} {c ca cb : C} {pos : Pos} {k : Nat} {es : List Expr} {cs : List C}
theorem se_not (ha : SE fa cl X a ca) : SE fa cl X (.UnaryOp .Not a pos) (.not ca) := (pe_notT ha).imp fun σ H Q q => by
  obtain ⟨B, S, ρ, z, S', eo, so, hm, k⟩ := q
  rw [ev, ev_tst, Rz.assoc] at hm
  obtain ⟨x, S1, hx, hm1⟩ := Rz.bind_ok hm
  obtain ⟨y, S2, hy, hm2⟩ := Rz.bind_ok hm1
  obtain ⟨d, b', rfl, hb', rfl, rfl⟩ := tst_t hy
  cases hm2
  exact tE.use eo so hx fun v1 B1 H1 so1 st1 eo1 d1 => ⟨b', tru_dat hb' d1, k _ B1 H1 so1 st1 rfl⟩
/-! ### calls -/
def spF (g : G) (np : Nat) (m : List A → Store → Rz A) : Sp := fun vs H Q _ => ∃ B S xs x S', StoreOk g ⟨B, S, H⟩ ∧ DatAL g ⟨B, S, H⟩ xs vs ∧ xs.length = np ∧ m xs S = .ok x S' ∧
  ∀ v B' H', StoreOk g ⟨B', S', H'⟩ → Stab g ⟨B, S, H⟩ ⟨B', S', H'⟩ → DatA g ⟨B', S', H'⟩ x v → Q v H'
theorem se_call {f : Addr} {fd : FuncData} {ps : List Str} {fi : Nat} {x : Str} {p : Pos} {dsV : List Value} {dvs : List V} {ds : List D} {np : Nat} (F : FnOk X.prog X.w X.K X.mg X.base (L2.CX X.prog X.w) k f fd ps (spF (gx X fa) np (cl fi))) (hr : Room k X.A) (hg : Gl X x) (hmg : X.mg x = some (.ref f))
    (hk : PySem.W.keepIn X.K (.ref f) = true) (hb : Binds X.K fd ps dsV) (hd : Vals dvs dsV) (hdd : ∀ z, DatL (gx X fa) z ds dvs) (hn : cs.length + ds.length + 1 = np) (hx : Passes (L2.CX X.prog X.w) X E0) (ha : SA fa cl X (e :: es) (c :: cs))
    (hdb : (x == ("__debug__" : Str)) = false) (he : starEach (e :: es) X.env = (false, eval e X.env) :: starEach es X.env) (hpl : (backTo pos (starEach es X.env)).any (·.1) = false) : SE fa cl X (.Call (.Name x p) (e :: es) [] pos) (.call fi (c :: cs) ds) :=
  (pe_call F hr hg hmg hk hb hd hx ha hdb he hpl).imp fun σ H Q q => by
    obtain ⟨B, S, ρ, z, S', eo, so, hm, k⟩ := q
    rw [ev] at hm
    obtain ⟨xs, S1, hxs, hm1⟩ := Rz.bind_ok hm
    obtain ⟨y, S2, hy, hm2⟩ := Rz.bind_ok hm1
    rw [tst_f] at hm2
    cases hm2
    refine tA.use eo so hxs fun vs B1 H1 so1 st1 eo1 d1 => ⟨B1, S1, xs ++ ds.map A.p, z, S', so1, d1.app (hdd _).ofP, ?_, hy, fun v B' H' so' st' dv => k v B' H' so' (st1.trans st') dv⟩
    have : xs.length = (c :: cs).length := by
      have l : ∀ (cs : List C) (S S1 : Store) (xs : List A), evs cl cs ρ S = .ok xs S1 → xs.length = cs.length := by
        intro cs
        induction cs with
        | nil => intro S S1 xs h; rw [evs] at h; cases h; rfl
        | cons c cs ih =>
          intro S S1 xs h
          rw [evs] at h
          obtain ⟨x, S2, _, h1⟩ := Rz.bind_ok h
          obtain ⟨ys, S3, h2, h3⟩ := Rz.bind_ok h1
          cases h3
          rw [List.length_cons, List.length_cons, ih _ _ _ h2]
      exact l _ _ _ _ hxs
    rw [List.length_append, List.length_map, this, List.length_cons]
    omega
theorem se_call0 {f : Addr} {fd : FuncData} {ps : List Str} {fi : Nat} {x : Str} {p : Pos} {dsV : List Value} {dvs : List V} {ds : List D} {np : Nat} (F : FnOk X.prog X.w X.K X.mg X.base (L2.CX X.prog X.w) k f fd ps (spF (gx X fa) np (cl fi))) (hr : Room k X.A) (hg : Gl X x) (hmg : X.mg x = some (.ref f))
    (hk : PySem.W.keepIn X.K (.ref f) = true) (hb : Binds X.K fd ps dsV) (hd : Vals dvs dsV) (hdd : ∀ z, DatL (gx X fa) z ds dvs) (hn : ds.length = np) (hx : Passes (L2.CX X.prog X.w) X E0)
    (hdb : (x == ("__debug__" : Str)) = false) : SE fa cl X (.Call (.Name x p) [] [] pos) (.call fi [] ds) :=
  (pe_call0 F hr hg hmg hk hb hd hx hdb).imp fun σ H Q q => by
    obtain ⟨B, S, ρ, z, S', eo, so, hm, k⟩ := q
    rw [ev, evs] at hm
    obtain ⟨xs, S1, hxs, hm1⟩ := Rz.bind_ok hm
    cases hxs
    obtain ⟨y, S2, hy, hm2⟩ := Rz.bind_ok hm1
    rw [tst_f] at hm2
    cases hm2
    exact ⟨B, S, [] ++ ds.map A.p, z, S', so, (hdd _).ofP, by rw [List.nil_append, List.length_map]; exact hn, hy, fun v B' H' so' st' dv => k v B' H' so' st' dv⟩
/-- how a call with keywords binds -/
def KBA (g : G) (fd : FuncData) (ps : List Str) (n : Nat) (ks : List Str) (asm : List (Nat ⊕ D)) : Prop :=
  ∀ (s : Shared) (us ws : List Value) (vs zs : List V) (xs ys qs : List A) (z : Z), g.K.In s.heap → DatAL g z xs vs → DatAL g z ys zs → Vals vs us → Vals zs ws → asmF asm (xs ++ ys) = some qs → us.length = n → ws.length = ks.length →
    ∃ os rs, BindsTo s fd ⟨us, ks.zip ws⟩ (ps.zip os) ∧ Vals rs os ∧ DatAL g z qs rs ∧ rs.length = ps.length
/-- the keywords' values, from the left -/
inductive SK (fa : Ad) (cl : Nat → List A → Store → Rz A) (X : Cx) : List Keyword → List C → Prop where
  | nil : SK fa cl X [] []
  | cons {nm : Option Str} {e : Expr} {p : Pos} {c : C} {ks : List Keyword} {cs : List C} (h : SE fa cl X e c) (r : SK fa cl X ks cs) : SK fa cl X (⟨nm, e, p⟩ :: ks) (c :: cs)
theorem SK.pk : ∀ {kws : List Keyword} {cs : List C}, SK fa cl X kws cs → PK X kws (tA (gx X fa) (evs cl cs))
  | _, _, .nil => ⟨fun pos pins s σ H Q I h => pk_nil.run pos pins s σ H Q I (by
      obtain ⟨B, S, ρ, z, S', eo, so, hm, k⟩ := h
      rw [evs] at hm
      cases hm
      exact k [] B H so Stab.refl rfl)⟩
  | _, _, .cons h r => ⟨fun pos pins s σ H Q I h' => (pk_cons h r.pk).run pos pins s σ H Q I (by
      obtain ⟨B, S, ρ, z, S', eo, so, hm, k⟩ := h'
      rw [evs] at hm
      obtain ⟨x, S1, hx, hm1⟩ := Rz.bind_ok hm
      obtain ⟨xs, S2, hy, hm2⟩ := Rz.bind_ok hm1
      cases hm2
      exact tE.use eo so hx fun v1 B1 H1 so1 st1 eo1 d1 => tA.use eo1 so1 hy fun vs B2 H2 so2 st2 eo2 d2 => k _ B2 H2 so2 (st1.trans st2) ⟨v1, vs, rfl, st2.datA d1, d2⟩)⟩
theorem evs_len : ∀ {cs : List C} {ρ : Env} {S S1 : Store} {xs : List A}, evs cl cs ρ S = .ok xs S1 → xs.length = cs.length
  | [], ρ, S, S1, xs, h => by
    rw [evs] at h
    cases h
    rfl
  | c :: cs, ρ, S, S1, xs, h => by
    rw [evs] at h
    obtain ⟨x, S2, _, h1⟩ := Rz.bind_ok h
    obtain ⟨ys, S3, h2, h3⟩ := Rz.bind_ok h1
    cases h3
    rw [List.length_cons, List.length_cons, evs_len h2]
/-- f(.., k = v): run on values -/
theorem runK {f : Addr} {fd : FuncData} {ps ks : List Str} {fi n : Nat} {asm : List (Nat ⊕ D)} {pins : List (Addr × Obj)} {σ : L2.St} {H : Hp} {s : Shared} {Q : VK} {us ws : List Value} {vs zs : List V} {xs ys : List A} {z : A} {B : Bk} {S S' : Store} {qs : List A}
    (F : FnOk X.prog X.w X.K X.mg X.base (L2.CX X.prog X.w) k f fd ps (spF (gx X fa) ps.length (cl fi))) (hr : Room k X.A) (hb : KBA (gx X fa) fd ps n ks asm) (hx : Passes (L2.CX X.prog X.w) X E0) (I : Inv X pins σ H s) (r : Vals vs us) (rz : Vals zs ws)
    (so : StoreOk (gx X fa) ⟨B, S, H⟩) (d1 : DatAL (gx X fa) ⟨B, S, H⟩ xs vs) (d2 : DatAL (gx X fa) ⟨B, S, H⟩ ys zs) (ha : asmF asm (xs ++ ys) = some qs) (l1 : us.length = n) (l2 : ws.length = ks.length) (hm : cl fi qs S = .ok z S')
    (k' : ∀ v B' H', StoreOk (gx X fa) ⟨B', S', H'⟩ → Stab (gx X fa) ⟨B, S, H⟩ ⟨B', S', H'⟩ → DatA (gx X fa) ⟨B', S', H'⟩ z v → Q v H') : wpAny (model X.prog X.w) X.A (call (.ref f) us (ks.zip ws)) (EP X pins σ Q) X.xe s := by
  obtain ⟨os, rs, bt, vr, dr, lr⟩ := hb s us ws vs zs xs ys qs ⟨B, S, H⟩ I.kIn d1 d2 r rz ha l1 l2
  refine wpAny_call (codeAny_mono (F.run X.A X.stack s H ⟨us, ks.zip ws⟩ os rs Q E0 hr I.env0 bt vr ⟨B, S, qs, z, S', so, dr, by rw [← dr.len]; exact lr, hm, k'⟩) fun r s' hq => ?_)
  cases r with
  | error e => exact hx pins σ H s e s' I hq
  | ok fl =>
    cases fl with
    | ret u => exact I.after hq
    | next => exact False.elim hq
    | brk => exact False.elim hq
    | cont => exact False.elim hq
theorem se_callK {f : Addr} {fd : FuncData} {ps ks : List Str} {fi : Nat} {x : Str} {p : Pos} {asm : List (Nat ⊕ D)} {kws : List Keyword} {kcs : List C} (F : FnOk X.prog X.w X.K X.mg X.base (L2.CX X.prog X.w) k f fd ps (spF (gx X fa) ps.length (cl fi))) (hr : Room k X.A) (hg : Gl X x) (hmg : X.mg x = some (.ref f))
    (hk : PySem.W.keepIn X.K (.ref f) = true) (hb : KBA (gx X fa) fd ps (cs.length + 1) ks asm) (hx : Passes (L2.CX X.prog X.w) X E0) (ha : SA fa cl X (e :: es) (c :: cs)) (hkw : SK fa cl X kws kcs) (hlk : kcs.length = ks.length)
    (hall : (backToKw pos (keywordEach kws X.env)).all (·.1.isSome) = true) (hks : (backToKw pos (keywordEach kws X.env)).filterMap (·.1) = ks)
    (hdb : (x == ("__debug__" : Str)) = false) (he : starEach (e :: es) X.env = (false, eval e X.env) :: starEach es X.env)
    (hpl : ((backTo pos (starEach (e :: es) X.env)).any (·.1) || (backToKw pos (keywordEach kws X.env)).any (·.1.isNone)) = false) : SE fa cl X (.Call (.Name x p) (e :: es) kws pos) (.callK fi (c :: cs) kcs asm) := by
  refine ⟨fun pins s σ H Q I q => ?_⟩
  obtain ⟨B, S, ρ, z, S', eo, so, hm, k⟩ := q
  rw [ev] at hm
  obtain ⟨xs, S1, hxs, hm1⟩ := Rz.bind_ok hm
  obtain ⟨ys, S2, hys, hm2⟩ := Rz.bind_ok hm1
  obtain ⟨qs, S3, hqs, hm3⟩ := Rz.bind_ok hm2
  obtain ⟨gqs, rfl⟩ := Rz.of_ok hqs
  obtain ⟨y, S4, hy, hm4⟩ := Rz.bind_ok hm3
  rw [tst_f] at hm4
  cases hm4
  refine wpAny_Call_Name_kw (ld_glob I hg hmg ?_ hdb)
  refine PySem.W.callWith_KW (h₀ := X.base) I.ok.mod.kin hk hall (thn (ha.run pos pins s σ H (fun vs H1 => ∃ B1, StoreOk (gx X fa) ⟨B1, S1, H1⟩ ∧ Stab (gx X fa) ⟨B, S, H⟩ ⟨B1, S1, H1⟩ ∧ DatAL (gx X fa) ⟨B1, S1, H1⟩ xs vs) I
    (tA.use eo so hxs fun vs B1 H1 so1 st1 eo1 d1 => ⟨B1, so1, st1, d1⟩)) fun us s1 ⟨vs, H1, I1, r, B1, so1, st1, d1⟩ => ?_) hpl he
  refine thn (hkw.pk.run pos pins s1 σ H1 (fun zs H2 => ∃ B2, StoreOk (gx X fa) ⟨B2, S3, H2⟩ ∧ Stab (gx X fa) ⟨B1, S1, H1⟩ ⟨B2, S3, H2⟩ ∧ DatAL (gx X fa) ⟨B2, S3, H2⟩ ys zs) I1
    (tA.use (eo.mono st1) so1 hys fun vs B1 H1 so1 st1 eo1 d1 => ⟨B1, so1, st1, d1⟩)) fun ws s2 ⟨zs, H2, I2, rz, B2, so2, st2, d2⟩ => ⟨I2.kIn, ?_⟩
  rw [hks]
  refine runK F hr hb hx I2 r rz so2 (st2.datAL d1) d2 gqs ?_ ?_ hy fun v B' H' so' st' dv => k v B' H' so' ((st1.trans st2).trans st') dv
  · show us.length = _
    rw [← r.length, d1.len, evs_len hxs]
    rfl
  · rw [← rz.length, d2.len, evs_len hys, hlk]
theorem se_callK0 {f : Addr} {fd : FuncData} {ps ks : List Str} {fi : Nat} {x : Str} {p : Pos} {asm : List (Nat ⊕ D)} {kws : List Keyword} {kcs : List C} (F : FnOk X.prog X.w X.K X.mg X.base (L2.CX X.prog X.w) k f fd ps (spF (gx X fa) ps.length (cl fi))) (hr : Room k X.A) (hg : Gl X x) (hmg : X.mg x = some (.ref f))
    (hk : PySem.W.keepIn X.K (.ref f) = true) (hb : KBA (gx X fa) fd ps 0 ks asm) (hx : Passes (L2.CX X.prog X.w) X E0) (hkw : SK fa cl X kws kcs) (hlk : kcs.length = ks.length)
    (hall : (backToKw pos (keywordEach kws X.env)).all (·.1.isSome) = true) (hks : (backToKw pos (keywordEach kws X.env)).filterMap (·.1) = ks)
    (hdb : (x == ("__debug__" : Str)) = false)
    (hpl : ((backTo pos (starEach [] X.env)).any (·.1) || (backToKw pos (keywordEach kws X.env)).any (·.1.isNone)) = false) : SE fa cl X (.Call (.Name x p) [] kws pos) (.callK fi [] kcs asm) := by
  refine ⟨fun pins s σ H Q I q => ?_⟩
  obtain ⟨B, S, ρ, z, S', eo, so, hm, k⟩ := q
  rw [ev, evs] at hm
  obtain ⟨xs, S1, hxs, hm1⟩ := Rz.bind_ok hm
  cases hxs
  obtain ⟨ys, S2, hys, hm2⟩ := Rz.bind_ok hm1
  obtain ⟨qs, S3, hqs, hm3⟩ := Rz.bind_ok hm2
  obtain ⟨gqs, rfl⟩ := Rz.of_ok hqs
  obtain ⟨y, S4, hy, hm4⟩ := Rz.bind_ok hm3
  rw [tst_f] at hm4
  cases hm4
  refine wpAny_Call_Name_kw (ld_glob I hg hmg ?_ hdb)
  refine PySem.W.callWith_KW0 (h₀ := X.base) I.ok.mod.kin hk hall (thn (hkw.pk.run pos pins s σ H (fun zs H2 => ∃ B2, StoreOk (gx X fa) ⟨B2, S3, H2⟩ ∧ Stab (gx X fa) ⟨B, S, H⟩ ⟨B2, S3, H2⟩ ∧ DatAL (gx X fa) ⟨B2, S3, H2⟩ ys zs) I
    (tA.use eo so hys fun vs B1 H1 so1 st1 eo1 d1 => ⟨B1, so1, st1, d1⟩)) fun ws s2 ⟨zs, H2, I2, rz, B2, so2, st2, d2⟩ => ⟨I2.kIn, ?_⟩) hpl
  rw [hks]
  refine runK (us := []) (vs := []) (xs := []) F hr hb hx I2 .nil rz so2 rfl d2 gqs rfl ?_ hy fun v B' H' so' st' dv => k v B' H' so' (st2.trans st') dv
  rw [← rz.length, d2.len, evs_len hys, hlk]
/-- a def that a name of one's own holds -/
theorem se_callV {i nf : Nat} {x : Str} {p : Pos} (tab : ∀ f, f < nf → ∃ fd ps, FnOk X.prog X.w X.K X.mg X.base (L2.CX X.prog X.w) k (fa.f f) fd ps (spF (gx X fa) ps.length (cl f)) ∧ PySem.W.keepIn X.K (.ref (fa.f f)) = true ∧ Binds X.K fd ps [] ∧ ∀ xs S z S', cl f xs S = .ok z S' → xs.length = ps.length) (hr : Room k X.A) (hN : X.N[i]? = some x) (hv : Vis X.env.scope x)
    (hx : Passes (L2.CX X.prog X.w) X E0) (ha : SA fa cl X (e :: es) (c :: cs)) (hdb : (x == ("__debug__" : Str)) = false) (hcd : (x == ("__classdict__" : Str)) = false) (he : starEach (e :: es) X.env = (false, eval e X.env) :: starEach es X.env) (hpl : (backTo pos (starEach es X.env)).any (·.1) = false) : SE fa cl X (.Call (.Name x p) (e :: es) [] pos) (.callV i nf (c :: cs)) := by
  refine ⟨fun pins s σ H Q I q => ?_⟩
  obtain ⟨B, S, ρ, z, S', eo, so, hm, k⟩ := q
  rw [ev] at hm
  split at hm
  · rename_i f hf
    split at hm
    · rename_i hlt
      obtain ⟨xs, S1, hxs, hm1⟩ := Rz.bind_ok hm
      obtain ⟨y, S2, hy, hm2⟩ := Rz.bind_ok hm1
      rw [tst_f] at hm2
      cases hm2
      obtain ⟨fd, ps, F, hk, hb, hl⟩ := tab f hlt
      obtain ⟨v, hv', dv⟩ := eo.get i _ hf
      have dv : v = .ref (fa.f f) := dv
      subst dv
      refine (pe_callL (dvs := []) F hr hN hv hk hb .nil hx ha hdb hcd he hpl).run pins s σ H Q I ⟨hv', ?_⟩
      refine tA.use eo so hxs fun vs B1 H1 so1 st1 eo1 d1 => ?_
      refine ⟨B1, S1, xs, z, S', so1, by rw [List.append_nil]; exact d1, hl _ _ _ _ hy, hy, fun v B' H' so' st' dv => k v B' H' so' (st1.trans st') dv⟩
    · cases hm
  · cases hm
end
end Fw

/-! max of a list of ints with a default. -/
namespace Fw
open PySem PySem.Spec PyProof.Rows L2
def rMaxDf (K : PySem.W.Frag) : List V → List V → Hp → VK → Prop := fun vs zs H Q => ∃ (a : Addr) (ns : List Int) (d : Int), vs = [V.ref a] ∧ zs = [V.int d] ∧ SqL K H a (ns.map V.int) ∧ Q (.int (maxDf d ns)) H
theorem reads_ints {h : Heap} : ∀ {ns : List Int} {its : List Value}, Vals (ns.map V.int) its → ∃ as, ReadsAll h its (ns.map .int) as
  | [], _, .nil => ⟨_, .nil⟩
  | n :: ns, _, .cons ⟨t, e⟩ r => by
    subst e
    obtain ⟨as, ih⟩ := reads_ints (h := h) r
    exact ⟨_, .cons (.int n t) ih⟩
theorem depth_ints : ∀ ns : List Int, PyData.depthAll (ns.map .int) ≤ 1
  | [] => by simp [PyData.depthAll]
  | n :: ns => by
    have := depth_ints ns
    simp [PyData.depthAll, PyData.depth] at this ⊢
    omega
theorem cr_maxDf {X : Cx} {k : Nat} (hc : X.calm = true) (hr : Room k X.A) : CallRK X (.builtin "max") ["default"] (rMaxDf X.K) := by
  intro pins s σ H vs zs us ws Q I r rz h
  obtain ⟨a, ns, d, rfl, rfl, hs, q⟩ := h
  obtain ⟨its, rv, hl, _⟩ := I.list hs
  rw [Vals.ref1 r]
  obtain ⟨wd, rfl, td, rfl⟩ := Vals.one rz
  obtain ⟨as, ra⟩ := reads_ints (h := s.heap) rv
  have hu : X.A.units + 65 < cLine := by have := hr.un; omega
  have hdp := depth_ints ns
  refine PySem.W.max_list_default (I.ok.hd hc) hl.isList (xs := ns.map .int) ra ⟨fun x hx y hy => ?_, fun x hx => ?_⟩ (by omega) (fun e h' tk hk => ?_) fun y ys i v h' tk bs e hv rd hk => ?_
  · obtain ⟨i, _, rfl⟩ := List.mem_map.mp hx
    obtain ⟨j, _, rfl⟩ := List.mem_map.mp hy
    rfl
  · obtain ⟨i, _, rfl⟩ := List.mem_map.mp hx
    intro z
    cases z
  · have e := List.map_eq_nil_iff.mp e
    subst e
    exact ⟨.int d, H, I.kept hk, ⟨_, rfl⟩, q⟩
  · cases ns with
    | nil => cases e
    | cons n ns =>
      rw [List.map_cons] at e
      injection e with e1 e2
      subst e1
      subst e2
      rw [PySem.W.maxD_ints] at rd
      cases rd with
      | int _ t => exact ⟨.int _, H, I.kept hk, ⟨_, rfl⟩, q⟩
section
variable {fa : Ad} {cl : Nat → List A → Store → Rz A} {X : Cx} {k : Nat} {a d : Expr} {ca cd : C} {p kp pos : Pos}
theorem se_maxD (hc : X.calm = true) (hr : Room k X.A) (hg : Gl X "max") (hmg : X.mg "max" = none) (he : starEach [a] X.env = (false, eval a X.env) :: starEach [] X.env) (ha : SA fa cl X [a] [ca]) (hd : SE fa cl X d cd) : SE fa cl X (.Call (.Name "max" p) [a] [⟨some "default", d, kp⟩] pos) (.maxD ca cd) := by
  have hp := pe_callBK (p := p) (pos := pos) (cr_maxDf hc hr) hg hmg (by rfl) ha (SK.cons (nm := some "default") (p := kp) hd .nil).pk (by decide) (by decide) (by rw [he]; rfl) (by rw [he]; rfl) rfl rfl rfl
  refine hp.imp fun σ H Q q => ?_
  obtain ⟨B, S, ρ, z, S', eo, so, hm, k⟩ := q
  rw [ev] at hm
  obtain ⟨x, S1, hx, hm1⟩ := Rz.bind_ok hm
  obtain ⟨y, S2, hy, hm2⟩ := Rz.bind_ok hm1
  obtain ⟨w, S3, hw, hm3⟩ := Rz.bind_ok hm2
  obtain ⟨gw, rfl⟩ := Rz.of_ok hw
  rw [tst_f] at hm3
  cases hm3
  have ex : evs cl [ca] ρ S = .ok [x] S1 := by rw [evs, hx]; rfl
  have ey : evs cl [cd] ρ S1 = .ok [y] S' := by rw [evs, hy]; rfl
  refine tA.use eo so ex fun vs B1 H1 so1 st1 eo1 d1 => tA.use eo1 so1 ey fun zs B2 H2 so2 st2 eo2 d2 => ?_
  unfold maxF at gw
  split at gw
  · rename_i ds dd
    cases hq : D.ints ds with
    | none => rw [hq] at gw; cases gw
    | some ns =>
      rw [hq] at gw
      cases gw
      obtain ⟨v, rfl, l, ws, rfl, t, _, hl⟩ := (st2.datAL d1).one
      obtain ⟨u, rfl, hu⟩ := d2.one
      exact ⟨l, ns, dd, rfl, by rw [show u = V.int dd from hu], by rw [← hl.ints hq]; exact SqL.of t, k _ B2 H2 so2 (st1.trans st2) rfl⟩
  · cases gw
end
end Fw

/-! Dicts: what the evaluator says of them is so. -/
namespace Fw
open PySem PySem.Spec PyProof.Rows L2
section
variable {g : G} {z : Z}
/-- a key that is data -/
theorem Dat.ky {d : D} {k : NestedKey} {b : Addr} (hk : nkD d = some k) (h8 : k.depth ≤ 8) (h : Dat g z d (.ref b)) : KyAt g.K z.H k b := by
  obtain ⟨p, h1, h2⟩ := nkD_py d k hk
  exact ⟨h8, p, h2, Dat.dp d _ p h1 h⟩
theorem dKey_ref {d : D} {k : NestedKey} {v : V} (hk : dKey d = some k) (h : Dat g z d v) : ∃ b, v = .ref b ∧ nkD d = some k ∧ k.depth ≤ 8 := by
  unfold dKey at hk
  split at hk
  · rename_i ds
    split at hk
    · rename_i k' hk'
      split at hk
      · rename_i h8
        cases hk
        obtain ⟨a, vs, rfl, _⟩ := h
        exact ⟨a, rfl, hk', h8⟩
      · cases hk
    · cases hk
  · cases hk
/-- the keys of a dict -/
theorem KeyL.ky : ∀ {ds : List D} {hs : List (Int × Addr)}, KeyL g z ds hs → ∃ nks, ds.map nkD = nks.map some ∧ KyH g.K g.w z.H nks hs
  | [], _, h => ⟨[], rfl, h⟩
  | d :: ds, _, ⟨k, b, r, e, h1, h2, h3, h4⟩ => by
    obtain ⟨nks, e1, e2⟩ := KeyL.ky h4
    exact ⟨k :: nks, by rw [List.map_cons, List.map_cons, h1, e1], b, r, e, Dat.ky h1 h2 h3, e2⟩
theorem nodup_of_some {α : Type} {l : List α} (h : (l.map some).Nodup) : l.Nodup := by
  induction l with
  | nil => exact List.nodup_nil
  | cons a l ih =>
    rw [List.map_cons, List.nodup_cons] at h
    exact List.nodup_cons.mpr ⟨fun m => h.1 (List.mem_map_of_mem m), ih h.2⟩
theorem dHas_mem {k : NestedKey} : ∀ {ds : List D} {nks : List NestedKey}, ds.map nkD = nks.map some → dHas k ds = decide (k ∈ nks)
  | [], [], _ => by simp [dHas]
  | [], _ :: _, h => by simp at h
  | _ :: _, [], h => by simp at h
  | d :: ds, n :: nks, h => by
    rw [List.map_cons, List.map_cons, List.cons.injEq] at h
    have ih := dHas_mem (k := k) h.2
    unfold dHas at ih ⊢
    rw [List.any_cons, ih, h.1]
    by_cases e : n = k
    · subst e
      simp
    · have e2 : ¬ k = n := fun z => e z.symm
      simp [e, e2]
theorem dFind_val {k : NestedKey} : ∀ {ds vs : List D} {nks : List NestedKey} {ws : List V}, ds.map nkD = nks.map some → DatL g z vs ws → (match dFind k ds vs with
    | some d => ∃ w, valD nks ws k = some w ∧ Dat g z d w
    | none => valD nks ws k = none)
  | [], vs, [], ws, _, _ => rfl
  | [], _, _ :: _, _, h, _ => by simp at h
  | _ :: _, _, [], _, h, _ => by simp at h
  | d :: ds, [], n :: nks, ws, h, hv => by
    rw [show ws = [] from hv]
    rfl
  | d :: ds, v :: vs, n :: nks, ws, h, ⟨w, r, e, h1, h2⟩ => by
    subst e
    rw [List.map_cons, List.map_cons, List.cons.injEq] at h
    have ih := dFind_val (k := k) h.2 h2
    by_cases e : n = k
    · have e1 : dFind k (d :: ds) (v :: vs) = some v := by simp [dFind, List.find?_cons, h.1, e]
      have e2 : valD (n :: nks) (w :: r) k = some w := by simp [valD, List.find?_cons, e]
      rw [e1]
      exact ⟨w, e2, h1⟩
    · have e1 : dFind k (d :: ds) (v :: vs) = dFind k ds vs := by simp [dFind, List.find?_cons, h.1, e]
      have e2 : valD (n :: nks) (w :: r) k = valD nks r k := by simp [valD, List.find?_cons, e]
      rw [e1, e2]
      exact ih
/-- a dict that the evaluator knows -/
theorem dict_rel {x : A} {ks vs : List D} {v : V} (k : StoreOk g z) (d : DatA g z x v) (h : dictAt x z.S = some (ks, vs)) :
    ∃ a hs ws nks, v = .ref a ∧ DcAt g.K g.w z.H a nks hs ws ∧ ks.map nkD = nks.map some ∧ KeyL g z ks hs ∧ DatL g z vs ws := by
  have fin : ∀ {a : Addr} {ep : Nat} {hs : List (Int × Addr)} {ws : List V}, z.H a = some (DcO a ep hs ws) → (a == sysModules) = false → keysOk ks → KeyL g z ks hs → DatL g z vs ws → ∃ nks, DcAt g.K g.w z.H a nks hs ws ∧ ks.map nkD = nks.map some := by
    intro a ep hs ws h1 h2 h3 h4 h5
    obtain ⟨nks, e1, e2⟩ := KeyL.ky h4
    refine ⟨nks, ⟨⟨ep, h1⟩, h2, nodup_of_some ?_, e2⟩, e1⟩
    rw [← e1]
    exact h3
  unfold dictAt at h
  split at h
  · cases h
    obtain ⟨a, ep, hs, ws, rfl, h1, _, h2, h3, h4, h5⟩ := d
    obtain ⟨nks, q1, q2⟩ := fin h1 h2 h3 h4 h5
    exact ⟨a, hs, ws, nks, rfl, q1, q2, h4, h5⟩
  · rename_i j
    split at h
    · rename_i ks' vs' hj
      cases h
      obtain ⟨a, ha, rfl, _⟩ := d
      obtain ⟨u, e, ep, hs, ws, rfl, h2, h3, h4, h5⟩ := k.obj j a _ ha hj (fun z => by cases z)
      obtain ⟨nks, q1, q2⟩ := fin e h2 h3 h4 h5
      exact ⟨a, hs, ws, nks, rfl, q1, q2, h4, h5⟩
    · cases h
  · cases h
/-! ### a key and its value put in -/
theorem keyL_put {y : D} {k : NestedKey} {b : Addr} (hk : nkD y = some k) (h8 : k.depth ≤ 8) (hd : Dat g z y (.ref b)) {ks : List D} {nks : List NestedKey} {hs : List (Int × Addr)} (e : ks.map nkD = nks.map some) (h : KeyL g z ks hs) :
    KeyL g z (dPutK y k ks) (putHs g.w nks hs k b) := by
  unfold dPutK putHs
  rw [dHas_mem e]
  by_cases hin : k ∈ nks
  · rw [if_pos (decide_eq_true hin), if_pos hin]
    exact h
  · rw [if_neg (by simpa using hin), if_neg hin]
    have : ∀ (ks : List D) (hs : List (Int × Addr)), KeyL g z ks hs → KeyL g z (ks ++ [y]) (hs ++ [(k.hash g.w, b)]) := by
      intro ks
      induction ks with
      | nil =>
        intro hs q
        rw [show hs = [] from q]
        exact ⟨k, b, [], rfl, hk, h8, hd, rfl⟩
      | cons d ds ih =>
        rintro _ ⟨k', b', r, rfl, h1, h2, h3, h4⟩
        exact ⟨k', b', r ++ [(k.hash g.w, b)], rfl, h1, h2, h3, ih r h4⟩
    exact this ks hs h
theorem keysOk_put {y : D} {k : NestedKey} (hk : nkD y = some k) {ks : List D} {nks : List NestedKey} (e : ks.map nkD = nks.map some) (h : keysOk ks) : keysOk (dPutK y k ks) := by
  unfold dPutK
  rw [dHas_mem e]
  by_cases hin : k ∈ nks
  · rw [if_pos (decide_eq_true hin)]
    exact h
  · rw [if_neg (by simpa using hin)]
    unfold keysOk at h ⊢
    dsimp only at h ⊢
    rw [List.map_append, e, List.map_cons, List.map_nil, hk]
    rw [e] at h
    rw [List.nodup_append]
    refine ⟨h, by simp, fun a ha b hb q => ?_⟩
    rw [List.mem_singleton] at hb
    subst hb
    subst q
    obtain ⟨k', m, q⟩ := List.mem_map.mp ha
    cases q
    exact hin m
theorem datL_app {x : D} {v : V} : ∀ {ds : List D} {vs : List V}, DatL g z ds vs → Dat g z x v → DatL g z (ds ++ [x]) (vs ++ [v])
  | [], vs, h, hx => by
    rw [show vs = [] from h]
    exact ⟨v, [], rfl, hx, rfl⟩
  | d :: ds, _, ⟨u, r, e, h1, h2⟩, hx => by
    subst e
    exact ⟨u, r ++ [v], rfl, h1, datL_app h2 hx⟩
theorem datL_zipW {k : NestedKey} {x : D} {v : V} (hx : Dat g z x v) : ∀ {ks : List D} {nks : List NestedKey} {ds : List D} {vs : List V}, ks.map nkD = nks.map some → DatL g z ds vs → DatL g z (List.zipWith (fun d w => if nkD d = some k then x else w) ks ds) (List.zipWith (fun k' w => if k' = k then v else w) nks vs)
  | [], [], _, _, _, _ => rfl
  | [], _ :: _, _, _, h, _ => by simp at h
  | _ :: _, [], _, _, h, _ => by simp at h
  | d :: ks, n :: nks, [], vs, h, hv => by
    rw [show vs = [] from hv]
    rfl
  | d :: ks, n :: nks, y :: ds, _, h, ⟨w, r, e, h1, h2⟩ => by
    subst e
    rw [List.map_cons, List.map_cons, List.cons.injEq] at h
    rw [List.zipWith_cons_cons, List.zipWith_cons_cons]
    refine ⟨_, _, rfl, ?_, datL_zipW hx h.2 h2⟩
    rw [h.1]
    by_cases e : n = k
    · rw [if_pos e, if_pos (by rw [e])]
      exact hx
    · rw [if_neg e, if_neg (by simpa using e)]
      exact h1
theorem datL_put {k : NestedKey} {x : D} {v : V} (hx : Dat g z x v) {ks : List D} {nks : List NestedKey} {ds : List D} {vs : List V} (e : ks.map nkD = nks.map some) (h : DatL g z ds vs) : DatL g z (dPutV k x ks ds) (putWs nks vs k v) := by
  unfold dPutV putWs
  rw [dHas_mem e]
  by_cases hin : k ∈ nks
  · rw [if_pos (decide_eq_true hin), if_pos hin]
    exact datL_zipW hx e h
  · rw [if_neg (by simpa using hin), if_neg hin]
    exact datL_app h hx
end
section
variable {fa : Ad} {cl : Nat → List A → Store → Rz A} {X : Cx} {o i e f : Expr} {co ci cd : C} {pos apos cpos : Pos} {k : Nat}
theorem room9 (hr : Room k X.A) : X.A.units + 9 < cLine := by
  have := hr.un
  omega
theorem se_dctN : SE fa cl X (.Dict [] [] pos) .dctN := pe_dnewC.imp fun σ H Q q => by
  obtain ⟨B, S, ρ, z, S', eo, so, hm, k⟩ := q
  rw [ev] at hm
  simp only [Bool.false_eq_true, if_false] at hm
  cases hm
  intro p hp hb
  have ob : Ob (gx X fa) ⟨B, S, H⟩ p (.dct [] []) (DcO p 0 [] []) := ⟨0, [], [], rfl, hb, List.nodup_nil, rfl, rfl⟩
  refine k _ (B.add p) _ (so.allocO hp ob) (Stab.alloc so hp) ⟨p, ?_, rfl, new_nr (fun z => by cases z)⟩
  show (B.l ++ [p])[S.length]? = some p
  rw [← show B.l.length = S.length from so.len, List.getElem?_append_right (Nat.le_refl _), Nat.sub_self]
  rfl
theorem se_getD (hr : Room k X.A) (ho : SE fa cl X o co) (hi : SE fa cl X i ci) (hs : NoSl i) : SE fa cl X (.Subscript o i pos) (.getD co ci) := (pe_dcget (room9 hr) ho hi hs).imp fun σ H Q q => by
  obtain ⟨B, S, ρ, z, S', eo, so, hm, k⟩ := q
  rw [ev] at hm
  obtain ⟨x, S1, hx, hm1⟩ := Rz.bind_ok hm
  obtain ⟨y, S2, hy, hm2⟩ := Rz.bind_ok hm1
  split at hm2
  · rename_i ks vs y hda
    split at hm2
    · rename_i nk hk
      obtain ⟨w, S3, hw, hm3⟩ := Rz.bind_ok hm2
      obtain ⟨gw, rfl⟩ := Rz.of_ok hw
      rw [tst_f] at hm3
      cases hm3
      refine tE.use eo so hx fun v1 B1 H1 so1 st1 eo1 d1 => tE.use eo1 so1 hy fun v2 B2 H2 so2 st2 eo2 d2 => ?_
      obtain ⟨a, hs', ws, nks, rfl, g, en, kl, dl⟩ := dict_rel so2 (st2.datA d1) hda
      obtain ⟨b, rfl, nk1, nk2⟩ := dKey_ref hk d2
      have dv := dFind_val (k := nk) en dl
      rw [gw] at dv
      obtain ⟨w', e1, e2⟩ := dv
      exact ⟨a, b, nks, hs', ws, nk, w', rfl, rfl, g, Dat.ky nk1 nk2 d2, e1, k _ B2 H2 so2 (st1.trans st2) e2⟩
    · cases hm2
  · cases hm2
theorem se_inD {neg : Bool} (hr : Room k X.A) (hi : SE fa cl X i ci) (ho : SE fa cl X o co) (hb : ∀ es k p, o ≠ .Set es k p) : SE fa cl X (.Compare i [if neg then .NotIn else .In] [o] pos) (.inD neg ci co) := by
  have key : PE X (.Compare i [if neg then .NotIn else .In] [o] pos) (tDcIn neg (tE (gx X fa) (ev cl false ci)) (tE (gx X fa) (ev cl false co)) X) := by
    cases neg with
    | false => exact pe_cmp (pc_dcin (room9 hr) hi ho) (notSet_marks hb)
    | true => exact pe_cmp (pc_dcnotin (room9 hr) hi ho) (notSet_marks hb)
  refine key.imp fun σ H Q q => ?_
  obtain ⟨B, S, ρ, z, S', eo, so, hm, k⟩ := q
  rw [ev] at hm
  obtain ⟨y, S1, hy, hm1⟩ := Rz.bind_ok hm
  obtain ⟨x, S2, hx, hm2⟩ := Rz.bind_ok hm1
  split at hm2
  · rename_i ks vs y hda
    split at hm2
    · rename_i nk hk
      cases hm2
      refine tE.use eo so hy fun v1 B1 H1 so1 st1 eo1 d1 => tE.use eo1 so1 hx fun v2 B2 H2 so2 st2 eo2 d2 => ?_
      obtain ⟨a, hs', ws, nks, rfl, g, en, kl, dl⟩ := dict_rel so2 d2 hda
      have d1' := st2.datA d1
      obtain ⟨b, rfl, nk1, nk2⟩ := dKey_ref hk d1'
      refine ⟨a, b, nks, hs', ws, nk, rfl, rfl, g, Dat.ky nk1 nk2 d1', k _ B2 H2 so2 (st1.trans st2) ?_⟩
      rw [dHas_mem en]
      rfl
    · cases hm2
  · cases hm2
theorem st_inD {neg : Bool} (hr : Room k X.A) (hi : SE fa cl X i ci) (ho : SE fa cl X o co) (hb : ∀ es k p, o ≠ .Set es k p) : ST fa cl X (.Compare i [if neg then .NotIn else .In] [o] pos) (.inD neg ci co) := by
  have key : PT X (.Compare i [if neg then .NotIn else .In] [o] pos) (tB (tDcIn neg (tE (gx X fa) (ev cl false ci)) (tE (gx X fa) (ev cl false co)) X)) := by
    cases neg with
    | false => exact pt_cmp (pc_dcin (room9 hr) hi ho) (notSet_marks hb)
    | true => exact pt_cmp (pc_dcnotin (room9 hr) hi ho) (notSet_marks hb)
  refine key.imp fun σ H Q q => ?_
  obtain ⟨B, S, ρ, z, S', eo, so, hm, k⟩ := q
  rw [ev] at hm
  obtain ⟨y, S1, hy, hm1⟩ := Rz.bind_ok hm
  obtain ⟨x, S2, hx, hm2⟩ := Rz.bind_ok hm1
  split at hm2
  · rename_i ks vs y hda
    split at hm2
    · rename_i nk hk
      cases hm2
      refine tE.use eo so hy fun v1 B1 H1 so1 st1 eo1 d1 => tE.use eo1 so1 hx fun v2 B2 H2 so2 st2 eo2 d2 => ?_
      obtain ⟨a, hs', ws, nks, rfl, g, en, kl, dl⟩ := dict_rel so2 d2 hda
      have d1' := st2.datA d1
      obtain ⟨b, rfl, nk1, nk2⟩ := dKey_ref hk d1'
      have e := dHas_mem (k := nk) en
      refine ⟨a, b, nks, hs', ws, nk, rfl, rfl, g, Dat.ky nk1 nk2 d1', _, rfl, ?_⟩
      rw [← e]
      exact k B2 H2 so2 (st1.trans st2)
    · cases hm2
  · cases hm2
theorem se_getO (hr : Room k X.A) (ho : SE fa cl X o co) (he : SE fa cl X e ci) (hf : SE fa cl X f cd) (m : M2 X o "get" apos e f cpos) : SE fa cl X (.Call (.Attribute o "get" apos) [e, f] [] cpos) (.getO co ci cd) := (pe_dcget2 (room9 hr) ho he hf m).imp fun σ H Q q => by
  obtain ⟨B, S, ρ, z, S', eo, so, hm, k⟩ := q
  rw [ev] at hm
  obtain ⟨x, S1, hx, hm1⟩ := Rz.bind_ok hm
  split at hm1
  · rename_i hsm
    obtain ⟨y, S2, hy, hm2⟩ := Rz.bind_ok hm1
    obtain ⟨w, S3, hz, hm3⟩ := Rz.bind_ok hm2
    split at hm3
    · rename_i ks vs y w hda
      split at hm3
      · rename_i nk hk
        rw [tst_f] at hm3
        cases hm3
        obtain ⟨⟨ks0, vs0⟩, hd0⟩ := Option.isSome_iff_exists.mp hsm
        refine tE.use eo so hx fun v1 B1 H1 so1 st1 eo1 d1 => ?_
        obtain ⟨a, hs0, ws0, nks0, rfl, g0, _⟩ := dict_rel so1 d1 hd0
        refine ⟨a, nks0, hs0, ws0, rfl, g0, tE.use eo1 so1 hy fun v2 B2 H2 so2 st2 eo2 d2 => tE.use eo2 so2 hz fun v3 B3 H3 so3 st3 eo3 d3 => ?_⟩
        obtain ⟨a', hs', ws, nks, ea, g, en, kl, dl⟩ := dict_rel so3 (st3.datA (st2.datA d1)) hda
        cases ea
        have d2' := st3.datA d2
        obtain ⟨b, rfl, nk1, nk2⟩ := dKey_ref hk d2'
        refine ⟨b, nks, hs', ws, nk, rfl, g, Dat.ky nk1 nk2 d2', k _ B3 H3 so3 (st1.trans (st2.trans st3)) ?_⟩
        have dv := dFind_val (k := nk) en dl
        cases hq : dFind nk ks vs with
        | none =>
          rw [hq] at dv
          rw [show valD nks ws nk = none from dv]
          exact d3
        | some d =>
          rw [hq] at dv
          obtain ⟨w', e1, e2⟩ := dv
          rw [e1]
          exact e2
      · cases hm3
    · cases hm3
  · cases hm1
end
end Fw

/-! Dicts whose keys are texts. -/
namespace Fw
open PySem PySem.Spec PyProof.Rows L2
section
variable {g : G} {z : Z}
theorem lookK_dat {k : Str} {d : D} : ∀ {ks : List Str} {ds : List D} {vs : List V}, DatL g z ds vs → getN k ks ds = some d → ∃ v, valV ((ks.map Sum.inr : List Key).zip vs) (.inr k) = some v ∧ Dat g z d v
  | [], ds, vs, _, h => by
    unfold getN at h
    cases ds <;> simp at h
  | m :: ns, [], vs, _, h => by
    unfold getN at h
    simp at h
  | m :: ns, x :: ds, _, ⟨v, r, e, a, b⟩, h => by
    subst e
    unfold getN at h
    rw [List.zip_cons_cons, List.lookup_cons] at h
    rw [List.map_cons, List.zip_cons_cons]
    split at h
    · rename_i hk
      cases h
      exact ⟨v, valV_pos (by show (Sum.inr m : Key) = .inr k; rw [beq_iff_eq.mp hk]), a⟩
    · rename_i hk
      have ne : ¬ m = k := fun q => by
        rw [q, beq_self_eq_true] at hk
        cases hk
      rw [valV_neg (by show ¬ (Sum.inr m : Key) = .inr k; exact fun q => ne (Sum.inr.inj q))]
      exact lookK_dat b h
theorem inK_val {k : Str} : ∀ {ks : List Str} {vs : List V}, ks.length = vs.length → (valV ((ks.map Sum.inr : List Key).zip vs) (.inr k)).isSome = decide (k ∈ ks)
  | [], _, _ => by simp [valV]
  | m :: ks, [], h => by simp at h
  | m :: ks, v :: vs, h => by
    rw [List.map_cons, List.zip_cons_cons]
    by_cases hk : m = k
    · rw [valV_pos (by show (Sum.inr m : Key) = .inr k; rw [hk])]
      simp [hk]
    · rw [valV_neg (by show ¬ (Sum.inr m : Key) = .inr k; exact fun q => hk (Sum.inr.inj q)), inK_val (Nat.succ.inj h)]
      have : (k ∈ m :: ks) ↔ k ∈ ks := by
        rw [List.mem_cons]
        exact ⟨fun q => q.elim (fun q => absurd q.symm hk) id, .inr⟩
      exact decide_eq_decide.mpr this.symm
def kPutW {α : Type} (k : Str) (v : α) (ks : List Str) (vs : List α) : List α := if k ∈ ks then List.zipWith (fun m w => if m = k then v else w) ks vs else vs ++ [v]
theorem zw_dat {k : Str} {d : D} {v : V} (dv : Dat g z d v) : ∀ {ks : List Str} {ds : List D} {vs : List V}, DatL g z ds vs → DatL g z (List.zipWith (fun m w => if m = k then d else w) ks ds) (List.zipWith (fun m w => if m = k then v else w) ks vs)
  | [], ds, vs, _ => by simp [DatL]
  | m :: ks, [], vs, h => by
    rw [show vs = [] from h]
    rfl
  | m :: ks, x :: ds, _, ⟨w, r, e, a, b⟩ => by
    subst e
    rw [List.zipWith_cons_cons, List.zipWith_cons_cons]
    refine ⟨_, _, rfl, ?_, zw_dat dv b⟩
    by_cases hm : m = k
    · rw [if_pos hm, if_pos hm]
      exact dv
    · rw [if_neg hm, if_neg hm]
      exact a
theorem kPut_dat {k : Str} {d : D} {v : V} (dv : Dat g z d v) {ks : List Str} {ds : List D} {vs : List V} (h : DatL g z ds vs) : DatL g z (kPutV k d ks ds) (kPutW k v ks vs) := by
  unfold kPutV kPutW
  by_cases hk : k ∈ ks
  · rw [if_pos hk, if_pos hk]
    exact zw_dat dv h
  · rw [if_neg hk, if_neg hk]
    exact h.app ⟨v, [], rfl, dv, rfl⟩
theorem kPut_len {α : Type} {k : Str} {v : α} {ks : List Str} {vs : List α} (h : ks.length = vs.length) : (kPutN k ks).length = (kPutW k v ks vs).length := by
  unfold kPutN kPutW
  by_cases hk : k ∈ ks
  · rw [if_pos hk, if_pos hk, List.length_zipWith]
    omega
  · rw [if_neg hk, if_neg hk, List.length_append, List.length_append, h]
    rfl
theorem zip_map_if {k : Str} {v : V} : ∀ {ks : List Str} {vs : List V}, ks.length = vs.length → ((ks.map Sum.inr : List Key).zip vs).map (fun kv => if kv.1 = (.inr k : Key) then (kv.1, v) else kv) = (ks.map Sum.inr : List Key).zip (List.zipWith (fun m w => if m = k then v else w) ks vs)
  | [], vs, _ => rfl
  | m :: ks, [], h => by simp at h
  | m :: ks, w :: vs, h => by
    rw [List.map_cons, List.zip_cons_cons, List.map_cons, zip_map_if (Nat.succ.inj h), List.zipWith_cons_cons, List.zip_cons_cons]
    by_cases hm : m = k
    · rw [if_pos (by show (Sum.inr m : Key) = .inr k; rw [hm]), if_pos hm]
    · rw [if_neg (by show ¬ (Sum.inr m : Key) = .inr k; exact fun q => hm (Sum.inr.inj q)), if_neg hm]
theorem any_key {k : Str} : ∀ {ks : List Str} {vs : List V}, ks.length = vs.length → (((ks.map Sum.inr : List Key).zip vs).any fun kv => decide (kv.1 = .inr k)) = decide (k ∈ ks) := fun {ks vs} h => by
  rw [valV_any, inK_val h]
theorem putK_ks {k : Str} {v : V} {ks : List Str} {vs : List V} (h : ks.length = vs.length) : L2.putK ((ks.map Sum.inr : List Key).zip vs) (.inr k) v = ((kPutN k ks).map Sum.inr : List Key).zip (kPutW k v ks vs) := by
  unfold L2.putK kPutN kPutW
  rw [any_key h]
  by_cases hk : k ∈ ks
  · rw [if_pos (decide_eq_true hk), if_pos hk, if_pos hk]
    exact zip_map_if h
  · rw [if_neg (by simpa using hk), if_neg hk, if_neg hk, List.map_append, List.zip_append (by rw [List.length_map, h])]
    rfl
theorem kat_rel {B : Bk} {S : Store} {H : Hp} {x : A} {v : V} {ks : List Str} {ds : List D} (so : StoreOk g ⟨B, S, H⟩) (d : DatA g ⟨B, S, H⟩ x v) (h : kAt x S = some (ks, ds)) : ∃ a ws, v = .ref a ∧ H a = some (ksO ks ws) ∧ ks.length = ds.length ∧ DatL g ⟨B, S, H⟩ ds ws := by
  unfold kAt at h
  split at h
  · cases h
    obtain ⟨a, ws, e, t, _, l, q⟩ := d
    exact ⟨a, ws, e, t, l, q⟩
  · split at h
    · rename_i hs
      cases h
      obtain ⟨a, hb, e, _⟩ := d
      obtain ⟨u, hu, ws, eu, l, q⟩ := so.obj _ a _ hb hs (fun z => by cases z)
      subst eu
      exact ⟨a, ws, e, hu, l, q⟩
    · cases h
  · cases h
end
section
variable {fa : Ad} {cl : Nat → List A → Store → Rz A} {X : Cx} {o i e : Expr} {co ci c : C} {pos : Pos} {k : Nat}
theorem room1 (hr : Room k X.A) : X.A.units + 1 < cLine := by
  have := hr.un
  omega
theorem se_dctK : SE fa cl X (.Dict [] [] pos) .dctK := pe_dnewK.imp fun σ H Q q => by
  obtain ⟨B, S, ρ, z, S', eo, so, hm, k⟩ := q
  rw [ev] at hm
  simp only [Bool.false_eq_true, if_false] at hm
  cases hm
  intro p hp
  have ob : Ob (gx X fa) ⟨B, S, H⟩ p (.dks [] []) (.dK []) := ⟨[], rfl, rfl, rfl⟩
  refine k _ (B.add p) _ (so.allocO hp ob) (Stab.alloc so hp) ⟨p, ?_, rfl, new_nr (fun z => by cases z)⟩
  show (B.l ++ [p])[S.length]? = some p
  rw [← show B.l.length = S.length from so.len, List.getElem?_append_right (Nat.le_refl _), Nat.sub_self]
  rfl
theorem se_getK (hr : Room k X.A) (ho : SE fa cl X o co) (hi : SE fa cl X i ci) (hs : L2.NoSl i) : SE fa cl X (.Subscript o i pos) (.getK co ci) := (pe_dget (room1 hr) ho hi hs).imp fun σ H Q q => by
  obtain ⟨B, S, ρ, z, S', eo, so, hm, k⟩ := q
  rw [ev] at hm
  obtain ⟨x, S1, hx, hm1⟩ := Rz.bind_ok hm
  obtain ⟨y, S2, hy, hm2⟩ := Rz.bind_ok hm1
  split at hm2
  · rename_i ks vs kk hda
    obtain ⟨w, S3, hw, hm3⟩ := Rz.bind_ok hm2
    obtain ⟨gw, rfl⟩ := Rz.of_ok hw
    rw [tst_f] at hm3
    cases hm3
    refine tE.use eo so hx fun v1 B1 H1 so1 st1 eo1 d1 => tE.use eo1 so1 hy fun v2 B2 H2 so2 st2 eo2 d2 => ?_
    obtain ⟨a, ws, rfl, g, ln, dl⟩ := kat_rel so2 (st2.datA d1) hda
    obtain ⟨w', e1, e2⟩ := lookK_dat dl gw
    have d2 : v2 = V.str kk := d2
    subst d2
    refine ⟨a, w', rfl, ?_, k _ B2 H2 so2 (st1.trans st2) e2⟩
    rw [← e1]
    exact DGet.k (k := .inr kk) g
  · cases hm2
theorem se_inK {neg : Bool} (hr : Room k X.A) (hi : SE fa cl X i ci) (ho : SE fa cl X o co) (hb : ∀ es k p, o ≠ .Set es k p) : SE fa cl X (.Compare i [if neg then .NotIn else .In] [o] pos) (.inK neg ci co) := by
  have key : PE X (.Compare i [if neg then .NotIn else .In] [o] pos) (if neg then tDNotIn (tE (gx X fa) (ev cl false ci)) (tE (gx X fa) (ev cl false co)) else tDIn (tE (gx X fa) (ev cl false ci)) (tE (gx X fa) (ev cl false co))) := by
    cases neg with
    | false => exact pe_cmp (pc_din (room1 hr) hi ho) (notSet_marks hb)
    | true => exact pe_cmp (pc_dnotin (room1 hr) hi ho) (notSet_marks hb)
  refine key.imp fun σ H Q q => ?_
  obtain ⟨B, S, ρ, z, S', eo, so, hm, k⟩ := q
  rw [ev] at hm
  obtain ⟨y, S1, hy, hm1⟩ := Rz.bind_ok hm
  obtain ⟨x, S2, hx, hm2⟩ := Rz.bind_ok hm1
  split at hm2
  · rename_i ks vs kk hda
    cases hm2
    cases neg with
    | false =>
      refine tE.use eo so hy fun v1 B1 H1 so1 st1 eo1 d1 => tE.use eo1 so1 hx fun v2 B2 H2 so2 st2 eo2 d2 => ?_
      obtain ⟨a, ws, rfl, g, ln, dl⟩ := kat_rel so2 d2 hda
      have d1 : v1 = V.str kk := d1
      subst d1
      refine ⟨a, _, rfl, DGet.k (k := .inr kk) g, ?_⟩
      rw [inK_val (by rw [ln, ← dl.len])]
      exact k _ B2 H2 so2 (st1.trans st2) rfl
    | true =>
      refine tE.use eo so hy fun v1 B1 H1 so1 st1 eo1 d1 => tE.use eo1 so1 hx fun v2 B2 H2 so2 st2 eo2 d2 => ?_
      obtain ⟨a, ws, rfl, g, ln, dl⟩ := kat_rel so2 d2 hda
      have d1 : v1 = V.str kk := d1
      subst d1
      refine ⟨a, _, rfl, DGet.k (k := .inr kk) g, ?_⟩
      rw [inK_val (by rw [ln, ← dl.len])]
      exact k _ B2 H2 so2 (st1.trans st2) rfl
  · cases hm2
theorem st_inK {neg : Bool} (hr : Room k X.A) (hi : SE fa cl X i ci) (ho : SE fa cl X o co) (hb : ∀ es k p, o ≠ .Set es k p) : ST fa cl X (.Compare i [if neg then .NotIn else .In] [o] pos) (.inK neg ci co) := by
  have key : PT X (.Compare i [if neg then .NotIn else .In] [o] pos) (tB (if neg then tDNotIn (tE (gx X fa) (ev cl false ci)) (tE (gx X fa) (ev cl false co)) else tDIn (tE (gx X fa) (ev cl false ci)) (tE (gx X fa) (ev cl false co)))) := by
    cases neg with
    | false => exact pt_cmp (pc_din (room1 hr) hi ho) (notSet_marks hb)
    | true => exact pt_cmp (pc_dnotin (room1 hr) hi ho) (notSet_marks hb)
  refine key.imp fun σ H Q q => ?_
  obtain ⟨B, S, ρ, z, S', eo, so, hm, k⟩ := q
  rw [ev] at hm
  obtain ⟨y, S1, hy, hm1⟩ := Rz.bind_ok hm
  obtain ⟨x, S2, hx, hm2⟩ := Rz.bind_ok hm1
  split at hm2
  · rename_i ks vs kk hda
    cases hm2
    cases neg with
    | false =>
      refine tE.use eo so hy fun v1 B1 H1 so1 st1 eo1 d1 => tE.use eo1 so1 hx fun v2 B2 H2 so2 st2 eo2 d2 => ?_
      obtain ⟨a, ws, rfl, g, ln, dl⟩ := kat_rel so2 d2 hda
      have d1 : v1 = V.str kk := d1
      subst d1
      refine ⟨a, _, rfl, DGet.k (k := .inr kk) g, _, rfl, ?_⟩
      rw [inK_val (by rw [ln, ← dl.len])]
      exact k B2 H2 so2 (st1.trans st2)
    | true =>
      refine tE.use eo so hy fun v1 B1 H1 so1 st1 eo1 d1 => tE.use eo1 so1 hx fun v2 B2 H2 so2 st2 eo2 d2 => ?_
      obtain ⟨a, ws, rfl, g, ln, dl⟩ := kat_rel so2 d2 hda
      have d1 : v1 = V.str kk := d1
      subst d1
      refine ⟨a, _, rfl, DGet.k (k := .inr kk) g, _, rfl, ?_⟩
      rw [inK_val (by rw [ln, ← dl.len])]
      exact k B2 H2 so2 (st1.trans st2)
  · cases hm2
theorem strs_dat {g : G} {z : Z} : ∀ ks : List Str, DatL g z (ks.map .str) (ks.map V.str)
  | [] => rfl
  | k :: ks => ⟨_, _, rfl, rfl, strs_dat ks⟩
theorem keys_kV : ∀ {ks : List Str} {vs : List V}, ks.length = vs.length → (((ks.map Sum.inr : List Key).zip vs).map fun kv => kV kv.1) = ks.map V.str
  | [], vs, _ => rfl
  | m :: ks, [], h => by simp at h
  | m :: ks, w :: vs, h => by
    rw [List.map_cons, List.zip_cons_cons, List.map_cons, keys_kV (Nat.succ.inj h)]
    rfl
theorem se_keysK {p : Pos} (hc : X.calm = true) (hg : Gl X "list") (hmg : X.mg "list" = none) (h : SA fa cl X [e] [c]) (he : starEach [e] X.env = (false, eval e X.env) :: starEach [] X.env) (hpl : (backTo pos (starEach [] X.env)).any (·.1) = false) : SE fa cl X (.Call (.Name "list" p) [e] [] pos) (.keysK c) :=
  (pe_callTy (call_list_dK hc) hg hmg (Blt.boot .list) h (Blt.nn .list) (Blt.nd .list) he hpl).imp fun σ H Q q => by
  obtain ⟨B, S, ρ, z, S', eo, so, hm, k⟩ := q
  rw [ev] at hm
  obtain ⟨x, S1, hx, hm1⟩ := Rz.bind_ok hm
  have hxs : evs cl [c] ρ S = .ok [x] S1 := by
    rw [evs, hx, Rz.bind, evs]
    rfl
  split at hm1
  · rename_i ks ds hda
    split at hm1
    · rename_i hl
      rw [tst_f] at hm1
      cases hm1
      refine tA.use eo so hxs fun vs B1 H1 so1 st1 eo1 d1 => ?_
      obtain ⟨v, rfl, d2⟩ := d1.one
      obtain ⟨a, ws, rfl, g, ln, dl⟩ := kat_rel so1 d2 hda
      refine ⟨a, _, rfl, g, fun q hq => ?_⟩
      rw [keys_kV (by rw [ln, ← dl.len])]
      exact k _ B1 _ (so1.new hq) (st1.trans (Stab.new so1 hq)) (new_lst so1 hq (strs_dat ks))
    · cases hm1
  · cases hm1
end
end Fw

/-! Targets, what is walked, comprehensions, methods. -/
namespace Fw
open PySem PySem.Spec PyProof.Rows L2
/-! ### a weaker step: what was known is known -/
structure Sub (g : G) (z z' : Z) : Prop where
  dat : ∀ d v, Dat g z d v → Dat g z' d v
  pre : ∀ (i : Nat) a, z.B.l[i]? = some a → z.S[i]? ≠ some .resv → z'.B.l[i]? = some a ∧ z'.S[i]? ≠ some .resv
  non : ∀ a u, Chg u → z.H a = some u → ¬ live z.B z.S a → z'.H a = some u ∧ ¬ live z'.B z'.S a
section
variable {g : G} {z z' z'' : Z} {ρ : Env} {σ : L2.St}
theorem Sub.of (ht : ∀ a vs, SqT g.K z.H a vs → SqT g.K z'.H a vs) (hl : ∀ a u, Chg u → z.H a = some u → ¬ live z.B z.S a → z'.H a = some u ∧ ¬ live z'.B z'.S a) (hf : ∀ a o u, z.H a = some (.frz o u) → z'.H a = some (.frz o u))
    (hp : ∀ (i : Nat) a, z.B.l[i]? = some a → z.S[i]? ≠ some .resv → z'.B.l[i]? = some a ∧ z'.S[i]? ≠ some .resv) : Sub g z z' := ⟨Dat.mono ht hl hf, hp, hl⟩
theorem Stab.sub (s : Stab g z z') : Sub g z z' := ⟨s.dat, s.pre, s.non⟩
theorem Sub.trans (a : Sub g z z') (b : Sub g z' z'') : Sub g z z'' := ⟨fun d v h => b.dat d v (a.dat d v h), fun i c h n => b.pre i c (a.pre i c h n).1 (a.pre i c h n).2, fun c u k h n => b.non c u k (a.non c u k h n).1 (a.non c u k h n).2⟩
theorem Sub.datL (s : Sub g z z') : ∀ {ds : List D} {vs : List V}, DatL g z ds vs → DatL g z' ds vs
  | [], _, h => h
  | d :: ds, _, ⟨v, r, e, a, b⟩ => ⟨v, r, e, s.dat d v a, s.datL b⟩
theorem Sub.datA (s : Sub g z z') : ∀ {x : A} {v : V}, DatA g z x v → DatA g z' x v
  | .p d, v, h => s.dat d v h
  | .m i, v, ⟨a, h, e, n⟩ => ⟨a, (s.pre i a h n).1, e, (s.pre i a h n).2⟩
theorem Sub.datAL (s : Sub g z z') : ∀ {ds : List A} {vs : List V}, DatAL g z ds vs → DatAL g z' ds vs
  | [], _, h => h
  | d :: ds, _, ⟨v, r, e, a, b⟩ => ⟨v, r, e, s.datA a, s.datAL b⟩
theorem EnvOk.sub (e : EnvOk g z ρ σ) (s : Sub g z z') : EnvOk g z' ρ σ := ⟨e.len, fun i x h => by
  obtain ⟨v, a, b⟩ := e.get i x h
  exact ⟨v, a, s.datA b⟩⟩
end
/-! ### a list that is being made -/
def Bk.opn (B : Bk) (p : Addr) : Bk := ⟨B.l, p :: B.E⟩
section
variable {g : G} {B : Bk} {S : Store} {H : Hp} {p : Addr}
theorem live_opn {a : Addr} (h : live (B.opn p) S a) (hn : a ≠ p) : live B S a := by
  rcases h with h | h
  · exact .inl h
  · rcases List.mem_cons.mp h with h | h
    · exact absurd h hn
    · exact .inr h
theorem Sub.keyL {z z' : Z} (s : Sub g z z') : ∀ {ds : List D} {hs : List (Int × Addr)}, KeyL g z ds hs → KeyL g z' ds hs
  | [], _, h => h
  | d :: ds, _, ⟨k, b, r, e, h1, h2, h3, h4⟩ => ⟨k, b, r, e, h1, h2, s.dat d _ h3, s.keyL h4⟩
theorem Sub.ob {z z' : Z} (s : Sub g z z') {a : Addr} {o : MO} {u : HO} (h : Ob g z a o u) : Ob g z' a o u := by
  cases o with
  | lst xs =>
    obtain ⟨vs, e, d⟩ := h
    exact ⟨vs, e, s.datL d⟩
  | ins c ns ds =>
    obtain ⟨dx, vs, e, n, d⟩ := h
    exact ⟨dx, vs, e, n, s.datL d⟩
  | dct ks vs =>
    obtain ⟨ep, hs, ws, e, y, ko, kl, d⟩ := h
    exact ⟨ep, hs, ws, e, y, ko, s.keyL kl, s.datL d⟩
  | dks ks vs =>
    obtain ⟨ws, e, n, d⟩ := h
    exact ⟨ws, e, n, s.datL d⟩
  | inm c ns xs =>
    obtain ⟨dx, vs, e, n, d⟩ := h
    exact ⟨dx, vs, e, n, s.datAL d⟩
  | resv => exact h
  | dead => exact h
theorem Sub.open {o : HO} (hp : H p = none) : Sub g ⟨B, S, H⟩ ⟨B.opn p, S, upd H p o⟩ :=
  Sub.of (fun a vs h => sqT_upd hp h) (fun a vs _ h n => ⟨at_upd hp h, fun q => n (live_opn q (ne_of_none h hp))⟩) (fun a o u h => at_upd hp h) (fun _ _ h n => ⟨h, n⟩)
theorem StoreOk.open {xs : List V} (k : StoreOk g ⟨B, S, H⟩) (hp : H p = none) : StoreOk g ⟨B.opn p, S, upd H p (.lst xs)⟩ := by
  refine ⟨k.len, k.nd, fun i a o h1 h2 hn => ?_, fun a ha => ?_, g.fa.ivN _ _ _ hp k.iv, k.lt⟩
  · obtain ⟨u, e, q⟩ := k.obj i a o h1 h2 hn
    exact ⟨u, at_upd hp e, (Sub.open hp).ob q⟩
  · rcases List.mem_cons.mp ha with rfl | ha
    · exact ⟨⟨_, upd_same, Chg.lst⟩, k.notIn hp⟩
    · obtain ⟨⟨u, e, c⟩, n⟩ := k.ex a ha
      exact ⟨⟨u, at_upd hp e, c⟩, n⟩
theorem live_mono_opn {a : Addr} (h : live B S a) : live (B.opn p) S a := by
  rcases h with h | h
  · exact .inl h
  · exact .inr (List.mem_cons_of_mem _ h)
theorem Sub.close : Sub g ⟨B.opn p, S, H⟩ ⟨B, S, H⟩ := Sub.of (fun _ _ h => h) (fun _ _ _ h n => ⟨h, fun q => n (live_mono_opn q)⟩) (fun _ _ _ h => h) (fun _ _ h n => ⟨h, n⟩)
theorem StoreOk.close (k : StoreOk g ⟨B.opn p, S, H⟩) : StoreOk g ⟨B, S, H⟩ :=
  ⟨k.len, k.nd, fun i a o h1 h2 hn => by
    obtain ⟨u, e, q⟩ := k.obj i a o h1 h2 hn
    exact ⟨u, e, Sub.close.ob q⟩, fun a ha => k.ex a (List.mem_cons_of_mem _ ha), k.iv, k.lt⟩
/-- one more item -/
theorem Sub.push {xs : List V} {ys : List V} (k : StoreOk g ⟨B.opn p, S, H⟩) (h : H p = some (.lst xs)) : Sub g ⟨B.opn p, S, H⟩ ⟨B.opn p, S, upd H p (.lst ys)⟩ := by
  refine Sub.of (fun b us q => ?_) (fun b us _ q n => ?_) (fun b o u q => ?_) (fun _ _ q n => ⟨q, n⟩)
  · rcases q with (q | ⟨u, q⟩) | q
    · have q : H b = _ := q
      exact .inl (.inl (by show upd H p _ b = _; rw [upd_ne (ne_of q h (by intro z; cases z))]; exact q))
    · have q : H b = _ := q
      exact .inl (.inr ⟨u, by show upd H p _ b = _; rw [upd_ne (ne_of q h (by intro z; cases z))]; exact q⟩)
    · exact .inr q
  · have nb : b ≠ p := fun z => n (.inr (by rw [z]; exact List.mem_cons_self ..))
    exact ⟨by show upd H p _ b = _; rw [upd_ne nb]; exact q, n⟩
  · have q : H b = _ := q
    show upd H p _ b = _
    rw [upd_ne (ne_of q h (by intro z; cases z))]
    exact q
theorem StoreOk.push {xs ys : List V} (k : StoreOk g ⟨B.opn p, S, H⟩) (h : H p = some (.lst xs)) : StoreOk g ⟨B.opn p, S, upd H p (.lst ys)⟩ := by
  have np := (k.ex p (List.mem_cons_self ..)).2
  refine ⟨k.len, k.nd, fun i a o h1 h2 hn => ?_, fun a ha => ?_, g.fa.ivP _ _ _ _ h Chg.lst k.iv, k.lt⟩
  · obtain ⟨u, e, q⟩ := k.obj i a o h1 h2 hn
    have na : a ≠ p := fun z => by
      have q := np i (by rw [← z]; exact h1)
      rw [show S[i]? = some o from h2] at q
      exact hn (Option.some.inj q)
    exact ⟨u, by show upd H p _ a = _; rw [upd_ne na]; exact e, (Sub.push k h).ob q⟩
  · obtain ⟨⟨u, e, c⟩, n⟩ := k.ex a ha
    by_cases na : a = p
    · subst na
      exact ⟨⟨_, upd_same, Chg.lst⟩, n⟩
    · exact ⟨⟨u, by show upd H p _ a = _; rw [upd_ne na]; exact e, c⟩, n⟩
end
/-! ### targets -/
mutual
def Tg.slots : Tg → List Nat
  | .nm i => [i]
  | .tp ts => Tg.slotsL ts
def Tg.slotsL : List Tg → List Nat
  | [] => []
  | t :: ts => t.slots ++ Tg.slotsL ts
end
def Off (vs : List Nat) (σ σ' : L2.St) : Prop := σ'.length = σ.length ∧ ∀ i, i ∉ vs → σ'[i]? = σ[i]?
def gT (g : G) (t : Tg) : TG := fun v σ H Q => ∃ B S ρ x ρ', EnvOk g ⟨B, S, H⟩ ρ σ ∧ StoreOk g ⟨B, S, H⟩ ∧ DatA g ⟨B, S, H⟩ x v ∧ bindT t x ρ = some ρ' ∧ ∀ σ', EnvOk g ⟨B, S, H⟩ ρ' σ' → Off t.slots σ σ' → Q σ' H
def gTs (g : G) (ts : List Tg) : TGs := fun vs σ H Q => ∃ B S ρ ds ρ', EnvOk g ⟨B, S, H⟩ ρ σ ∧ StoreOk g ⟨B, S, H⟩ ∧ DatL g ⟨B, S, H⟩ ds vs ∧ bindTs ts ds ρ = some ρ' ∧ ∀ σ', EnvOk g ⟨B, S, H⟩ ρ' σ' → Off (Tg.slotsL ts) σ σ' → Q σ' H
theorem _root_.L2.PG.imp {X : Cx} {e : Expr} {t t' : TG} (h : PG X e t) (f : ∀ v σ H Q, t' v σ H Q → t v σ H Q) : PG X e t' := ⟨fun pins s σ H v u Q I r q => h.run pins s σ H v u Q I r (f v σ H Q q)⟩
theorem _root_.L2.PGs.imp {X : Cx} {e : List Expr} {t t' : TGs} (h : PGs X e t) (f : ∀ v σ H Q, t' v σ H Q → t v σ H Q) : PGs X e t' := ⟨fun pins s σ H v u Q I r q => h.run pins s σ H v u Q I r (f v σ H Q q)⟩
theorem Off.refl {vs : List Nat} {σ : L2.St} : Off vs σ σ := ⟨rfl, fun _ _ => rfl⟩
theorem bindTs_len {ts : List Tg} : ∀ {ds : List D} {ρ ρ' : Env}, bindTs ts ds ρ = some ρ' → ds.length = ts.length := by
  induction ts with
  | nil =>
    intro ds ρ ρ' h
    cases ds with
    | nil => rfl
    | cons d ds => simp [bindTs] at h
  | cons t ts ih =>
    intro ds ρ ρ' h
    cases ds with
    | nil => simp [bindTs] at h
    | cons d ds =>
      rw [bindTs] at h
      split at h
      · rw [List.length_cons, List.length_cons, ih h]
      · cases h
section
variable {fa : Ad} {cl : Nat → List A → Store → Rz A} {X : Cx} {e a b tg : Expr} {c ca cb : C} {pos : Pos} {k : Nat} {es : List Expr} {cs : List C}
abbrev SG (fa : Ad) (X : Cx) (e : Expr) (t : Tg) : Prop := PG X e (gT (gx X fa) t)
abbrev SGs (fa : Ad) (X : Cx) (e : List Expr) (t : List Tg) : Prop := PGs X e (gTs (gx X fa) t)
theorem sg_name {i : Nat} {x : Str} (hN : X.N.Nodup) (hi : X.N[i]? = some x) (hx : Loc X.env.scope x) (hf : X.fn x = true ∨ X.env.scope.names.lookup x = some .local) : SG fa X (.Name x pos) (.nm i) :=
  (pg_name hN hi hx hf).imp fun v σ H Q q => by
    obtain ⟨B, S, ρ, x, ρ', eo, so, dv, hb, k⟩ := q
    rw [bindT] at hb
    cases hb
    refine k _ (eo.set dv) ⟨by rw [List.length_set], fun j hj => ?_⟩
    rw [List.getElem?_set_ne]
    intro h
    exact hj (by rw [← h]; exact List.mem_singleton.mpr rfl)
theorem sgs_nil : SGs fa X [] [] := pgs_nil.imp fun vs σ H Q q => by
  obtain ⟨B, S, ρ, ds, ρ', eo, so, dv, hb, k⟩ := q
  cases ds with
  | nil =>
    rw [bindTs] at hb
    cases hb
    exact ⟨dv, k σ eo Off.refl⟩
  | cons d ds => simp [bindTs] at hb
theorem sgs_cons {t : Tg} {ts : List Tg} (h1 : SG fa X e t) (h2 : SGs fa X es ts) (hs : (assignEach (e :: es) X.env).map (·.2) = assign e X.env :: (assignEach es X.env).map (·.2)) : SGs fa X (e :: es) (t :: ts) :=
  (pgs_cons h1 h2 hs).imp fun vs σ H Q q => by
    obtain ⟨B, S, ρ, ds, ρ', eo, so, dv, hb, k⟩ := q
    cases ds with
    | nil => simp [bindTs] at hb
    | cons d ds =>
      obtain ⟨v, r, rfl, d1, d2⟩ := dv
      rw [bindTs] at hb
      split at hb
      · rename_i ρ1 h1
        refine ⟨v, r, rfl, B, S, ρ, .p d, ρ1, eo, so, d1, h1, fun σ' eo' off => ?_⟩
        refine ⟨B, S, ρ1, ds, ρ', eo', so, d2, hb, fun σ2 eo2 off2 => k σ2 eo2 ⟨off2.1.trans off.1, fun i hi => ?_⟩⟩
        have hi' : i ∉ t.slots ++ Tg.slotsL ts := hi
        rw [List.mem_append] at hi'
        rw [off2.2 i fun z => hi' (.inr z), off.2 i fun z => hi' (.inl z)]
      · cases hb
theorem sg_tup {ts : List Tg} {kk : Nat} (hc : X.calm = true) (h : SGs fa X es ts) (hn : (assignEach es X.env).length = ts.length) (hst : (assignEach es X.env).findIdx? (·.1) = none) : SG fa X (.Tuple es kk pos) (.tp ts) :=
  (pg_tup hc h hn hst).imp fun v σ H Q q => by
    obtain ⟨B, S, ρ, x, ρ', eo, so, dv, hb, k⟩ := q
    cases x with
    | m i => simp [bindT] at hb
    | p d =>
      cases d with
      | tup ds =>
        rw [bindT] at hb
        obtain ⟨a, vs, rfl, t, l⟩ := dv
        exact ⟨a, vs, rfl, t, by rw [l.len, bindTs_len hb], B, S, ρ, ds, ρ', eo, so, l, hb, k⟩
      | _ => simp [bindT] at hb
/-! ### what is walked -/
structure Walks (g : G) (J : It) (z0 : Z) (items : List A) : Prop where
  go : ∀ (i : Nat) B S H, Sub g z0 ⟨B, S, H⟩ → StoreOk g ⟨B, S, H⟩ → i < items.length → J.go i H
  yld : ∀ (i : Nat) B S H x H' y, Sub g z0 ⟨B, S, H⟩ → StoreOk g ⟨B, S, H⟩ → items[i]? = some y → J.yld i H x H' → StoreOk g ⟨B, S, H'⟩ ∧ Stab g ⟨B, S, H⟩ ⟨B, S, H'⟩ ∧ DatA g ⟨B, S, H'⟩ y x
  stop : ∀ B S H, Sub g z0 ⟨B, S, H⟩ → StoreOk g ⟨B, S, H⟩ → J.stop items.length H
/-- .. and on what is kept as it is -/
structure WalksE (g : G) (J : It) (z0 : Z) (items : List A) : Prop where
  go : ∀ (i : Nat) B S H, Sub g z0 ⟨B, S, H⟩ → (∀ a ∈ z0.B.E, H a = z0.H a) → StoreOk g ⟨B, S, H⟩ → i < items.length → J.go i H
  yld : ∀ (i : Nat) B S H x H' y, Sub g z0 ⟨B, S, H⟩ → (∀ a ∈ z0.B.E, H a = z0.H a) → StoreOk g ⟨B, S, H⟩ → items[i]? = some y → J.yld i H x H' → StoreOk g ⟨B, S, H'⟩ ∧ Stab g ⟨B, S, H⟩ ⟨B, S, H'⟩ ∧ DatA g ⟨B, S, H'⟩ y x
  stop : ∀ B S H, Sub g z0 ⟨B, S, H⟩ → (∀ a ∈ z0.B.E, H a = z0.H a) → StoreOk g ⟨B, S, H⟩ → J.stop items.length H
theorem Walks.toE {g : G} {J : It} {z0 : Z} {items : List A} (h : Walks g J z0 items) : WalksE g J z0 items := ⟨fun i B S H s _ so hi => h.go i B S H s so hi, fun i B S H x H' y s _ so hy q => h.yld i B S H x H' y s so hy q, fun B S H s _ so => h.stop B S H s so⟩
def iW (g : G) (cl : Nat → List A → Store → Rz A) (k : ItK) (its : List C) : TI := fun σ H R => ∃ B S ρ xs S' items, EnvOk g ⟨B, S, H⟩ ρ σ ∧ StoreOk g ⟨B, S, H⟩ ∧ evs cl its ρ S = .ok xs S' ∧ walkF k xs = some items ∧
  ∀ J B' H', StoreOk g ⟨B', S', H'⟩ → Stab g ⟨B, S, H⟩ ⟨B', S', H'⟩ → Walks g J ⟨B', S', H'⟩ items → R J H'
abbrev SI (fa : Ad) (cl : Nat → List A → Store → Rz A) (X : Cx) (tg e : Expr) (k : ItK) (its : List C) : Prop := PI X tg e (iW (gx X fa) cl k its)
theorem map_p {ds : List D} {i : Nat} {y : A} (h : (ds.map A.p)[i]? = some y) : ∃ d, ds[i]? = some d ∧ y = .p d := by
  rw [List.getElem?_map] at h
  cases q : ds[i]? with
  | none => rw [q] at h; cases h
  | some d =>
    rw [q] at h
    cases h
    exact ⟨d, rfl, rfl⟩
theorem walks_list {g : G} {z : Z} {a : Addr} {ds : List D} (d : Dat g z (.lst ds) (.ref a)) : Walks g (Itl g.K a) z (ds.map .p) := by
  have at_ : ∀ B S H, Sub g z ⟨B, S, H⟩ → ∃ vs, H a = some (.lst vs) ∧ DatL g ⟨B, S, H⟩ ds vs := fun B S H s => by
    obtain ⟨a', vs, e, t, _, l⟩ := s.dat _ _ d
    cases e
    exact ⟨vs, t, l⟩
  refine ⟨fun i B S H s so hi => ?_, fun i B S H x H' y s so hy q => ?_, fun B S H s so => ?_⟩
  · obtain ⟨vs, t, l⟩ := at_ B S H s
    rw [List.length_map] at hi
    obtain ⟨v, hv, _⟩ := l.get (List.getElem?_eq_getElem hi)
    exact ⟨vs, v, SqL.of t, hv⟩
  · obtain ⟨vs, t, l⟩ := at_ B S H s
    obtain ⟨rfl, q⟩ := q
    obtain ⟨d', hd', rfl⟩ := map_p hy
    obtain ⟨v, hv, dv⟩ := l.get hd'
    have := (q vs (SqL.of t)).symm.trans hv
    cases this
    exact ⟨so, Stab.refl, dv⟩
  · obtain ⟨vs, t, l⟩ := at_ B S H s
    exact ⟨vs, SqL.of t, by rw [List.length_map, l.len]; exact Nat.le_refl _⟩
theorem walks_tup {g : G} {z : Z} {a : Addr} {ds : List D} (d : Dat g z (.tup ds) (.ref a)) : Walks g (Itt g.K a) z (ds.map .p) := by
  have at_ : ∀ B S H, Sub g z ⟨B, S, H⟩ → ∃ vs, SqT g.K H a vs ∧ DatL g ⟨B, S, H⟩ ds vs := fun B S H s => by
    obtain ⟨a', vs, e, t, l⟩ := s.dat _ _ d
    cases e
    exact ⟨vs, t, l⟩
  refine ⟨fun i B S H s so hi => ?_, fun i B S H x H' y s so hy q => ?_, fun B S H s so => ?_⟩
  · obtain ⟨vs, t, l⟩ := at_ B S H s
    rw [List.length_map] at hi
    obtain ⟨v, hv, _⟩ := l.get (List.getElem?_eq_getElem hi)
    exact ⟨vs, v, t, hv⟩
  · obtain ⟨vs, t, l⟩ := at_ B S H s
    obtain ⟨rfl, q⟩ := q
    obtain ⟨d', hd', rfl⟩ := map_p hy
    obtain ⟨v, hv, dv⟩ := l.get hd'
    have := (q vs t).symm.trans hv
    cases this
    exact ⟨so, Stab.refl, dv⟩
  · obtain ⟨vs, t, l⟩ := at_ B S H s
    exact ⟨vs, t, by rw [List.length_map, l.len]; exact Nat.le_refl _⟩
theorem walks_range {g : G} {z : Z} {lo : Int} {n : Nat} : Walks g (Itr lo n) z ((List.range n).map fun (i : Nat) => .p (.int (lo + i))) := by
  refine ⟨fun i B S H s so hi => ?_, fun i B S H x H' y s so hy q => ?_, fun B S H s so => ?_⟩
  · rw [List.length_map, List.length_range] at hi
    exact hi
  · obtain ⟨rfl, rfl⟩ := q
    rw [List.getElem?_map] at hy
    cases h : (List.range n)[i]? with
    | none => rw [h] at hy; cases hy
    | some j =>
      rw [h] at hy
      cases hy
      have : j = i := by
        obtain ⟨hl, e⟩ := List.getElem?_eq_some_iff.mp h
        rw [List.getElem_range] at e
        exact e.symm
      rw [this]
      exact ⟨so, Stab.refl, rfl⟩
  · show n ≤ _
    rw [List.length_map, List.length_range]
    exact Nat.le_refl _
theorem walks_str {g : G} {z : Z} {x : Str} : Walks g (Its x) z (x.cps.toList.map fun c => .p (.str ⟨#[c]⟩)) := by
  refine ⟨fun i B S H s so hi => ?_, fun i B S H v H' y s so hy q => ?_, fun B S H s so => ?_⟩
  · rw [List.length_map, Array.length_toList] at hi
    exact hi
  · obtain ⟨rfl, c, hc, rfl⟩ := q
    rw [List.getElem?_map, Array.getElem?_toList, hc] at hy
    cases hy
    exact ⟨so, Stab.refl, rfl⟩
  · show x.cps.size ≤ _
    rw [List.length_map, Array.length_toList]
    exact Nat.le_refl _
theorem walks_zip {g : G} {z : Z} {a b : Addr} {ds es : List D} (d1 : Dat g z (.lst ds) (.ref a)) (d2 : Dat g z (.lst es) (.ref b)) : Walks g (Itz g.K a b) z (List.zipWith (fun a b => .p (.tup [a, b])) ds es) := by
  have at_ : ∀ {a ds}, Dat g z (.lst ds) (.ref a) → ∀ B S H, Sub g z ⟨B, S, H⟩ → ∃ vs, H a = some (.lst vs) ∧ DatL g ⟨B, S, H⟩ ds vs := fun {a ds} d B S H s => by
    obtain ⟨a', vs, e, t, _, l⟩ := s.dat _ _ d
    cases e
    exact ⟨vs, t, l⟩
  refine ⟨fun i B S H s so hi => ?_, fun i B S H x H' y s so hy q => ?_, fun B S H s so => ?_⟩
  · obtain ⟨vs, t1, l1⟩ := at_ d1 B S H s
    obtain ⟨ws, t2, l2⟩ := at_ d2 B S H s
    rw [List.length_zipWith] at hi
    have i1 : i < ds.length := by omega
    have i2 : i < es.length := by omega
    obtain ⟨v, hv, _⟩ := l1.get (List.getElem?_eq_getElem i1)
    obtain ⟨w, hw, _⟩ := l2.get (List.getElem?_eq_getElem i2)
    exact ⟨vs, ws, v, w, SqL.of t1, SqL.of t2, hv, hw⟩
  · obtain ⟨vs, t1, l1⟩ := at_ d1 B S H s
    obtain ⟨ws, t2, l2⟩ := at_ d2 B S H s
    obtain ⟨T, v, w, rfl, nT, rfl, q1, q2⟩ := q
    rw [List.getElem?_zipWith] at hy
    cases h1 : ds[i]? with
    | none => rw [h1] at hy; cases hy
    | some x1 =>
      cases h2 : es[i]? with
      | none => rw [h1, h2] at hy; cases hy
      | some x2 =>
        rw [h1, h2] at hy
        cases hy
        obtain ⟨v', hv, dv⟩ := l1.get h1
        obtain ⟨w', hw, dw⟩ := l2.get h2
        have e1 := (q1 vs (SqL.of t1)).symm.trans hv
        have e2 := (q2 ws (SqL.of t2)).symm.trans hw
        cases e1
        cases e2
        exact ⟨so.new nT, Stab.new so nT, new_tup so nT ⟨v, [w], rfl, dv, w, [], rfl, dw, rfl⟩⟩
  · obtain ⟨vs, t1, l1⟩ := at_ d1 B S H s
    obtain ⟨ws, t2, l2⟩ := at_ d2 B S H s
    refine ⟨vs, ws, SqL.of t1, SqL.of t2, ?_⟩
    rw [List.length_zipWith, l1.len, l2.len]
    omega
theorem walks_zipT {g : G} {z : Z} {a b : Addr} {ds es : List D} (d1 : Dat g z (.tup ds) (.ref a)) (d2 : Dat g z (.tup es) (.ref b)) : Walks g (RZ.ItzT g.K a b) z (List.zipWith (fun a b => .p (.tup [a, b])) ds es) := by
  have at_ : ∀ {a ds}, Dat g z (.tup ds) (.ref a) → ∀ B S H, Sub g z ⟨B, S, H⟩ → ∃ vs, SqT g.K H a vs ∧ DatL g ⟨B, S, H⟩ ds vs := fun {a ds} d B S H s => by
    obtain ⟨a', vs, e, t, l⟩ := s.dat _ _ d
    cases e
    exact ⟨vs, t, l⟩
  refine ⟨fun i B S H s so hi => ?_, fun i B S H x H' y s so hy q => ?_, fun B S H s so => ?_⟩
  · obtain ⟨vs, t1, l1⟩ := at_ d1 B S H s
    obtain ⟨ws, t2, l2⟩ := at_ d2 B S H s
    rw [List.length_zipWith] at hi
    have i1 : i < ds.length := by omega
    have i2 : i < es.length := by omega
    obtain ⟨v, hv, _⟩ := l1.get (List.getElem?_eq_getElem i1)
    obtain ⟨w, hw, _⟩ := l2.get (List.getElem?_eq_getElem i2)
    exact ⟨vs, ws, v, w, t1, t2, hv, hw⟩
  · obtain ⟨vs, t1, l1⟩ := at_ d1 B S H s
    obtain ⟨ws, t2, l2⟩ := at_ d2 B S H s
    obtain ⟨T, v, w, rfl, nT, rfl, q1, q2⟩ := q
    rw [List.getElem?_zipWith] at hy
    cases h1 : ds[i]? with
    | none => rw [h1] at hy; cases hy
    | some x1 =>
      cases h2 : es[i]? with
      | none => rw [h1, h2] at hy; cases hy
      | some x2 =>
        rw [h1, h2] at hy
        cases hy
        obtain ⟨v', hv, dv⟩ := l1.get h1
        obtain ⟨w', hw, dw⟩ := l2.get h2
        have e1 := (q1 vs t1).symm.trans hv
        have e2 := (q2 ws t2).symm.trans hw
        cases e1
        cases e2
        exact ⟨so.new nT, Stab.new so nT, new_tup so nT ⟨v, [w], rfl, dv, w, [], rfl, dw, rfl⟩⟩
  · obtain ⟨vs, t1, l1⟩ := at_ d1 B S H s
    obtain ⟨ws, t2, l2⟩ := at_ d2 B S H s
    refine ⟨vs, ws, t1, t2, ?_⟩
    rw [List.length_zipWith, l1.len, l2.len]
    omega
theorem walks_enum {g : G} {z : Z} {a : Addr} {ds : List D} (d : Dat g z (.lst ds) (.ref a)) : Walks g (Ite g.K a) z (ds.zipIdx.map fun (d, i) => .p (.tup [.int (i : Nat), d])) := by
  have at_ : ∀ B S H, Sub g z ⟨B, S, H⟩ → ∃ vs, H a = some (.lst vs) ∧ DatL g ⟨B, S, H⟩ ds vs := fun B S H s => by
    obtain ⟨a', vs, e, t, _, l⟩ := s.dat _ _ d
    cases e
    exact ⟨vs, t, l⟩
  refine ⟨fun i B S H s so hi => ?_, fun i B S H x H' y s so hy q => ?_, fun B S H s so => ?_⟩
  · obtain ⟨vs, t, l⟩ := at_ B S H s
    rw [List.length_map, List.length_zipIdx] at hi
    obtain ⟨v, hv, _⟩ := l.get (List.getElem?_eq_getElem hi)
    exact ⟨vs, v, SqL.of t, hv⟩
  · obtain ⟨vs, t, l⟩ := at_ B S H s
    obtain ⟨T, v, rfl, nT, rfl, q1⟩ := q
    rw [List.getElem?_map, List.getElem?_zipIdx] at hy
    cases h1 : ds[i]? with
    | none => rw [h1] at hy; cases hy
    | some x1 =>
      rw [h1] at hy
      simp only [Option.map_some, Option.some.injEq] at hy
      subst hy
      obtain ⟨v', hv, dv⟩ := l.get h1
      have e1 := (q1 vs (SqL.of t)).symm.trans hv
      cases e1
      refine ⟨so.new nT, Stab.new so nT, ?_⟩
      have : (0 + i : Nat) = i := Nat.zero_add i
      rw [this]
      exact new_tup so nT ⟨.int (i : Nat), [v], rfl, rfl, v, [], rfl, dv, rfl⟩
  · obtain ⟨vs, t, l⟩ := at_ B S H s
    exact ⟨vs, SqL.of t, by rw [List.length_map, List.length_zipIdx, l.len]; exact Nat.le_refl _⟩
theorem _root_.L2.PI.imp {X : Cx} {tg e : Expr} {t t' : TI} (h : PI X tg e t) (f : ∀ σ H R, t' σ H R → t σ H R) : PI X tg e t' := ⟨fun pins s σ H R I q => h.run pins s σ H R I (f σ H R q)⟩
theorem si_seq (h : SE fa cl X e c) : SI fa cl X tg e .seq [c] := by
  refine ⟨fun pins s σ H R I q => ?_⟩
  obtain ⟨B, S, ρ, xs, S', items, eo, so, hm, hw, k⟩ := q
  rw [evs] at hm
  obtain ⟨x, S1, hx, hm1⟩ := Rz.bind_ok hm
  rw [evs] at hm1
  cases hm1
  cases x with
  | m i => simp [walkF] at hw
  | p d =>
    cases d with
    | lst ds =>
      simp only [walkF, Option.some.injEq] at hw
      subst hw
      refine (pi_list h).run pins s σ H R I ?_
      refine tE.use eo so hx fun v1 B1 H1 so1 st1 eo1 d1 => ?_
      obtain ⟨a, vs, rfl, t, n, l⟩ := id d1
      exact ⟨a, rfl, ⟨vs, SqL.of t⟩, k _ B1 H1 so1 st1 (walks_list d1)⟩
    | tup ds =>
      simp only [walkF, Option.some.injEq] at hw
      subst hw
      refine (pi_tup h).run pins s σ H R I ?_
      refine tE.use eo so hx fun v1 B1 H1 so1 st1 eo1 d1 => ?_
      obtain ⟨a, vs, rfl, t, l⟩ := id d1
      exact ⟨a, rfl, ⟨vs, t⟩, k _ B1 H1 so1 st1 (walks_tup d1)⟩
    | str x =>
      simp only [walkF, Option.some.injEq] at hw
      subst hw
      refine (pi_str h).run pins s σ H R I ?_
      exact tE.use eo so hx fun v1 B1 H1 so1 st1 eo1 d1 => ⟨x, d1, k _ B1 H1 so1 st1 walks_str⟩
    | _ => simp [walkF] at hw
theorem si_range1 {p : Pos} (hg : Gl X "range") (hmg : X.mg "range" = none) (h : SA fa cl X [e] [c]) (hs : starEach [e] X.env = [(false, eval e X.env)]) : SI fa cl X tg (.Call (.Name "range" p) [e] [] pos) .range1 [c] :=
  (pi_range1 hg hmg h hs).imp fun σ H R q => by
    obtain ⟨B, S, ρ, xs, S', items, eo, so, hm, hw, k⟩ := q
    refine tA.use eo so hm fun vs B1 H1 so1 st1 eo1 d1 => ?_
    unfold walkF at hw
    split at hw <;> try (cases hw)
    all_goals (rename_i heq; try (cases heq))
    rename_i j
    split at hw
    · rename_i hj
      have hj := rgB_iff.mp hj
      cases hw
      obtain ⟨v, rfl, d⟩ := d1.one
      exact ⟨j, by rw [show v = V.int j from d], hj.1, hj.2, k _ B1 H1 so1 st1 walks_range⟩
    · cases hw
theorem si_range2 {p : Pos} {e2 : Expr} {c2 : C} (hg : Gl X "range") (hmg : X.mg "range" = none) (h : SA fa cl X [e, e2] [c, c2]) (hs : starEach [e, e2] X.env = [(false, eval e X.env), (false, eval e2 X.env)]) (hs2 : starEach [e2] X.env = [(false, eval e2 X.env)]) :
    SI fa cl X tg (.Call (.Name "range" p) [e, e2] [] pos) .range2 [c, c2] :=
  (pi_range2 hg hmg h hs hs2).imp fun σ H R q => by
    obtain ⟨B, S, ρ, xs, S', items, eo, so, hm, hw, k⟩ := q
    refine tA.use eo so hm fun vs B1 H1 so1 st1 eo1 d1 => ?_
    unfold walkF at hw
    split at hw <;> try (cases hw)
    all_goals (rename_i heq; try (cases heq))
    rename_i i j
    split at hw
    · rename_i hj
      rw [Bool.and_eq_true] at hj
      have hj1 := rgB_iff.mp hj.1
      have hj2 := rgB_iff.mp hj.2
      have hj := And.intro hj1.1 (And.intro hj1.2 hj2)
      cases hw
      obtain ⟨v, w, rfl, d1, d2⟩ := d1.two
      exact ⟨i, j, by rw [show v = V.int i from d1, show w = V.int j from d2], hj, k _ B1 H1 so1 st1 walks_range⟩
    · cases hw
/-! ### comprehensions -/
theorem wipe_in {σ : L2.St} {i : Nat} : ∀ {vs : List Nat}, i ∈ vs → i < σ.length → (L2.wipe σ vs)[i]? = some none
  | v :: vs, h, hl => by
    show ((L2.wipe σ vs).set v none)[i]? = some none
    by_cases hv : v = i
    · subst hv
      rw [List.getElem?_set_self (by rw [wipe_length]; exact hl)]
    · rw [List.getElem?_set_ne hv]
      rcases List.mem_cons.mp h with h | h
      · exact absurd h.symm hv
      · exact wipe_in h hl
theorem Off.wipe {vs own : List Nat} {σ σ' : L2.St} (h : Off vs σ σ') (hs : ∀ i ∈ vs, i ∈ own) : L2.wipe σ' own = L2.wipe σ own := by
  apply List.ext_getElem?
  intro i
  by_cases hi : i ∈ own
  · by_cases hl : i < σ.length
    · rw [wipe_in hi hl, wipe_in hi (by rw [h.1]; exact hl)]
    · rw [List.getElem?_eq_none (by rw [wipe_length, h.1]; omega), List.getElem?_eq_none (by rw [wipe_length]; omega)]
  · rw [wipe_out hi, wipe_out hi, h.2 i fun z => hi (hs i z)]
theorem wipe_wipe {σ : L2.St} {own : List Nat} : L2.wipe (L2.wipe σ own) own = L2.wipe σ own := by
  apply List.ext_getElem?
  intro i
  by_cases hi : i ∈ own
  · by_cases hl : i < σ.length
    · rw [wipe_in hi (by rw [wipe_length]; exact hl), wipe_in hi hl]
    · rw [List.getElem?_eq_none (by rw [wipe_length, wipe_length]; omega), List.getElem?_eq_none (by rw [wipe_length]; omega)]
  · rw [wipe_out hi]
/-- the reading of a comprehension's turns -/
theorem lc_run {g : G} {wi : TI} {tt : TT} {te : TE} {t : Tg} {own : List Nat} {bnd : A → Option Env} {cond elt : Env → Store → Rz A} {ρ : Env} {σ : L2.St} {items : List A} {S1 S2 : Store} {ds : List D} {J : It} {B1 : Bk} {H1 : Hp} {Q : VK} {D0 : Addr}
    (hbnd : bnd = fun x => bindT t x (wipeE ρ own)) (hsl : ∀ i ∈ t.slots, i ∈ own)
    (ht : ∀ σ H Q, tT g cond σ H Q → tt σ H Q) (he : ∀ σ H Q, tE g elt σ H Q → te σ H Q)
    (eo : EnvOk g ⟨B1, S1, H1⟩ ρ σ) (so : StoreOk g ⟨B1, S1, H1⟩) (hw : WalksE g J ⟨B1, S1, H1⟩ items) (hc : compL bnd cond elt items S1 = .ok ds S2) (hl : ds.length < LIM) (hD : H1 D0 = none)
    (k : ∀ B' H', StoreOk g ⟨B', S2, H'⟩ → Stab g ⟨B1, S1, H1⟩ ⟨B', S2, H'⟩ → Dat g ⟨B', S2, H'⟩ (.lst ds) (.ref D0) → Q (.ref D0) H') :
    ∃ W : Nat → Nat → Hp → Prop, (∃ m, W 0 m (upd H1 D0 (.lst []))) ∧ ∀ i m H, W i m H →
      (J.stop i H ∧ Q (.ref D0) H) ∨ (J.go i H ∧ ∃ Nx : Hp → Prop, (∀ H', Nx H' → ∃ m', m' < m ∧ W (i + 1) m' H') ∧ ∀ x H', J.yld i H x H' → gT g t x (L2.wipe σ own) H' fun σ2 H2 => L2.wipe σ2 own = L2.wipe σ own ∧ tt σ2 H2 fun b H3 =>
        if b = true then te σ2 H3 fun y H4 => ∃ acc, H4 D0 = some (.lst acc) ∧ acc.length < sizeLine ∧ Nx (upd H4 D0 (.lst (acc ++ [y]))) else Nx H3) := by
  let W : Nat → Nat → Hp → Prop := fun i m H => ∃ (B : Bk) (S : Store) (acc rest : List D) (vs : List V), i ≤ items.length ∧ m = items.length - i ∧ StoreOk g ⟨B.opn D0, S, H⟩ ∧ Sub g ⟨B1, S1, H1⟩ ⟨B.opn D0, S, H⟩ ∧ B.E = B1.E ∧ (∀ a ∈ B1.E, H a = H1 a) ∧
    H D0 = some (.lst vs) ∧ DatL g ⟨B.opn D0, S, H⟩ acc vs ∧ compL bnd cond elt (items.drop i) S = .ok rest S2 ∧ acc ++ rest = ds
  refine ⟨W, ⟨items.length, B1, S1, [], ds, [], Nat.zero_le _, by omega, so.open hD, Sub.open hD, rfl, fun a ha => upd_ne (so.exne hD a ha), upd_same, rfl, hc, rfl⟩, fun i m H hW => ?_⟩
  obtain ⟨B, S, acc, rest, vs, hi, hm, soW, sub, eE, kE, eD, dl, hr, ea⟩ := hW
  by_cases hlt : i < items.length
  · refine .inr ⟨hw.go i _ _ _ sub kE soW hlt, fun H' => ∃ m', m' < m ∧ W (i + 1) m' H', fun H' h => h, fun x H' hy => ?_⟩
    obtain ⟨soY, stY, dY⟩ := hw.yld i _ _ _ x H' items[i] sub kE soW (List.getElem?_eq_getElem hlt) hy
    rw [List.drop_eq_getElem_cons hlt] at hr
    rw [compL] at hr
    split at hr
    · cases hr
    · rename_i ρ1 hb
      have subY : Sub g ⟨B1, S1, H1⟩ ⟨B.opn D0, S, H'⟩ := sub.trans stY.sub
      have eoY : EnvOk g ⟨B.opn D0, S, H'⟩ (wipeE ρ own) (L2.wipe σ own) := (eo.wipe own).sub subY
      rw [hbnd] at hb
      refine ⟨B.opn D0, S, wipeE ρ own, items[i], ρ1, eoY, soY, dY, hb, fun σ2 eo2 off => ⟨by rw [off.wipe hsl, wipe_wipe], ?_⟩⟩
      obtain ⟨bv, S3, hcond, hr1⟩ := Rz.bind_ok hr
      split at hr1
      · refine ht _ _ _ (tT.use eo2 soY hcond fun B3 H3 so3 st3 eo3 => ?_)
        simp only [if_true]
        obtain ⟨y, S4, hy4, hr2⟩ := Rz.bind_ok hr1
        split at hr2
        · rename_i d
          obtain ⟨ds', S5, hrest, hr3⟩ := Rz.bind_ok hr2
          cases hr3
          refine he _ _ _ (tE.use eo3 so3 hy4 fun v4 B4 H4 so4 st4 eo4 d4 => ?_)
          have stA : Stab g ⟨B.opn D0, S, H⟩ ⟨B4, S4, H4⟩ := (stY.trans st3).trans st4
          have eB : B4 = (⟨B4.l, B.E⟩ : Bk).opn D0 := by
            have : B4.E = D0 :: B.E := stA.same
            show B4 = ⟨B4.l, D0 :: B.E⟩
            rw [← this]
          have e4 : H4 D0 = some (.lst vs) := (stA.keep D0 (List.mem_cons_self ..)).trans eD
          have lv : vs.length = acc.length := dl.len
          have la : acc.length < LIM := by
            have : (acc ++ d :: ds').length = ds.length := by rw [ea]
            rw [List.length_append, List.length_cons] at this
            omega
          refine ⟨vs, e4, by rw [lv]; exact Nat.lt_of_lt_of_le la lim_line, items.length - (i + 1), by omega, ⟨B4.l, B.E⟩, S4, acc ++ [d], ds', vs ++ [v4], hlt, rfl, ?_⟩
          rw [eB] at so4 d4 stA
          refine ⟨so4.push e4, (sub.trans stA.sub).trans (Sub.push so4 e4), eE, fun a ha => ?_, upd_same, ?_, hrest, by rw [List.append_assoc]; exact ea⟩
          · have na : a ≠ D0 := so.exne hD a ha
            rw [upd_ne na, ← kE a ha]
            exact stA.keep a (List.mem_cons_of_mem _ (by rw [eE]; exact ha))
          · exact (Sub.push so4 e4).datL ((stA.sub.datL dl).app ⟨v4, [], rfl, d4, rfl⟩)
        · cases hr2
      · refine ht _ _ _ (tT.use eo2 soY hcond fun B3 H3 so3 st3 eo3 => ?_)
        simp only [Bool.false_eq_true, if_false]
        have stA : Stab g ⟨B.opn D0, S, H⟩ ⟨B3, S3, H3⟩ := stY.trans st3
        have eB : B3 = (⟨B3.l, B.E⟩ : Bk).opn D0 := by
          have : B3.E = D0 :: B.E := stA.same
          show B3 = ⟨B3.l, D0 :: B.E⟩
          rw [← this]
        have e3 : H3 D0 = some (.lst vs) := (stA.keep D0 (List.mem_cons_self ..)).trans eD
        refine ⟨items.length - (i + 1), by omega, ⟨B3.l, B.E⟩, S3, acc, rest, vs, hlt, rfl, ?_⟩
        rw [eB] at so3 stA
        refine ⟨so3, sub.trans stA.sub, eE, fun a ha => ?_, e3, stA.sub.datL dl, hr1, ea⟩
        rw [← kE a ha]
        exact stA.keep a (List.mem_cons_of_mem _ (by rw [eE]; exact ha))
      · cases hr1
  · have ei : i = items.length := by omega
    subst ei
    refine .inl ⟨hw.stop _ _ _ sub kE soW, ?_⟩
    rw [List.drop_length, compL] at hr
    cases hr
    rw [List.append_nil] at ea
    subst ea
    have hB : B = ⟨B.l, B1.E⟩ := by rw [← eE]
    refine k B H soW.close ⟨fun d v h => Sub.close.dat d v (sub.dat d v h), fun i a h => sub.pre i a h, eE, kE, fun a u c h m => (Sub.close (g := g) (p := D0)).non a u c (sub.non a u c h m).1 (sub.non a u c h m).2⟩ ⟨D0, vs, rfl, eD, fun q => ?_, Sub.close.datL dl⟩
    rcases q with ⟨j, xs, h1, h2, h3⟩ | q
    · exact lv_nr h2 h3 ((soW.ex D0 (List.mem_cons_self ..)).2 j h1)
    · rw [eE] at q
      exact so.exne hD D0 q rfl
/-- the tests of a comprehension -/
def tCond (g : G) (cl : Nat → List A → Store → Rz A) : Option C → TT
  | none => tYes
  | some cc => tT g (ev cl true cc)
theorem comp_rd {g : G} {kk : ItK} {its : List C} {t : Tg} {own : List Nat} {cond : Option C} (hsl : ∀ i ∈ t.slots, i ∈ own) (σ : L2.St) (H : Hp) (Q : VK) (q : tE g (ev cl false (.comp kk its t own cond c)) σ H Q) :
    tLc (iW g cl kk its) (gT g t) (tCond g cl cond) (tE g (ev cl false c)) own σ H Q := by
  obtain ⟨B, S, ρ, z, S', eo, so, hm, k⟩ := q
  cases cond with
  | none =>
    rw [ev] at hm
    obtain ⟨xs, S1, hxs, hm1⟩ := Rz.bind_ok hm
    obtain ⟨items, S2, hit, hm2⟩ := Rz.bind_ok hm1
    obtain ⟨git, rfl⟩ := Rz.of_ok hit
    obtain ⟨ds, S3, hcl, hm3⟩ := Rz.bind_ok hm2
    split at hm3
    · rename_i hl
      rw [tst_f] at hm3
      cases hm3
      refine ⟨B, S, ρ, xs, S2, items, eo, so, hxs, git, fun J B1 H1 so1 st1 hw D0 hD => ?_⟩
      refine lc_run (wi := iW g cl kk its) rfl hsl (fun σ H Q q => ?_) (fun σ H Q q => q) (eo.mono st1) so1 hw.toE hcl hl hD fun B' H' so' st' dv => k _ B' H' so' (st1.trans st') dv
      obtain ⟨B, S, ρ, b, S', eo, so, hm, k⟩ := q
      cases hm
      exact k B H so Stab.refl
    · cases hm3
  | some cc =>
    rw [ev] at hm
    obtain ⟨xs, S1, hxs, hm1⟩ := Rz.bind_ok hm
    obtain ⟨items, S2, hit, hm2⟩ := Rz.bind_ok hm1
    obtain ⟨git, rfl⟩ := Rz.of_ok hit
    obtain ⟨ds, S3, hcl, hm3⟩ := Rz.bind_ok hm2
    split at hm3
    · rename_i hl
      rw [tst_f] at hm3
      cases hm3
      refine ⟨B, S, ρ, xs, S2, items, eo, so, hxs, git, fun J B1 H1 so1 st1 hw D0 hD => ?_⟩
      exact lc_run (wi := iW g cl kk its) rfl hsl (fun σ H Q q => q) (fun σ H Q q => q) (eo.mono st1) so1 hw.toE hcl hl hD fun B' H' so' st' dv => k _ B' H' so' (st1.trans st') dv
    · cases hm3
/-! a list that may still change is walked: all that may change is kept as it is meanwhile -/
def lvs : List Addr → Store → List Addr
  | _ :: l, .dead :: S => lvs l S
  | _ :: l, .resv :: S => lvs l S
  | a :: l, _ :: S => a :: lvs l S
  | _, _ => []
theorem mem_lvs {a : Addr} : ∀ {l : List Addr} {S : Store}, a ∈ lvs l S ↔ ∃ (i : Nat) (o : MO), l[i]? = some a ∧ S[i]? = some o ∧ o.lv
  | [], S => by simp [lvs]
  | b :: l, [] => by simp [lvs]
  | b :: l, o :: S => by
    have ih := mem_lvs (a := a) (l := l) (S := S)
    have sh : (∃ (i : Nat) (o' : MO), l[i]? = some a ∧ S[i]? = some o' ∧ o'.lv) → ∃ (i : Nat) (o' : MO), (b :: l)[i]? = some a ∧ (o :: S)[i]? = some o' ∧ o'.lv := fun ⟨i, o', h1, h2, h3⟩ => ⟨i + 1, o', by rw [List.getElem?_cons_succ]; exact h1, by rw [List.getElem?_cons_succ]; exact h2, h3⟩
    have un : (∃ (i : Nat) (o' : MO), (b :: l)[i]? = some a ∧ (o :: S)[i]? = some o' ∧ o'.lv) → (b = a ∧ o.lv) ∨ ∃ (i : Nat) (o' : MO), l[i]? = some a ∧ S[i]? = some o' ∧ o'.lv := fun ⟨i, o', h1, h2, h3⟩ => by
      cases i with
      | zero =>
        rw [List.getElem?_cons_zero] at h1 h2
        cases h1
        cases h2
        exact .inl ⟨rfl, h3⟩
      | succ i =>
        rw [List.getElem?_cons_succ] at h1 h2
        exact .inr ⟨i, o', h1, h2, h3⟩
    have off : ¬ o.lv → lvs (b :: l) (o :: S) = lvs l S := fun h => by
      cases o with
      | dead => rfl
      | resv => rfl
      | _ => exact absurd trivial h
    have on : o.lv → lvs (b :: l) (o :: S) = b :: lvs l S := fun h => by
      cases o with
      | dead => exact h.elim
      | resv => exact h.elim
      | _ => rfl
    by_cases hd : o.lv
    · rw [on hd, List.mem_cons, ih]
      constructor
      · rintro (h | h)
        · exact ⟨0, o, by rw [h]; rfl, rfl, hd⟩
        · exact sh h
      · intro h
        rcases un h with h | h
        · exact .inl h.1.symm
        · exact .inr h
    · rw [off hd, ih]
      exact ⟨sh, fun h => (un h).resolve_left fun z => hd z.2⟩
def boxB (B : Bk) (S : Store) : Bk := ⟨[], lvs B.l S ++ B.E⟩
section
variable {g : G} {B : Bk} {S : Store} {H H2 : Hp}
theorem live_box {a : Addr} : live (boxB B S) [] a ↔ live B S a := by
  constructor
  · rintro (⟨i, o, h, _⟩ | h)
    · cases h
    · rcases List.mem_append.mp h with h | h
      · exact .inl (mem_lvs.mp h)
      · exact .inr h
  · rintro (h | h)
    · exact .inr (List.mem_append_left _ (mem_lvs.mpr h))
    · exact .inr (List.mem_append_right _ h)
theorem box_dat : ∀ (d : D) (v : V), Dat g ⟨B, S, H⟩ d v → Dat g ⟨boxB B S, [], H⟩ d v := Dat.mono (fun _ _ h => h) (fun a u _ h n => ⟨h, fun q => n (live_box.mp q)⟩) (fun _ _ _ h => h)
theorem box_datL : ∀ (d : List D) (v : List V), DatL g ⟨B, S, H⟩ d v → DatL g ⟨boxB B S, [], H⟩ d v := Dat.monoL (fun _ _ h => h) (fun a u _ h n => ⟨h, fun q => n (live_box.mp q)⟩) (fun _ _ _ h => h)
theorem unbox_dat : ∀ (d : D) (v : V), Dat g ⟨boxB B S, [], H⟩ d v → Dat g ⟨B, S, H⟩ d v := Dat.mono (fun _ _ h => h) (fun a u _ h n => ⟨h, fun q => n (live_box.mpr q)⟩) (fun _ _ _ h => h)
theorem StoreOk.box (so : StoreOk g ⟨B, S, H⟩) : StoreOk g ⟨boxB B S, [], H⟩ := by
  refine ⟨rfl, fun i j a h => (by cases h), fun i a o h => (by cases h), fun a ha => ?_, so.iv, fun i c ns xs h => (by cases h)⟩
  rcases List.mem_append.mp ha with ha | ha
  · obtain ⟨i, o, h1, h2, h3⟩ := mem_lvs.mp ha
    obtain ⟨u, e, ob⟩ := so.obj i a o h1 h2 (fun q => by rw [q] at h3; exact h3)
    exact ⟨⟨u, e, ob.chgA⟩, fun i h => (by cases h)⟩
  · exact ⟨(so.ex a ha).1, fun i h => (by cases h)⟩
theorem EnvOk.box {ρ : Env} {σ : L2.St} (eo : EnvOk g ⟨B, S, H⟩ ρ σ) : EnvOk g ⟨boxB B S, [], H⟩ (boxE ρ) σ := by
  refine ⟨by unfold boxE; rw [List.length_map]; exact eo.len, fun i x h => ?_⟩
  unfold boxE at h
  rw [List.getElem?_map] at h
  cases q : ρ[i]? with
  | none => rw [q] at h; cases h
  | some y =>
    rw [q] at h
    cases y with
    | none => cases h
    | some y =>
      cases y with
      | m j => cases h
      | p d =>
        cases h
        obtain ⟨v, h1, h2⟩ := eo.get i _ q
        exact ⟨v, h1, box_dat d v h2⟩
theorem unbox_stab (st : Stab g ⟨boxB B S, [], H⟩ ⟨boxB B S, [], H2⟩) : Stab g ⟨B, S, H⟩ ⟨B, S, H2⟩ :=
  ⟨fun d v h => unbox_dat d v (st.dat d v (box_dat d v h)), fun _ _ h n => ⟨h, n⟩, rfl, fun a ha => st.keep a (List.mem_append_right _ ha), fun a u c h n => by
    obtain ⟨h1, h2⟩ := st.non a u c h fun q => n (live_box.mp q)
    exact ⟨h1, fun q => h2 (live_box.mpr q)⟩⟩
theorem unbox_ok (so : StoreOk g ⟨B, S, H⟩) (so2 : StoreOk g ⟨boxB B S, [], H2⟩) (st : Stab g ⟨boxB B S, [], H⟩ ⟨boxB B S, [], H2⟩) : StoreOk g ⟨B, S, H2⟩ := by
  refine ⟨so.len, so.nd, fun i a o h1 h2 hn => ?_, fun a ha => ?_, so2.iv, so.lt⟩
  · obtain ⟨u, e, ob⟩ := so.obj i a o h1 h2 hn
    by_cases hd : o.lv
    · have hk : H2 a = H a := st.keep a (List.mem_append_left _ (mem_lvs.mpr ⟨i, o, h1, h2, hd⟩))
      exact ⟨u, hk.trans e, (unbox_stab st).ob ob⟩
    · have n : ¬ live B S a := by
        have hnr : S[i]? ≠ some .resv := fun q => hn (by
          rw [show S[i]? = some o from h2] at q
          exact Option.some.inj q)
        rintro (⟨j, o', q1, q2, q3⟩ | q)
        · have : i = j := so.nd i j a h1 q1 hnr (lv_nr q2 q3)
          subst this
          have h2 : S[i]? = some o := h2
          rw [h2] at q2
          rw [Option.some.inj q2] at hd
          exact hd q3
        · exact hnr ((so.ex a q).2 i h1)
      exact ⟨u, ((unbox_stab st).non a u ob.chgA e n).1, (unbox_stab st).ob ob⟩
  · obtain ⟨⟨u, e, c⟩, n⟩ := so.ex a ha
    have hk : H2 a = H a := st.keep a (List.mem_append_right _ ha)
    exact ⟨⟨u, hk.trans e, c⟩, n⟩
theorem walks_live {j : Nat} {a : Addr} {ds : List D} (so : StoreOk g ⟨B, S, H⟩) (hb : B.l[j]? = some a) (hs : S[j]? = some (.lst ds)) : WalksE g (Itl g.K a) ⟨boxB B S, [], H⟩ (ds.map .p) := by
  have ha : a ∈ (boxB B S).E := List.mem_append_left _ (mem_lvs.mpr ⟨j, _, hb, hs, trivial⟩)
  obtain ⟨vs, e, l0⟩ := so.ob j a ds hb hs
  have at_ : ∀ B2 S2 H2, Sub g ⟨boxB B S, [], H⟩ ⟨B2, S2, H2⟩ → (∀ b ∈ (boxB B S).E, H2 b = H b) → H2 a = some (.lst vs) ∧ DatL g ⟨B2, S2, H2⟩ ds vs := fun B2 S2 H2 s kE => ⟨(kE a ha).trans e, s.datL (box_datL _ _ l0)⟩
  refine ⟨fun i B S H s kE so hi => ?_, fun i B S H x H' y s kE so hy q => ?_, fun B S H s kE so => ?_⟩
  · obtain ⟨t, l⟩ := at_ B S H s kE
    rw [List.length_map] at hi
    obtain ⟨v, hv, _⟩ := l.get (List.getElem?_eq_getElem hi)
    exact ⟨vs, v, SqL.of t, hv⟩
  · obtain ⟨t, l⟩ := at_ B S H s kE
    obtain ⟨rfl, q⟩ := q
    obtain ⟨d', hd', rfl⟩ := map_p hy
    obtain ⟨v, hv, dv⟩ := l.get hd'
    have := (q vs (SqL.of t)).symm.trans hv
    cases this
    exact ⟨so, Stab.refl, dv⟩
  · obtain ⟨t, l⟩ := at_ B S H s kE
    exact ⟨vs, SqL.of t, by rw [List.length_map, l.len]; exact Nat.le_refl _⟩
end
def iWM (g : G) (m : Env → Store → Rz A) : TI := fun σ H R => ∃ B S ρ j ds S1, EnvOk g ⟨B, S, H⟩ ρ σ ∧ StoreOk g ⟨B, S, H⟩ ∧ m ρ S = .ok (.m j) S1 ∧ S1[j]? = some (.lst ds) ∧
  ∀ J B' H', StoreOk g ⟨B', S1, H'⟩ → Stab g ⟨B, S, H⟩ ⟨B', S1, H'⟩ → WalksE g J ⟨boxB B' S1, [], H'⟩ (ds.map .p) → R J H'
theorem siM_list {ci : C} {tg iter : Expr} (h : SE fa cl X iter ci) : PI X tg iter (iWM (gx X fa) (ev cl false ci)) :=
  (pi_list h).imp fun σ H R q => by
    obtain ⟨B, S, ρ, j, ds, S1, eo, so, hj, hs, k⟩ := q
    refine tE.use eo so hj fun v1 B1 H1 so1 st1 eo1 d1 => ?_
    obtain ⟨a, hb, rfl, hnr⟩ := d1
    obtain ⟨vs, e, l⟩ := so1.ob j a ds hb hs
    exact ⟨a, rfl, ⟨vs, SqL.of e⟩, k _ B1 H1 so1 st1 (walks_live so1 hb hs)⟩
theorem box_eq {g : G} {B B' : Bk} {S : Store} {H H' : Hp} (so : StoreOk g ⟨B', [], H'⟩) (st : Stab g ⟨boxB B S, [], H⟩ ⟨B', [], H'⟩) : B' = boxB B S := by
  have h1 : B'.l = [] := List.eq_nil_of_length_eq_zero so.len
  have h2 : B'.E = (boxB B S).E := st.same
  cases B'
  dsimp only at h1 h2
  rw [h1, h2]
  rfl
theorem comp_rdM {g : G} {i : C} {t : Tg} {own : List Nat} {cond : Option C} (hsl : ∀ i ∈ t.slots, i ∈ own) (σ : L2.St) (H : Hp) (Q : VK) (q : tE g (ev cl false (.compM i t own cond c)) σ H Q) :
    tLc (iWM g (ev cl false i)) (gT g t) (tCond g cl cond) (tE g (ev cl false c)) own σ H Q := by
  obtain ⟨B, S, ρ, z, S', eo, so, hm, k⟩ := q
  cases cond with
  | none =>
    rw [ev] at hm
    obtain ⟨x0, S1, hj, hm⟩ := Rz.bind_ok hm
    split at hm
    · rename_i j
      split at hm
      · rename_i xs hs
        obtain ⟨ds, S3, hcl, hm3⟩ := Rz.bind_ok hm
        split at hm3
        · rename_i hl
          rw [tst_f] at hm3
          cases hm3
          rw [Bool.and_eq_true] at hl
          have e3 : S3 = [] := List.isEmpty_iff.mp hl.2
          subst e3
          refine ⟨B, S, ρ, j, xs, _, eo, so, hj, hs, fun J B1 H1 so1 st1 hw D0 hD => ?_⟩
          refine lc_run (wi := iWM g (ev cl false i)) (B1 := boxB B1 _) (S1 := []) rfl hsl (fun σ H Q q => ?_) (fun σ H Q q => q) (eo.mono st1).box so1.box hw hcl (of_decide_eq_true hl.1) hD fun B' H' so' st' dv => ?_
          · obtain ⟨B, S, ρ, b, S', eo, so, hm, k⟩ := q
            cases hm
            exact k B H so Stab.refl
          · have eB := box_eq so' st'
            subst eB
            exact k _ B1 H' (unbox_ok so1 so' st') (st1.trans (unbox_stab st')) (unbox_dat _ _ dv)
        · cases hm3
      · cases hm
    · cases hm
  | some cc =>
    rw [ev] at hm
    obtain ⟨x0, S1, hj, hm⟩ := Rz.bind_ok hm
    split at hm
    · rename_i j
      split at hm
      · rename_i xs hs
        obtain ⟨ds, S3, hcl, hm3⟩ := Rz.bind_ok hm
        split at hm3
        · rename_i hl
          rw [tst_f] at hm3
          cases hm3
          rw [Bool.and_eq_true] at hl
          have e3 : S3 = [] := List.isEmpty_iff.mp hl.2
          subst e3
          refine ⟨B, S, ρ, j, xs, _, eo, so, hj, hs, fun J B1 H1 so1 st1 hw D0 hD => ?_⟩
          refine lc_run (wi := iWM g (ev cl false i)) (B1 := boxB B1 _) (S1 := []) rfl hsl (fun σ H Q q => q) (fun σ H Q q => q) (eo.mono st1).box so1.box hw hcl (of_decide_eq_true hl.1) hD fun B' H' so' st' dv => ?_
          have eB := box_eq so' st'
          subst eB
          exact k _ B1 H' (unbox_ok so1 so' st') (st1.trans (unbox_stab st')) (unbox_dat _ _ dv)
        · cases hm3
      · cases hm
    · cases hm
def SCond (fa : Ad) (cl : Nat → List A → Store → Rz A) (X : Cx) (ifs : List Expr) (cond : Option C) : Prop := PTs X ifs (tCond (gx X fa) cl cond)
theorem sc_none : SCond fa cl X [] none := pts_nil
theorem sc_some (h : ST fa cl X e c) : SCond fa cl X [e] (some c) := pts_one h
section
variable {kk : ItK} {its : List C} {t : Tg} {own : List (Str × Nat)} {iter elt : Expr} {ifs : List Expr} {scope : Scope} {cond : Option C}
theorem se_comp (hc : X.calm = true) (hN : X.N.Nodup) (hi : SI fa cl X tg iter kk its) (ok : BlkOk X.N X.env.scope scope own)
    (hg : ∀ (s : Shared) (H : Hp) (C : Addr) (cls : List (Str × Addr)) (fp : List Addr), SG fa (X.blk s H scope (compEnvC scope cls C X.env) fp) tg t)
    (ht : ∀ (s : Shared) (H : Hp) (C : Addr) (cls : List (Str × Addr)) (fp : List Addr), SCond fa cl (X.blk s H scope (compEnvC scope cls C X.env) fp) ifs cond)
    (he : ∀ (s : Shared) (H : Hp) (C : Addr) (cls : List (Str × Addr)) (fp : List Addr), SE fa cl (X.blk s H scope (compEnvC scope cls C X.env) fp) elt c)
    (hsl : ∀ i ∈ t.slots, i ∈ own.map (·.2)) (hs : ∀ x, foldedSetIterable iter X.env x = pure x) : SE fa cl X (.ListComp elt [⟨tg, iter, ifs, 0⟩] scope pos) (.comp kk its t (own.map (·.2)) cond c) :=
  (pe_lc (g := gT (gx X fa) t) (tt := tCond (gx X fa) cl cond) (te := tE (gx X fa) (ev cl false c)) hc hN hi ok hg ht he hs).imp (comp_rd hsl)
theorem se_compM {i : C} (hc : X.calm = true) (hN : X.N.Nodup) (hi : SE fa cl X iter i) (ok : BlkOk X.N X.env.scope scope own)
    (hg : ∀ (s : Shared) (H : Hp) (C : Addr) (cls : List (Str × Addr)) (fp : List Addr), SG fa (X.blk s H scope (compEnvC scope cls C X.env) fp) tg t)
    (ht : ∀ (s : Shared) (H : Hp) (C : Addr) (cls : List (Str × Addr)) (fp : List Addr), SCond fa cl (X.blk s H scope (compEnvC scope cls C X.env) fp) ifs cond)
    (he : ∀ (s : Shared) (H : Hp) (C : Addr) (cls : List (Str × Addr)) (fp : List Addr), SE fa cl (X.blk s H scope (compEnvC scope cls C X.env) fp) elt c)
    (hsl : ∀ i ∈ t.slots, i ∈ own.map (·.2)) (hs : ∀ x, foldedSetIterable iter X.env x = pure x) : SE fa cl X (.ListComp elt [⟨tg, iter, ifs, 0⟩] scope pos) (.compM i t (own.map (·.2)) cond c) :=
  (pe_lc (g := gT (gx X fa) t) (tt := tCond (gx X fa) cl cond) (te := tE (gx X fa) (ev cl false c)) hc hN (siM_list hi) ok hg ht he hs).imp (comp_rdM hsl)
theorem _root_.L2.PS.imp {X : Cx} {e : Stmt} {t t' : TS} (h : PS X e t) (f : ∀ D σ H, t' D σ H → t D σ H) : PS X e t' := ⟨fun pins s σ H D I q => h.run pins s σ H D I (f D σ H q)⟩
theorem _root_.L2.PSs.imp {X : Cx} {e : List Stmt} {t t' : TS} (h : PSs X e t) (f : ∀ D σ H, t' D σ H → t D σ H) : PSs X e t' := ⟨fun pins s σ H D I q => h.run pins s σ H D I (f D σ H q)⟩
/-- name = [..] on one line -/
theorem ss_setLc {i : Nat} {y : Str} {py spos : Pos} (hc : X.calm = true) (hN : X.N.Nodup) (hy : X.N[i]? = some y) (hyl : X.env.scope.names.lookup y = some .local)
    (hsw : swapsWith (.ListComp elt [⟨tg, iter, ifs, 0⟩] scope pos) (some (.Name y py)) spos.line X.env = pure true) (hi : SI fa cl X tg iter kk its) (ok : BlkOk X.N X.env.scope scope own)
    (hg : ∀ (s : Shared) (H : Hp) (C : Addr) (cls : List (Str × Addr)) (fp : List Addr), SG fa (X.blk s H scope (compEnvC scope cls C X.env) fp) tg t)
    (ht : ∀ (s : Shared) (H : Hp) (C : Addr) (cls : List (Str × Addr)) (fp : List Addr), SCond fa cl (X.blk s H scope (compEnvC scope cls C X.env) fp) ifs cond)
    (he : ∀ (s : Shared) (H : Hp) (C : Addr) (cls : List (Str × Addr)) (fp : List Addr), SE fa cl (X.blk s H scope (compEnvC scope cls C X.env) fp) elt c)
    (hsl : ∀ i ∈ t.slots, i ∈ own.map (·.2)) (hs : ∀ x, foldedSetIterable iter X.env x = pure x) :
    PS X (.Assign [.Name y py] (.ListComp elt [⟨tg, iter, ifs, 0⟩] scope pos) spos) (tAsg (tE (gx X fa) (ev cl false (.comp kk its t (own.map (·.2)) cond c))) (gName i)) :=
  (ps_setLc (g := gT (gx X fa) t) (tt := tCond (gx X fa) cl cond) (te := tE (gx X fa) (ev cl false c)) hc hN hy hyl hsw hi ok hg ht he hs).imp fun D σ H q => comp_rd hsl σ H _ q
end
/-! ### methods -/
theorem se_append {apos : Pos} {o : Expr} {co : C} (ho : SE fa cl X o co) (ha : SA fa cl X [e] [c]) (hbase : attributeBase o "append" X.env (eval o X.env) = eval o X.env)
    (hfew : ((backTo pos (starEach [e] X.env)).all (fun x => !x.1) && (backToKw pos (keywordEach [] X.env)).all (fun x => x.1.isSome) && decide (([e] : List Expr).length + ([] : List Keyword).length + (if ([] : List Keyword).isEmpty then 0 else 1) < 30)) = true)
    (hline : (apos.endLine == pos.line) = true) (hs : starEach [e] X.env = (false, eval e X.env) :: starEach [] X.env) (hplain : (backTo pos (starEach [] X.env)).any (·.1) = false) :
    SE fa cl X (.Call (.Attribute o "append" apos) [e] [] pos) (.mth .append co [c]) :=
  (pe_bm PySem.F.plainAttrs_list PySem.F.slot_list_append PySem.F.type_list_append mt_append ho ha hbase hfew hline hs hplain).imp fun σ H Q q => by
    obtain ⟨B, S, ρ, z, S', eo, so, hm, k⟩ := q
    rw [ev] at hm
    obtain ⟨x, S1, hx, hm1⟩ := Rz.bind_ok hm
    split at hm1
    · rename_i hty
      obtain ⟨xs, S2, hxs, hm2⟩ := Rz.bind_ok hm1
      obtain ⟨w, S3, hw, hm3⟩ := Rz.bind_ok hm2
      rw [tst_f] at hm3
      cases hm3
      cases x with
      | p d => simp [mthTy] at hty
      | m j =>
        unfold mthTy at hty
        dsimp only at hty
        split at hty
        · rename_i ys0 hj0
          refine tE.use eo so hx fun v1 B1 H1 so1 st1 eo1 d1 => ?_
          obtain ⟨a, hb, rfl, hnr⟩ := d1
          obtain ⟨vs0, e0, _⟩ := so1.ob j a ys0 hb hj0
          refine ⟨.inl ⟨rfl, _, SqL.of e0⟩, tA.use eo1 so1 hxs fun vs B2 H2 so2 st2 eo2 d2 => ?_⟩
          unfold mthF at hw
          split at hw
          · rename_i j' d heq1
            cases heq1
            split at hw
            · rename_i ys hj
              split at hw
              · rename_i hl
                cases hw
                obtain ⟨v, rfl, dv⟩ := d2.one
                have hb2 := (st2.pre j a hb hnr).1
                obtain ⟨ws, e2, l2⟩ := so2.ob j a ys hb2 hj
                refine ⟨a, ws, v, rfl, rfl, e2, by rw [l2.len]; exact Nat.lt_of_lt_of_le hl lim_line, ?_⟩
                exact k _ B2 _ (so2.put hb2 hj (l2.app ⟨v, [], rfl, dv, rfl⟩)) ((st1.trans st2).trans (Stab.put so2 hb2 hj)) rfl
              · cases hw
            · cases hw
          all_goals first
            | (cases hw; done)
            | (rename_i heq1 _; cases heq1; done)
            | contradiction
        · cases hty
    · cases hm1
theorem join_inv {x y z : A} {S S' : Store} (h : mthF .join x [y] S = .ok z S') : ∃ a ds ys, x = .p (.str a) ∧ (y = .p (.lst ds) ∨ y = .p (.tup ds)) ∧ D.strs ds = some ys ∧ (ys.map (·.length)).sum + ys.length * a.length ≤ LIM ∧ z = .p (.str (Txt.join a ys)) ∧ S' = S := by
  cases x with
  | m i => simp [mthF] at h
  | p x =>
    cases x with
    | str a =>
      cases y with
      | m i => simp [mthF] at h
      | p y =>
        cases y with
        | lst ds =>
          simp only [mthF] at h
          split at h
          · rename_i ys hys
            split at h
            · rename_i hl
              cases h
              exact ⟨a, ds, ys, rfl, .inl rfl, hys, hl, rfl, rfl⟩
            · cases h
          · cases h
        | tup ds =>
          simp only [mthF] at h
          split at h
          · rename_i ys hys
            split at h
            · rename_i hl
              cases h
              exact ⟨a, ds, ys, rfl, .inr rfl, hys, hl, rfl, rfl⟩
            · cases h
          · cases h
        | _ => simp [mthF] at h
    | _ => simp [mthF] at h
theorem se_join {apos : Pos} {o : Expr} {co : C} (ho : SE fa cl X o co) (ha : SE fa cl X e c) (hs : starEach [e] X.env = [(false, eval e X.env)]) (hbase : attributeBase o "join" X.env (eval o X.env) = eval o X.env)
    (hline : (apos.endLine == pos.line) = true) : SE fa cl X (.Call (.Attribute o "join" apos) [e] [] pos) (.mth .join co [c]) :=
  (pe_join ho ha hs hbase hline).imp fun σ H Q q => by
    obtain ⟨B, S, ρ, z, S', eo, so, hm, k⟩ := q
    rw [ev] at hm
    obtain ⟨x, S1, hx, hm1⟩ := Rz.bind_ok hm
    split at hm1
    · rename_i hty
      obtain ⟨xs, S2, hxs, hm2⟩ := Rz.bind_ok hm1
      obtain ⟨w, S3, hw, hm3⟩ := Rz.bind_ok hm2
      rw [tst_f] at hm3
      cases hm3
      rw [evs] at hxs
      obtain ⟨y, S4, hy, hxs1⟩ := Rz.bind_ok hxs
      rw [evs] at hxs1
      cases hxs1
      refine tE.use eo so hx fun v1 B1 H1 so1 st1 eo1 d1 => ?_
      obtain ⟨a, ds, ys, rfl, hyy, hys, hl, rfl, rfl⟩ := join_inv hw
      refine ⟨⟨a, d1⟩, tE.use eo1 so1 hy fun v2 B2 H2 so2 st2 eo2 d2 => ?_⟩
      rcases hyy with rfl | rfl
      · obtain ⟨p, vs, rfl, t, n, l⟩ := d2
        refine ⟨a, p, ys, d1, rfl, .inl ?_, Nat.le_trans hl (by decide), k _ B2 H2 so2 (st1.trans st2) rfl⟩
        rw [← l.strs hys]
        exact SqL.of t
      · obtain ⟨p, vs, rfl, t, l⟩ := d2
        refine ⟨a, p, ys, d1, rfl, .inr ?_, Nat.le_trans hl (by decide), k _ B2 H2 so2 (st1.trans st2) rfl⟩
        rw [← l.strs hys]
        exact t
    · cases hm1
/-- isinstance(a, (T1, T2)) -/
inductive TyNames (X : Cx) : List Expr → List Ty → Prop where
  | nil : TyNames X [] []
  | cons {e : Expr} {t : Ty} {es : List Expr} {ts : List Ty} (h : PE X e (tC (.ty t.nm))) (hs : starEach (e :: es) X.env = (false, eval e X.env) :: starEach es X.env) (r : TyNames X es ts) : TyNames X (e :: es) (t :: ts)
theorem TyNames.pa : ∀ {es : List Expr} {ts : List Ty}, TyNames X es ts → PA X es (fun _ H Q => Q (ts.map fun t => V.ty t.nm) H)
  | _, _, .nil => pa_nil
  | _, _, .cons h hs r => pa_cons h r.pa hs
theorem tys_cls : ∀ ts : List Ty, Paired ClsV (ts.map fun t => V.ty t.nm) (ts.map fun t => Value.type t.nm)
  | [] => .nil
  | t :: ts => .cons (.ty _) (tys_cls ts)
theorem kitAny_tys {K : PySem.W.Frag} {t : Ty} : ∀ ts : List Ty, PySem.W.kitAny K (.type t.nm) (ts.map fun t => Value.type t.nm) = some (ts.any fun c => isaF t c)
  | [] => rfl
  | c :: ts => by
    refine kitAny_cons (b := isaF t c) (kit_ty (kit_isa t c)) (fun h => ?_) fun h => ?_
    · rw [kitAny_tys ts, List.any_cons, h]
      rfl
    · rw [List.any_cons, h]
      rfl
theorem se_isiT {p p2 : Pos} {kk : Nat} {ts : List Ty} (hg : Gl X "isinstance") (hmg : X.mg "isinstance" = none) (ha : SE fa cl X a ca) (ht : TyNames X es ts) (hl : ts.length ≤ LIM)
    (hs : starEach [a, .Tuple es kk p2] X.env = (false, eval a X.env) :: starEach [.Tuple es kk p2] X.env) : SE fa cl X (.Call (.Name "isinstance" p) [a, .Tuple es kk p2] [] pos) (.isiT ca ts) :=
  (pe_callB call_isiT hg hmg (by decide +kernel) (pa_cons ha (pa_cons (pe_tup ht.pa) pa_nil) hs) (by decide +kernel) (by decide +kernel) hs rfl).imp fun σ H Q q => by
    obtain ⟨B, S, ρ, z, S', eo, so, hm, k⟩ := q
    rw [ev] at hm
    obtain ⟨x, S1, hx, hm1⟩ := Rz.bind_ok hm
    split at hm1
    · rename_i t hty
      cases hm1
      refine tE.use eo so hx fun v1 B1 H1 so1 st1 eo1 d1 => ⟨by rw [List.length_map]; exact lim_le hl, fun q hq => ?_⟩
      exact ⟨v1, q, _, .type t.nm, _, _, rfl, upd_same, tys_cls ts, ty_ok (so1.new hq) hty ((Stab.new so1 hq).datA d1), kitAny_tys ts, k _ B1 _ (so1.new hq) (st1.trans (Stab.new so1 hq)) rfl⟩
    · cases hm1
end
end Fw

/-! zip of a tuple and a list. -/
namespace Fw
open PySem PySem.Spec PyProof.Rows L2
/-- the iterator of a tuple, asked for its items one by one -/
theorem drawT {pg : Program} {wd : World} {Ar : Around} (hh : Ar.handled = none) (j t : Addr) (ne : t ≠ j) (us : Array Value) :
    Draws pg wd Ar j [j, t] us.size (fun i v => us[i]? = some v) (fun i hp => hp.IsTupleIter j t i ∧ hp.IsTuple t us) where
  live := fun _ _ q => by
    obtain ⟨⟨o, e, _⟩, _⟩ := q
    exact ⟨o, e⟩
  frame := fun i hp hp' q kk => by
    obtain ⟨⟨o, e, r⟩, o2, e2, r2⟩ := q
    exact ⟨⟨o, kk j (by simp) o e, r⟩, o2, kk t (by simp) o2 e2, r2⟩
  item := fun i s Q E hi q hQ => by
    obtain ⟨q1, q2⟩ := q
    refine RZ.nextOf_tuple_item q1 q2 (x := us[i]) (by simp [hi]) fun hp' q1' sb => hQ _ hp' s.toks (by simp [hi]) ⟨q1', ?_⟩ sb
    obtain ⟨o2, e2, r2⟩ := q2
    exact ⟨o2, (sb.2 _ ne).trans e2, r2⟩
  done := fun s Q E q hE => RZ.nextOf_tuple_end hh q.1 q.2 (by simp) hE
/-- the tuple at a and the list at b as they stand at each turn -/
def ItM (K : PySem.W.Frag) (a b : Addr) : It :=
  ⟨fun i H => ∃ (us vs : List V) (u v : V), SqT K H a us ∧ SqL K H b vs ∧ us[i]? = some u ∧ vs[i]? = some v,
    fun i H p H' => ∃ T u v, p = .ref T ∧ H T = none ∧ H' = upd H T (.tup [u, v]) ∧ (∀ us, SqT K H a us → us[i]? = some u) ∧ ∀ vs, SqL K H b vs → vs[i]? = some v,
    fun i H => ∃ us vs : List V, SqT K H a us ∧ SqL K H b vs ∧ i = min us.length vs.length⟩
/-- the five things of a zip -/
def zFive (z TI TO i1 i2 : Addr) : List Addr := [z, TI, TO, i1, i2]
theorem zFive_cases {z TI TO i1 i2 c : Addr} (h : c ∈ zFive z TI TO i1 i2) : c = z ∨ c = TI ∨ c = TO ∨ c = i1 ∨ c = i2 := by
  simpa [zFive] using h
theorem zFive_off {z TI TO i1 i2 c : Addr} (h : c ∉ zFive z TI TO i1 i2) : c ≠ z ∧ c ≠ TI ∧ c ≠ TO ∧ c ≠ i1 ∧ c ≠ i2 := by
  simpa [zFive] using h
def zMix (z TI TO i1 i2 a b : Addr) (i : Nat) (hp : Heap) : Prop := IsZip hp z TI TO .none ∧ IsPair hp TI (.ref i1) (.ref i2) ∧ (∃ u v, IsPair hp TO u v) ∧ hp.IsTupleIter i1 a i ∧ hp.IsListIter i2 b i
theorem zMix_at {z TI TO i1 i2 a b : Addr} {i : Nat} {hp hp' : Heap} (q : zMix z TI TO i1 i2 a b i hp) (kk : ∀ c ∈ zFive z TI TO i1 i2, ∀ o, hp.get? c = some o → hp'.get? c = some o) : zMix z TI TO i1 i2 a b i hp' := by
  obtain ⟨q1, q2, ⟨u, v, q3⟩, ⟨o4, e4, r4⟩, o5, e5, r5⟩ := q
  exact ⟨kk _ (by simp [zFive]) _ q1, kk _ (by simp [zFive]) _ q2, ⟨u, v, kk _ (by simp [zFive]) _ q3⟩, ⟨o4, kk _ (by simp [zFive]) _ e4, r4⟩, o5, kk _ (by simp [zFive]) _ e5, r5⟩
theorem zMix_obj {z TI TO i1 i2 a b : Addr} {i : Nat} {hp : Heap} (q : zMix z TI TO i1 i2 a b i hp) {c : Addr} (hc : c ∈ zFive z TI TO i1 i2) : ∃ o, hp.get? c = some o ∧ (∀ f, o.data ≠ .cell f) ∧ c < hp.objs.size := by
  obtain ⟨q1, q2, ⟨u, v, q3⟩, ⟨o4, e4, _, d4⟩, o5, e5, _, d5⟩ := q
  rcases zFive_cases hc with r | r | r | r | r
  · subst r; exact ⟨_, q1, fun f y => (by cases y), Heap.lt_size q1⟩
  · subst r; exact ⟨_, q2, fun f y => (by cases y), Heap.lt_size q2⟩
  · subst r; exact ⟨_, q3, fun f y => (by cases y), Heap.lt_size q3⟩
  · subst r; exact ⟨_, e4, fun f y => (by rw [d4] at y; cases y), Heap.lt_size e4⟩
  · subst r; exact ⟨_, e5, fun f y => (by rw [d5] at y; cases y), Heap.lt_size e5⟩
theorem turn_mix {pg : Program} {wd : World} {K : PySem.W.Frag} {elts : List Expr} {kk : Nat} {tpos : Pos} {a b z TI TO i1 i2 : Addr} (Ap : ZipApart z TI TO i1 i2 a b) :
    Turn pg wd K (.Tuple elts kk tpos) (ItM K a b) (zFive z TI TO i1 i2) z (zMix z TI TO i1 i2 a b) where
  mem := by simp [zFive]
  obj := fun i hp q c hc => by
    obtain ⟨o, e, d, _⟩ := zMix_obj q hc
    exact ⟨o, e, d⟩
  keep := fun i hp hp' q k => zMix_at q k
  item := by
    intro X e1 e2 e3 cm i pins s σ H E I hf q hgo
    subst e1 e2 e3
    obtain ⟨us, vs, u, v, hu, hv, gu, gv⟩ := hgo
    obtain ⟨la, ra, pa, _⟩ := I.tuple hu
    obtain ⟨lb, rb, pb, _⟩ := I.list hv
    obtain ⟨x1, hx1, rx1⟩ := ra.get gu
    obtain ⟨x2, hx2, rx2⟩ := rb.get gv
    have q0 := q
    obtain ⟨q1, q2, ⟨y1, y2, q3⟩, q4, q5⟩ := q
    have hd : X.A.in1.handled = none := I.ok.hd cm
    have sep : ZipSep2 z TI TO i1 i2 [i1, a] [i2, b] := {
      TIz := Ap.TIz, TOz := Ap.TOz, TITO := Ap.TITO, TIi1 := Ap.TIi1, TIi2 := Ap.TIi2
      mem1 := by simp
      mem2 := by simp
      zf1 := by simp [Ap.i1z.symm, Ap.l1z.symm]
      Tf1 := by simp [Ap.TOi1, Ap.l1TO.symm]
      zf2 := by simp [Ap.i2z.symm, Ap.l2z.symm]
      Tf2 := by simp [Ap.TOi2, Ap.l2TO.symm]
      sep1_2 := by simp [Ap.i12, Ap.l2i1.symm]
      sep2_1 := by simp [Ap.i12.symm, Ap.l1i2.symm] }
    have n1 : i < la.toArray.size := by
      have := (List.getElem?_eq_some_iff.mp hx1).1
      simpa using this
    have n2 : i < lb.toArray.size := by
      have := (List.getElem?_eq_some_iff.mp hx2).1
      simpa using this
    refine wpAny_pyNext_zipD2_item sep (drawT hd i1 a Ap.l1i1 la.toArray) (Draws.list hd i2 b Ap.l2i2 lb.toArray) q1 q2 q3 ⟨q4, pa⟩ ⟨q5, pb.isList⟩ n1 n2 fun w1 w2 hp' tk g1 g2 z1 t1 s1 s2 T0 hsz keep => ?_
    have ew1 : w1 = x1 := by
      have : la.toArray[i]? = some x1 := by simpa using hx1
      rw [g1] at this
      exact Option.some.inj this
    have ew2 : w2 = x2 := by
      have : lb.toArray[i]? = some x2 := by simpa using hx2
      rw [g2] at this
      exact Option.some.inj this
    subst ew1 ew2
    have szz : z < s.heap.objs.size := Heap.lt_size q1
    refine ⟨_, rfl, wpAny_letOwnedTupleGo_zip (s := { s with heap := hp', toks := tk }) z1 fun hp'' z2 sb => ?_⟩
    have T2 : hp''.get? s.heap.objs.size = some { cls := .type "tuple", data := .seq #[w1, w2] } := (sb.2 _ (Nat.ne_of_gt szz)).trans T0
    have new : ObjOk X.prog X.w (upd H s.heap.objs.size (.tup [u, v])) hp'' s.heap.objs.size (.tup [u, v]) := ⟨by show 2 ≤ sizeLine; decide, [w1, w2], .cons rx1 (.cons rx2 .nil), ⟨_, T2, rfl, _, rfl⟩⟩
    have I1 : Inv X pins σ (upd H s.heap.objs.size (.tup [u, v])) { s with heap := hp'', toks := tk } :=
      I.turnedNew (t' := tk) (ch := zFive z TI TO i1 i2) (fun c o hc e => by
        obtain ⟨f1, f2, f3, f4, f5⟩ := zFive_off hc
        exact (sb.2 c f1).trans (keep c o f1 f3 f4 f5 e)) hf (Nat.le_refl _) new
    refine ⟨.ref s.heap.objs.size, _, I1, rfl, ⟨_, u, v, rfl, I.hok.fresh (Nat.le_refl _), rfl, fun us' h' => by rw [I.tuple_inj h' hu]; exact gu, fun vs' h' => by rw [I.list_inj h' hv]; exact gv⟩, ?_, fun c hc => ?_⟩
    · obtain ⟨⟨o4, e4, r4⟩, _⟩ := s1
      obtain ⟨⟨o5, e5, r5⟩, _⟩ := s2
      exact ⟨z2, (sb.2 _ Ap.TIz).trans (keep _ _ Ap.TIz Ap.TITO Ap.TIi1 Ap.TIi2 q2), ⟨w1, w2, (sb.2 _ Ap.TOz).trans t1⟩, ⟨o4, (sb.2 _ Ap.i1z).trans e4, r4⟩, o5, (sb.2 _ Ap.i2z).trans e5, r5⟩
    · obtain ⟨o, e, _, lt⟩ := zMix_obj q0 hc
      rw [upd_ne (Nat.ne_of_lt lt)]
      exact (hf c hc).1
  done := by
    intro X e1 e2 e3 cm i pins s σ H E I hf q hst
    subst e1 e2 e3
    obtain ⟨us, vs, hu, hv, hi⟩ := hst
    obtain ⟨la, ra, pa, _⟩ := I.tuple hu
    obtain ⟨lb, rb, pb, _⟩ := I.list hv
    obtain ⟨q1, q2, ⟨y1, y2, q3⟩, q4, q5⟩ := q
    have hd : X.A.in1.handled = none := I.ok.hd cm
    have sep : ZipSep2 z TI TO i1 i2 [i1, a] [i2, b] := {
      TIz := Ap.TIz, TOz := Ap.TOz, TITO := Ap.TITO, TIi1 := Ap.TIi1, TIi2 := Ap.TIi2
      mem1 := by simp
      mem2 := by simp
      zf1 := by simp [Ap.i1z.symm, Ap.l1z.symm]
      Tf1 := by simp [Ap.TOi1, Ap.l1TO.symm]
      zf2 := by simp [Ap.i2z.symm, Ap.l2z.symm]
      Tf2 := by simp [Ap.TOi2, Ap.l2TO.symm]
      sep1_2 := by simp [Ap.i12, Ap.l2i1.symm]
      sep2_1 := by simp [Ap.i12.symm, Ap.l1i2.symm] }
    have l1 : us.length = la.toArray.size := by rw [ra.length]; simp
    have l2 : vs.length = lb.toArray.size := by rw [rb.length]; simp
    refine wpAny_pyNext_zipD2_end sep (drawT hd i1 a Ap.l1i1 la.toArray) (Draws.list hd i2 b Ap.l2i2 lb.toArray) q1 q2 q3 ⟨q4, pa⟩ ⟨q5, pb.isList⟩ (by omega) (by omega) (by omega) fun hp' tk keep => ⟨rfl, ?_⟩
    exact I.turnedL (t' := tk) (ch := zFive z TI TO i1 i2) (fun c o hc e => by
      obtain ⟨f1, f2, f3, f4, f5⟩ := zFive_off hc
      exact keep c o f1 f3 f4 f5 e) hf
  self := fun Ar i s Q E q h => wpAny_pyIter_zip q.1 h
theorem walks_zipM {g : G} {z : Z} {a b : Addr} {ds es : List D} (d1 : Dat g z (.tup ds) (.ref a)) (d2 : Dat g z (.lst es) (.ref b)) : Walks g (ItM g.K a b) z (List.zipWith (fun a b => .p (.tup [a, b])) ds es) := by
  have at1 : ∀ B S H, Sub g z ⟨B, S, H⟩ → ∃ vs, SqT g.K H a vs ∧ DatL g ⟨B, S, H⟩ ds vs := fun B S H s => by
    obtain ⟨a', vs, e, t, l⟩ := s.dat _ _ d1
    cases e
    exact ⟨vs, t, l⟩
  have at2 : ∀ B S H, Sub g z ⟨B, S, H⟩ → ∃ vs, H b = some (.lst vs) ∧ DatL g ⟨B, S, H⟩ es vs := fun B S H s => by
    obtain ⟨a', vs, e, t, _, l⟩ := s.dat _ _ d2
    cases e
    exact ⟨vs, t, l⟩
  refine ⟨fun i B S H s so hi => ?_, fun i B S H x H' y s so hy q => ?_, fun B S H s so => ?_⟩
  · obtain ⟨vs, t1, l1⟩ := at1 B S H s
    obtain ⟨ws, t2, l2⟩ := at2 B S H s
    rw [List.length_zipWith] at hi
    have i1 : i < ds.length := by omega
    have i2 : i < es.length := by omega
    obtain ⟨v, hv, _⟩ := l1.get (List.getElem?_eq_getElem i1)
    obtain ⟨w, hw, _⟩ := l2.get (List.getElem?_eq_getElem i2)
    exact ⟨vs, ws, v, w, t1, SqL.of t2, hv, hw⟩
  · obtain ⟨vs, t1, l1⟩ := at1 B S H s
    obtain ⟨ws, t2, l2⟩ := at2 B S H s
    obtain ⟨T, v, w, rfl, nT, rfl, q1, q2⟩ := q
    rw [List.getElem?_zipWith] at hy
    cases h1 : ds[i]? with
    | none => rw [h1] at hy; cases hy
    | some x1 =>
      cases h2 : es[i]? with
      | none => rw [h1, h2] at hy; cases hy
      | some x2 =>
        rw [h1, h2] at hy
        cases hy
        obtain ⟨v', hv, dv⟩ := l1.get h1
        obtain ⟨w', hw, dw⟩ := l2.get h2
        have e1 := (q1 vs t1).symm.trans hv
        have e2 := (q2 ws (SqL.of t2)).symm.trans hw
        cases e1
        cases e2
        exact ⟨so.new nT, Stab.new so nT, new_tup so nT ⟨v, [w], rfl, dv, w, [], rfl, dw, rfl⟩⟩
  · obtain ⟨vs, t1, l1⟩ := at1 B S H s
    obtain ⟨ws, t2, l2⟩ := at2 B S H s
    refine ⟨vs, ws, t1, SqL.of t2, ?_⟩
    rw [List.length_zipWith, l1.len, l2.len]
abbrev mH1 (h : Heap) (l1 : Addr) : Heap := h.push { cls := .type "tuple_iterator", data := .fields #[.ref l1, .int 0 0] }
abbrev mH2 (h : Heap) (l1 l2 : Addr) : Heap := (mH1 h l1).push { cls := .type "list_iterator", data := .fields #[.ref l2, .int 0 0] }
abbrev mH3 (h : Heap) (l1 l2 : Addr) : Heap := (mH2 h l1 l2).push { cls := .type "tuple", data := .seq #[.ref h.objs.size, .ref (mH1 h l1).objs.size] }
abbrev mH4 (h : Heap) (l1 l2 : Addr) : Heap := (mH3 h l1 l2).push { cls := .type "tuple", data := .seq #[.none, .none] }
abbrev mH5 (h : Heap) (l1 l2 : Addr) : Heap := (mH4 h l1 l2).push { cls := .type "zip", data := .fields #[.none, .bool false, .bool false, .ref (mH2 h l1 l2).objs.size, .ref (mH3 h l1 l2).objs.size] }
theorem zipM_new (l1 l2 : Addr) (us vs : Array Value) :
    Meets (Builtin.«zip.__new__» ⟨[.type "zip", .ref l1, .ref l2], []⟩) (fun _ R s => s.heap.IsTuple l1 us ∧ s.heap.IsList l2 vs ∧
      R (.ok (.ret (.ref (mH4 s.heap l1 l2).objs.size))) { s with heap := mH5 s.heap l1 l2 }) :=
  .of_wp fun pg wd Ar R s h => by
    obtain ⟨hp, g, d, tk, os⟩ := s; obtain ⟨a1, a2, h⟩ := h
    have sz := sub_zip
    have b1 : Heap.IsTuple (Shared.heap ⟨hp, g, d, tk, os⟩) l1 us := a1
    have b2 : Heap.IsList (Shared.heap ⟨mH1 hp l1, g, d, tk, os⟩) l2 vs := by
      obtain ⟨o, e, r⟩ := a2
      exact ⟨o, Heap.get?_push_of_some _ e, r⟩
    wp_walk using wpAny_pyIter_tuple b1, wpAny_pyIter_list b2
    exact ⟨_, rfl, h⟩
theorem call_zipM {pg : Program} {wd : World} {Ar : Around} {E : Value → Shared → Prop} {s : Shared} {l1 l2 : Addr} {us vs : Array Value} {Q : Value → Shared → Prop} (a1 : s.heap.IsTuple l1 us) (a2 : s.heap.IsList l2 vs)
    (h : ∀ hp', zMix (s.heap.objs.size + 4) (s.heap.objs.size + 2) (s.heap.objs.size + 3) s.heap.objs.size (s.heap.objs.size + 1) l1 l2 0 hp' → (∀ c o, s.heap.get? c = some o → hp'.get? c = some o) → Q (.ref (s.heap.objs.size + 4)) { s with heap := hp' }) :
    wpAny (model pg wd) Ar (call (.type "zip") [.ref l1, .ref l2]) Q E s := by
  refine callType_new F.called_zip (by decide) (F.typeCall_zip_2 _ _) (F.newCall_zip_2 _ _) (fun obj => F.args_object_init_3 obj _ _) F.entry_zip_new (zipM_new l1 l2 us vs) ⟨a1, a2, ?_⟩
  have w1 : (mH1 s.heap l1).objs.size = s.heap.objs.size + 1 := Heap.size_push ..
  have w2 : (mH2 s.heap l1 l2).objs.size = s.heap.objs.size + 2 := by rw [Heap.size_push, w1]
  have w3 : (mH3 s.heap l1 l2).objs.size = s.heap.objs.size + 3 := by rw [Heap.size_push, w2]
  have w4 : (mH4 s.heap l1 l2).objs.size = s.heap.objs.size + 4 := by rw [Heap.size_push, w3]
  have up : ∀ {hp : Heap} {c : Addr} {o p : Obj}, hp.get? c = some o → (hp.push p).get? c = some o := fun e => Heap.get?_push_of_some _ e
  have k5 : (mH5 s.heap l1 l2).get? (mH4 s.heap l1 l2).objs.size = some _ := Heap.get?_push_size _ rfl
  have k4 : (mH5 s.heap l1 l2).get? (mH3 s.heap l1 l2).objs.size = some _ := up (Heap.get?_push_size _ rfl)
  have k3 : (mH5 s.heap l1 l2).get? (mH2 s.heap l1 l2).objs.size = some _ := up (up (Heap.get?_push_size _ rfl))
  have k2 : (mH5 s.heap l1 l2).get? (mH1 s.heap l1).objs.size = some _ := up (up (up (Heap.get?_push_size _ rfl)))
  have k1 : (mH5 s.heap l1 l2).get? s.heap.objs.size = some _ := up (up (up (up (Heap.get?_push_size _ rfl))))
  show _ ∧ _
  rw [w2, w3, w4] at k5
  rw [w1, w2] at k3
  rw [w3] at k4
  rw [w1] at k2
  rw [w4]
  exact ⟨⟨_, k5, rfl⟩, h _ ⟨k5, k3, ⟨_, _, k4⟩, ⟨_, k1, rfl, rfl⟩, _, k2, rfl, rfl⟩ fun c o e => up (up (up (up (up e))))⟩
def iZipM (K : PySem.W.Frag) (ta : TA) : TI := fun σ H R => ta σ H fun ws H1 => ∃ a b us vs, ws = [.ref a, .ref b] ∧ SqT K H1 a us ∧ SqL K H1 b vs ∧ R (ItM K a b) H1
theorem pi_zipM {X : Cx} {e e2 : Expr} {ta : TA} {p pos tpos : Pos} {elts : List Expr} {kk : Nat} {σ : L2.St} {H : Hp} {R : It → Hp → Prop} {pins : List (Addr × Obj)} {s : Shared} (hg : Gl X "zip") (hm : X.mg "zip" = none) (ha : PA X [e, e2] ta)
    (hs : starEach [e, e2] X.env = (false, eval e X.env) :: starEach [e2] X.env) (hpl : (backTo pos (starEach [e2] X.env)).any (·.1) = false) (I : Inv X pins σ H s) (h : iZipM X.K ta σ H R) :
    wpAny (model X.prog X.w) X.A (eval (.Call (.Name "zip" p) [e, e2] [] pos) X.env) (fun v s1 => wpAny (model X.prog X.w) X.A (pyIter v) (PIE X pins σ (.Tuple elts kk tpos) R) X.xe s1) X.xe s := by
  refine Call_ (ld_blt I hg hm PyProof.Rows.boot_zip (PyProof.Rows.callWith_type1 (thn (ha.run pos pins s σ H _ I h) fun ws s1 ⟨xs, H1, I1, rr, a, b, us, vs, ex, hu, hv, q⟩ => ?_) hs hpl))
  subst ex
  cases rr with
  | cons r rr =>
    cases rr with
    | cons r' rr =>
      cases rr
      cases r
      cases r'
      obtain ⟨la, ra, pa, _⟩ := I1.tuple hu
      obtain ⟨lb, rb, pb, _⟩ := I1.list hv
      have lta : a < s1.heap.objs.size := by
        obtain ⟨o, e, _⟩ := id pa
        exact Heap.lt_size e
      refine call_zipM (show s1.heap.IsTuple a la.toArray from pa) pb.isList fun hp' zm keep => wpAny_pyIter_zip zm.1 ?_
      refine ⟨_, _, _, _, H1, rfl, I1.kept (t' := s1.toks) keep, turn_mix (PySem.W.ktu_apart s1.heap.objs.size a b lta pb.lt), zm, fun c hc => ?_, q⟩
      have hle : s1.heap.objs.size ≤ c := by
        rcases zFive_cases hc with r | r | r | r | r <;> rw [r] <;> first | exact Nat.le_refl _ | exact Nat.le_add_right _ _
      exact I1.fpOk hle (I1.hok.fresh hle)
section
variable {fa : Ad} {cl : Nat → List A → Store → Rz A} {X : Cx} {e e2 : Expr} {c c2 : C} {pos : Pos}
theorem si_zip {p tpos : Pos} {elts : List Expr} {kk : Nat} (hg : Gl X "zip") (hmg : X.mg "zip" = none) (h : SA fa cl X [e, e2] [c, c2]) (hs : starEach [e, e2] X.env = (false, eval e X.env) :: starEach [e2] X.env) (hpl : (backTo pos (starEach [e2] X.env)).any (·.1) = false) :
    SI fa cl X (.Tuple elts kk tpos) (.Call (.Name "zip" p) [e, e2] [] pos) .zip [c, c2] := by
  refine ⟨fun pins s σ H R I q => ?_⟩
  obtain ⟨B, S, ρ, xs, S', items, eo, so, hm, hw, k⟩ := q
  have same : ∀ (hq : RZ.iZipA X.K (tA (gx X fa) (evs cl [c, c2])) σ H R), _ := fun hq => (RZ.pi_zipA (p := p) (pos := pos) (elts := elts) (kk := kk) (tpos := tpos) hg hmg h hs hpl).run pins s σ H R I hq
  unfold walkF at hw
  split at hw <;> try (cases hw)
  all_goals (rename_i heq; try (cases heq))
  · refine same (tA.use eo so hm fun vs B1 H1 so1 st1 eo1 d1 => ?_)
    obtain ⟨v, w, rfl, e1, e2⟩ := d1.two
    obtain ⟨a, vs, rfl, t1, n1, l1⟩ := id e1
    obtain ⟨b, ws, rfl, t2, n2, l2⟩ := id e2
    exact ⟨a, b, vs, ws, rfl, .inl ⟨SqL.of t1, SqL.of t2, k _ B1 H1 so1 st1 (walks_zip e1 e2)⟩⟩
  · refine same (tA.use eo so hm fun vs B1 H1 so1 st1 eo1 d1 => ?_)
    obtain ⟨v, w, rfl, e1, e2⟩ := d1.two
    obtain ⟨a, vs, rfl, t1, l1⟩ := id e1
    obtain ⟨b, ws, rfl, t2, l2⟩ := id e2
    exact ⟨a, b, vs, ws, rfl, .inr ⟨t1, t2, k _ B1 H1 so1 st1 (walks_zipT e1 e2)⟩⟩
  · refine pi_zipM hg hmg h hs hpl I (tA.use eo so hm fun vs B1 H1 so1 st1 eo1 d1 => ?_)
    obtain ⟨v, w, rfl, e1, e2⟩ := d1.two
    obtain ⟨a, vs, rfl, t1, l1⟩ := id e1
    obtain ⟨b, ws, rfl, t2, n2, l2⟩ := id e2
    exact ⟨a, b, vs, ws, rfl, t1, SqL.of t2, k _ B1 H1 so1 st1 (walks_zipM e1 e2)⟩
end
end Fw

/-! enumerate of a tuple. -/
namespace Fw
open PySem PySem.Spec PyProof.Rows L2
theorem meets_enumerate_newT (l : Addr) (us : Array Value) :
    Meets (Builtin.«enumerate.__new__» ⟨[.type "enumerate", .ref l], []⟩) (fun _ R s => s.heap.IsTuple l us ∧
      R (.ok (.ret (.ref (s.heap.push { cls := .type "tuple_iterator", data := .fields #[.ref l, .int 0 0] }).objs.size)))
        { s with heap := (s.heap.push { cls := .type "tuple_iterator", data := .fields #[.ref l, .int 0 0] }).push { cls := .type "enumerate", data := .fields #[.none, .bool false, .ref s.heap.objs.size, rawInt 0, .none, .none] } }) :=
  .of_wp fun prog w A R s h => by
    obtain ⟨hp, g, d, tk, os⟩ := s; obtain ⟨hl, h⟩ := h
    have hsub := sub_enumerate
    have hL : Heap.IsTuple (Shared.heap ⟨hp, g, d, tk, os⟩) l us := hl
    wp_walk using wpAny_pyIter_tuple hL
    refine wpAny_stack_any fun st => wpAny_pure ?_
    split
    · rename_i c _ _ _ _ _
      cases (c == Value.type "enumerate")
      · wp_walk using wpAny_pyIter_tuple hL
        exact ⟨_, rfl, h⟩
      · wp_walk using wpAny_pyIter_tuple hL
        exact ⟨_, rfl, h⟩
    · wp_walk using wpAny_pyIter_tuple hL
      exact ⟨_, rfl, h⟩
theorem call_enumerate_tuple {prog : Program} {w : World} {A : Around} {E : Value → Shared → Prop} {s : Shared} {l : Addr} {us : Array Value} {Q : Value → Shared → Prop} (hL : s.heap.IsTuple l us)
    (h : ∀ h', IsEnum h' (s.heap.objs.size + 1) s.heap.objs.size 0 .none → h'.IsTupleIter s.heap.objs.size l 0 →
      (∀ b o, s.heap.get? b = some o → h'.get? b = some o) → Q (.ref (s.heap.objs.size + 1)) { s with heap := h' }) :
    wpAny (model prog w) A (call (.type "enumerate") [.ref l]) Q E s := by
  refine callType_new F.called_enumerate (by decide) (F.typeCall_enumerate_1 _) (F.newCall_enumerate_1 _) (fun obj => F.args_object_init_2 obj _) F.entry_enumerate_new
    (meets_enumerate_newT l us) ⟨hL, ?_⟩
  have hz : (s.heap.push { cls := .type "tuple_iterator", data := .fields #[.ref l, .int 0 0] }).objs.size = s.heap.objs.size + 1 := Heap.size_push ..
  show _ ∧ _
  rw [hz]
  have he : IsEnum ((s.heap.push { cls := .type "tuple_iterator", data := .fields #[.ref l, .int 0 0] }).push
      { cls := .type "enumerate", data := .fields #[.none, .bool false, .ref s.heap.objs.size, rawInt 0, .none, .none] }) (s.heap.objs.size + 1) s.heap.objs.size 0 .none := by
    have := Heap.get?_push_size (s.heap.push { cls := .type "tuple_iterator", data := .fields #[.ref l, .int 0 0] })
      (o := { cls := .type "enumerate", data := .fields #[.none, .bool false, .ref s.heap.objs.size, rawInt 0, .none, .none] }) rfl
    rw [hz] at this; exact this
  refine ⟨⟨_, he, rfl⟩, h _ he ⟨_, Heap.get?_push_of_some _ (Heap.get?_push_size _ rfl), rfl, rfl⟩ fun b o x => Heap.get?_push_of_some _ (Heap.get?_push_of_some _ x)⟩
/-- the tuple at a, each item in a new pair with its index -/
def IteT (K : PySem.W.Frag) (a : Addr) : It :=
  ⟨fun i H => ∃ (xs : List V) (x : V), SqT K H a xs ∧ xs[i]? = some x, fun i H v H' => ∃ T x, v = .ref T ∧ H T = none ∧ H' = upd H T (.tup [.int (i : Nat), x]) ∧ ∀ xs, SqT K H a xs → xs[i]? = some x, fun i H => ∃ xs : List V, SqT K H a xs ∧ xs.length = i⟩
theorem turn_enumT {P : Program} {w : World} {K : PySem.W.Frag} {elts : List Expr} {kk : Nat} {tpos : Pos} (a e it : Addr) (ait : a ≠ it) (ae : a ≠ e) :
    Turn P w K (.Tuple elts kk tpos) (IteT K a) [e, it] e (fun i h => (∃ old, IsEnum h e it ((i : Nat) : Int) old) ∧ h.IsTupleIter it a i ∧ e ≠ it) where
  mem := by simp
  obj := fun i h st b hb => by
    obtain ⟨⟨old, he⟩, ⟨o, ho, hc, hd⟩, _⟩ := st
    have e' : b = e ∨ b = it := by simpa using hb
    rcases e' with z | z
    · rw [z]; exact ⟨_, he, fun v q => nomatch q⟩
    · rw [z]; exact ⟨o, ho, fun v q => by rw [hd] at q; cases q⟩
  keep := fun i h h' st k => by
    obtain ⟨⟨old, he⟩, ⟨o, ho, r⟩, hne⟩ := st
    exact ⟨⟨old, k e (by simp) _ he⟩, ⟨o, k it (by simp) _ ho, r⟩, hne⟩
  item := by
    intro X hP hw hK hc i pins s σ H E I hf st hg
    subst hP hw hK
    obtain ⟨⟨old, he⟩, hit, hne⟩ := st
    obtain ⟨xs, x, hq, hx⟩ := hg
    obtain ⟨its, rv, p, hz⟩ := I.tuple hq
    obtain ⟨u, hu, ru⟩ := rv.get hx
    have hd : X.A.in1.handled = none := I.ok.hd hc
    have hel : e < s.heap.objs.size := Heap.lt_size he
    have hil : it < s.heap.objs.size := by obtain ⟨_, q, _⟩ := hit; exact Heap.lt_size q
    have n1 : i < its.toArray.size := by
      have := (List.getElem?_eq_some_iff.mp hu).1
      simpa using this
    refine wpAny_pyNext_enum_itemD (drawT hd it a ait its.toArray) he ⟨hit, p⟩ n1 hne (by simp [hne, Ne.symm ae]) fun u' h' tk gu ho hit' hT hsz hk => ?_
    have eu : u' = u := by
      have : its.toArray[i]? = some u := by simpa using hu
      rw [gu] at this
      exact Option.some.inj this
    subst eu
    refine ⟨_, rfl, wpAny_letOwnedTupleGo_enum (s := { s with heap := h', toks := tk + 1 }) ho fun h'' he' sb => ?_⟩
    have hT2 : h''.get? s.heap.objs.size = some { cls := .type "tuple", data := .seq #[.int i tk, u'] } := (sb.2 _ (Nat.ne_of_gt hel)).trans hT
    have new : ObjOk X.prog X.w (upd H s.heap.objs.size (.tup [.int (i : Nat), x])) h'' s.heap.objs.size (.tup [.int (i : Nat), x]) :=
      ⟨by show 2 ≤ sizeLine; decide, [.int i tk, u'], .cons ⟨_, rfl⟩ (.cons ru .nil), ⟨_, hT2, rfl, _, rfl⟩⟩
    have I1 : Inv X pins σ (upd H s.heap.objs.size (.tup [.int (i : Nat), x])) { s with heap := h'', toks := tk + 1 } :=
      I.turnedNew (t' := tk + 1) (ch := [e, it]) (fun b ob hb q => (sb.2 b (fun z => hb (by simp [z]))).trans (hk b ob (fun z => hb (by simp [z])) (fun z => hb (by simp [z])) q)) hf (Nat.le_refl _) new
    refine ⟨.ref s.heap.objs.size, _, I1, rfl, ⟨_, x, rfl, I.hok.fresh (Nat.le_refl _), rfl, fun ys hy => by rw [I.tuple_inj hy hq]; exact hx⟩, ⟨⟨u', ?_⟩, ?_, hne⟩, fun b hb => ?_⟩
    · have e1 : ((i + 1 : Nat) : Int) = (i : Int) + 1 := by omega
      rw [e1]; exact he'
    · obtain ⟨⟨o4, e4, r4⟩, _⟩ := hit'
      exact ⟨o4, (sb.2 it (Ne.symm hne)).trans e4, r4⟩
    · have hb' : b < s.heap.objs.size := by
        have e' : b = e ∨ b = it := by simpa using hb
        rcases e' with z | z
        · rw [z]; exact hel
        · rw [z]; exact hil
      rw [upd_ne (Nat.ne_of_lt hb')]
      exact (hf b hb).1
  done := by
    intro X hP hw hK hc i pins s σ H E I hf st hg
    subst hP hw hK
    obtain ⟨⟨old, he⟩, hit, hne⟩ := st
    obtain ⟨xs, hq, hx⟩ := hg
    obtain ⟨its, rv, p, hz⟩ := I.tuple hq
    obtain ⟨f0, f1, f2, f3, f4, f5⟩ := hf it (by simp)
    have hd : X.A.in1.handled = none := I.ok.hd hc
    have hl : its.toArray.size = i := by
      have := rv.length
      simp
      omega
    subst hl
    exact wpAny_pyNext_enum_endD (drawT hd it a ait its.toArray) he ⟨hit, p⟩ fun h' eb => ⟨rfl, I.turned (t' := s.toks) (fun b o hb q => eb b o hb q) f0 f1 f3 f4 f5⟩
  self := fun A i s Q E st h => let ⟨⟨_, he⟩, _⟩ := st; wpAny_pyIter_enum he h
def iEnumB (K : PySem.W.Frag) (ta : TA) : TI := fun σ H R => ta σ H fun vs H1 => ∃ a xs, vs = [.ref a] ∧ ((SqL K H1 a xs ∧ R (Ite K a) H1) ∨ (SqT K H1 a xs ∧ R (IteT K a) H1))
theorem pi_enumB {X : Cx} {e : Expr} {ta : TA} {p pos tpos : Pos} {elts : List Expr} {kk : Nat} (hg : Gl X "enumerate") (hm : X.mg "enumerate" = none) (ha : PA X [e] ta) (hs : starEach [e] X.env = [(false, eval e X.env)]) :
    PI X (.Tuple elts kk tpos) (.Call (.Name "enumerate" p) [e] [] pos) (iEnumB X.K ta) := by
  refine ⟨fun pins s σ H R I h => ?_⟩
  refine Call_ (ld_blt I hg hm boot_enumerate (PyProof.Rows.callWith_type1 (thn (ha.run pos pins s σ H _ I h) fun us s1 ⟨vs, H1, I1, r1, q1⟩ => ?_) hs rfl))
  obtain ⟨a, xs, ex, hq⟩ := q1
  subst ex
  cases r1 with
  | cons r rr =>
    cases rr
    cases r
    rcases hq with ⟨hq, q⟩ | ⟨hq, q⟩
    · obtain ⟨its, rv, p', hz⟩ := I1.list hq
      refine call_enumerate_list p'.isList fun h' he hit hsz hk => wpAny_pyIter_enum he ?_
      have I2 : Inv X pins σ H1 { s1 with heap := h' } := I1.kept (t' := s1.toks) hk
      refine ⟨s1.heap.objs.size + 1, [s1.heap.objs.size + 1, s1.heap.objs.size], _, _, H1, rfl, I2, turn_enum a (s1.heap.objs.size + 1) s1.heap.objs.size, ⟨⟨.none, he⟩, hit, Nat.succ_ne_self _⟩, fun b hb => ?_, q⟩
      have e' : b = s1.heap.objs.size + 1 ∨ b = s1.heap.objs.size := by simpa using hb
      have hle : s1.heap.objs.size ≤ b := by
        rcases e' with z | z
        · rw [z]; exact Nat.le_add_right _ _
        · rw [z]; exact Nat.le_refl _
      exact I1.fpOk hle (I1.hok.fresh hle)
    · obtain ⟨its, rv, p', hz⟩ := I1.tuple hq
      have hlt : a < s1.heap.objs.size := by
        obtain ⟨o, e, _⟩ := id p'
        exact Heap.lt_size e
      refine call_enumerate_tuple p' fun h' he hit hk => wpAny_pyIter_enum he ?_
      have I2 : Inv X pins σ H1 { s1 with heap := h' } := I1.kept (t' := s1.toks) hk
      refine ⟨s1.heap.objs.size + 1, [s1.heap.objs.size + 1, s1.heap.objs.size], _, _, H1, rfl, I2, turn_enumT a (s1.heap.objs.size + 1) s1.heap.objs.size (Nat.ne_of_lt hlt) (Nat.ne_of_lt (Nat.lt_succ_of_lt hlt)), ⟨⟨.none, he⟩, hit, Nat.succ_ne_self _⟩, fun b hb => ?_, q⟩
      have e' : b = s1.heap.objs.size + 1 ∨ b = s1.heap.objs.size := by simpa using hb
      have hle : s1.heap.objs.size ≤ b := by
        rcases e' with z | z
        · rw [z]; exact Nat.le_add_right _ _
        · rw [z]; exact Nat.le_refl _
      exact I1.fpOk hle (I1.hok.fresh hle)
theorem walks_enumT {g : G} {z : Z} {a : Addr} {ds : List D} (d : Dat g z (.tup ds) (.ref a)) : Walks g (IteT g.K a) z (ds.zipIdx.map fun (d, i) => .p (.tup [.int (i : Nat), d])) := by
  have at_ : ∀ B S H, Sub g z ⟨B, S, H⟩ → ∃ vs, SqT g.K H a vs ∧ DatL g ⟨B, S, H⟩ ds vs := fun B S H s => by
    obtain ⟨a', vs, e, t, l⟩ := s.dat _ _ d
    cases e
    exact ⟨vs, t, l⟩
  refine ⟨fun i B S H s so hi => ?_, fun i B S H x H' y s so hy q => ?_, fun B S H s so => ?_⟩
  · obtain ⟨vs, t, l⟩ := at_ B S H s
    rw [List.length_map, List.length_zipIdx] at hi
    obtain ⟨v, hv, _⟩ := l.get (List.getElem?_eq_getElem hi)
    exact ⟨vs, v, t, hv⟩
  · obtain ⟨vs, t, l⟩ := at_ B S H s
    obtain ⟨T, v, rfl, nT, rfl, q1⟩ := q
    rw [List.getElem?_map, List.getElem?_zipIdx] at hy
    cases h1 : ds[i]? with
    | none => rw [h1] at hy; cases hy
    | some x1 =>
      rw [h1] at hy
      simp only [Option.map_some, Option.some.injEq] at hy
      subst hy
      obtain ⟨v', hv, dv⟩ := l.get h1
      have e1 := (q1 vs t).symm.trans hv
      cases e1
      refine ⟨so.new nT, Stab.new so nT, ?_⟩
      have : (0 + i : Nat) = i := Nat.zero_add i
      rw [this]
      exact new_tup so nT ⟨.int (i : Nat), [v], rfl, rfl, v, [], rfl, dv, rfl⟩
  · obtain ⟨vs, t, l⟩ := at_ B S H s
    exact ⟨vs, t, by rw [List.length_map, List.length_zipIdx, l.len]⟩
section
variable {fa : Ad} {cl : Nat → List A → Store → Rz A} {X : Cx} {e : Expr} {c : C} {pos : Pos}
theorem si_enum {p tpos : Pos} {elts : List Expr} {kk : Nat} (hg : Gl X "enumerate") (hmg : X.mg "enumerate" = none) (h : SA fa cl X [e] [c]) (hs : starEach [e] X.env = [(false, eval e X.env)]) :
    SI fa cl X (.Tuple elts kk tpos) (.Call (.Name "enumerate" p) [e] [] pos) .enum [c] :=
  (pi_enumB hg hmg h hs).imp fun σ H R q => by
    obtain ⟨B, S, ρ, xs, S', items, eo, so, hm, hw, k⟩ := q
    refine tA.use eo so hm fun vs B1 H1 so1 st1 eo1 d1 => ?_
    unfold walkF at hw
    split at hw <;> try (cases hw)
    all_goals (rename_i heq; try (cases heq))
    · obtain ⟨v, rfl, e1⟩ := d1.one
      obtain ⟨a, vs, rfl, t1, n1, l1⟩ := id e1
      exact ⟨a, vs, rfl, .inl ⟨SqL.of t1, k _ B1 H1 so1 st1 (walks_enum e1)⟩⟩
    · obtain ⟨v, rfl, e1⟩ := d1.one
      obtain ⟨a, vs, rfl, t1, l1⟩ := id e1
      exact ⟨a, vs, rfl, .inr ⟨t1, k _ B1 H1 so1 st1 (walks_enumT e1)⟩⟩
end
end Fw

/-! Calls that may raise, instances. -/
namespace Fw
open PySem PySem.Spec PyProof.Rows L2
/-- what is known of an exception's class -/
structure XcK (K : PySem.W.Frag) (few mis : Value) (as : List Str) (C : Addr) : Prop where
  few : PySem.W.exmAny K (.ref C) [few, mis] = some true
  xf : XfC K C
  code : PySem.W.findIn K (.ref C) "code" = some none
  fld : ∀ y ∈ as, PySem.W.findIn K (.ref C) y = some none
/-- an exception in the air and what stands for it -/
def ExOk (g : G) (z : Z) (e : Exn) (cls : Value) (d : Option Addr) : Prop := cls = .ref (g.fa.c e.c) ∧ XcK g.K (.ref g.fa.few) (.ref g.fa.mis) fldNames (g.fa.c e.c) ∧
  ∃ (dd : Addr) (fs : List (Str × V)), d = some dd ∧ z.H dd = some (.xd fs) ∧ ∀ n x, e.at n = some x → ∃ v, fs.lookup n = some v ∧ Dat g z x v
/-- what is wanted behind an expression that ends by r -/
def AfZ (g : G) (z : Z) (Q : VK) (E : XK) : Rz A → Prop
  | .ok x S' => ∀ v B' H', StoreOk g ⟨B', S', H'⟩ → Stab g z ⟨B', S', H'⟩ → DatA g ⟨B', S', H'⟩ x v → Q v H'
  | .ex e S' => ∀ cls d B' H', StoreOk g ⟨B', S', H'⟩ → Stab g z ⟨B', S', H'⟩ → ExOk g ⟨B', S', H'⟩ e cls d → E cls d H'
  | .bad => False
theorem AfZ.mono {g : G} {z z' : Z} {Q : VK} {E : XK} {r : Rz A} (h : AfZ g z Q E r) (s : Stab g z z') : AfZ g z' Q E r := by
  cases r with
  | ok x S => exact fun v B' H' so st d => h v B' H' so (s.trans st) d
  | ex e S => exact fun c d B' H' so st x => h c d B' H' so (s.trans st) x
  | bad => exact h
theorem AfZ.np {α : Type} {g : G} {z : Z} {Q : VK} {E : XK} {r : Rz α} {f : α → Store → Rz A} (h : AfZ g z Q E (r.np.bind f)) : ∃ a S, r = .ok a S ∧ AfZ g z Q E (f a S) := by
  cases r with
  | ok a S => exact ⟨a, S, rfl, h⟩
  | ex e S => exact False.elim h
  | bad => exact False.elim h
def tX (g : G) (E : XK) (m : Env → Store → Rz A) : TE := fun σ H Q => ∃ B S ρ, EnvOk g ⟨B, S, H⟩ ρ σ ∧ StoreOk g ⟨B, S, H⟩ ∧ AfZ g ⟨B, S, H⟩ Q E (m ρ S)
def spX (g : G) (np : Nat) (m : List A → Store → Rz A) : Sp := fun vs H Q E => ∃ B S xs, StoreOk g ⟨B, S, H⟩ ∧ DatAL g ⟨B, S, H⟩ xs vs ∧ xs.length = np ∧ AfZ g ⟨B, S, H⟩ Q E (m xs S)
theorem spX_of {g : G} {np : Nat} {m : List A → Store → Rz A} {vs : List V} {H : Hp} {Q : VK} {E : XK} (h : spF g np m vs H Q E) : spX g np m vs H Q E := by
  obtain ⟨B, S, xs, x, S', so, d, hl, hm, k⟩ := h
  refine ⟨B, S, xs, so, d, hl, ?_⟩
  rw [hm]
  exact k
theorem ExOk.cut {g : G} {B : Bk} {S : Store} {H : Hp} {n : Nat} {e : Exn} {c : Value} {d : Option Addr} (h : ExOk g ⟨B, S, H⟩ e c d) : ExOk g ⟨B.take n, S.take n, H⟩ e c d := by
  obtain ⟨h1, h2, dd, fs, h3, h4, h5⟩ := h
  refine ⟨h1, h2, dd, fs, h3, h4, fun m x hx => ?_⟩
  obtain ⟨v, a, b⟩ := h5 m x hx
  exact ⟨v, a, Dat.cut b⟩
/-! ### attributes -/
theorem getN_dat {g : G} {z : Z} {n : Str} {d : D} : ∀ {ns : List Str} {ds : List D} {vs : List V}, DatL g z ds vs → getN n ns ds = some d → ∃ v, (ns.zip vs).lookup n = some v ∧ Dat g z d v
  | [], ds, vs, _, h => by
    unfold getN at h
    cases ds <;> simp at h
  | m :: ns, [], vs, _, h => by
    unfold getN at h
    simp at h
  | m :: ns, x :: ds, _, ⟨v, r, e, a, b⟩, h => by
    subst e
    unfold getN at h
    rw [List.zip_cons_cons, List.lookup_cons] at h ⊢
    split at h
    · cases h
      exact ⟨v, rfl, a⟩
    · exact getN_dat b h
theorem none_dat {n : Str} : ∀ {ns : List Str} {vs : List V}, (ns.any fun x => x == n) = false → (ns.zip vs).lookup n = none
  | [], vs, _ => by cases vs <;> rfl
  | m :: ns, [], _ => rfl
  | m :: ns, v :: vs, h => by
    rw [List.any_cons, Bool.or_eq_false_iff] at h
    rw [List.zip_cons_cons, List.lookup_cons]
    have : (n == m) = false := by
      have h1 := h.1
      rw [beq_eq_false_iff_ne] at h1 ⊢
      exact fun z => h1 z.symm
    rw [this]
    exact none_dat h.2
theorem insF_at {g : G} {B : Bk} {S : Store} {H : Hp} {x : A} {v : V} {c : Nat} {ns : List Str} {ds : List D} (so : StoreOk g ⟨B, S, H⟩) (d : DatA g ⟨B, S, H⟩ x v) (h : insF x S = some (c, ns, ds)) :
    ∃ a dx vs, v = .ref a ∧ H a = some (.ins (g.fa.c c) dx (ns.zip vs)) ∧ ns.length = ds.length ∧ DatL g ⟨B, S, H⟩ ds vs := by
  unfold insF at h
  split at h
  · cases h
    obtain ⟨a, dx, vs, e, t, _, l, q⟩ := d
    exact ⟨a, dx, vs, e, t, l, q⟩
  · split at h
    · rename_i hs
      cases h
      obtain ⟨a, hb, e, _⟩ := d
      obtain ⟨u, hu, dx, vs, eu, l, q⟩ := so.obj _ a _ hb hs (fun z => by cases z)
      subst eu
      exact ⟨a, dx, vs, e, hu, l, q⟩
    · cases h
  · cases h
theorem datA_map {g : G} {z : Z} : ∀ {ds : List D} {vs : List V}, DatL g z ds vs → DatAL g z (ds.map .p) vs
  | [], _, h => h
  | d :: ds, _, ⟨v, r, e, a, b⟩ => ⟨v, r, e, a, datA_map b⟩
theorem insG_at {g : G} {B : Bk} {S : Store} {H : Hp} {x : A} {v : V} {c : Nat} {ns : List Str} {xs : List A} (so : StoreOk g ⟨B, S, H⟩) (d : DatA g ⟨B, S, H⟩ x v) (h : insG x S = some (c, ns, xs)) :
    ∃ a dx vs, v = .ref a ∧ H a = some (.ins (g.fa.c c) dx (ns.zip vs)) ∧ ns.length = xs.length ∧ DatAL g ⟨B, S, H⟩ xs vs := by
  unfold insG at h
  split at h
  · cases h
    obtain ⟨a, dx, vs, e, t, _, l, q⟩ := d
    exact ⟨a, dx, vs, e, t, by rw [List.length_map]; exact l, datA_map q⟩
  · split at h
    · rename_i hs
      cases h
      obtain ⟨a, hb, e, _⟩ := d
      obtain ⟨u, hu, dx, vs, eu, l, q⟩ := so.obj _ a _ hb hs (fun z => by cases z)
      subst eu
      exact ⟨a, dx, vs, e, hu, by rw [List.length_map]; exact l, datA_map q⟩
    · rename_i hs
      cases h
      obtain ⟨a, hb, e, _⟩ := d
      obtain ⟨u, hu, dx, vs, eu, l, q⟩ := so.obj _ a _ hb hs (fun z => by cases z)
      subst eu
      exact ⟨a, dx, vs, e, hu, l, q⟩
    · cases h
  · cases h
theorem getA_dat {g : G} {z : Z} {n : Str} {d : A} : ∀ {ns : List Str} {ds : List A} {vs : List V}, DatAL g z ds vs → getN n ns ds = some d → ∃ v, (ns.zip vs).lookup n = some v ∧ DatA g z d v
  | [], ds, vs, _, h => by
    unfold getN at h
    cases ds <;> simp at h
  | m :: ns, [], vs, _, h => by
    unfold getN at h
    simp at h
  | m :: ns, x :: ds, _, ⟨v, r, e, a, b⟩, h => by
    subst e
    unfold getN at h
    rw [List.zip_cons_cons, List.lookup_cons] at h ⊢
    split at h
    · cases h
      exact ⟨v, rfl, a⟩
    · exact getA_dat b h
/-- an attribute is set, in both -/
theorem putN_dat {g : G} {z : Z} {n : Str} {d : D} {y : V} (dy : Dat g z d y) : ∀ {ns : List Str} {ds : List D} {vs : List V}, ns.length = ds.length → DatL g z ds vs →
    ∃ ws, DatL g z (putN n d ns ds).2 ws ∧ (putN n d ns ds).1.zip ws = putF n y (ns.zip vs) ∧ (putN n d ns ds).1.length = (putN n d ns ds).2.length
  | [], [], vs, _, h => by
    rw [show vs = [] from h]
    exact ⟨[y], ⟨y, [], rfl, dy, rfl⟩, rfl, rfl⟩
  | m :: ns, x :: ds, _, hl, ⟨v, r, e, a, b⟩ => by
    subst e
    rw [List.zip_cons_cons, putN]
    show ∃ ws, _ ∧ _ = (if m = n then (m, y) :: ns.zip r else (m, v) :: putF n y (ns.zip r)) ∧ _
    by_cases hm : m = n
    · rw [if_pos hm, if_pos hm]
      exact ⟨y :: r, ⟨y, r, rfl, dy, b⟩, rfl, hl⟩
    · rw [if_neg hm, if_neg hm]
      obtain ⟨ws, h1, h2, h3⟩ := putN_dat dy (Nat.succ.inj hl) b
      exact ⟨v :: ws, ⟨v, ws, rfl, a, h1⟩, by rw [List.zip_cons_cons, h2], by rw [List.length_cons, List.length_cons, h3]⟩
  | [], _ :: _, _, hl, _ => by cases hl
  | _ :: _, [], _, hl, _ => by cases hl
section
variable {fa : Ad} {cl : Nat → List A → Store → Rz A} {X : Cx} {e a b tg o : Expr} {c ca cb co : C} {pos apos : Pos} {k : Nat} {es : List Expr} {cs : List C} {E : XK}
abbrev SX (fa : Ad) (cl : Nat → List A → Store → Rz A) (E : XK) (X : Cx) (e : Expr) (x : XC) : Prop := PE X e (tX (gx X fa) E (xcF cl x))
theorem SX.se {h : Hd} (s : SX fa cl E0 X e (.app h cs)) : SE fa cl X e (.app h cs) := s.imp fun σ H Q q => by
  obtain ⟨B, S, ρ, z, S', eo, so, hm, k⟩ := q
  rw [ev] at hm
  obtain ⟨y, S2, hy, hm2⟩ := Rz.bind_ok hm
  rw [tst_f] at hm2
  cases hm2
  refine ⟨B, S, ρ, eo, so, ?_⟩
  show AfZ _ _ _ _ ((evs cl cs ρ S).np.bind _)
  rw [hy]
  exact k
theorem SX.sem {ci fi : Nat} {m : Str} {ds : List D} (s : SX fa cl E0 X e (.meth ci fi m co cs ds)) : SE fa cl X e (.meth ci fi m co cs ds) := s.imp fun σ H Q q => by
  obtain ⟨B, S, ρ, z, S', eo, so, hm, k⟩ := q
  rw [ev] at hm
  obtain ⟨y, S2, hy, hm2⟩ := Rz.bind_ok hm
  rw [tst_f] at hm2
  cases hm2
  refine ⟨B, S, ρ, eo, so, ?_⟩
  show AfZ _ _ _ _ ((ev cl false co ρ S).np.bind _)
  rw [hy]
  exact k
theorem sx_fn {f : Addr} {fd : FuncData} {ps : List Str} {fi : Nat} {x : Str} {p : Pos} {dsV : List Value} {dvs : List V} {ds : List D} {np : Nat} (F : FnOk X.prog X.w X.K X.mg X.base (L2.CX X.prog X.w) k f fd ps (spX (gx X fa) np (cl fi))) (hr : Room k X.A) (hg : Gl X x) (hmg : X.mg x = some (.ref f))
    (hk : PySem.W.keepIn X.K (.ref f) = true) (hb : Binds X.K fd ps dsV) (hd : Vals dvs dsV) (hdd : ∀ z, DatL (gx X fa) z ds dvs) (hn : cs.length + ds.length + 1 = np) (hx : Passes (L2.CX X.prog X.w) X E) (ha : SA fa cl X (e :: es) (c :: cs))
    (hdb : (x == ("__debug__" : Str)) = false) (he : starEach (e :: es) X.env = (false, eval e X.env) :: starEach es X.env) (hpl : (backTo pos (starEach es X.env)).any (·.1) = false) : SX fa cl E X (.Call (.Name x p) (e :: es) [] pos) (.app (.fn fi ds) (c :: cs)) :=
  (pe_call F hr hg hmg hk hb hd hx ha hdb he hpl).imp fun σ H Q q => by
    obtain ⟨B, S, ρ, eo, so, h⟩ := q
    obtain ⟨xs, S1, hxs, h1⟩ := AfZ.np h
    refine tA.use eo so hxs fun vs B1 H1 so1 st1 eo1 d1 => ⟨B1, S1, xs ++ ds.map A.p, so1, d1.app (hdd _).ofP, ?_, h1.mono st1⟩
    rw [List.length_append, List.length_map, evs_len hxs, List.length_cons]
    omega
theorem sx_fn0 {f : Addr} {fd : FuncData} {ps : List Str} {fi : Nat} {x : Str} {p : Pos} {dsV : List Value} {dvs : List V} {ds : List D} {np : Nat} (F : FnOk X.prog X.w X.K X.mg X.base (L2.CX X.prog X.w) k f fd ps (spX (gx X fa) np (cl fi))) (hr : Room k X.A) (hg : Gl X x) (hmg : X.mg x = some (.ref f))
    (hk : PySem.W.keepIn X.K (.ref f) = true) (hb : Binds X.K fd ps dsV) (hd : Vals dvs dsV) (hdd : ∀ z, DatL (gx X fa) z ds dvs) (hn : ds.length = np) (hx : Passes (L2.CX X.prog X.w) X E)
    (hdb : (x == ("__debug__" : Str)) = false) : SX fa cl E X (.Call (.Name x p) [] [] pos) (.app (.fn fi ds) []) :=
  (pe_call0 F hr hg hmg hk hb hd hx hdb).imp fun σ H Q q => by
    obtain ⟨B, S, ρ, eo, so, h⟩ := q
    rw [xcF, evs] at h
    have h1 : AfZ (gx X fa) ⟨B, S, H⟩ Q E (cl fi ([] ++ ds.map A.p) S) := h
    exact ⟨B, S, [] ++ ds.map A.p, so, (hdd _).ofP, by rw [List.nil_append, List.length_map]; exact hn, h1⟩
/-- a new instance, from its __init__ -/
theorem mk_sp {ci fi np : Nat} {B : Bk} {S : Store} {H : Hp} {xs : List A} {vs : List V} {Q : VK} (so : StoreOk (gx X fa) ⟨B, S, H⟩) (d : DatAL (gx X fa) ⟨B, S, H⟩ xs vs) (hl : xs.length + 1 = np) (h : AfZ (gx X fa) ⟨B, S, H⟩ Q E (mkF cl ci fi xs S)) :
    ∀ x dx, H x = none → H dx = none → dx ≠ x → spX (gx X fa) np (cl fi) (.ref x :: vs) (upd (upd H dx (.own x)) x (.ins (fa.c ci) dx [])) (fun v H2 => v = .non ∧ Q (.ref x) H2) E := by
  intro x dx hx hdx hne
  have s1 := so.new (o := .own x) hdx
  have t1 := Stab.new (o := .own x) so hdx
  have hx1 : upd H dx (HO.own x) x = none := by
    rw [upd_ne (Ne.symm hne)]
    exact hx
  have ob : Ob (gx X fa) ⟨B, S, upd H dx (.own x)⟩ x (.ins ci [] []) (.ins (fa.c ci) dx []) := ⟨dx, [], rfl, rfl, rfl⟩
  have s2 := s1.allocO hx1 ob
  have t2 : Stab (gx X fa) ⟨B, S, H⟩ ⟨B.add x, S ++ [.ins ci [] []], upd (upd H dx (.own x)) x (.ins (fa.c ci) dx [])⟩ := t1.trans (Stab.alloc s1 hx1)
  have lB : B.l.length = S.length := so.len
  have bx : (B.add x).l[S.length]? = some x := by
    show (B.l ++ [x])[S.length]? = some x
    rw [← lB, List.getElem?_append_right (Nat.le_refl _), Nat.sub_self]
    rfl
  have bn : (S ++ [MO.ins ci [] []])[S.length]? ≠ some .resv := new_nr (fun z => by cases z)
  refine ⟨B.add x, S ++ [.ins ci [] []], .m S.length :: xs, s2, ⟨.ref x, vs, rfl, ⟨x, bx, rfl, bn⟩, t2.datAL d⟩, by rw [List.length_cons]; exact hl, ?_⟩
  unfold mkF at h
  cases hr : cl fi (.m S.length :: xs) (S ++ [.ins ci [] []]) with
  | bad =>
    rw [hr] at h
    exact h
  | ex e S' =>
    rw [hr] at h
    dsimp only at h
    intro cls dd B' H' so' st' xo
    exact h cls dd _ H' so'.cut ((t2.trans st').cut (by rw [show (Z.mk B S H).B.l.length = B.l.length from rfl, lB]; exact Nat.le_refl _)) xo.cut
  | ok y S' =>
    rw [hr] at h
    cases y with
    | m i => exact False.elim h
    | p d0 =>
      cases d0 with
      | non =>
        dsimp only at h
        intro v B' H' so' st' dv
        refine ⟨dv, ?_⟩
        split at h
        · rename_i c' ns ds hs
          split at h
          · rename_i hc
            subst hc
            have bx' := (st'.pre _ _ bx bn).1
            obtain ⟨u, hu, dx', ws, eu, ln, dl⟩ := so'.obj _ _ _ bx' hs (fun z => by cases z)
            subst eu
            refine h (.ref x) _ H' so'.cut ((t2.trans st').cut (by rw [show (Z.mk B S H).B.l.length = B.l.length from rfl, lB]; exact Nat.le_refl _)) ⟨x, dx', ws, rfl, hu, fun q => ?_, ln, DatL.cutB dl⟩
            have bn' := (st'.pre _ _ bx bn).2
            rcases q with ⟨j, o, h1, h2, h3⟩ | q
            · have e1 := so'.nd j S.length x (at_take h1) bx' (lv_nr (at_take h2) h3) bn'
              have := (List.getElem?_eq_some_iff.mp h2).1
              rw [List.length_take] at this
              omega
            · exact bn' ((so'.ex x q).2 _ bx')
          · exact False.elim h
        · exact False.elim h
      | _ => exact False.elim h
/-- free places -/
theorem resvN {B : Bk} {S : Store} {H : Hp} (so : StoreOk (gx X fa) ⟨B, S, H⟩) : ∀ k, StoreOk (gx X fa) ⟨⟨B.l ++ List.replicate k 0, B.E⟩, S ++ List.replicate k .resv, H⟩ ∧ Stab (gx X fa) ⟨B, S, H⟩ ⟨⟨B.l ++ List.replicate k 0, B.E⟩, S ++ List.replicate k .resv, H⟩
  | 0 => by
    rw [List.replicate_zero, List.replicate_zero, List.append_nil, List.append_nil]
    exact ⟨so, Stab.refl⟩
  | k + 1 => by
    obtain ⟨s1, t1⟩ := resvN so k
    have s2 := s1.resv
    have t2 := Stab.resv s1
    have e1 : B.l ++ List.replicate (k + 1) 0 = (B.l ++ List.replicate k 0) ++ [0] := by rw [List.replicate_succ', List.append_assoc]
    have e2 : S ++ List.replicate (k + 1) MO.resv = (S ++ List.replicate k .resv) ++ [.resv] := by rw [List.replicate_succ', List.append_assoc]
    rw [e1, e2]
    exact ⟨s2, t1.trans t2⟩
theorem frzA_dat {g : G} {B' : Bk} {S' : Store} {H' : Hp} {n : Nat} (so : StoreOk g ⟨B', S', H'⟩) : ∀ {as : List A} {ds : List D} {vs : List V}, frzA n S' as = some ds → DatAL g ⟨B', S', H'⟩ as vs → DatL g ⟨B'.take n, S'.take n, H'⟩ ds vs ∧ ds.length = as.length
  | [], ds, vs, h, d => by
    cases h
    exact ⟨d, rfl⟩
  | .p d0 :: as, ds, vs, h, d => by
    obtain ⟨v, r, e, d1, d2⟩ := d
    rw [frzA] at h
    cases q : frzA n S' as with
    | none => rw [q] at h; cases h
    | some es =>
      rw [q] at h
      cases h
      obtain ⟨i1, i2⟩ := frzA_dat so q d2
      exact ⟨⟨v, r, e, Dat.cut d1, i1⟩, by rw [List.length_cons, List.length_cons, i2]⟩
  | .m j :: as, ds, vs, h, d => by
    obtain ⟨v, r, e, ⟨a, hb, ev, hnr⟩, d2⟩ := d
    rw [frzA] at h
    split at h
    · rename_i hn
      have nl : ∀ o, S'[j]? = some o → ¬ live (B'.take n) (S'.take n) a := fun o ho q => by
        rcases q with ⟨i, o', h1, h2, h3⟩ | q
        · have e1 := so.nd i j a (at_take h1) hb (lv_nr (at_take h2) h3) hnr
          have := (List.getElem?_eq_some_iff.mp h2).1
          rw [List.length_take] at this
          omega
        · exact hnr ((so.ex a q).2 j hb)
      split at h
      · rename_i xs hs
        cases q : frzA n S' as with
        | none => rw [q] at h; cases h
        | some es =>
          rw [q] at h
          cases h
          obtain ⟨i1, i2⟩ := frzA_dat so q d2
          obtain ⟨ws, hw, dw⟩ := so.ob j a xs hb hs
          exact ⟨⟨v, r, e, ⟨a, ws, ev, hw, nl _ hs, DatL.cutB dw⟩, i1⟩, by rw [List.length_cons, List.length_cons, i2]⟩
      · rename_i ks xs hs
        cases q : frzA n S' as with
        | none => rw [q] at h; cases h
        | some es =>
          rw [q] at h
          cases h
          obtain ⟨i1, i2⟩ := frzA_dat so q d2
          obtain ⟨u, hu, ws, eu, ln, dw⟩ := so.obj j a _ hb hs (fun z => by cases z)
          subst eu
          exact ⟨⟨v, r, e, ⟨a, ws, ev, hu, nl _ hs, ln, DatL.cutB dw⟩, i1⟩, by rw [List.length_cons, List.length_cons, i2]⟩
      · cases h
    · cases h
/-- a new instance whose attributes hold lists while it is made -/
theorem mkR_sp {ci fi np kk : Nat} {B : Bk} {S : Store} {H : Hp} {xs : List A} {vs : List V} {Q : VK} (so : StoreOk (gx X fa) ⟨B, S, H⟩) (d : DatAL (gx X fa) ⟨B, S, H⟩ xs vs) (hl : xs.length + 1 = np) (h : AfZ (gx X fa) ⟨B, S, H⟩ Q E (mkR cl ci fi kk xs S)) :
    ∀ x dx, H x = none → H dx = none → dx ≠ x → spX (gx X fa) np (cl fi) (.ref x :: vs) (upd (upd H dx (.own x)) x (.ins (fa.c ci) dx [])) (fun v H2 => v = .non ∧ Q (.ref x) H2) E := by
  intro x dx hx hdx hne
  obtain ⟨s0, t0⟩ := resvN so kk
  have lB : B.l.length = S.length := so.len
  have s1 := s0.new (o := .own x) hdx
  have t1 := Stab.new (o := .own x) s0 hdx
  have hx1 : upd H dx (HO.own x) x = none := by
    rw [upd_ne (Ne.symm hne)]
    exact hx
  have ob : Ob (gx X fa) ⟨⟨B.l ++ List.replicate kk 0, B.E⟩, S ++ List.replicate kk .resv, upd H dx (.own x)⟩ x (.inm ci [] []) (.ins (fa.c ci) dx []) := ⟨dx, [], rfl, rfl, rfl⟩
  have s2 := s1.allocO hx1 ob (by intro c ns as e j hj; cases e; cases hj)
  have t2 := (t0.trans t1).trans (Stab.alloc (o := .inm ci [] []) (u := .ins (fa.c ci) dx []) s1 hx1)
  have ls : (S ++ List.replicate kk MO.resv).length = S.length + kk := by rw [List.length_append, List.length_replicate]
  have lb : (B.l ++ List.replicate kk 0).length = S.length + kk := by rw [List.length_append, List.length_replicate, lB]
  have bx : (Bk.add ⟨B.l ++ List.replicate kk 0, B.E⟩ x).l[S.length + kk]? = some x := by
    show ((B.l ++ List.replicate kk 0) ++ [x])[S.length + kk]? = some x
    rw [← lb, List.getElem?_append_right (Nat.le_refl _), Nat.sub_self]
    rfl
  have bn : ((S ++ List.replicate kk MO.resv) ++ [MO.inm ci [] []])[S.length + kk]? ≠ some .resv := by
    rw [← ls]
    exact new_nr (fun z => by cases z)
  refine ⟨_, _, .m (S.length + kk) :: xs, s2, ⟨.ref x, vs, rfl, ⟨x, bx, rfl, bn⟩, t2.datAL d⟩, by rw [List.length_cons]; exact hl, ?_⟩
  unfold mkR at h
  cases hr : cl fi (.m (S.length + kk) :: xs) (S ++ List.replicate kk .resv ++ [.inm ci [] []]) with
  | bad =>
    rw [hr] at h
    exact h
  | ex e S' =>
    rw [hr] at h
    dsimp only at h
    intro cls dd B' H' so' st' xo
    exact h cls dd _ H' so'.cut ((t2.trans st').cut (by rw [show (Z.mk B S H).B.l.length = B.l.length from rfl, lB]; exact Nat.le_refl _)) xo.cut
  | ok y S' =>
    rw [hr] at h
    cases y with
    | m i => exact False.elim h
    | p d0 =>
      cases d0 with
      | non =>
        dsimp only at h
        intro v B' H' so' st' dv
        refine ⟨dv, ?_⟩
        split at h
        · rename_i c' ns as hs
          split at h
          · rename_i hc
            subst hc
            split at h
            · rename_i ds hf
              have bx' := (st'.pre _ _ bx bn).1
              have bn' := (st'.pre _ _ bx bn).2
              obtain ⟨u, hu, dx', ws, eu, ln, dl⟩ := so'.obj _ _ _ bx' hs (fun z => by cases z)
              subst eu
              obtain ⟨f1, f2⟩ := frzA_dat so' hf dl
              refine h (.ref x) _ H' so'.cut ((t2.trans st').cut (by rw [show (Z.mk B S H).B.l.length = B.l.length from rfl, lB]; exact Nat.le_refl _)) ⟨x, dx', ws, rfl, hu, fun q => ?_, by rw [ln, f2], f1⟩
              rcases q with ⟨j, o, h1, h2, h3⟩ | q
              · have e1 := so'.nd j (S.length + kk) x (at_take h1) bx' (lv_nr (at_take h2) h3) bn'
                have := (List.getElem?_eq_some_iff.mp h2).1
                rw [List.length_take] at this
                omega
              · exact bn' ((so'.ex x q).2 _ bx')
            · exact False.elim h
          · exact False.elim h
        · exact False.elim h
      | _ => exact False.elim h
theorem sx_makeR {f : Addr} {fd : FuncData} {ps : List Str} {ci fi kk : Nat} {x : Str} {p : Pos} {dsV : List Value} {dvs : List V} {ds : List D} {np : Nat} (M : Mk X.K (fa.c ci) f) (F : FnOk X.prog X.w X.K X.mg X.base (L2.CX X.prog X.w) k f fd ps (spX (gx X fa) np (cl fi))) (hr : Room (k + 1) X.A) (hg : Gl X x) (hmg : X.mg x = some (.ref (fa.c ci)))
    (hb : Binds X.K fd ps dsV) (hd : Vals dvs dsV) (hdd : ∀ z, DatL (gx X fa) z ds dvs) (hn : cs.length + ds.length + 2 = np) (hx : Passes (L2.CX X.prog X.w) X E) (ha : SA fa cl X (e :: es) (c :: cs))
    (hdb : (x == ("__debug__" : Str)) = false) (he : starEach (e :: es) X.env = (false, eval e X.env) :: starEach es X.env) (hpl : (backTo pos (starEach es X.env)).any (·.1) = false) : SX fa cl E X (.Call (.Name x p) (e :: es) [] pos) (.app (.makeR ci fi kk ds) (c :: cs)) :=
  (pe_make M F hr hg hmg hb hd hx ha hdb he hpl).imp fun σ H Q q => by
    obtain ⟨B, S, ρ, eo, so, h⟩ := q
    obtain ⟨xs, S1, hxs, h1⟩ := AfZ.np h
    refine tA.use eo so hxs fun vs B1 H1 so1 st1 eo1 d1 => mkR_sp so1 (d1.app (hdd _).ofP) ?_ (h1.mono st1)
    rw [List.length_append, List.length_map, evs_len hxs, List.length_cons]
    omega
theorem sx_make {f : Addr} {fd : FuncData} {ps : List Str} {ci fi : Nat} {x : Str} {p : Pos} {dsV : List Value} {dvs : List V} {ds : List D} {np : Nat} (M : Mk X.K (fa.c ci) f) (F : FnOk X.prog X.w X.K X.mg X.base (L2.CX X.prog X.w) k f fd ps (spX (gx X fa) np (cl fi))) (hr : Room (k + 1) X.A) (hg : Gl X x) (hmg : X.mg x = some (.ref (fa.c ci)))
    (hb : Binds X.K fd ps dsV) (hd : Vals dvs dsV) (hdd : ∀ z, DatL (gx X fa) z ds dvs) (hn : cs.length + ds.length + 2 = np) (hx : Passes (L2.CX X.prog X.w) X E) (ha : SA fa cl X (e :: es) (c :: cs))
    (hdb : (x == ("__debug__" : Str)) = false) (he : starEach (e :: es) X.env = (false, eval e X.env) :: starEach es X.env) (hpl : (backTo pos (starEach es X.env)).any (·.1) = false) : SX fa cl E X (.Call (.Name x p) (e :: es) [] pos) (.app (.make ci fi ds) (c :: cs)) :=
  (pe_make M F hr hg hmg hb hd hx ha hdb he hpl).imp fun σ H Q q => by
    obtain ⟨B, S, ρ, eo, so, h⟩ := q
    obtain ⟨xs, S1, hxs, h1⟩ := AfZ.np h
    refine tA.use eo so hxs fun vs B1 H1 so1 st1 eo1 d1 => mk_sp so1 (d1.app (hdd _).ofP) ?_ (h1.mono st1)
    rw [List.length_append, List.length_map, evs_len hxs, List.length_cons]
    omega
theorem sx_meth {f : Addr} {fd : FuncData} {ps : List Str} {ci fi : Nat} {m : Str} {dsV : List Value} {dvs : List V} {ds : List D} {np : Nat} {pl : Sem Bool} (ho : SE fa cl X o co) (hc : Cls X.K (fa.c ci)) (hm : Meth X.K (fa.c ci) m f) (F : FnOk X.prog X.w X.K X.mg X.base (L2.CX X.prog X.w) k f fd ps (spX (gx X fa) np (cl fi))) (hr : Room k X.A)
    (hb : Binds X.K fd ps dsV) (hd : Vals dvs dsV) (hdd : ∀ z, DatL (gx X fa) z ds dvs) (hn : cs.length + ds.length + 2 = np) (hx : Passes (L2.CX X.prog X.w) X E) (ha : SA fa cl X (e :: es) (c :: cs))
    (he : starEach (e :: es) X.env = (false, eval e X.env) :: starEach es X.env) (hpl : (backTo pos (starEach es X.env)).any (·.1) = false)
    (ht : eval (.Call (.Attribute o m apos) (e :: es) [] pos) X.env = (do
      let ov ← eval o X.env
      standAt apos.atName
      let (f, first) ← holding [ov] (getMethod ov m pl)
      callWith pos f first (backTo pos (starEach (e :: es) X.env)) (backToKw pos (keywordEach [] X.env)))) : SX fa cl E X (.Call (.Attribute o m apos) (e :: es) [] pos) (.meth ci fi m co (c :: cs) ds) :=
  (pe_meth (pl := pl) ho hc hm F hr hb hd hx ha he hpl ht).imp fun σ H Q q => by
    obtain ⟨B, S, ρ, eo, so, h⟩ := q
    obtain ⟨x, S1, hx1, h1⟩ := AfZ.np h
    refine tE.use eo so hx1 fun v B1 H1 so1 st1 eo1 d1 => ?_
    split at h1
    · rename_i c' ns ds' hi
      split at h1
      · rename_i hc'
        rw [Bool.and_eq_true, decide_eq_true_eq, Bool.not_eq_true'] at hc'
        obtain ⟨rfl, hno⟩ := hc'
        obtain ⟨a, dx, vs, rfl, ha', ln, dl⟩ := insG_at so1 d1 hi
        obtain ⟨xs, S2, hxs, h2⟩ := AfZ.np h1
        refine ⟨a, dx, _, rfl, ha', none_dat hno, ?_⟩
        refine tA.use eo1 so1 hxs fun ws B2 H2 so2 st2 eo2 d2 => ⟨B2, S2, x :: (xs ++ ds.map A.p), so2, ⟨.ref a, _, rfl, st2.datA d1, d2.app (hdd _).ofP⟩, ?_, h2.mono (st1.trans st2)⟩
        rw [List.length_cons, List.length_append, List.length_map, evs_len hxs, List.length_cons]
        omega
      · exact False.elim h1
    · exact False.elim h1
theorem sx_meth0 {f : Addr} {fd : FuncData} {ps : List Str} {ci fi : Nat} {m : Str} {dsV : List Value} {dvs : List V} {ds : List D} {np : Nat} {pl : Sem Bool} (ho : SE fa cl X o co) (hc : Cls X.K (fa.c ci)) (hm : Meth X.K (fa.c ci) m f) (F : FnOk X.prog X.w X.K X.mg X.base (L2.CX X.prog X.w) k f fd ps (spX (gx X fa) np (cl fi))) (hr : Room k X.A)
    (hb : Binds X.K fd ps dsV) (hd : Vals dvs dsV) (hdd : ∀ z, DatL (gx X fa) z ds dvs) (hn : ds.length + 1 = np) (hx : Passes (L2.CX X.prog X.w) X E)
    (ht : eval (.Call (.Attribute o m apos) [] [] pos) X.env = (do
      let ov ← eval o X.env
      standAt apos.atName
      let (f, first) ← holding [ov] (getMethod ov m pl)
      callWith pos f first (backTo pos (starEach [] X.env)) (backToKw pos (keywordEach [] X.env)))) : SX fa cl E X (.Call (.Attribute o m apos) [] [] pos) (.meth ci fi m co [] ds) :=
  (pe_meth0 (pl := pl) ho hc hm F hr hb hd hx ht).imp fun σ H Q q => by
    obtain ⟨B, S, ρ, eo, so, h⟩ := q
    obtain ⟨x, S1, hx1, h1⟩ := AfZ.np h
    refine tE.use eo so hx1 fun v B1 H1 so1 st1 eo1 d1 => ?_
    split at h1
    · rename_i c' ns ds' hi
      split at h1
      · rename_i hc'
        rw [Bool.and_eq_true, decide_eq_true_eq, Bool.not_eq_true'] at hc'
        obtain ⟨rfl, hno⟩ := hc'
        obtain ⟨a, dx, vs, rfl, ha', ln, dl⟩ := insG_at so1 d1 hi
        obtain ⟨xs, S2, hxs, h2⟩ := AfZ.np h1
        rw [evs] at hxs
        cases hxs
        refine ⟨a, dx, _, rfl, ha', none_dat hno, ?_⟩
        exact ⟨B1, S1, x :: ([] ++ ds.map A.p), so1, ⟨.ref a, _, rfl, d1, (hdd _).ofP⟩, by rw [List.length_cons, List.nil_append, List.length_map]; exact hn, h2.mono st1⟩
      · exact False.elim h1
    · exact False.elim h1
theorem SX.semK {ci fi : Nat} {m : Str} {ks : List C} {asm : List (Nat ⊕ D)} (s : SX fa cl E0 X e (.methK ci fi m co ks asm)) : SE fa cl X e (.methK ci fi m co ks asm) := s.imp fun σ H Q q => by
  obtain ⟨B, S, ρ, z, S', eo, so, hm, k⟩ := q
  rw [ev] at hm
  obtain ⟨y, S2, hy, hm2⟩ := Rz.bind_ok hm
  rw [tst_f] at hm2
  cases hm2
  refine ⟨B, S, ρ, eo, so, ?_⟩
  show AfZ _ _ _ _ ((ev cl false co ρ S).np.bind _)
  rw [hy]
  exact k
/-- f(.., k = v) that may raise: run on values -/
theorem runKX {f : Addr} {fd : FuncData} {ps ks : List Str} {fi n : Nat} {asm : List (Nat ⊕ D)} {pins : List (Addr × Obj)} {σ : L2.St} {H : Hp} {s : Shared} {Q : VK} {us ws : List Value} {vs zs : List V} {xs ys : List A} {B : Bk} {S : Store} {qs : List A}
    (F : FnOk X.prog X.w X.K X.mg X.base (L2.CX X.prog X.w) k f fd ps (spX (gx X fa) ps.length (cl fi))) (hr : Room k X.A) (hb : KBA (gx X fa) fd ps n ks asm) (hx : Passes (L2.CX X.prog X.w) X E) (I : Inv X pins σ H s) (r : Vals vs us) (rz : Vals zs ws)
    (so : StoreOk (gx X fa) ⟨B, S, H⟩) (d1 : DatAL (gx X fa) ⟨B, S, H⟩ xs vs) (d2 : DatAL (gx X fa) ⟨B, S, H⟩ ys zs) (ha : asmF asm (xs ++ ys) = some qs) (l1 : us.length = n) (l2 : ws.length = ks.length) (hm : AfZ (gx X fa) ⟨B, S, H⟩ Q E (cl fi qs S)) : wpAny (model X.prog X.w) X.A (call (.ref f) us (ks.zip ws)) (EP X pins σ Q) X.xe s := by
  obtain ⟨os, rs, bt, vr, dr, lr⟩ := hb s us ws vs zs xs ys qs ⟨B, S, H⟩ I.kIn d1 d2 r rz ha l1 l2
  refine wpAny_call (codeAny_mono (F.run X.A X.stack s H ⟨us, ks.zip ws⟩ os rs Q E hr I.env0 bt vr ⟨B, S, qs, so, dr, by rw [← dr.len]; exact lr, hm⟩) fun r s' hq => ?_)
  cases r with
  | error e => exact hx pins σ H s e s' I hq
  | ok fl =>
    cases fl with
    | ret u => exact I.after hq
    | next => exact False.elim hq
    | brk => exact False.elim hq
    | cont => exact False.elim hq
/-- o.m(k = v, ..) -/
theorem sx_methK {f : Addr} {fd : FuncData} {ps ks : List Str} {ci fi : Nat} {m : Str} {asm : List (Nat ⊕ D)} {kws : List Keyword} {kcs : List C} {pl : Sem Bool} (ho : SE fa cl X o co) (hc : Cls X.K (fa.c ci)) (hm : Meth X.K (fa.c ci) m f) (F : FnOk X.prog X.w X.K X.mg X.base (L2.CX X.prog X.w) k f fd ps (spX (gx X fa) ps.length (cl fi))) (hr : Room k X.A)
    (hb : KBA (gx X fa) fd ps 1 ks asm) (hx : Passes (L2.CX X.prog X.w) X E) (hkw : SK fa cl X kws kcs) (hlk : kcs.length = ks.length) (hall : (backToKw pos (keywordEach kws X.env)).all (·.1.isSome) = true) (hks : (backToKw pos (keywordEach kws X.env)).filterMap (·.1) = ks)
    (hpl : ((backTo pos (starEach [] X.env)).any (·.1) || (backToKw pos (keywordEach kws X.env)).any (·.1.isNone)) = false)
    (ht : eval (.Call (.Attribute o m apos) [] kws pos) X.env = (do
      let ov ← eval o X.env
      standAt apos.atName
      let (f, first) ← holding [ov] (getMethod ov m pl)
      callWith pos f first (backTo pos (starEach [] X.env)) (backToKw pos (keywordEach kws X.env)))) : SX fa cl E X (.Call (.Attribute o m apos) [] kws pos) (.methK ci fi m co kcs asm) := by
  refine ⟨fun pins s σ H Q I q => ?_⟩
  obtain ⟨B, S, ρ, eo, so, h⟩ := q
  obtain ⟨x, S1, hx1, h1⟩ := AfZ.np h
  refine PySem.W.methodCall_KW (pl := pl) (thn (ho.run pins s σ H (fun v H1 => ∃ B1, StoreOk (gx X fa) ⟨B1, S1, H1⟩ ∧ Stab (gx X fa) ⟨B, S, H⟩ ⟨B1, S1, H1⟩ ∧ EnvOk (gx X fa) ⟨B1, S1, H1⟩ ρ σ ∧ DatA (gx X fa) ⟨B1, S1, H1⟩ x v) I
    (tE.use eo so hx1 fun v B1 H1 so1 st1 eo1 d1 => ⟨B1, so1, st1, eo1, d1⟩)) fun u s1 ⟨v, H1, I1, rx, B1, so1, st1, eo1, d1⟩ => ?_) ht
  split at h1
  · rename_i c' ns ds' hi
    split at h1
    · rename_i hc'
      rw [Bool.and_eq_true, decide_eq_true_eq, Bool.not_eq_true'] at hc'
      obtain ⟨rfl, hno⟩ := hc'
      obtain ⟨a, dx, vs, rfl, ha', ln, dl⟩ := insG_at so1 d1 hi
      obtain ⟨ys, S2, hys, h2⟩ := AfZ.np h1
      split at h2
      · rename_i qs hqs
        obtain rfl : u = Value.ref a := rx
        refine getmeth_ok I1 ha' hc hm (none_dat hno) ?_
        refine PySem.W.callWith_KW0 (first := [.ref a]) (h₀ := X.base) I.ok.mod.kin hm.kp hall (thn (hkw.pk.run pos pins s1 σ H1 (fun zs H2 => ∃ B2, StoreOk (gx X fa) ⟨B2, S2, H2⟩ ∧ Stab (gx X fa) ⟨B1, S1, H1⟩ ⟨B2, S2, H2⟩ ∧ DatAL (gx X fa) ⟨B2, S2, H2⟩ ys zs) I1
          (tA.use eo1 so1 hys fun vs B1 H1 so1 st1 eo1 d1 => ⟨B1, so1, st1, d1⟩)) fun ws s2 ⟨zs, H2, I2, rz, B2, so2, st2, d2⟩ => ⟨I2.kIn, ?_⟩) hpl
        rw [hks]
        refine runKX (us := [.ref a]) (vs := [.ref a]) (xs := [x]) F hr hb hx I2 (.cons rfl .nil) rz so2 ⟨.ref a, [], rfl, st2.datA d1, rfl⟩ d2 hqs rfl ?_ (h2.mono (st1.trans st2))
        rw [← rz.length, d2.len, evs_len hys, hlk]
      · exact False.elim h2
    · exact False.elim h1
  · exact False.elim h1
/-- f(.., k = v) that may raise -/
theorem sx_fnK {f : Addr} {fd : FuncData} {ps ks : List Str} {fi : Nat} {x : Str} {p : Pos} {asm : List (Nat ⊕ D)} {kws : List Keyword} {kcs : List C} (F : FnOk X.prog X.w X.K X.mg X.base (L2.CX X.prog X.w) k f fd ps (spX (gx X fa) ps.length (cl fi))) (hr : Room k X.A) (hg : Gl X x) (hmg : X.mg x = some (.ref f))
    (hk : PySem.W.keepIn X.K (.ref f) = true) (hb : KBA (gx X fa) fd ps (cs.length + 1) ks asm) (hx : Passes (L2.CX X.prog X.w) X E) (ha : SA fa cl X (e :: es) (c :: cs)) (hkw : SK fa cl X kws kcs) (hlk : kcs.length = ks.length)
    (hall : (backToKw pos (keywordEach kws X.env)).all (·.1.isSome) = true) (hks : (backToKw pos (keywordEach kws X.env)).filterMap (·.1) = ks)
    (hdb : (x == ("__debug__" : Str)) = false) (he : starEach (e :: es) X.env = (false, eval e X.env) :: starEach es X.env)
    (hpl : ((backTo pos (starEach (e :: es) X.env)).any (·.1) || (backToKw pos (keywordEach kws X.env)).any (·.1.isNone)) = false) : SX fa cl E X (.Call (.Name x p) (e :: es) kws pos) (.appK fi (c :: cs) kcs asm) := by
  refine ⟨fun pins s σ H Q I q => ?_⟩
  obtain ⟨B, S, ρ, eo, so, h⟩ := q
  obtain ⟨xs, S1, hxs, h1⟩ := AfZ.np h
  obtain ⟨ys, S2, hys, h2⟩ := AfZ.np h1
  split at h2
  · rename_i qs hqs
    refine wpAny_Call_Name_kw (ld_glob I hg hmg ?_ hdb)
    refine PySem.W.callWith_KW (h₀ := X.base) I.ok.mod.kin hk hall (thn (ha.run pos pins s σ H (fun vs H1 => ∃ B1, StoreOk (gx X fa) ⟨B1, S1, H1⟩ ∧ Stab (gx X fa) ⟨B, S, H⟩ ⟨B1, S1, H1⟩ ∧ DatAL (gx X fa) ⟨B1, S1, H1⟩ xs vs) I
      (tA.use eo so hxs fun vs B1 H1 so1 st1 eo1 d1 => ⟨B1, so1, st1, d1⟩)) fun us s1 ⟨vs, H1, I1, r, B1, so1, st1, d1⟩ => ?_) hpl he
    refine thn (hkw.pk.run pos pins s1 σ H1 (fun zs H2 => ∃ B2, StoreOk (gx X fa) ⟨B2, S2, H2⟩ ∧ Stab (gx X fa) ⟨B1, S1, H1⟩ ⟨B2, S2, H2⟩ ∧ DatAL (gx X fa) ⟨B2, S2, H2⟩ ys zs) I1
      (tA.use (eo.mono st1) so1 hys fun vs B1 H1 so1 st1 eo1 d1 => ⟨B1, so1, st1, d1⟩)) fun ws s2 ⟨zs, H2, I2, rz, B2, so2, st2, d2⟩ => ⟨I2.kIn, ?_⟩
    rw [hks]
    refine runKX F hr hb hx I2 r rz so2 (st2.datAL d1) d2 hqs ?_ ?_ (h2.mono (st1.trans st2))
    · show us.length = _
      rw [← r.length, d1.len, evs_len hxs]
      rfl
    · rw [← rz.length, d2.len, evs_len hys, hlk]
  · exact False.elim h2
theorem sx_fnK0 {f : Addr} {fd : FuncData} {ps ks : List Str} {fi : Nat} {x : Str} {p : Pos} {asm : List (Nat ⊕ D)} {kws : List Keyword} {kcs : List C} (F : FnOk X.prog X.w X.K X.mg X.base (L2.CX X.prog X.w) k f fd ps (spX (gx X fa) ps.length (cl fi))) (hr : Room k X.A) (hg : Gl X x) (hmg : X.mg x = some (.ref f))
    (hk : PySem.W.keepIn X.K (.ref f) = true) (hb : KBA (gx X fa) fd ps 0 ks asm) (hx : Passes (L2.CX X.prog X.w) X E) (hkw : SK fa cl X kws kcs) (hlk : kcs.length = ks.length)
    (hall : (backToKw pos (keywordEach kws X.env)).all (·.1.isSome) = true) (hks : (backToKw pos (keywordEach kws X.env)).filterMap (·.1) = ks)
    (hdb : (x == ("__debug__" : Str)) = false)
    (hpl : ((backTo pos (starEach [] X.env)).any (·.1) || (backToKw pos (keywordEach kws X.env)).any (·.1.isNone)) = false) : SX fa cl E X (.Call (.Name x p) [] kws pos) (.appK fi [] kcs asm) := by
  refine ⟨fun pins s σ H Q I q => ?_⟩
  obtain ⟨B, S, ρ, eo, so, h⟩ := q
  obtain ⟨ys, S2, hys, h2⟩ := AfZ.np h
  split at h2
  · rename_i qs hqs
    refine wpAny_Call_Name_kw (ld_glob I hg hmg ?_ hdb)
    refine PySem.W.callWith_KW0 (h₀ := X.base) I.ok.mod.kin hk hall (thn (hkw.pk.run pos pins s σ H (fun zs H2 => ∃ B2, StoreOk (gx X fa) ⟨B2, S2, H2⟩ ∧ Stab (gx X fa) ⟨B, S, H⟩ ⟨B2, S2, H2⟩ ∧ DatAL (gx X fa) ⟨B2, S2, H2⟩ ys zs) I
      (tA.use eo so hys fun vs B1 H1 so1 st1 eo1 d1 => ⟨B1, so1, st1, d1⟩)) fun ws s2 ⟨zs, H2, I2, rz, B2, so2, st2, d2⟩ => ⟨I2.kIn, ?_⟩) hpl
    rw [hks]
    refine runKX (us := []) (vs := []) (xs := []) F hr hb hx I2 .nil rz so2 rfl d2 hqs rfl ?_ (h2.mono st2)
    rw [← rz.length, d2.len, evs_len hys, hlk]
  · exact False.elim h2
theorem se_fld {ci : Nat} {n : Str} (ho : SE fa cl X o co) (hc : Cls X.K (fa.c ci)) (hn : NoAttr X.K (fa.c ci) n) (hb : attributeBase o n X.env (eval o X.env) = eval o X.env) : SE fa cl X (.Attribute o n pos) (.fld ci co n) :=
  (pe_fld ho hb).imp fun σ H Q q => by
    obtain ⟨B, S, ρ, z, S', eo, so, hm, k⟩ := q
    rw [ev] at hm
    obtain ⟨x, S1, hx, hm1⟩ := Rz.bind_ok hm
    refine tE.use eo so hx fun v B1 H1 so1 st1 eo1 d1 => ?_
    split at hm1
    · rename_i c' ns ds hi
      split at hm1
      · rename_i hc'
        subst hc'
        obtain ⟨a, dx, vs, rfl, ha', ln, dl⟩ := insG_at so1 d1 hi
        obtain ⟨d, S2, hd, hm2⟩ := Rz.bind_ok hm1
        obtain ⟨hd', rfl⟩ := Rz.of_ok hd
        rw [tst_f] at hm2
        cases hm2
        obtain ⟨w, hw, dw⟩ := getA_dat dl hd'
        exact ⟨a, _, dx, _, w, rfl, ha', hc, hn, hw, k w B1 H1 so1 st1 dw⟩
      · cases hm1
    · cases hm1
theorem se_ccst {ci : Nat} {n : Str} {d : D} {mc : Value} {v : V} {u : Value} {p : Pos} {x : Str} (hg : Gl X x) (hmg : X.mg x = some (.ref (fa.c ci))) (hdb : (x == ("__debug__" : Str)) = false) (r : ClX.CRead X.K (fa.c ci) mc) (cv : ClX.CVal X.K (fa.c ci) mc n v u) (hd : ∀ z, Dat (gx X fa) z d v) :
    SE fa cl X (.Attribute (.Name x p) n pos) (.ccst ci n d) :=
  (ClX.pe_cval (pe_glob hg hmg (v := .ref (fa.c ci)) rfl hdb) rfl).imp fun σ H Q q => by
    obtain ⟨B, S, ρ, z, S', eo, so, hm, k⟩ := q
    rw [ev, tst_f] at hm
    cases hm
    exact ⟨_, mc, v, u, rfl, r, cv, k v B H so Stab.refl (hd _)⟩
end
end Fw

/-! A classmethod with a star parameter; a class that a local holds. -/
namespace Fw
open PySem PySem.Spec PyProof.Rows L2
/-- what a def with one parameter and a star parameter promises -/
def spStar (g : G) (m : List A → Store → Rz A) : Sp := fun vs H Q E => ∃ ws rest, vs = ws ++ rest ∧ ws.length = 1 ∧ rest.length ≤ sizeLine ∧ ∀ p, H p = Option.none → spX g 2 m (ws ++ [V.ref p]) (upd H p (.tup rest)) Q E
section
variable {fa : Ad} {cl : Nat → List A → Store → Rz A} {X : Cx} {e a b tg o : Expr} {c ca cb co : C} {pos apos : Pos} {k : Nat} {es : List Expr} {cs : List C} {E : XK}
theorem star_sp {ci fi : Nat} {m : Str} {ρ : Env} {B : Bk} {S : Store} {H : Hp} {xs : List A} {vs : List V} {Q : VK} (so : StoreOk (gx X fa) ⟨B, S, H⟩) (d : DatAL (gx X fa) ⟨B, S, H⟩ xs vs) (h : AfZ (gx X fa) ⟨B, S, H⟩ Q E (appF cl (.cmeth ci fi m) ρ xs S)) :
    spStar (gx X fa) (cl fi) (.ref (fa.c ci) :: vs) H Q E := by
  unfold appF at h
  dsimp only at h
  split at h
  · rename_i ds hds
    split at h
    · rename_i hl
      have dl := DatAL.datas hds d
      refine ⟨[.ref (fa.c ci)], vs, rfl, rfl, by rw [dl.len]; exact Nat.le_trans hl lim_line, fun p hp => ?_⟩
      refine ⟨B, S, [.p (.kl ci), .p (.tup ds)], so.new hp, ⟨_, _, rfl, rfl, _, _, rfl, new_tup so hp dl, rfl⟩, rfl, h.mono (Stab.new so hp)⟩
    · exact False.elim h
  · exact False.elim h
theorem sx_cmeth {g p : Addr} {mc : Value} {ci fi : Nat} {m x : Str} {xp : Pos} {pl : Sem Bool} (hg : Gl X x) (hmg : X.mg x = some (.ref (fa.c ci))) (hdb : (x == ("__debug__" : Str)) = false) (r : ClX.CRead X.K (fa.c ci) mc) (cm : ClX.CMet X.K (fa.c ci) mc m p g)
    (F : FnR X.prog X.w X.K X.mg X.base (L2.CX X.prog X.w) k g (spStar (gx X fa) (cl fi))) (hr : Room k X.A) (hx : Passes (L2.CX X.prog X.w) X E) (ha : SA fa cl X (e :: es) (c :: cs))
    (he : starEach (e :: es) X.env = (false, eval e X.env) :: starEach es X.env) (hpl : (backTo pos (starEach es X.env)).any (·.1) = false)
    (ht : eval (.Call (.Attribute (.Name x xp) m apos) (e :: es) [] pos) X.env = (do
      let ov ← eval (.Name x xp) X.env
      standAt apos.atName
      let (f, first) ← holding [ov] (getMethod ov m pl)
      callWith pos f first (backTo pos (starEach (e :: es) X.env)) (backToKw pos (keywordEach [] X.env)))) : SX fa cl E X (.Call (.Attribute (.Name x xp) m apos) (e :: es) [] pos) (.app (.cmeth ci fi m) (c :: cs)) :=
  (ClX.pe_cmeth (pl := pl) (pe_glob hg hmg (v := .ref (fa.c ci)) rfl hdb) r cm F hr hx ha he hpl ht).imp fun σ H Q q => by
    obtain ⟨B, S, ρ, eo, so, h⟩ := q
    obtain ⟨xs, S1, hxs, h1⟩ := AfZ.np h
    exact ⟨rfl, tA.use eo so hxs fun vs B1 H1 so1 st1 eo1 d1 => star_sp so1 d1 (h1.mono st1)⟩
theorem sx_cmeth0 {g p : Addr} {mc : Value} {ci fi : Nat} {m x : Str} {xp : Pos} {pl : Sem Bool} (hg : Gl X x) (hmg : X.mg x = some (.ref (fa.c ci))) (hdb : (x == ("__debug__" : Str)) = false) (r : ClX.CRead X.K (fa.c ci) mc) (cm : ClX.CMet X.K (fa.c ci) mc m p g)
    (F : FnR X.prog X.w X.K X.mg X.base (L2.CX X.prog X.w) k g (spStar (gx X fa) (cl fi))) (hr : Room k X.A) (hx : Passes (L2.CX X.prog X.w) X E)
    (ht : eval (.Call (.Attribute (.Name x xp) m apos) [] [] pos) X.env = (do
      let ov ← eval (.Name x xp) X.env
      standAt apos.atName
      let (f, first) ← holding [ov] (getMethod ov m pl)
      callWith pos f first (backTo pos (starEach [] X.env)) (backToKw pos (keywordEach [] X.env)))) : SX fa cl E X (.Call (.Attribute (.Name x xp) m apos) [] [] pos) (.app (.cmeth ci fi m) []) := by
  refine ⟨fun pins s σ H Q I q => ?_⟩
  obtain ⟨B, S, ρ, eo, so, h⟩ := q
  have h1 : AfZ (gx X fa) ⟨B, S, H⟩ Q E (appF cl (.cmeth ci fi m) ρ [] S) := by
    rw [xcF, evs] at h
    exact h
  refine PySem.W.methodCall_KW (pl := pl) (thn ((pe_glob (pos := xp) hg hmg (v := .ref (fa.c ci)) rfl hdb).run pins s σ H (fun v H1 => v = .ref (fa.c ci) ∧ H1 = H) I ⟨rfl, rfl⟩) fun u s1 ⟨v, H1, I1, r1, q1⟩ => ?_) ht
  obtain ⟨rfl, rfl⟩ := q1
  cases r1
  refine ClX.getmethcm_ok I1 r cm fun s2 I2 => ?_
  refine PySem.W.callWith_M0 (first := []) (show PySem.W.MethP X.K _ g (.ref (fa.c ci)) s2.heap from ⟨ClX.pin_at I2, I2.kIn⟩) cm.fi ?_
  exact ClX.run_cm (us := []) (vs := []) F hr hx I2 .nil (star_sp so (show DatAL (gx X fa) ⟨B, S, _⟩ [] [] from rfl) h1)
theorem sx_makeL {f : Addr} {fd : FuncData} {ps : List Str} {i ci fi : Nat} {x : Str} {p : Pos} {np : Nat} (M : Mk X.K (fa.c ci) f) (F : FnOk X.prog X.w X.K X.mg X.base (L2.CX X.prog X.w) k f fd ps (spX (gx X fa) np (cl fi))) (hr : Room (k + 1) X.A) (hN : X.N[i]? = some x) (hv : Vis X.env.scope x)
    (hb : Binds X.K fd ps []) (hn : cs.length + 2 = np) (hx : Passes (L2.CX X.prog X.w) X E) (ha : SA fa cl X (e :: es) (c :: cs))
    (hdb : (x == ("__debug__" : Str)) = false) (hcd : (x == ("__classdict__" : Str)) = false) (he : starEach (e :: es) X.env = (false, eval e X.env) :: starEach es X.env) (hpl : (backTo pos (starEach es X.env)).any (·.1) = false) :
    SX fa cl E X (.Call (.Name x p) (e :: es) [] pos) (.app (.makeL i ci fi) (c :: cs)) := by
  refine ⟨fun pins s σ H Q I q => ?_⟩
  obtain ⟨B, S, ρ, eo, so, h⟩ := q
  obtain ⟨xs, S1, hxs, h1⟩ := AfZ.np h
  unfold appF at h1
  dsimp only at h1
  split at h1
  · rename_i c' hi
    split at h1
    · rename_i hc
      subst hc
      obtain ⟨v0, hs, dv⟩ := eo.get i _ hi
      have hs : σ[i]? = some (some (V.ref (fa.c c'))) := by rw [hs, show v0 = V.ref (fa.c c') from dv]
      refine wpAny_Call_Name_kw (thn ((pe_var (pos := p) hN hv hdb hcd).run pins s σ H (fun v H1 => v = .ref (fa.c c') ∧ H1 = H) I ⟨_, hs, rfl, rfl⟩) fun u s1 ⟨v, H1, I1, r1, q1⟩ => ?_)
      obtain ⟨rfl, rfl⟩ := q1
      cases r1
      refine PySem.W.callWith_K (h₀ := X.base) I.ok.mod.kin M.kp (thn (ha.run pos pins s1 σ _ (fun vs H2 => ∀ x dx, H2 x = none → H2 dx = none → dx ≠ x → spX (gx X fa) np (cl fi) (.ref x :: (vs ++ [])) (upd (upd H2 dx (.own x)) x (.ins (fa.c c') dx [])) (fun v H3 => v = .non ∧ Q (.ref x) H3) E) I1
        (tA.use eo so hxs fun vs B1 H1 so1 st1 eo1 d1 => ?_)) fun us s2 ⟨vs, H2, I2, r, q⟩ => ⟨I2.kIn, ?_⟩) he hpl
      · rw [List.append_nil]
        exact mk_sp so1 d1 (by rw [evs_len hxs, List.length_cons]; omega) (h1.mono st1)
      · exact run_make M F hr hb .nil hx I2 r q
    · exact False.elim h1
  · exact False.elim h1
end
end Fw

/-! Expressions in which a call may raise; an instance that stays in the store. -/
namespace Fw
open PySem PySem.Spec PyProof.Rows L2
/-- what is wanted behind arguments that end by r -/
def AfL (g : G) (z : Z) (Q : List V → Hp → Prop) (E : XK) : Rz (List A) → Prop
  | .ok xs S' => ∀ vs B' H', StoreOk g ⟨B', S', H'⟩ → Stab g z ⟨B', S', H'⟩ → DatAL g ⟨B', S', H'⟩ xs vs → Q vs H'
  | .ex e S' => ∀ cls d B' H', StoreOk g ⟨B', S', H'⟩ → Stab g z ⟨B', S', H'⟩ → ExOk g ⟨B', S', H'⟩ e cls d → E cls d H'
  | .bad => False
theorem AfL.mono {g : G} {z z' : Z} {Q : List V → Hp → Prop} {E : XK} {r : Rz (List A)} (h : AfL g z Q E r) (s : Stab g z z') : AfL g z' Q E r := by
  cases r with
  | ok x S => exact fun v B' H' so st d => h v B' H' so (s.trans st) d
  | ex e S => exact fun c d B' H' so st x => h c d B' H' so (s.trans st) x
  | bad => exact h
def tXA (g : G) (E : XK) (m : Env → Store → Rz (List A)) : TA := fun σ H Q => ∃ B S ρ, EnvOk g ⟨B, S, H⟩ ρ σ ∧ StoreOk g ⟨B, S, H⟩ ∧ AfL g ⟨B, S, H⟩ Q E (m ρ S)
section
variable {g : G} {z : Z} {E : XK}
theorem AfZ.bind {Q Q' : VK} {r : Rz A} {f : A → Store → Rz A} (h : AfZ g z Q E (r.bind f)) (k : ∀ x S1, AfZ g z Q E (f x S1) → ∀ v B' H', StoreOk g ⟨B', S1, H'⟩ → Stab g z ⟨B', S1, H'⟩ → DatA g ⟨B', S1, H'⟩ x v → Q' v H') : AfZ g z Q' E r := by
  cases r with
  | ok a S => exact k a S h
  | ex e S => exact h
  | bad => exact h
theorem AfZ.bindL {Q : VK} {Q' : List V → Hp → Prop} {r : Rz (List A)} {f : List A → Store → Rz A} (h : AfZ g z Q E (r.bind f)) (k : ∀ x S1, AfZ g z Q E (f x S1) → ∀ v B' H', StoreOk g ⟨B', S1, H'⟩ → Stab g z ⟨B', S1, H'⟩ → DatAL g ⟨B', S1, H'⟩ x v → Q' v H') : AfL g z Q' E r := by
  cases r with
  | ok a S => exact k a S h
  | ex e S => exact h
  | bad => exact h
theorem AfL.bind {Q : List V → Hp → Prop} {Q' : VK} {r : Rz A} {f : A → Store → Rz (List A)} (h : AfL g z Q E (r.bind f)) (k : ∀ x S1, AfL g z Q E (f x S1) → ∀ v B' H', StoreOk g ⟨B', S1, H'⟩ → Stab g z ⟨B', S1, H'⟩ → DatA g ⟨B', S1, H'⟩ x v → Q' v H') : AfZ g z Q' E r := by
  cases r with
  | ok a S => exact k a S h
  | ex e S => exact h
  | bad => exact h
theorem AfL.bindL {Q Q' : List V → Hp → Prop} {r : Rz (List A)} {f : List A → Store → Rz (List A)} (h : AfL g z Q E (r.bind f)) (k : ∀ x S1, AfL g z Q E (f x S1) → ∀ v B' H', StoreOk g ⟨B', S1, H'⟩ → Stab g z ⟨B', S1, H'⟩ → DatAL g ⟨B', S1, H'⟩ x v → Q' v H') : AfL g z Q' E r := by
  cases r with
  | ok a S => exact k a S h
  | ex e S => exact h
  | bad => exact h
end
section
variable {fa : Ad} {cl : Nat → List A → Store → Rz A} {X : Cx} {e a b tg o : Expr} {c ca cb co : C} {pos apos : Pos} {k : Nat} {es : List Expr} {cs : List C} {E : XK} {x : CXx} {xs : List CXx}
abbrev SXE (fa : Ad) (cl : Nat → List A → Store → Rz A) (E : XK) (X : Cx) (e : Expr) (x : CXx) : Prop := PE X e (tX (gx X fa) E (evX cl x))
abbrev SXA (fa : Ad) (cl : Nat → List A → Store → Rz A) (E : XK) (X : Cx) (es : List Expr) (xs : List CXx) : Prop := PA X es (tXA (gx X fa) E (evXs cl xs))
theorem sxe_p (h : SE fa cl X e c) : SXE fa cl E X e (.p c) := h.imp fun σ H Q q => by
  obtain ⟨B, S, ρ, eo, so, h⟩ := q
  rw [evX] at h
  cases hr : ev cl false c ρ S with
  | ok y S1 =>
    rw [hr] at h
    exact ⟨B, S, ρ, y, S1, eo, so, hr, h⟩
  | ex e S1 =>
    rw [hr] at h
    exact False.elim h
  | bad =>
    rw [hr] at h
    exact False.elim h
theorem sxe_x {xc : XC} (h : SX fa cl E X e xc) : SXE fa cl E X e (.x xc) := h.imp fun σ H Q q => by
  obtain ⟨B, S, ρ, eo, so, h⟩ := q
  rw [evX] at h
  exact ⟨B, S, ρ, eo, so, h⟩
theorem sxs_nil : SXA fa cl E X [] [] := pa_nil.imp fun σ H Q q => by
  obtain ⟨B, S, ρ, eo, so, h⟩ := q
  rw [evXs] at h
  exact h [] B H so Stab.refl rfl
theorem sxs_cons (ha : SXE fa cl E X e x) (hr : SXA fa cl E X es xs) (hs : starEach (e :: es) X.env = (false, eval e X.env) :: starEach es X.env) : SXA fa cl E X (e :: es) (x :: xs) := (pa_cons ha hr hs).imp fun σ H Q q => by
  obtain ⟨B, S, ρ, eo, so, h⟩ := q
  rw [evXs] at h
  refine ⟨B, S, ρ, eo, so, AfL.bind h fun y S1 h1 v B1 H1 so1 st1 d1 => ⟨B1, S1, ρ, eo.mono st1, so1, AfL.bindL (h1.mono st1) fun ys S2 h2 vs B2 H2 so2 st2 d2 => ?_⟩⟩
  exact h2 (v :: vs) B2 H2 so2 st2 ⟨v, vs, rfl, st2.datA d1, d2⟩
theorem sxe_tup {x1 : Nat} (h : SXA fa cl E X es xs) : SXE fa cl E X (.Tuple es x1 pos) (.tup xs) := (pe_tup h).imp fun σ H Q q => by
  obtain ⟨B, S, ρ, eo, so, h⟩ := q
  rw [evX] at h
  refine ⟨B, S, ρ, eo, so, AfZ.bindL h fun ys S1 h1 vs B1 H1 so1 st1 d1 => ?_⟩
  split at h1
  · rename_i ds hd
    split at h1
    · rename_i hl
      have dl := DatAL.datas hd d1
      exact ⟨by rw [dl.len]; exact lim_le hl, fun p hp => h1 _ B1 _ (so1.new hp) (st1.trans (Stab.new so1 hp)) (new_tup so1 hp dl)⟩
    · exact False.elim h1
  · exact False.elim h1
theorem sxe_lst (h : SXA fa cl E X es xs) : SXE fa cl E X (.List es pos) (.lst xs) := (pe_lst h).imp fun σ H Q q => by
  obtain ⟨B, S, ρ, eo, so, h⟩ := q
  rw [evX] at h
  refine ⟨B, S, ρ, eo, so, AfZ.bindL h fun ys S1 h1 vs B1 H1 so1 st1 d1 => ?_⟩
  split at h1
  · rename_i ds hd
    split at h1
    · rename_i hl
      have dl := DatAL.datas hd d1
      exact ⟨by rw [dl.len]; exact lim_le hl, fun p hp => h1 _ B1 _ (so1.new hp) (st1.trans (Stab.new so1 hp)) (new_lst so1 hp dl)⟩
    · exact False.elim h1
  · exact False.elim h1
theorem sxe_lstM (h : SXA fa cl E X es xs) : SXE fa cl E X (.List es pos) (.lstM xs) := (pe_lst h).imp fun σ H Q q => by
  obtain ⟨B, S, ρ, eo, so, h⟩ := q
  rw [evX] at h
  refine ⟨B, S, ρ, eo, so, AfZ.bindL h fun ys S1 h1 vs B1 H1 so1 st1 d1 => ?_⟩
  split at h1
  · rename_i ds hd
    split at h1
    · rename_i hl
      have dl := DatAL.datas hd d1
      refine ⟨by rw [dl.len]; exact lim_le hl, fun p hp => h1 _ (B1.add p) _ (so1.alloc hp dl) (st1.trans (Stab.alloc so1 hp)) ⟨p, ?_, rfl, new_nr (fun z => by cases z)⟩⟩
      show (B1.l ++ [p])[S1.length]? = some p
      rw [← show B1.l.length = S1.length from so1.len, List.getElem?_append_right (Nat.le_refl _), Nat.sub_self]
      rfl
    · exact False.elim h1
  · exact False.elim h1
theorem sxe_neg (ha : SXE fa cl E X a x) : SXE fa cl E X (.UnaryOp .USub a pos) (.neg x) := (pe_un un_neg ha).imp fun σ H Q q => by
  obtain ⟨B, S, ρ, eo, so, h⟩ := q
  rw [evX] at h
  refine ⟨B, S, ρ, eo, so, AfZ.bind h fun y S1 h1 v B1 H1 so1 st1 d1 => ?_⟩
  split at h1
  · rename_i i
    exact ⟨i, d1, h1 _ B1 H1 so1 st1 rfl⟩
  · exact False.elim h1
theorem sxe_int {p : Pos} (hc : X.calm = true) (hro : Room k X.A) (hg : Gl X (Blt.int).nm) (hmg : X.mg (Blt.int).nm = none) (h : SXA fa cl E X [e] [x]) (he : starEach [e] X.env = (false, eval e X.env) :: starEach [] X.env) (hpl : (backTo pos (starEach [] X.env)).any (·.1) = false) :
    SXE fa cl E X (.Call (.Name (Blt.int).nm p) [e] [] pos) (.int x) := by
  refine ⟨fun pins s σ H Q I q => ?_⟩
  obtain ⟨B, S, ρ, eo, so, h0⟩ := q
  rw [evX] at h0
  have hv : (Blt.int).val = .type "int" := rfl
  cases hr : evX cl x ρ S with
  | bad =>
    rw [hr] at h0
    exact False.elim h0
  | ex e1 S1 =>
    rw [hr] at h0
    refine (pe_callTy (call_int1 (X := X)) hg hmg ((Blt.int).boot.trans (by rw [hv])) h (Blt.int).nn (Blt.int).nd he hpl).run pins s σ H Q I ?_
    refine ⟨B, S, ρ, eo, so, ?_⟩
    rw [evXs, hr]
    exact h0
  | ok y S1 =>
    rw [hr] at h0
    cases hw : bltF .int [y] S1 with
    | none =>
      have h0 : AfZ (gx X fa) ⟨B, S, H⟩ Q E (Rz.of (bltF .int [y] S1) S1) := h0
      rw [hw] at h0
      exact False.elim h0
    | some w =>
      have h0 : AfZ (gx X fa) ⟨B, S, H⟩ Q E (Rz.of (bltF .int [y] S1) S1) := h0
      rw [hw] at h0
      obtain ⟨r, hr', ok⟩ := blt_ok (X := X) (fa := fa) hc hro hw
      rw [hv] at hr'
      refine (pe_callTy hr' hg hmg ((Blt.int).boot.trans (by rw [hv])) h (Blt.int).nn (Blt.int).nd he hpl).run pins s σ H Q I ?_
      refine ⟨B, S, ρ, eo, so, ?_⟩
      rw [evXs, hr]
      show AfL _ _ _ _ ((evXs cl [] ρ S1).bind fun xs S2 => .ok (y :: xs) S2)
      rw [evXs]
      intro vs B1 H1 so1 st1 d1
      exact ok vs B1 H1 Q so1 d1 fun u H' so' st' du => h0 u B1 H' so' (st1.trans st') du
theorem sxe_app {o : Expr} {co : C} (ho : SE fa cl X o co) (ha : SXA fa cl E X [e] [x]) (hbase : attributeBase o "append" X.env (eval o X.env) = eval o X.env)
    (hfew : ((backTo pos (starEach [e] X.env)).all (fun x => !x.1) && (backToKw pos (keywordEach [] X.env)).all (fun x => x.1.isSome) && decide (([e] : List Expr).length + ([] : List Keyword).length + (if ([] : List Keyword).isEmpty then 0 else 1) < 30)) = true)
    (hline : (apos.endLine == pos.line) = true) (hs : starEach [e] X.env = (false, eval e X.env) :: starEach [] X.env) (hplain : (backTo pos (starEach [] X.env)).any (·.1) = false) :
    SXE fa cl E X (.Call (.Attribute o "append" apos) [e] [] pos) (.app co x) :=
  (pe_bm PySem.F.plainAttrs_list PySem.F.slot_list_append PySem.F.type_list_append mt_append ho ha hbase hfew hline hs hplain).imp fun σ H Q q => by
    obtain ⟨B, S, ρ, eo, so, h⟩ := q
    rw [evX] at h
    obtain ⟨y, S1, hx, h1⟩ := AfZ.np h
    split at h1
    · rename_i hty
      cases y with
      | p d => simp [mthTy] at hty
      | m j =>
        unfold mthTy at hty
        dsimp only at hty
        split at hty
        · rename_i ys0 hj0
          refine tE.use eo so hx fun v1 B1 H1 so1 st1 eo1 d1 => ?_
          obtain ⟨a, hb, rfl, hnr⟩ := d1
          obtain ⟨vs0, e0, _⟩ := so1.ob j a ys0 hb hj0
          refine ⟨.inl ⟨rfl, _, SqL.of e0⟩, B1, S1, ρ, eo1, so1, ?_⟩
          rw [evXs]
          have h1 := h1.mono st1
          cases hr : evX cl x ρ S1 with
          | bad =>
            rw [hr] at h1
            exact False.elim h1
          | ex e1 S2 =>
            rw [hr] at h1
            exact h1
          | ok y S2 =>
            rw [hr] at h1
            show AfL _ _ _ _ ((evXs cl [] ρ S2).bind fun xs S3 => .ok (y :: xs) S3)
            rw [evXs]
            have h1 : AfZ (gx X fa) ⟨B1, S1, H1⟩ Q E (mthF .append (.m j) [y] S2) := h1
            intro vs B2 H2 so2 st2 d2
            cases y with
            | m i => exact False.elim h1
            | p d =>
              have h1 : AfZ (gx X fa) ⟨B1, S1, H1⟩ Q E (match S2[j]? with
                | some (.lst ys) => if ys.length < LIM then .ok (.p .non) (S2.set j (.lst (ys ++ [d]))) else .bad
                | _ => .bad) := h1
              split at h1
              · rename_i ys hj
                split at h1
                · rename_i hl
                  obtain ⟨v, rfl, dv⟩ := d2.one
                  have hb2 := (st2.pre j a hb hnr).1
                  obtain ⟨ws, e2, l2⟩ := so2.ob j a ys hb2 hj
                  refine ⟨a, ws, v, rfl, rfl, e2, by rw [l2.len]; exact Nat.lt_of_lt_of_le hl lim_line, ?_⟩
                  exact h1 _ B2 _ (so2.put hb2 hj (l2.app ⟨v, [], rfl, dv, rfl⟩)) (st2.trans (Stab.put so2 hb2 hj)) rfl
                · exact False.elim h1
              · exact False.elim h1
        · cases hty
    · exact False.elim h1
theorem mk_spM {ci fi np : Nat} {B : Bk} {S : Store} {H : Hp} {xs : List A} {vs : List V} {Q : VK} (so : StoreOk (gx X fa) ⟨B, S, H⟩) (d : DatAL (gx X fa) ⟨B, S, H⟩ xs vs) (hl : xs.length + 1 = np) (h : AfZ (gx X fa) ⟨B, S, H⟩ Q E (mkM cl ci fi xs S)) :
    ∀ x dx, H x = none → H dx = none → dx ≠ x → spX (gx X fa) np (cl fi) (.ref x :: vs) (upd (upd H dx (.own x)) x (.ins (fa.c ci) dx [])) (fun v H2 => v = .non ∧ Q (.ref x) H2) E := by
  intro x dx hx hdx hne
  have s1 := so.new (o := .own x) hdx
  have t1 := Stab.new (o := .own x) so hdx
  have hx1 : upd H dx (HO.own x) x = none := by
    rw [upd_ne (Ne.symm hne)]
    exact hx
  have ob : Ob (gx X fa) ⟨B, S, upd H dx (.own x)⟩ x (.ins ci [] []) (.ins (fa.c ci) dx []) := ⟨dx, [], rfl, rfl, rfl⟩
  have s2 := s1.allocO hx1 ob
  have t2 : Stab (gx X fa) ⟨B, S, H⟩ ⟨B.add x, S ++ [.ins ci [] []], upd (upd H dx (.own x)) x (.ins (fa.c ci) dx [])⟩ := t1.trans (Stab.alloc s1 hx1)
  have lB : B.l.length = S.length := so.len
  have bx : (B.add x).l[S.length]? = some x := by
    show (B.l ++ [x])[S.length]? = some x
    rw [← lB, List.getElem?_append_right (Nat.le_refl _), Nat.sub_self]
    rfl
  have bn : (S ++ [MO.ins ci [] []])[S.length]? ≠ some .resv := new_nr (fun z => by cases z)
  refine ⟨B.add x, S ++ [.ins ci [] []], .m S.length :: xs, s2, ⟨.ref x, vs, rfl, ⟨x, bx, rfl, bn⟩, t2.datAL d⟩, by rw [List.length_cons]; exact hl, ?_⟩
  unfold mkM at h
  cases hr : cl fi (.m S.length :: xs) (S ++ [.ins ci [] []]) with
  | bad =>
    rw [hr] at h
    exact h
  | ex e S' =>
    rw [hr] at h
    dsimp only at h
    intro cls dd B' H' so' st' xo
    exact h cls dd _ H' so'.cut ((t2.trans st').cut (by rw [show (Z.mk B S H).B.l.length = B.l.length from rfl, lB]; exact Nat.le_refl _)) xo.cut
  | ok y S' =>
    rw [hr] at h
    cases y with
    | m i => exact False.elim h
    | p d0 =>
      cases d0 with
      | non =>
        dsimp only at h
        intro v B' H' so' st' dv
        refine ⟨dv, ?_⟩
        split at h
        · rename_i c' ns ds hs
          split at h
          · exact h (.ref x) B' H' so' (t2.trans st') ⟨x, (st'.pre _ _ bx bn).1, rfl, (st'.pre _ _ bx bn).2⟩
          · exact False.elim h
        · exact False.elim h
      | _ => exact False.elim h
theorem sx_makeM {f : Addr} {fd : FuncData} {ps : List Str} {ci fi : Nat} {x : Str} {p : Pos} {dsV : List Value} {dvs : List V} {ds : List D} {np : Nat} (M : Mk X.K (fa.c ci) f) (F : FnOk X.prog X.w X.K X.mg X.base (L2.CX X.prog X.w) k f fd ps (spX (gx X fa) np (cl fi))) (hr : Room (k + 1) X.A) (hg : Gl X x) (hmg : X.mg x = some (.ref (fa.c ci)))
    (hb : Binds X.K fd ps dsV) (hd : Vals dvs dsV) (hdd : ∀ z, DatL (gx X fa) z ds dvs) (hn : cs.length + ds.length + 2 = np) (hx : Passes (L2.CX X.prog X.w) X E) (ha : SA fa cl X (e :: es) (c :: cs))
    (hdb : (x == ("__debug__" : Str)) = false) (he : starEach (e :: es) X.env = (false, eval e X.env) :: starEach es X.env) (hpl : (backTo pos (starEach es X.env)).any (·.1) = false) : SX fa cl E X (.Call (.Name x p) (e :: es) [] pos) (.app (.makeM ci fi ds) (c :: cs)) :=
  (pe_make M F hr hg hmg hb hd hx ha hdb he hpl).imp fun σ H Q q => by
    obtain ⟨B, S, ρ, eo, so, h⟩ := q
    obtain ⟨xs, S1, hxs, h1⟩ := AfZ.np h
    refine tA.use eo so hxs fun vs B1 H1 so1 st1 eo1 d1 => mk_spM so1 (d1.app (hdd _).ofP) ?_ (h1.mono st1)
    rw [List.length_append, List.length_map, evs_len hxs, List.length_cons]
    omega
end
end Fw

/-! x, *y = a tuple -/
namespace Fw
open PySem PySem.Spec PyProof.Rows L2
section
variable {prog : Program} {w : World} {A : Around} {E : Value → Shared → Prop} {s : Shared}
theorem star_items {l : Addr} {items : Array Value} {Q : List Value → Shared → Prop} (hl : IsTup s.heap l items) (hh : A.handled = none) (h1 : 1 ≤ items.size) (hz : items.size ≤ 16384)
    (h : ∀ h' tk, (∀ b o, s.heap.get? b = some o → h'.get? b = some o) → wpAny (model prog w) A (newList (items.toList.drop 1)) (fun d s' => Q (items.toList.take 1 ++ [d]) s') E { s with heap := h', toks := tk }) : wpAny (model prog w) A (unpackItems (.ref l) 2 (some 1)) Q E s := by
  have hlt : l ≠ s.heap.objs.size := by
    obtain ⟨o, ho, _⟩ := hl
    exact Nat.ne_of_lt (Heap.lt_size ho)
  unfold unpackItems
  refine wpAny_bind ?_
  unfold notIterableAtAll
  refine wpAny_bind (wpAny_specialOf hl.typeIs slot_tuple_iter.lookup ?_)
  refine wpAny_pure ?_
  simp only [Bool.false_eq_true, if_false]
  refine wpAny_bind (wpAny_holding (iter_tuple hl ?_))
  refine wpAny_bind (wpAny_holding (draw_tuple hlt 1 0 _ _ ⟨_, Heap.get?_push_size _ rfl, rfl, rfl⟩ (hl.push _) (by omega) fun h₁ hit₁ hs₁ => ?_))
  have hl₁ : IsTup h₁ l items := (hl.push _).extBut hs₁.extBut hlt
  rw [Nat.zero_add] at hit₁
  obtain ⟨oi, hoi, _⟩ := id hit₁
  obtain ⟨ol, hol, _⟩ := id hl₁
  rw [List.drop_zero]
  have hfl : (items.toList.take 1).length = 1 := by
    rw [List.length_take, Array.length_toList]
    omega
  rw [if_neg (show ¬ ((items.toList.take 1).length < 1) by rw [hfl]; omega)]
  refine wpAny_bind (wpAny_holding (PySem.W.kun_collect (s := { s with heap := h₁ }) (T := "tuple_iterator") (.inr (.inr (.inr rfl))) (Walks.tuple (A := A.in1) hh s.heap.objs.size l hlt items) (fun j u st => st.1.typeIs) (k := 1) (by omega) ⟨hit₁, hl₁⟩ (Heap.lt_size hoi) (Heap.lt_size hol) (fun h₂ tk hk => ?_) (by rw [sizeLine_eq]; omega)))
  show wpAny _ _ (if (items.toList.drop 1).length < 0 then _ else _) _ _ _
  rw [if_neg (by omega)]
  show wpAny _ _ (newList ((items.toList.drop 1).take ((items.toList.drop 1).length - 0)) >>= fun d => pure (items.toList.take 1 ++ [d] ++ (items.toList.drop 1).drop ((items.toList.drop 1).length - 0))) _ _ _
  rw [Nat.sub_zero, List.take_length, List.drop_length]
  have q := h h₂ tk fun b o e => hk b o (Nat.ne_of_lt (Heap.lt_size e)) (hs₁.extBut b o (Nat.ne_of_lt (Heap.lt_size e)) (Heap.get?_push_of_some _ e))
  refine wpAny_bind (wpAny_mono q (fun d s' hq => wpAny_pure ?_) fun _ _ e => e)
  rw [List.append_nil]
  exact hq
end
section
variable {X : Cx} {pos : Pos}
def gStar (K : PySem.W.Frag) (i j : Nat) : TG := fun v σ H Q => ∃ a x xs, v = .ref a ∧ SqT K H a (x :: xs) ∧ xs.length ≤ 1000 ∧ ∀ p, H p = none → Q ((σ.set i (some x)).set j (some (.ref p))) (upd H p (.lst xs))
theorem pg_star {x y : Str} {px py ps : Pos} {kt i j : Nat} (hc : X.calm = true) (hN : X.N.Nodup) (hi : X.N[i]? = some x) (hj : X.N[j]? = some y) (lx : Loc X.env.scope x) (ly : Loc X.env.scope y) (fx : X.fn x = true ∨ X.env.scope.names.lookup x = some .local) (fy : X.fn y = true ∨ X.env.scope.names.lookup y = some .local) :
    PG X (.Tuple [.Name x px, .Starred (.Name y py) ps] kt pos) (gStar X.K i j) := by
  refine ⟨fun pins s σ H v u Q I r hw => ?_⟩
  obtain ⟨a, z, xs, e1, hq, hl, hw⟩ := hw
  subst e1
  cases r
  obtain ⟨its, rv, ht, hz⟩ := I.tuple hq
  have hsz : its.toArray.size = xs.length + 1 := by
    have := rv.length
    rw [List.length_cons] at this
    rw [List.size_toArray]
    exact this.symm
  rw [PyProof.Rows.assign_Tuple]
  refine wpAny_bind (wpAny_standAt ?_)
  unfold unpack
  refine wpAny_bind (wpAny_holding ?_)
  show wpAny _ _ (unpackItems (.ref a) 2 (some 1)) _ _ _
  refine star_items ht (I.ok.hd hc) (by omega) (by omega) fun h' tk hx => ?_
  have I1 : Inv X pins σ H { s with heap := h', toks := tk } := I.kept (t' := tk) fun b o e => hx b o e
  have hf : H h'.objs.size = none := I1.hok.fresh (Nat.le_refl _)
  obtain ⟨z0, zs, ez⟩ : ∃ z0 zs, its = z0 :: zs := by
    cases h : its with
    | nil =>
      rw [h] at rv
      cases rv
    | cons a b => exact ⟨a, b, rfl⟩
  subst ez
  cases rv with
  | cons r0 rr =>
    have hzl : zs.length ≤ sizeLine := by
      rw [← rr.length, sizeLine_eq]
      omega
    have hso : sizeOk (Data.seq (List.drop 1 (z0 :: zs).toArray.toList).toArray) := by
      show sizeOk (Data.seq zs.toArray)
      simp only [sizeOk]
      first | exact hzl | (simp; exact hzl) | (rw [List.size_toArray]; exact hzl)
    refine wpAny_newObj_type ?_ hso
    have I2 : Inv X pins σ (upd H h'.objs.size (.lst xs)) { s with heap := h'.push { cls := .type "list", data := .seq zs.toArray }, toks := tk } :=
      I1.laid (t' := tk) (fun b u e => Heap.get?_push_of_some _ e) (Nat.le_refl _) ⟨by rw [rr.length]; exact hzl, zs, 0, rr, Heap.get?_push_size _ rfl⟩
    have g : PGs X [.Name x px, .Name y py] (gCons (gName i) (gCons (gName j) gNil)) := pgs_cons (pg_name hN hi lx fx) (pgs_cons (pg_name hN hj ly fy) pgs_nil)
    exact g.run pins _ σ _ [z, .ref h'.objs.size] [z0, .ref h'.objs.size] Q I2 (.cons r0 (.cons rfl .nil)) ⟨z, _, rfl, _, _, rfl, rfl, hw _ hf⟩
end
end Fw

/-! Statements and defs. -/
namespace Fw
open PySem PySem.Spec PyProof.Rows L2
/-- what is wanted behind a statement that ends by r -/
def Aft (g : G) (z : Z) (E : XK) (Dn : Ends) : Rs → Prop
  | .nx ρ' S' => ∀ σ' B' H', StoreOk g ⟨B', S', H'⟩ → Stab g z ⟨B', S', H'⟩ → EnvOk g ⟨B', S', H'⟩ ρ' σ' → Dn.nx σ' H'
  | .rt x S' => ∀ v B' H', StoreOk g ⟨B', S', H'⟩ → Stab g z ⟨B', S', H'⟩ → DatA g ⟨B', S', H'⟩ x v → Dn.rt v H'
  | .bk ρ' S' => ∀ σ' B' H', StoreOk g ⟨B', S', H'⟩ → Stab g z ⟨B', S', H'⟩ → EnvOk g ⟨B', S', H'⟩ ρ' σ' → Dn.bk σ' H'
  | .ct ρ' S' => ∀ σ' B' H', StoreOk g ⟨B', S', H'⟩ → Stab g z ⟨B', S', H'⟩ → EnvOk g ⟨B', S', H'⟩ ρ' σ' → Dn.ct σ' H'
  | .ex e S' => ∀ cls d B' H', StoreOk g ⟨B', S', H'⟩ → Stab g z ⟨B', S', H'⟩ → ExOk g ⟨B', S', H'⟩ e cls d → E cls d H'
  | .bad => False
def tSt (g : G) (E : XK) (m : Env → Store → Rs) : TS := fun Dn σ H => ∃ B S ρ, EnvOk g ⟨B, S, H⟩ ρ σ ∧ StoreOk g ⟨B, S, H⟩ ∧ Aft g ⟨B, S, H⟩ E Dn (m ρ S)
theorem Aft.mono {g : G} {z z' : Z} {E : XK} {Dn : Ends} {r : Rs} (h : Aft g z E Dn r) (s : Stab g z z') : Aft g z' E Dn r := by
  cases r with
  | nx ρ S => exact fun σ' B' H' so st eo => h σ' B' H' so (s.trans st) eo
  | rt x S => exact fun v B' H' so st d => h v B' H' so (s.trans st) d
  | bk ρ S => exact fun σ' B' H' so st eo => h σ' B' H' so (s.trans st) eo
  | ct ρ S => exact fun σ' B' H' so st eo => h σ' B' H' so (s.trans st) eo
  | ex e S => exact fun c d B' H' so st x => h c d B' H' so (s.trans st) x
  | bad => exact h
theorem Rz.thenX_aft {g : G} {z : Z} {E : XK} {Dn : Ends} {r : Rz A} {f : A → Store → Rs} {Q : VK} (h : Aft g z E Dn (r.thenX f)) (k : ∀ x S1, Aft g z E Dn (f x S1) → ∀ v B' H', StoreOk g ⟨B', S1, H'⟩ → Stab g z ⟨B', S1, H'⟩ → DatA g ⟨B', S1, H'⟩ x v → Q v H') : AfZ g z Q E r := by
  cases r with
  | ok a S => exact k a S h
  | ex e S => exact h
  | bad => exact h
theorem Rz.then_aft {α : Type} {g : G} {z : Z} {E : XK} {Dn : Ends} {r : Rz α} {f : α → Store → Rs} (h : Aft g z E Dn (r.then f)) : ∃ a S, r = .ok a S ∧ Aft g z E Dn (f a S) := by
  cases r with
  | ok a S => exact ⟨a, S, rfl, h⟩
  | ex e S => exact False.elim h
  | bad => exact False.elim h
section
variable {fa : Ad} {cl : Nat → List A → Store → Rz A} {wf : Nat} {X : Cx} {e a b tg : Expr} {c ca cb : C} {pos : Pos} {k : Nat} {es : List Expr} {cs : List C} {st : Stmt} {sts : List Stmt} {sc : Sc} {scs : List Sc} {E : XK}
abbrev SS (fa : Ad) (cl : Nat → List A → Store → Rz A) (wf : Nat) (E : XK) (X : Cx) (st : Stmt) (c : Sc) : Prop := PS X st (tSt (gx X fa) E (run1 cl wf c))
abbrev SSs (fa : Ad) (cl : Nat → List A → Store → Rz A) (wf : Nat) (E : XK) (X : Cx) (st : List Stmt) (c : List Sc) : Prop := PSs X st (tSt (gx X fa) E (run cl wf c))
theorem sss_nil : SSs fa cl wf E X [] [] := pss_nil.imp fun D σ H q => by
  obtain ⟨B, S, ρ, eo, so, h⟩ := q
  exact h σ B H so Stab.refl eo
theorem sss_cons (h1 : SS fa cl wf E X st sc) (h2 : SSs fa cl wf E X sts scs) : SSs fa cl wf E X (st :: sts) (sc :: scs) := (pss_cons h1 h2).imp fun D σ H q => by
  obtain ⟨B, S, ρ, eo, so, h⟩ := q
  rw [run] at h
  refine ⟨B, S, ρ, eo, so, ?_⟩
  cases hr : run1 cl wf sc ρ S with
  | nx ρ1 S1 =>
    rw [hr] at h
    exact fun σ' B' H' so' st' eo' => ⟨B', S1, ρ1, eo', so', Aft.mono h st'⟩
  | rt x S1 =>
    rw [hr] at h
    exact h
  | bk ρ1 S1 =>
    rw [hr] at h
    exact h
  | ct ρ1 S1 =>
    rw [hr] at h
    exact h
  | ex e S1 =>
    rw [hr] at h
    exact h
  | bad =>
    rw [hr] at h
    exact h
/-- from now on the list is data -/
theorem sss_frz {i : Nat} (h2 : SSs fa cl wf E X sts scs) : SSs fa cl wf E X sts (.frz i :: scs) := h2.imp fun D σ H q => by
  obtain ⟨B, S, ρ, eo, so, h⟩ := q
  rw [run, run1] at h
  split at h
  · rename_i j hj
    split at h
    · rename_i ds hs
      obtain ⟨v, hv, a, hb, rfl, hnr⟩ := eo.get i _ hj
      have fz : Stab (gx X fa) ⟨B, S, H⟩ ⟨B, S.set j .dead, H⟩ := Stab.freeze
      refine ⟨B, S.set j .dead, ρ.set i (some (.p (.lst ds))), ?_, so.freeze hnr, Aft.mono h fz⟩
      obtain ⟨vs, e, l⟩ := so.ob j a ds hb hs
      have d : Dat (gx X fa) ⟨B, S.set j .dead, H⟩ (.lst ds) (.ref a) := ⟨a, vs, rfl, e, freeze_dead so hb hnr, fz.datL l⟩
      have := (eo.mono fz).set (i := i) (x := .p (.lst ds)) d
      have es : σ.set i (some (V.ref a)) = σ := by
        apply List.ext_getElem?
        intro m
        by_cases him : i = m
        · subst him
          rw [List.getElem?_set_self (List.getElem?_eq_some_iff.mp hv).1, hv]
        · rw [List.getElem?_set_ne him]
      rw [es] at this
      exact this
    · rename_i ks ds hs
      obtain ⟨v, hv, a, hb, rfl, hnr⟩ := eo.get i _ hj
      have fz : Stab (gx X fa) ⟨B, S, H⟩ ⟨B, S.set j .dead, H⟩ := Stab.freeze
      refine ⟨B, S.set j .dead, ρ.set i (some (.p (.dct ks ds))), ?_, so.freeze hnr, Aft.mono h fz⟩
      obtain ⟨u, e, ep, hs', ws, rfl, y, ko, kl, l⟩ := so.obj j a _ hb hs (fun z => by cases z)
      have d : Dat (gx X fa) ⟨B, S.set j .dead, H⟩ (.dct ks ds) (.ref a) := ⟨a, ep, hs', ws, rfl, e, freeze_dead so hb hnr, y, ko, fz.keyL kl, fz.datL l⟩
      have := (eo.mono fz).set (i := i) (x := .p (.dct ks ds)) d
      have es : σ.set i (some (V.ref a)) = σ := by
        apply List.ext_getElem?
        intro m
        by_cases him : i = m
        · subst him
          rw [List.getElem?_set_self (List.getElem?_eq_some_iff.mp hv).1, hv]
        · rw [List.getElem?_set_ne him]
      rw [es] at this
      exact this
    · exact False.elim h
  · exact False.elim h
theorem ss_pass : SS fa cl wf E X (.Pass pos) .pass := ps_pass.imp fun D σ H q => by
  obtain ⟨B, S, ρ, eo, so, h⟩ := q
  exact h σ B H so Stab.refl eo
theorem ss_brk : SS fa cl wf E X (.Break pos) .brk := ps_break.imp fun D σ H q => by
  obtain ⟨B, S, ρ, eo, so, h⟩ := q
  exact h σ B H so Stab.refl eo
theorem ss_cnt : SS fa cl wf E X (.Continue pos) .cnt := ps_continue.imp fun D σ H q => by
  obtain ⟨B, S, ρ, eo, so, h⟩ := q
  exact h σ B H so Stab.refl eo
theorem ss_exp (he : SE fa cl X e c) (hs : swapsWith e none pos.line X.env = pure false) : SS fa cl wf E X (.Expr e pos) (.exp c) := (ps_expr he hs).imp fun D σ H q => by
  obtain ⟨B, S, ρ, eo, so, h⟩ := q
  rw [run1] at h
  obtain ⟨x, S1, hx, h1⟩ := Rz.then_aft h
  exact tE.use eo so hx fun v B' H' so' st' eo' d => h1 σ B' H' so' st' eo'
theorem ss_ret (he : SE fa cl X e c) : SS fa cl wf E X (.Return (some e) pos) (.ret c) := (ps_ret he).imp fun D σ H q => by
  obtain ⟨B, S, ρ, eo, so, h⟩ := q
  rw [run1] at h
  obtain ⟨x, S1, hx, h1⟩ := Rz.then_aft h
  exact tE.use eo so hx fun v B' H' so' st' eo' d => h1 v B' H' so' st' d
theorem ss_retN : SS fa cl wf E X (.Return none pos) .retN := ps_retN.imp fun D σ H q => by
  obtain ⟨B, S, ρ, eo, so, h⟩ := q
  exact h .non B H so Stab.refl rfl
theorem asg_rd {g : G} {t : Tg} {D : Ends} {σ : L2.St} {H : Hp} (q : tSt g E (run1 cl wf (.asg t c)) D σ H) : tAsg (tE g (ev cl false c)) (gT g t) D σ H := by
  obtain ⟨B, S, ρ, eo, so, h⟩ := q
  rw [run1] at h
  obtain ⟨x, S1, hx, h1⟩ := Rz.then_aft h
  refine tE.use eo so hx fun v B' H' so' st' eo' d => ?_
  split at h1
  · rename_i ρ1 hb
    exact ⟨B', S1, ρ, x, ρ1, eo', so', d, hb, fun σ' eo2 _ => h1 σ' B' H' so' st' eo2⟩
  · exact False.elim h1
theorem ss_asg {t : Tg} (he : SE fa cl X e c) (hg : SG fa X tg t) (hs : swapsWithSole [tg] e pos.line X.env = pure false) (hw : swappedStores [tg] e X.env = pure none) (h1 : (assignEach [tg] X.env).map (·.2) = [assign tg X.env]) : SS fa cl wf E X (.Assign [tg] e pos) (.asg t c) :=
  (ps_asg he hg hs hw h1).imp fun D σ H q => asg_rd q
theorem ss_asgLc {i : Nat} (h : PS X st (tAsg (tE (gx X fa) (ev cl false c)) (gName i))) : SS fa cl wf E X st (.asg (.nm i) c) := h.imp fun D σ H q => by
  obtain ⟨B, S, ρ, eo, so, h⟩ := q
  rw [run1] at h
  obtain ⟨x, S1, hx, h1⟩ := Rz.then_aft h
  refine tE.use eo so hx fun v B' H' so' st' eo' d => ?_
  rw [bindT] at h1
  exact h1 _ B' H' so' st' (eo'.set d)
theorem ss_par {i j : Nat} (h : ∀ ta, PA X [a, b] ta → PS X st (tPar i j ta)) (ha : SA fa cl X [a, b] [ca, cb]) : SS fa cl wf E X st (.par i j ca cb) := (h _ ha).imp fun D σ H q => by
  obtain ⟨B, S, ρ, eo, so, h⟩ := q
  rw [run1] at h
  obtain ⟨x, S1, hx, h1⟩ := Rz.then_aft h
  obtain ⟨y, S2, hy, h2⟩ := Rz.then_aft h1
  have hxy : evs cl [ca, cb] ρ S = .ok [x, y] S2 := by
    rw [evs, hx]
    show (evs cl [cb] ρ S1).bind _ = _
    rw [evs, hy]
    rfl
  refine tA.use eo so hxy fun vs B' H' so' st' eo' d => ?_
  obtain ⟨v, w, rfl, d1, d2⟩ := d.two
  exact ⟨v, w, rfl, h2 _ B' H' so' st' ((eo'.set d1).set d2)⟩
/-- through a tuple -/
theorem ss_parT {i j kt k2 : Nat} {x y : Str} {px py pt pt2 : Pos} (hc : X.calm = true) (hN : X.N.Nodup) (hi : X.N[i]? = some x) (hj : X.N[j]? = some y) (lx : Loc X.env.scope x) (ly : Loc X.env.scope y) (fx : X.fn x = true ∨ X.env.scope.names.lookup x = some .local) (fy : X.fn y = true ∨ X.env.scope.names.lookup y = some .local)
    (ha : SA fa cl X [a, b] [ca, cb]) (hw : swappedStores [.Tuple [.Name x px, .Name y py] kt pt] (.Tuple [a, b] k2 pt2) X.env = pure none) : SS fa cl wf E X (.Assign [.Tuple [.Name x px, .Name y py] kt pt] (.Tuple [a, b] k2 pt2) pos) (.parT i j ca cb) :=
  (ps_asg (pe_tup ha) (pg_tup hc (pgs_cons (pg_name (pos := px) hN hi lx fx) (pgs_cons (pg_name (pos := py) hN hj ly fy) pgs_nil rfl) rfl) rfl rfl) rfl hw rfl).imp fun D σ H q => by
    obtain ⟨B, S, ρ, eo, so, h⟩ := q
    rw [run1] at h
    obtain ⟨u, S1, hx, h1⟩ := Rz.then_aft h
    obtain ⟨w, S2, hy, h2⟩ := Rz.then_aft h1
    have hxy : evs cl [ca, cb] ρ S = .ok [u, w] S2 := by
      rw [evs, hx]
      show (evs cl [cb] ρ S1).bind _ = _
      rw [evs, hy]
      rfl
    refine tA.use eo so hxy fun vs B' H' so' st' eo' d => ?_
    obtain ⟨v1, v2, rfl, d1, d2⟩ := d.two
    refine ⟨show 2 ≤ sizeLine by decide, fun p hp => ⟨p, [v1, v2], rfl, .inl (.inl upd_same), rfl, v1, [v2], rfl, v2, [], rfl, rfl, ?_⟩⟩
    have st2 := Stab.new (o := .tup [v1, v2]) so' hp
    exact h2 _ B' _ (so'.new hp) (st'.trans st2) (((eo'.mono st2).set (st2.datA d1)).set (st2.datA d2))
theorem ss_setI {o i v : Expr} {co ci cv : C} {tp : Pos} (ho : SE fa cl X o co) (hi : SE fa cl X i ci) (hv : SE fa cl X v cv) (h : ∀ te to ti, PE X v te → PE X o to → PE X i ti → PS X st (tAsg te (gSub to ti rSetL))) : SS fa cl wf E X st (.setI co ci cv) :=
  (h _ _ _ hv ho hi).imp fun D σ H q => by
    obtain ⟨B, S, ρ, eo, so, h⟩ := q
    rw [run1] at h
    obtain ⟨x, S1, hx, h1⟩ := Rz.then_aft h
    obtain ⟨y, S2, hy, h2⟩ := Rz.then_aft h1
    obtain ⟨z, S3, hz, h3⟩ := Rz.then_aft h2
    refine tE.use eo so hx fun v1 B1 H1 so1 st1 eo1 d1 => tE.use eo1 so1 hy fun v2 B2 H2 so2 st2 eo2 d2 => tE.use eo2 so2 hz fun v3 B3 H3 so3 st3 eo3 d3 => ?_
    split at h3
    · rename_i j kk
      split at h3
      · rename_i ys x hs
        split at h3
        · rename_i n hn
          obtain ⟨ad, hb, rfl, _⟩ := st3.datA d2
          obtain ⟨ws, e3, l3⟩ := so3.ob j ad ys hb hs
          refine ⟨ad, ws, kk, n, rfl, d3, e3, by rw [l3.len]; exact hn, ?_⟩
          have dx : Dat (gx X fa) ⟨B3, S3, H3⟩ x v1 := st3.dat _ _ (st2.dat _ _ d1)
          have dl : DatL (gx X fa) ⟨B3, S3, H3⟩ (ys.set n x) (ws.set n v1) := by
            have : ∀ (ys : List Fw.D) (ws : List V) (n : Nat), DatL (gx X fa) ⟨B3, S3, H3⟩ ys ws → DatL (gx X fa) ⟨B3, S3, H3⟩ (ys.set n x) (ws.set n v1) := by
              intro ys
              induction ys with
              | nil =>
                intro ws n h
                rw [show ws = [] from h]
                rfl
              | cons y ys ih =>
                intro ws n h
                obtain ⟨w, r, rfl, a, b⟩ := h
                cases n with
                | zero => exact ⟨v1, r, rfl, dx, b⟩
                | succ n => exact ⟨w, r.set n v1, rfl, a, ih r n b⟩
            exact this ys ws n l3
          have stp := Stab.put (ys := ys.set n x) (vs := ws.set n v1) so3 hb hs
          exact h3 σ B3 _ (so3.put hb hs dl) (((st1.trans st2).trans st3).trans stp) (eo3.mono stp)
        · exact False.elim h3
      · exact False.elim h3
    · exact False.elim h3
theorem ss_ite {sa sb : List Stmt} {xa xb : List Sc} (hc : ST fa cl X e c) (ha : SSs fa cl wf E X sa xa) (hb : SSs fa cl wf E X sb xb) : SS fa cl wf E X (.If e sa sb pos) (.ite c xa xb) := (ps_if hc ha hb).imp fun D σ H q => by
  obtain ⟨B, S, ρ, eo, so, h⟩ := q
  rw [run1] at h
  obtain ⟨x, S1, hx, h1⟩ := Rz.then_aft h
  split at h1
  · refine tT.use eo so hx fun B' H' so' st' eo' => ?_
    simp only [if_true]
    exact ⟨B', S1, ρ, eo', so', Aft.mono h1 st'⟩
  · refine tT.use eo so hx fun B' H' so' st' eo' => ?_
    simp only [Bool.false_eq_true, if_false]
    exact ⟨B', S1, ρ, eo', so', Aft.mono h1 st'⟩
  · exact False.elim h1
theorem ss_for {t : Tg} {kk : ItK} {its : List C} {body : List Stmt} {xs : List Sc} {iter : Expr} (hp : PassesOwn (model X.prog X.w) X.A X.env X.xe) (hc : X.calm = true) (hi : SI fa cl X tg iter kk its) (hg : SG fa X tg t) (hb : SSs fa cl wf E X body xs)
    (hs : ∀ x, foldedSetIterable iter X.env x = pure x) : SS fa cl wf E X (.For tg iter body [] pos) (.for kk its t xs) := (ps_for hp hc hi hg hb hs).imp fun D σ H q => by
  obtain ⟨B, S, ρ, eo, so, h⟩ := q
  rw [run1] at h
  obtain ⟨vs, S1, hvs, h1⟩ := Rz.then_aft h
  obtain ⟨items, S2, hit, h2⟩ := Rz.then_aft h1
  obtain ⟨git, rfl⟩ := Rz.of_ok hit
  refine ⟨B, S, ρ, vs, S2, items, eo, so, hvs, git, fun J B1 H1 so1 st1 hw => ?_⟩
  have h3 : Aft (gx X fa) ⟨B1, S2, H1⟩ E D (forL (bindT t) (run cl wf xs) items ρ S2) := Aft.mono h2 st1
  let W : Nat → Nat → L2.St → Hp → Prop := fun i m σ H => ∃ (B : Bk) (S : Store) (ρ : Env), i ≤ items.length ∧ m = items.length - i ∧ StoreOk (gx X fa) ⟨B, S, H⟩ ∧ Stab (gx X fa) ⟨B1, S2, H1⟩ ⟨B, S, H⟩ ∧ EnvOk (gx X fa) ⟨B, S, H⟩ ρ σ ∧
    Aft (gx X fa) ⟨B1, S2, H1⟩ E D (forL (bindT t) (run cl wf xs) (items.drop i) ρ S)
  refine ⟨W, ⟨items.length, B1, S2, ρ, Nat.zero_le _, by omega, so1, Stab.refl, eo.mono st1, h3⟩, fun i m σ H hW => ?_⟩
  obtain ⟨B, S, ρ, hi, hm, soW, stW, eoW, hA⟩ := hW
  by_cases hlt : i < items.length
  · refine .inr ⟨hw.go i _ _ _ stW.sub soW hlt, fun σ' H' => ∃ m', m' < m ∧ W (i + 1) m' σ' H', fun σ' H' h => h, fun x H' hy => ?_⟩
    obtain ⟨soY, stY, dY⟩ := hw.yld i _ _ _ x H' items[i] stW.sub soW (List.getElem?_eq_getElem hlt) hy
    rw [List.drop_eq_getElem_cons hlt, forL] at hA
    split at hA
    · exact False.elim hA
    · rename_i ρ1 hb
      refine ⟨B, S, ρ, items[i], ρ1, eoW.mono stY, soY, dY, hb, fun σ2 eo2 _ => ⟨B, S, ρ1, eo2, soY, ?_⟩⟩
      have stZ : Stab (gx X fa) ⟨B1, S2, H1⟩ ⟨B, S, H'⟩ := stW.trans stY
      cases hr : run cl wf xs ρ1 S with
      | nx ρ2 S3 =>
        rw [hr] at hA
        exact fun σ' B' H2 so' st' eo' => ⟨items.length - (i + 1), by omega, B', S3, ρ2, hlt, rfl, so', stZ.trans st', eo', hA⟩
      | ct ρ2 S3 =>
        rw [hr] at hA
        exact fun σ' B' H2 so' st' eo' => ⟨items.length - (i + 1), by omega, B', S3, ρ2, hlt, rfl, so', stZ.trans st', eo', hA⟩
      | bk ρ2 S3 =>
        rw [hr] at hA
        exact fun σ' B' H2 so' st' eo' => hA σ' B' H2 so' (stZ.trans st') eo'
      | rt y S3 =>
        rw [hr] at hA
        exact fun v B' H2 so' st' d => hA v B' H2 so' (stZ.trans st') d
      | ex y S3 =>
        rw [hr] at hA
        exact fun c d B' H2 so' st' x => hA c d B' H2 so' (stZ.trans st') x
      | bad =>
        rw [hr] at hA
        exact hA
  · have ei : i = items.length := by omega
    subst ei
    rw [List.drop_length, forL] at hA
    exact .inl ⟨hw.stop _ _ _ stW.sub soW, hA σ B H soW stW eoW⟩
theorem ss_while {body : List Stmt} {xs : List Sc} (hp : PassesOwn (model X.prog X.w) X.A X.env X.xe) (hc : ST fa cl X e c) (hb : SSs fa cl wf E X body xs) : SS fa cl wf E X (.While e body [] pos) (.while c xs) := (ps_while hp hc hb).imp fun D σ H q => by
  obtain ⟨B1, S1, ρ, eo, so1, h⟩ := q
  rw [run1] at h
  let W : Nat → L2.St → Hp → Prop := fun m σ' H' => ∃ (B : Bk) (S : Store) (ρ : Env), StoreOk (gx X fa) ⟨B, S, H'⟩ ∧ Stab (gx X fa) ⟨B1, S1, H⟩ ⟨B, S, H'⟩ ∧ EnvOk (gx X fa) ⟨B, S, H'⟩ ρ σ' ∧ Aft (gx X fa) ⟨B1, S1, H⟩ E D (whileL (ev cl true c) (run cl wf xs) m ρ S)
  refine ⟨W, ⟨wf, B1, S1, ρ, so1, Stab.refl, eo, h⟩, fun m σ' H' hW => ?_⟩
  obtain ⟨B, S, ρ, soW, stW, eoW, hA⟩ := hW
  cases m with
  | zero => exact False.elim hA
  | succ n =>
    rw [whileL] at hA
    obtain ⟨x, S2, hx, hA1⟩ := Rz.then_aft hA
    split at hA1
    · refine tT.use eoW soW hx fun B2 H2 so2 st2 eo2 => ?_
      simp only [Bool.false_eq_true, if_false]
      exact hA1 σ' B2 H2 so2 (stW.trans st2) eo2
    · refine tT.use eoW soW hx fun B2 H2 so2 st2 eo2 => ?_
      simp only [if_true]
      refine ⟨fun σ' H' => ∃ m', m' < n + 1 ∧ W m' σ' H', fun _ _ h => h, B2, S2, ρ, eo2, so2, ?_⟩
      have stZ := stW.trans st2
      cases hr : run cl wf xs ρ S2 with
      | nx ρ2 S3 =>
        rw [hr] at hA1
        exact fun σ' B' H2 so' st' eo' => ⟨n, Nat.lt_succ_self n, B', S3, ρ2, so', stZ.trans st', eo', hA1⟩
      | ct ρ2 S3 =>
        rw [hr] at hA1
        exact fun σ' B' H2 so' st' eo' => ⟨n, Nat.lt_succ_self n, B', S3, ρ2, so', stZ.trans st', eo', hA1⟩
      | bk ρ2 S3 =>
        rw [hr] at hA1
        exact fun σ' B' H2 so' st' eo' => hA1 σ' B' H2 so' (stZ.trans st') eo'
      | rt y S3 =>
        rw [hr] at hA1
        exact fun v B' H2 so' st' d => hA1 v B' H2 so' (stZ.trans st') d
      | ex y S3 =>
        rw [hr] at hA1
        exact fun c d B' H2 so' st' x => hA1 c d B' H2 so' (stZ.trans st') x
      | bad =>
        rw [hr] at hA1
        exact hA1
    · exact False.elim hA1
theorem ss_expX {x : XC} (he : SX fa cl E X e x) (hs : swapsWith e none pos.line X.env = pure false) : SS fa cl wf E X (.Expr e pos) (.expX x) := (ps_expr he hs).imp fun D σ H q => by
  obtain ⟨B, S, ρ, eo, so, h⟩ := q
  rw [run1] at h
  exact ⟨B, S, ρ, eo, so, Rz.thenX_aft h fun x S1 h1 v B' H' so' st' d => h1 σ B' H' so' st' (eo.mono st')⟩
theorem ss_retX {x : XC} (he : SX fa cl E X e x) : SS fa cl wf E X (.Return (some e) pos) (.retX x) := (ps_ret he).imp fun D σ H q => by
  obtain ⟨B, S, ρ, eo, so, h⟩ := q
  rw [run1] at h
  exact ⟨B, S, ρ, eo, so, Rz.thenX_aft h fun x S1 h1 v B' H' so' st' d => h1 v B' H' so' st' d⟩
theorem ss_asgX {t : Tg} {x : XC} (he : SX fa cl E X e x) (hg : SG fa X tg t) (hs : swapsWithSole [tg] e pos.line X.env = pure false) (hw : swappedStores [tg] e X.env = pure none) (h1 : (assignEach [tg] X.env).map (·.2) = [assign tg X.env]) : SS fa cl wf E X (.Assign [tg] e pos) (.asgX t x) :=
  (ps_asg he hg hs hw h1).imp fun D σ H q => by
    obtain ⟨B, S, ρ, eo, so, h⟩ := q
    rw [run1] at h
    refine ⟨B, S, ρ, eo, so, Rz.thenX_aft h fun x S1 h1 v B' H' so' st' d => ?_⟩
    split at h1
    · rename_i ρ1 hb
      exact ⟨B', S1, ρ, x, ρ1, eo.mono st', so', d, hb, fun σ' eo2 _ => h1 σ' B' H' so' st' eo2⟩
    · exact False.elim h1
theorem ss_asgS {i j : Nat} (he : SE fa cl X e c) (hg : PG X tg (gStar X.K i j)) (hs : swapsWithSole [tg] e pos.line X.env = pure false) (hw : swappedStores [tg] e X.env = pure none) (h1 : (assignEach [tg] X.env).map (·.2) = [assign tg X.env]) : SS fa cl wf E X (.Assign [tg] e pos) (.asgS i j c) :=
  (ps_asg he hg hs hw h1).imp fun D σ H q => by
    obtain ⟨B, S, ρ, eo, so, h⟩ := q
    rw [run1] at h
    obtain ⟨x, S1, hx, h1⟩ := Rz.then_aft h
    refine tE.use eo so hx fun v B' H' so' st' eo' d => ?_
    split at h1
    · rename_i d0 ds
      split at h1
      · rename_i hl
        obtain ⟨a, vs, rfl, t, l⟩ := d
        obtain ⟨v0, vr, rfl, dv, dl⟩ := l
        refine ⟨a, v0, vr, rfl, t, by rw [dl.len]; exact hl, fun p hp => h1 _ B' _ (so'.new hp) (st'.trans (Stab.new so' hp)) ?_⟩
        have st2 := Stab.new (o := .lst vr) so' hp
        exact ((eo'.mono st2).set (x := .p d0) (st2.dat _ _ dv)).set (x := .p (.lst ds)) (new_lst so' hp dl)
      · exact False.elim h1
    · exact False.elim h1
theorem ss_expE {x : CXx} (he : SXE fa cl E X e x) (hs : swapsWith e none pos.line X.env = pure false) : SS fa cl wf E X (.Expr e pos) (.expE x) := (ps_expr he hs).imp fun D σ H q => by
  obtain ⟨B, S, ρ, eo, so, h⟩ := q
  rw [run1] at h
  exact ⟨B, S, ρ, eo, so, Rz.thenX_aft h fun x S1 h1 v B' H' so' st' d => h1 σ B' H' so' st' (eo.mono st')⟩
theorem ss_retE {x : CXx} (he : SXE fa cl E X e x) : SS fa cl wf E X (.Return (some e) pos) (.retE x) := (ps_ret he).imp fun D σ H q => by
  obtain ⟨B, S, ρ, eo, so, h⟩ := q
  rw [run1] at h
  exact ⟨B, S, ρ, eo, so, Rz.thenX_aft h fun x S1 h1 v B' H' so' st' d => h1 v B' H' so' st' d⟩
theorem ss_asgE {t : Tg} {x : CXx} (he : SXE fa cl E X e x) (hg : SG fa X tg t) (hs : swapsWithSole [tg] e pos.line X.env = pure false) (hw : swappedStores [tg] e X.env = pure none) (h1 : (assignEach [tg] X.env).map (·.2) = [assign tg X.env]) : SS fa cl wf E X (.Assign [tg] e pos) (.asgE t x) :=
  (ps_asg he hg hs hw h1).imp fun D σ H q => by
    obtain ⟨B, S, ρ, eo, so, h⟩ := q
    rw [run1] at h
    refine ⟨B, S, ρ, eo, so, Rz.thenX_aft h fun x S1 h1 v B' H' so' st' d => ?_⟩
    split at h1
    · rename_i ρ1 hb
      exact ⟨B', S1, ρ, x, ρ1, eo.mono st', so', d, hb, fun σ' eo2 _ => h1 σ' B' H' so' st' eo2⟩
    · exact False.elim h1
theorem aug_fin {ci j : Nat} {n : Str} {ad : Addr} {B : Bk} {S : Store} {H : Hp} {c' : Nat} {ns : List Str} {ds : List D} {i : Int} {σ : L2.St} {ρ : Env} {z0 : Z} {D : Ends} (so : StoreOk (gx X fa) ⟨B, S, H⟩) (hb : B.l[j]? = some ad) (hs' : S[j]? = some (.ins c' ns ds)) (hl : ns.length < 900) (st : Stab (gx X fa) z0 ⟨B, S, H⟩) (eo : EnvOk (gx X fa) ⟨B, S, H⟩ ρ σ)
    (h : Aft (gx X fa) z0 E D (.nx ρ (S.set j (.ins c' (putN n (.int i) ns ds).1 (putN n (.int i) ns ds).2)))) : ∃ dx' fs', H ad = some (.ins (fa.c c') dx' fs') ∧ fs'.length < 1000 ∧ D.nx σ (upd H ad (.ins (fa.c c') dx' (putF n (.int i) fs'))) := by
  obtain ⟨u, hu, dx, vs, eu, ln, dl⟩ := so.obj j ad _ hb hs' (fun z => by cases z)
  subst eu
  have dd : Dat (gx X fa) ⟨B, S, H⟩ (.int i) (.int i) := rfl
  obtain ⟨ws, w1, w2, w3⟩ := putN_dat (n := n) dd ln dl
  have ne : (MO.ins c' ns ds).lv := trivial
  have stp := Stab.putO (o' := .ins c' (putN n (.int i) ns ds).1 (putN n (.int i) ns ds).2) (w := .ins (fa.c c') dx (putF n (.int i) (ns.zip vs))) so hb hs' ne
  have sop := so.putO hb hs' ne (o' := .ins c' (putN n (.int i) ns ds).1 (putN n (.int i) ns ds).2) (w := .ins (fa.c c') dx (putF n (.int i) (ns.zip vs))) ⟨dx, ws, by rw [w2], w3, w1⟩
  refine ⟨dx, _, hu, ?_, h σ B _ sop (st.trans stp) (eo.mono stp)⟩
  rw [List.length_zip]
  omega
theorem ss_augF {o v : Expr} {co cv : C} {ci : Nat} {n : Str} {sb : Bool} {tpos : Pos} (ho : SE fa cl X o co) (hv : SE fa cl X v cv) (hc : Cls X.K (fa.c ci)) (hn : NoAttr X.K (fa.c ci) n) :
    SS fa cl wf E X (.AugAssign (.Attribute o n tpos) (if sb then .Sub else .Add) v pos) (.augF ci co n sb cv) := by
  have key : ∀ D σ H, tSt (gx X fa) E (run1 cl wf (.augF ci co n sb cv)) D σ H → sFldAug X.K (tE (gx X fa) (ev cl false co)) (tE (gx X fa) (ev cl false cv)) (fun x y H Q => ∃ i j, x = V.int i ∧ y = V.int j ∧ Q (.int (if sb then i - j else i + j)) H) n D σ H := by
    intro D σ H q
    obtain ⟨B, S, ρ, eo, so, h⟩ := q
    rw [run1] at h
    obtain ⟨x, S1, hx, h1⟩ := Rz.then_aft h
    refine tE.use eo so hx fun v1 B1 H1 so1 st1 eo1 d1 => ?_
    split at h1
    · rename_i j
      obtain ⟨ad, hb, rfl, hnr⟩ := d1
      split at h1
      · rename_i c' ns ds hs1
        split at h1
        · rename_i hc1
          subst hc1
          obtain ⟨u, hu, dx, vs, eu, ln, dl⟩ := so1.obj j ad _ hb hs1 (fun z => by cases z)
          subst eu
          split at h1
          · rename_i i hg
            obtain ⟨w, hw, dw⟩ := getN_dat dl hg
            have dw : w = V.int i := dw
            subst dw
            obtain ⟨y, S2, hy, h2⟩ := Rz.then_aft h1
            refine ⟨ad, _, dx, _, _, rfl, hu, hc, hn, hw, tE.use eo1 so1 hy fun v2 B2 H2 so2 st2 eo2 d2 => ?_⟩
            split at h2
            · rename_i m c2 ns2 ds2 hs2
              split at h2
              · rename_i hcl
                obtain ⟨hc2, hl⟩ := hcl
                have d2 : v2 = V.int m := d2
                subst d2
                have := aug_fin (ci := c') so2 (st2.pre _ _ hb hnr).1 hs2 hl (st1.trans st2) eo2 h2
                rw [hc2] at this
                exact ⟨i, m, rfl, rfl, this⟩
              · exact False.elim h2
            · exact False.elim h2
          · exact False.elim h1
        · exact False.elim h1
      · exact False.elim h1
    · exact False.elim h1
  cases sb with
  | true => exact (ps_fldaug ho hv in_sub).imp key
  | false => exact (ps_fldaug ho hv in_add).imp key
theorem putA_dat {g : G} {z : Z} {n : Str} {d : A} {y : V} (dy : DatA g z d y) : ∀ {ns : List Str} {ds : List A} {vs : List V}, ns.length = ds.length → DatAL g z ds vs →
    ∃ ws, DatAL g z (putN n d ns ds).2 ws ∧ (putN n d ns ds).1.zip ws = putF n y (ns.zip vs) ∧ (putN n d ns ds).1.length = (putN n d ns ds).2.length
  | [], [], vs, _, h => by
    rw [show vs = [] from h]
    exact ⟨[y], ⟨y, [], rfl, dy, rfl⟩, rfl, rfl⟩
  | m :: ns, x :: ds, _, hl, ⟨v, r, e, a, b⟩ => by
    subst e
    rw [List.zip_cons_cons, putN]
    show ∃ ws, _ ∧ _ = (if m = n then (m, y) :: ns.zip r else (m, v) :: putF n y (ns.zip r)) ∧ _
    by_cases hm : m = n
    · rw [if_pos hm, if_pos hm]
      exact ⟨y :: r, ⟨y, r, rfl, dy, b⟩, rfl, hl⟩
    · rw [if_neg hm, if_neg hm]
      obtain ⟨ws, h1, h2, h3⟩ := putA_dat dy (Nat.succ.inj hl) b
      exact ⟨v :: ws, ⟨v, ws, rfl, a, h1⟩, by rw [List.zip_cons_cons, h2], by rw [List.length_cons, List.length_cons, h3]⟩
  | [], _ :: _, _, hl, _ => by cases hl
  | _ :: _, [], _, hl, _ => by cases hl
theorem putA_mem {n : Str} {d x : A} : ∀ {ns : List Str} {ds : List A}, x ∈ (putN n d ns ds).2 → x = d ∨ x ∈ ds
  | [], _, h => by
    rw [putN] at h
    exact .inl (List.mem_singleton.mp h)
  | m :: ns, y :: ds, h => by
    rw [putN] at h
    by_cases hm : m = n
    · rw [if_pos hm] at h
      rcases List.mem_cons.mp h with h | h
      · exact .inl h
      · exact .inr (List.mem_cons_of_mem _ h)
    · rw [if_neg hm] at h
      rcases List.mem_cons.mp h with h | h
      · exact .inr (by rw [h]; exact List.mem_cons_self ..)
      · rcases putA_mem h with h | h
        · exact .inl h
        · exact .inr (List.mem_cons_of_mem _ h)
  | m :: ns, [], h => by
    rw [putN] at h
    cases h
theorem ss_setF {o v : Expr} {co cv : C} {ci : Nat} {n : Str} {pos' : Pos} (ho : SE fa cl X o co) (hv : SE fa cl X v cv) (hc : Cls X.K (fa.c ci)) (hn : NoAttr X.K (fa.c ci) n) (hs : swapsWith v (some (.Attribute o n pos')) pos.line X.env = pure false) :
    SS fa cl wf E X (.Assign [.Attribute o n pos'] v pos) (.setF ci co n cv) := (ps_fld ho hv hs).imp fun D σ H q => by
  obtain ⟨B, S, ρ, eo, so, h⟩ := q
  rw [run1] at h
  obtain ⟨x, S1, hx, h1⟩ := Rz.then_aft h
  obtain ⟨y, S2, hy, h2⟩ := Rz.then_aft h1
  refine tE.use eo so hx fun v1 B1 H1 so1 st1 eo1 d1 => tE.use eo1 so1 hy fun v2 B2 H2 so2 st2 eo2 d2 => ?_
  split at h2
  · rename_i j d
    split at h2
    · rename_i c' ns ds hs'
      split at h2
      · rename_i hc'
        obtain ⟨rfl, hl⟩ := hc'
        obtain ⟨ad, hb, rfl, _⟩ := d2
        obtain ⟨u, hu, dx, vs, eu, ln, dl⟩ := so2.obj j ad _ hb hs' (fun z => by cases z)
        subst eu
        have dd : Dat (gx X fa) ⟨B2, S2, H2⟩ d v1 := st2.dat _ _ d1
        obtain ⟨ws, w1, w2, w3⟩ := putN_dat (n := n) dd ln dl
        have ne : (MO.ins c' ns ds).lv := trivial
        have stp := Stab.putO (o' := .ins c' (putN n d ns ds).1 (putN n d ns ds).2) (w := .ins (fa.c c') dx (putF n v1 (ns.zip vs))) so2 hb hs' ne
        have sop := so2.putO hb hs' ne (o' := .ins c' (putN n d ns ds).1 (putN n d ns ds).2) (w := .ins (fa.c c') dx (putF n v1 (ns.zip vs))) ⟨dx, ws, by rw [w2], w3, w1⟩
        refine ⟨ad, _, dx, _, rfl, hu, hc, hn, ?_, h2 σ B2 _ sop ((st1.trans st2).trans stp) (eo2.mono stp)⟩
        rw [List.length_zip]
        omega
      · exact False.elim h2
    · rename_i c' ns xs hs'
      split at h2
      · rename_i hc'
        obtain ⟨rfl, hl⟩ := hc'
        obtain ⟨ad, hb, rfl, _⟩ := d2
        obtain ⟨u, hu, dx, vs, eu, ln, dl⟩ := so2.obj j ad _ hb hs' (fun z => by cases z)
        subst eu
        have dd : DatA (gx X fa) ⟨B2, S2, H2⟩ (.p d) v1 := st2.dat _ _ d1
        obtain ⟨ws, w1, w2, w3⟩ := putA_dat (n := n) dd ln dl
        have ne : (MO.inm c' ns xs).lv := trivial
        have stp := Stab.putO (o' := .inm c' (putN n (.p d) ns xs).1 (putN n (.p d) ns xs).2) (w := .ins (fa.c c') dx (putF n v1 (ns.zip vs))) so2 hb hs' ne
        have sop := so2.putO hb hs' ne (o' := .inm c' (putN n (.p d) ns xs).1 (putN n (.p d) ns xs).2) (w := .ins (fa.c c') dx (putF n v1 (ns.zip vs))) ⟨dx, ws, by rw [w2], w3, w1⟩ (by
          intro c2 ns2 xs2 e m hm
          cases e
          rcases putA_mem hm with q | q
          · cases q
          · exact so2.lt j _ _ _ hs' m q)
        refine ⟨ad, _, dx, _, rfl, hu, hc, hn, ?_, h2 σ B2 _ sop ((st1.trans st2).trans stp) (eo2.mono stp)⟩
        rw [List.length_zip]
        omega
      · exact False.elim h2
    · exact False.elim h2
  · exact False.elim h2
end
/-! ### a def -/
theorem fin_ok {g : G} {z0 : Z} {x y : A} {B' : Bk} {S0 S' S'' : Store} {H' : Hp} {v : V} (hn : z0.B.l.length = S0.length) (h : fin S0.length x S' = .ok y S'') (so : StoreOk g ⟨B', S', H'⟩) (st : Stab g z0 ⟨B', S', H'⟩) (d : DatA g ⟨B', S', H'⟩ x v) :
    ∃ B'', StoreOk g ⟨B'', S'', H'⟩ ∧ Stab g z0 ⟨B'', S'', H'⟩ ∧ DatA g ⟨B'', S'', H'⟩ y v := by
  unfold fin at h
  split at h
  · cases h
    exact ⟨B', so, st, d⟩
  · split at h
    · rename_i hc
      cases h
      refine ⟨B'.take S0.length, so.cut, st.cut (by rw [hn]; exact Nat.le_refl _), ?_⟩
      cases x with
      | p d' => exact Dat.cut d
      | m i => exact absurd hc (by simp [isP])
    · cases h
      exact ⟨B', so, st, d⟩
theorem DatAL.start {g : G} {z : Z} : ∀ {xs : List A} {vs : List V} {m : Nat}, DatAL g z xs vs → EnvOk g z (xs.map some ++ List.replicate m none) (vs.map some ++ List.replicate m none) := fun {xs vs m} d => by
  refine ⟨by rw [List.length_append, List.length_append, List.length_map, List.length_map, d.len, List.length_replicate, List.length_replicate], fun i x h => ?_⟩
  by_cases hi : i < xs.length
  · rw [List.getElem?_append_left (by rw [List.length_map]; exact hi), List.getElem?_map] at h
    cases q : xs[i]? with
    | none => rw [q] at h; cases h
    | some y =>
      rw [q] at h
      cases h
      obtain ⟨v, hv, dv⟩ := d.get q
      exact ⟨v, by rw [List.getElem?_append_left (by rw [List.length_map, d.len]; exact hi), List.getElem?_map, hv]; rfl, dv⟩
  · rw [List.getElem?_append_right (by rw [List.length_map]; omega), List.getElem?_replicate] at h
    split at h <;> cases h
/-- a def keeps what the evaluator says of it -/
theorem body_rd {ft : List Fn} {wf k fi : Nat} {fa : Ad} {K : PySem.W.Frag} {w : World} {N : List Str} {np : Nat} {i : Fn} {vs : List V} {H : Hp} {Q : VK} {E : XK} (hi : ft[fi]? = some i) (hnp : i.np = np) (hnn : i.nn = N.length) (h : spX ⟨K, fa, w⟩ np (callI ft wf (k + 1) fi) vs H Q E) :
    tSt ⟨K, fa, w⟩ E (run (callI ft wf k) wf i.code) { nx := fun _ H' => Q .non H', rt := Q } (L2.start N vs) H := by
  obtain ⟨B, S, xs, so, d, hl, hm⟩ := h
  rw [callI, hi] at hm
  dsimp only at hm
  rw [if_pos (by rw [hl, hnp])] at hm
  refine ⟨B, S, xs.map some ++ List.replicate (i.nn - i.np) none, ?_, so, ?_⟩
  · have := d.start (m := i.nn - i.np)
    unfold L2.start
    rw [d.len, hl, ← hnn, ← hnp]
    exact this
  · cases hr : run (callI ft wf k) wf i.code (xs.map some ++ List.replicate (i.nn - i.np) none) S with
    | nx ρ2 S3 =>
      rw [hr] at hm
      intro σ' B' H' so' st' eo'
      cases hf : fin S.length (.p .non) S3 with
      | ok y S4 =>
        dsimp only at hm
        rw [hf] at hm
        obtain ⟨B'', so'', st'', d''⟩ := fin_ok (v := V.non) so.len hf so' st' rfl
        exact hm _ B'' H' so'' st'' d''
      | ex e S4 =>
        unfold fin at hf
        split at hf
        · cases hf
        · split at hf <;> cases hf
      | bad =>
        dsimp only at hm
        rw [hf] at hm
        exact False.elim hm
    | rt y S3 =>
      rw [hr] at hm
      intro v B' H' so' st' d'
      cases hf : fin S.length y S3 with
      | ok y' S4 =>
        dsimp only at hm
        rw [hf] at hm
        obtain ⟨B'', so'', st'', d''⟩ := fin_ok so.len hf so' st' d'
        exact hm _ B'' H' so'' st'' d''
      | ex e S4 =>
        unfold fin at hf
        split at hf
        · cases hf
        · split at hf <;> cases hf
      | bad =>
        dsimp only at hm
        rw [hf] at hm
        exact False.elim hm
    | bk ρ2 S3 => rw [hr] at hm; exact False.elim hm
    | ct ρ2 S3 => rw [hr] at hm; exact False.elim hm
    | ex y S3 =>
      rw [hr] at hm
      intro cls dd B' H' so' st' x
      exact hm cls dd _ H' so'.cut (st'.cut (by rw [show (Z.mk B S H).B.l.length = B.l.length from rfl, show B.l.length = S.length from so.len]; exact Nat.le_refl _)) x.cut
    | bad => rw [hr] at hm; exact False.elim hm
theorem spX_len {g : G} {np : Nat} {m : List A → Store → Rz A} {vs : List V} {H : Hp} {Q : VK} {E : XK} (h : spX g np m vs H Q E) : vs.length = np := by
  obtain ⟨B, S, xs, so, d, hl, _⟩ := h
  rw [d.len, hl]
theorem fn_ok {ft : List Fn} {wf k fi : Nat} {fa : Ad} {P : Program} {w : World} {K : PySem.W.Frag} {mg : Str → Option Value} {base : Heap} {x qual : Str} {params : Arguments} {body : List Stmt} {scope : Scope} {dvs : List V} {kws : List (Str × V)} {f : Addr} {fd : FuncData} {N ps : List Str} {i : Fn}
    (F : FunD K x qual params body scope dvs kws f fd) (Sc : FnScope N ps scope) (hi : ft[fi]? = some i) (hnp : i.np = ps.length) (hnn : i.nn = N.length)
    (hbody : ∀ (cdv : Value) (A : Around) (outer : List PySem.Env) (s : Shared) (H : Hp) (E : XK), PySem.W.codeIn K cdv qual = true → (∃ oc od osl, K.lookup f = some ⟨oc, od, .func fd, osl⟩ ∧ fd.code = cdv) → Room (4 * k + 11) (A.deeper (envOfC qual scope s.heap.objs.size f cdv)) → SSs fa (callI ft wf k) wf E (cxOf (L2.CX P w) P w K mg base N qual scope f cdv A outer s H E) body i.code) :
    FnOk P w K mg base (L2.CX P w) (4 * k + 11 + 1) f fd ps (spX ⟨K, fa, w⟩ ps.length (callI ft wf (k + 1) fi)) := by
  obtain ⟨oc, od, dV, kV, doc, pm, an, cdv, ct, osl, rfl, lk, hcd, _, _⟩ := F.ex
  exact fn_of lk hcd Sc (fun vs H Q E h => spX_len h) fun A outer s H vs Q E hr h => ⟨_, hbody cdv A outer s H E hcd ⟨_, _, _, lk, rfl⟩ hr, body_rd hi hnp hnn h⟩
/-- a def with one parameter and a star parameter -/
theorem fn_okS {ft : List Fn} {wf k fi : Nat} {fa : Ad} {P : Program} {w : World} {K : PySem.W.Frag} {mg : Str → Option Value} {base : Heap} {x qual : Str} {params : Arguments} {body : List Stmt} {scope : Scope} {f : Addr} {fd : FuncData} {N : List Str} {p1 pv : Str} {i : Fn}
    (F : FunD K x qual params body scope [] [] f fd) (Sc : FnScope N [p1, pv] scope) (hi : ft[fi]? = some i) (hnp : i.np = 2) (hnn : i.nn = N.length)
    (hb : ∀ us rest : List Value, us.length = [p1].length → bindArgs fd ⟨us ++ rest, []⟩ = (newTuple rest >>= fun t => pure ([p1].zip us ++ [(pv, t)])))
    (hbody : ∀ (cdv : Value) (A : Around) (outer : List PySem.Env) (s : Shared) (H : Hp) (E : XK), PySem.W.codeIn K cdv qual = true → (∃ oc od osl, K.lookup f = some ⟨oc, od, .func fd, osl⟩ ∧ fd.code = cdv) → Room (4 * k + 11) (A.deeper (envOfC qual scope s.heap.objs.size f cdv)) → SSs fa (callI ft wf k) wf E (cxOf (L2.CX P w) P w K mg base N qual scope f cdv A outer s H E) body i.code) :
    FnR P w K mg base (L2.CX P w) (4 * k + 11 + 1) f (spStar ⟨K, fa, w⟩ (callI ft wf (k + 1) fi)) := by
  obtain ⟨oc, od, dV, kV, doc, pm, an, cdv, ct, osl, rfl, lk, hcd, _, _⟩ := F.ex
  exact StX.fn_star (ps := [p1]) lk hcd Sc StX.cxUp hb fun A outer s H vs Q E hr h => ⟨_, hbody cdv A outer s H E hcd ⟨_, _, _, lk, rfl⟩ hr, body_rd hi hnp hnn h⟩
end Fw

/-! Own exceptions over ValueError or LookupError. -/
namespace Fw
open PySem PySem.Spec PyProof.Rows L2
/-- a base that is built in -/
structure XBase (B newId initId : String) (bm : List Value) : Prop where
  ex : ExcBaseFacts B newId initId bm
  st : StoreFacts B bm "object.__setattr__" "object"
/-- what the text says of the class -/
structure OexG (K : PySem.W.Frag) (C : Addr) : Prop where
  cls : ∃ B newId initId bmB nm q N bs bm sn sub ab col dd k0 k1 k2 k3 k5, XBase B newId initId bmB ∧ K.lookup C = some (excClassObj nm q C N bs bm true sn sub ab col dd k0 k1 k2 k3 k5 newId) ∧ PySem.W.excTail bmB bm = true
  sa : PySem.W.findIn K (.ref C) "__setattr__" = some (some (.builtin "object.__setattr__"))
  exC : PySem.W.subIn K (.ref C) (.type "BaseException") = some true
  tyC : PySem.W.typeIn K (.ref C) = some (.type "type")
  kC : PySem.W.keepIn K (.ref C) = true
section
open Builtin Builtin.ObjectAttr
variable {prog : Program} {w : World} {A : Around} {E : Value → Shared → Prop} {R : Result → Shared → Prop} {hp : Heap} {g : Array GenState} {d : Drawn} {t : Nat} {os : OsState}
  {B newId initId : String} {bmB : List Value} {nm q : Str} {N C x : Addr} {bs bm sub : List Value} {sn : List Str} {ab : Bool} {col : Option Bool} {dd : Option Addr} {k0 k1 k2 k3 k5 : Option Value} {K : PySem.W.Frag} {name : Str} {tk : Tok} {v : Value} {fv : Array Value}
theorem cls_in (hC : K.lookup C = some (excClassObj nm q C N bs bm true sn sub ab col dd k0 k1 k2 k3 k5 newId)) : PySem.W.clsIn K C = some { name := nm, bases := bs, mro := .ref C :: bm, ns := N, qualname := q, hasDict := true, slotNames := sn, subclasses := sub, abstract := ab, collection := col, hasDel := false } := by
  unfold PySem.W.clsIn
  rw [hC] <;> rfl
theorem over_in (hC : K.lookup C = some (excClassObj nm q C N bs bm true sn sub ab col dd k0 k1 k2 k3 k5 newId)) (ht : PySem.W.excTail bmB bm = true) : PySem.W.excOver K C bmB = true := by
  unfold PySem.W.excOver
  rw [cls_in hC]
  show (C == C && PySem.W.excTail bmB bm) = true
  rw [ht, beq_self_eq_true]
  rfl
theorem taker_no (h : PySem.W.findIn K (.ref C) name = some none) : PySem.W.takerIn K C name = some none := by
  unfold PySem.W.takerIn
  rw [h]
  rfl
/-- the first attribute -/
theorem set_first (XB : XBase B newId initId bmB) (X : K.In hp) (hx : hp.get? x = some { cls := .ref C, data := .fields fv }) (hC : K.lookup C = some (excClassObj nm q C N bs bm true sn sub ab col dd k0 k1 k2 k3 k5 newId)) (ht : PySem.W.excTail bmB bm = true) (ha : PySem.W.findIn K (.ref C) name = some none)
    (hq : ∀ h' tk' dx, (∀ b o, b ≠ x → hp.get? b = some o → h'.get? b = some o) → hp.objs.size ≤ dx → dx ≠ x → h'.get? x = some { cls := .ref C, dict := some dx, data := .fields fv } →
      h'.Ns1 dx (fun y => if y = name then some v else none) → R (.ok (.ret .none)) ⟨h', g, d, tk', os⟩) :
    codeAny (model prog w) A (.call (.builtin "object.__setattr__") ⟨[.ref x, .str name tk, v], []⟩) R ⟨hp, g, d, t, os⟩ := by
  have I : PySem.W.InstAt hp x { cls := .ref C, data := .fields fv } C none := ⟨hx, rfl, rfl, trivial⟩
  have hxs : x ≠ hp.objs.size := Nat.ne_of_lt (Heap.lt_size hx)
  have hcls : PySem.W.Looks (model prog w) hp (classData C) _ := PySem.W.looks_clsIn X (cls_in hC)
  refine PySem.W.osa_openX (s := ⟨hp, g, d, t, os⟩) XB.st X I (over_in hC ht) (taker_no ha) fun b => ?_
  show wpAny _ _ (storeInOwnDict (.ref x) (.ref C) (.str name tk) name v b) _ _ _
  unfold storeInOwnDict ownDictForStores
  repeat (first | with_reducible refine PySem.HandSPX.store_in_new ?_ ?_ | with_reducible refine wpAny_loadPart_at hx ?_ | with_reducible refine hcls.at ?_ | wp_step)
  · exact ⟨_, #[], _, (Heap.get?_update_ne _ _ _ _ hxs.symm).trans (Heap.get?_push_at rfl rfl), rfl, fun e he => absurd he (by simp), fun _ => rfl⟩
  · intro h' tk' hn' hs
    have hx1 : (hp.push { cls := .type "dict", data := .dict #[] }).get? x = some { cls := .ref C, data := .fields fv } := Heap.get?_push_of_some _ hx
    refine hq h' tk' hp.objs.size (fun b o hb ho => ?_) (Nat.le_refl _) hxs.symm ?_ hn'
    · exact (hs.2 b (Nat.ne_of_lt (Heap.lt_size ho))).trans ((Heap.get?_update_ne _ _ _ _ hb).trans (Heap.get?_push_of_some _ ho))
    · exact (hs.2 x hxs).trans (Heap.get?_update_self _ hx1 rfl)
/-- a further one -/
theorem set_more {dx : Addr} {m0 : Str → Option Value} {nl : List Str} (XB : XBase B newId initId bmB) (X : K.In hp) (hx : hp.get? x = some { cls := .ref C, dict := some dx, data := .fields fv }) (hns : hp.Ns1 dx m0) (hw : Within m0 nl) (hz : nl.length ≤ 1000)
    (hC : K.lookup C = some (excClassObj nm q C N bs bm true sn sub ab col dd k0 k1 k2 k3 k5 newId)) (ht : PySem.W.excTail bmB bm = true) (ha : PySem.W.findIn K (.ref C) name = some none)
    (hq : ∀ h' tk', (∀ b o, b ≠ dx → hp.get? b = some o → h'.get? b = some o) → h'.Ns1 dx (fun y => if y = name then some v else m0 y) → R (.ok (.ret .none)) ⟨h', g, d, tk', os⟩) :
    codeAny (model prog w) A (.call (.builtin "object.__setattr__") ⟨[.ref x, .str name tk, v], []⟩) R ⟨hp, g, d, t, os⟩ := by
  obtain ⟨oD, esD, epD, hoD, hdD, _⟩ := hns.count hw
  have I : PySem.W.InstAt hp x { cls := .ref C, dict := some dx, data := .fields fv } C (some oD) := ⟨hx, rfl, rfl, hoD⟩
  have hcls : PySem.W.Looks (model prog w) hp (classData C) _ := PySem.W.looks_clsIn X (cls_in hC)
  refine PySem.W.osa_openX (s := ⟨hp, g, d, t, os⟩) XB.st X I (over_in hC ht) (taker_no ha) fun b => ?_
  show wpAny _ _ (storeInOwnDict (.ref x) (.ref C) (.str name tk) name v b) _ _ _
  unfold storeInOwnDict ownDictForStores
  repeat (first | with_reducible refine PySem.OEX.store_in_old hns hw hz ?_ | with_reducible refine wpAny_loadPart_at hx ?_ | with_reducible refine hcls.at ?_ | wp_step)
  intro h' tk' hn' hs
  exact hq h' tk' (fun b o hb ho => (hs.2 b hb).trans ho) hn'
end
/-! ### in the hand layer -/
section
variable {X : Cx} {pins : List (Addr × Obj)} {σ : L2.St} {H : Hp} {s : Shared} {a C dx : Addr} {f : Str} {y : V} {u : Value} {fs : List (Str × V)} {Q : Unit → Shared → Prop} {E : Value → Shared → Prop} {A : Around}
/-- self.f = y, the first one -/
theorem stG_new (T : OexG X.K C) (I : Inv X pins σ H s) (e : H a = some (exo a C none)) (hno : PySem.W.findIn X.K (.ref C) f = some none) (ry : RelV y u)
    (h : ∀ dx s', H dx = none → dx ≠ a → Inv X pins σ (upd (upd H dx (exd dx [(f, y)])) a (exo a C (some dx))) s' → Q () s') : wpAny (model X.prog X.w) A (setAttr (.ref a) f u) Q E s := by
  obtain ⟨B, newId, initId, bmB, nm, q, N, bs, bm, sn, sub, ab, col, dd, k0, k1, k2, k3, k5, XB, hC, ht⟩ := T.cls
  obtain ⟨t1, ho⟩ := exo_at I.hok e
  obtain ⟨hp, g, d, t, os⟩ := s
  refine PySem.W.set_plain I.kIn (ox := { cls := .ref C, dict := none, data := .fields #[.ref t1, .none, .none, .none, .bool false, .none] }) (od := none) ⟨ho, rfl, rfl, trivial⟩ T.sa ?_
  refine set_first XB I.kIn ho hC ht hno (fun h' tk' dx k dn dne hx hn => ?_)
  have hnd : H dx = none := I.hok.fresh dn
  have nd : ∀ {b : Addr} {o : Obj}, hp.get? b = some o → b ≠ dx := fun {b o} q => Nat.ne_of_lt (Nat.lt_of_lt_of_le (Heap.lt_size q) dn)
  have na : ∀ {b : Addr}, H b = none → b ≠ a := fun {b} n z => by
    rw [z, e] at n
    cases n
  have U : Un X.fs [] H (upd (upd H dx (exd dx [(f, y)])) a (exo a C (some dx))) hp h' := {
    keep := fun b o q n _ _ => k b o (na n) q
    slot := fun b o q n _ _ => ⟨o.slots, k b o (na n) q⟩
    free := fun b o q n _ => by rw [upd_ne (na n), upd_ne (nd q)]; exact n
    there := fun b o q _ => by
      by_cases hb : b = a
      · exact ⟨_, by rw [hb]; exact hx⟩
      · exact ⟨o, k b o hb q⟩
    tups := fun b xs q => by rw [upd_ne (at_ne e q exo_tup), upd_ne (ne_of_none q hnd)]; exact q
    frzs := fun b o v q => by rw [upd_ne (at_ne e q exo_frz), upd_ne (ne_of_none q hnd)]; exact q
    tbls := fun b ps q => ⟨#[], by rw [upd_ne (at_ne e q exo_tbl), upd_ne (ne_of_none q hnd), q]; simp⟩ }
  refine h dx _ hnd dne (I.un (t' := tk') U fun b o q => ?_)
  by_cases hb : b = a
  · subst hb
    rw [upd_same] at q
    cases q
    exact exo_ok hx
  · rw [upd_ne hb] at q
    by_cases hd : b = dx
    · subst hd
      rw [upd_same] at q
      cases q
      exact exd_ok hn (relO_put (fs := []) ry fun g => True.intro)
    · rw [upd_ne hd] at q
      exact (I.hok b o q).stay (fun c v hc z => k c v (by
          rcases hc with hc | hc
          · rw [hc]
            exact hb
          · exact at_ne e hc exo_own) z)
        (fun c hc => by rw [upd_ne (at_ne e hc exo_own), upd_ne (ne_of_none hc hnd)]; exact hc) (fun c xs hc => by rw [upd_ne (at_ne e hc exo_tup), upd_ne (ne_of_none hc hnd)]; exact hc)
/-- .. a further one -/
theorem stG_old (T : OexG X.K C) (I : Inv X pins σ H s) (e : H a = some (exo a C (some dx))) (ed : H dx = some (exd dx fs)) (hl : fs.length ≤ 900) (hno : PySem.W.findIn X.K (.ref C) f = some none) (ry : RelV y u)
    (h : ∀ s', Inv X pins σ (upd H dx (exd dx ((f, y) :: fs))) s' → Q () s') : wpAny (model X.prog X.w) A (setAttr (.ref a) f u) Q E s := by
  obtain ⟨B, newId, initId, bmB, nm, q, N, bs, bm, sn, sub, ab, col, dd, k0, k1, k2, k3, k5, XB, hC, ht⟩ := T.cls
  obtain ⟨t1, ho⟩ := exo_at I.hok e
  obtain ⟨mA, hns, rel⟩ := exd_at I.hok ed
  have hw := within_of rel
  obtain ⟨hp, g, d, t, os⟩ := s
  obtain ⟨oD, _, _, hoD, _, _⟩ := hns.count hw
  refine PySem.W.set_plain I.kIn (ox := { cls := .ref C, dict := some dx, data := .fields #[.ref t1, .none, .none, .none, .bool false, .none] }) (od := some oD) ⟨ho, rfl, rfl, hoD⟩ T.sa ?_
  refine set_more XB I.kIn ho hns hw (by rw [List.length_map]; omega) hC ht hno (fun h' tk' k hn => ?_)
  have hd : ∃ o, h'.get? dx = some o := by
    obtain ⟨o, _, _, e', _⟩ := hn
    exact ⟨o, e'⟩
  exact h _ (I.write (t' := tk') (x := dx) (e := dx) (o := exd dx ((f, y) :: fs)) (by rw [ed]; exact True.intro) (.inl rfl) k hd (exd_ok hn (relO_put ry rel)))
end
/-- self.f = e -/
def tGst (K : PySem.W.Frag) (f : Str) (to te : TE) : TS := fun D σ H => te σ H fun y H1 => to σ H1 fun x H2 => ∃ a C : Addr, x = .ref a ∧ OexG K C ∧ PySem.W.findIn K (.ref C) f = some none ∧
  ((H2 a = some (exo a C none) ∧ ∀ dx, H2 dx = none → dx ≠ a → D.nx σ (upd (upd H2 dx (exd dx [(f, y)])) a (exo a C (some dx)))) ∨
    ∃ (dx : Addr) (fs : List (Str × V)), H2 a = some (exo a C (some dx)) ∧ H2 dx = some (exd dx fs) ∧ fs.length ≤ 900 ∧ D.nx σ (upd H2 dx (exd dx ((f, y) :: fs))))
section
variable {X : Cx} {o e : Expr} {es : List Expr} {to te : TE} {ta : TA} {f : Str} {p p' p1 p2 pos : Pos}
theorem ps_gst (ho : PE X o to) (he : PE X e te) (hs : swapsWith e (some (.Attribute o f p')) pos.line X.env = pure false := by rfl) : PS X (.Assign [.Attribute o f p'] e pos) (tGst X.K f to te) := by
  refine ⟨fun pins s σ H D I h => ?_⟩
  refine plainObj_wpAny_Assign_Attribute (thn (he.run pins s σ H _ I h) fun v s1 ⟨y, H1, I1, r1, q1⟩ => thn (ho.run pins s1 σ H1 _ I1 q1) fun u s2 ⟨x, H2, I2, r2, a, C, ex, T, hno, q⟩ => ?_) hs
  subst ex
  obtain rfl : u = Value.ref a := r2
  rcases q with ⟨ea, q⟩ | ⟨dx, fs, ea, ed, hl, q⟩
  · exact stG_new T I2 ea hno r1 fun dx s' n ne J => ⟨σ, _, J, q dx n ne⟩
  · exact stG_old T I2 ea ed hl hno r1 fun s' J => ⟨σ, _, J, q⟩
theorem pmk_G {CX : CXT} {x : Str} {C fI : Addr} {k : Nat} {fd : FuncData} {ps : List Str} {sp : Sp} {ds : List Value} {dvs : List V} (T : OexG X.K C) (iC : PySem.W.findIn X.K (.ref C) "__init__" = some (some (.ref fI))) (tI : PySem.W.typeIn X.K (.ref fI) = some (.type "function"))
    (F1 : FnOk X.prog X.w X.K X.mg X.base CX k fI fd ps sp) (hr : Room (k + 1) X.A) (hb : Binds X.K fd ps ds) (hd : Vals dvs ds) (hx : Passes CX X (fun _ _ _ => False)) (hg : Gl X x) (hm : X.mg x = some (.ref C)) (ha : PA X (e :: es) ta)
    (hdb : (x == ("__debug__" : Str)) = false := by decide) (he : starEach (e :: es) X.env = (false, eval e X.env) :: starEach es X.env := by rfl) (hpl : (backTo pos (starEach es X.env)).any (·.1) = false := by rfl) :
    PMk X (.Call (.Name x p) (e :: es) [] pos) (tMkO C sp dvs ta) := by
  intro pins s σ H Q I h
  obtain ⟨B, newId, initId, bmB, nm, q, N, bs, bm, sn, sub, ab, col, dd, k0, k1, k2, k3, k5, XB, hC, ht⟩ := T.cls
  refine wpAny_Call_Name_kw (ld_glob I hg hm ?_ hdb)
  refine PySem.W.callWith_K (h₀ := X.base) I.ok.mod.kin T.kC (thn (ha.run pos pins s σ H _ I h) fun us s1 ⟨vs, H1, I1, r1, hz, q1⟩ => ⟨I1.kIn, ?_⟩) he hpl
  show wpAny _ _ (call (.ref C) us) _ _ _
  obtain ⟨hp, g, dr, tk, os⟩ := s1
  have hsz : hp.objs.size ≤ hp.objs.size + 1 := Nat.le_succ _
  have hn : H1 (hp.objs.size + 1) = none := I1.hok.fresh hsz
  have hq := q1 (hp.objs.size + 1) hn
  have kk : ∀ b o, hp.get? b = some o → ((hp.push (PySem.W.kdv_tup us)).push (PySem.HandSPX.excO C hp.objs.size)).get? b = some o := fun b o e => Heap.get?_push_of_some _ (Heap.get?_push_of_some _ e)
  have hget : ((hp.push (PySem.W.kdv_tup us)).push (PySem.HandSPX.excO C hp.objs.size)).get? (hp.objs.size + 1) = some (PySem.HandSPX.excO C hp.objs.size) := by heap_get
  have I2 : Inv X pins σ (upd H1 (hp.objs.size + 1) (exo (hp.objs.size + 1) C none)) ⟨(hp.push (PySem.W.kdv_tup us)).push (PySem.HandSPX.excO C hp.objs.size), g, dr, tk, os⟩ :=
    I1.laid (t' := tk) (a := hp.objs.size + 1) (o := exo (hp.objs.size + 1) C none) (h' := (hp.push (PySem.W.kdv_tup us)).push (PySem.HandSPX.excO C hp.objs.size)) kk hsz (exo_ok hget)
  have r2 : Vals (V.ref (hp.objs.size + 1) :: (vs ++ dvs)) (Value.ref (hp.objs.size + 1) :: (us ++ ds)) := .cons rfl (r1.append hd)
  have hl : (Value.ref (hp.objs.size + 1) :: us ++ ds).length = ps.length := by
    have e := r2.length
    rw [F1.len _ _ _ _ hq] at e
    exact e.symm
  have hus : us.length ≤ sizeLine := by
    rw [← Paired.length r1, sizeLine_eq]
    omega
  refine wpAny_call (PySem.HandSPX.call_own XB.ex (fun Y => PySem.W.excTail_contains Y bm ht) (I1.kIn _ _ hC) (PySem.W.looks_findIn I1.kIn iC) (fun self => PySem.W.bind_fn I1.kIn self tI) hus
    (codeAny_mono (F1.run _ X.stack _ _ ⟨Value.ref (hp.objs.size + 1) :: us, []⟩ (Value.ref (hp.objs.size + 1) :: (us ++ ds)) _ _ (fun _ _ _ => False) (hr.make C us []) (I2.env0.make C us []) (hb _ (Value.ref (hp.objs.size + 1) :: us) I2.kIn hl) r2 hq) fun r s' hq' => ?_))
  cases r with
  | error er => exact hx pins σ _ _ er s' I2 hq'
  | ok fl =>
    cases fl with
    | ret u =>
      obtain ⟨v, H2, os2, bare2, un2, hok2, rv, ev, d, fs, ea, ed, hd1, q2⟩ := hq'
      subst ev
      obtain ⟨h2, g2, d2, t2, os'⟩ := s'
      exact ⟨rv, mk_end (raises_own T.exC T.tyC) I1 hsz kk un2 hok2 os2 bare2 ea ed hd1 q2⟩
    | next => exact False.elim hq'
    | brk => exact False.elim hq'
    | cont => exact False.elim hq'
end
theorem xb_VE : XBase "ValueError" "ValueError.__new__" "ValueError.__init__" [.type "ValueError", .type "Exception", .type "BaseException", .type "object"] := ⟨PySem.F.excBase_ValueError, PySem.F.store_ValueError⟩
theorem xb_LE : XBase "LookupError" "LookupError.__new__" "LookupError.__init__" [.type "LookupError", .type "Exception", .type "BaseException", .type "object"] := ⟨PySem.F.excBase_LookupError, PySem.F.store_LookupError⟩
theorem xb_IE : XBase "IndexError" "IndexError.__new__" "IndexError.__init__" [.type "IndexError", .type "LookupError", .type "Exception", .type "BaseException", .type "object"] := ⟨PySem.F.excBase_IndexError, PySem.F.store_IndexError⟩
end Fw

/-! Own exceptions are raised. -/
namespace Fw
open PySem PySem.Spec PyProof.Rows L2
/-- what the __init__ of an own exception promises -/
def spExc (C : Addr) (code attr : Str) : Sp := fun vs H Q _ => ∃ (a : Addr) (y : V), vs = [.ref a, y] ∧ H a = some (exo a C none) ∧ ∀ dx, H dx = none → dx ≠ a →
  Q .non (upd (upd (upd H dx (exd dx [("code", .str code)])) a (exo a C (some dx))) dx (exd dx [(attr, y), ("code", .str code)]))
/-- its two statements -/
def ExcBody (me par code attr : Str) (body : List Stmt) : Prop := ∃ p1 p2 j p3 p4 p5 p6 p7 p8, body = [.Assign [.Attribute (.Name me p1) "code" p2] (.Constant (.str code) j p3) p4, .Assign [.Attribute (.Name me p5) attr p6] (.Name par p7) p8]
theorem exc_fn {P : Program} {w : World} {K : PySem.W.Frag} {mg : Str → Option Value} {base : Heap} {x qual me par code attr : Str} {params : Arguments} {body : List Stmt} {scope : Scope} {dvs : List V} {kws : List (Str × V)} {f C : Addr} {fd : FuncData} {k : Nat}
    (F : FunD K x qual params body scope dvs kws f fd) (Sc : FnScope [me, par] [me, par] scope) (hB : ExcBody me par code attr body) (T : OexG K C) (n1 : PySem.W.findIn K (.ref C) "code" = some none) (n2 : PySem.W.findIn K (.ref C) attr = some none)
    (d1 : (me == ("__debug__" : Str)) = false) (d2 : (me == ("__classdict__" : Str)) = false) (d3 : (par == ("__debug__" : Str)) = false) (d4 : (par == ("__classdict__" : Str)) = false) :
    FnOk P w K mg base (L2.CX P w) (k + 1) f fd [me, par] (spExc C code attr) := by
  obtain ⟨p1, p2, j, p3, p4, p5, p6, p7, p8, rfl⟩ := hB
  refine F.ok Sc (fun vs H Q E ⟨a, y, e, _⟩ => by rw [e] <;> rfl) fun cdv A outer s H vs Q E hr h => ?_
  obtain ⟨a, y, rfl, ha, hq⟩ := h
  have v1 : Vis (cxOf (L2.CX P w) P w K mg base [me, par] qual scope f cdv A outer s H E).env.scope me := (Sc.par me (List.mem_cons_self ..)).elim .inl fun z => .inr (.inl z)
  have v2 : Vis (cxOf (L2.CX P w) P w K mg base [me, par] qual scope f cdv A outer s H E).env.scope par := (Sc.par par (List.mem_cons_of_mem _ (List.mem_cons_self ..))).elim .inl fun z => .inr (.inl z)
  refine ⟨_, pss_cons (ps_gst (pe_var (i := 0) rfl v1 d1 d2) pe_str) (pss_cons (ps_gst (pe_var (i := 0) rfl v1 d1 d2) (pe_var (i := 1) rfl v2 d3 d4)) pss_nil), ?_⟩
  refine ⟨.ref a, rfl, a, C, rfl, T, n1, .inl ⟨ha, fun dx hdx hne => ?_⟩⟩
  refine ⟨y, rfl, .ref a, rfl, a, C, rfl, T, n2, .inr ⟨dx, _, upd_same, by rw [upd_ne hne, upd_same], by simp, ?_⟩⟩
  exact hq dx hdx hne
section
variable {fa : Ad} {cl : Nat → List A → Store → Rz A} {wf : Nat} {X : Cx} {e : Expr} {c : C} {pos pos' : Pos} {k : Nat} {E : XK}
theorem ss_raise {f : Addr} {fd : FuncData} {xi : Xi} {x attr : Str} {p : Pos} {ps : List Str} (hc : X.calm = true) (tk : Takes X (fun cls d _ H => E cls d H)) (T : OexG X.K (fa.c xi.c)) (iC : PySem.W.findIn X.K (.ref (fa.c xi.c)) "__init__" = some (some (.ref f))) (tI : PySem.W.typeIn X.K (.ref f) = some (.type "function"))
    (F : FnOk X.prog X.w X.K X.mg X.base (L2.CX X.prog X.w) k f fd ps (spExc (fa.c xi.c) xi.code attr)) (hr : Room (k + 1) X.A) (hb : Binds X.K fd ps []) (hg : Gl X x) (hm : X.mg x = some (.ref (fa.c xi.c))) (hat : xi.attr = some attr) (hne : attr ≠ "code")
    (hfew : XcK X.K (.ref fa.few) (.ref fa.mis) fldNames (fa.c xi.c)) (ha : SA fa cl X [e] [c]) (hdb : (x == ("__debug__" : Str)) = false) (he : starEach [e] X.env = (false, eval e X.env) :: starEach [] X.env) :
    SS fa cl wf E X (.Raise (some (.Call (.Name x p) [e] [] pos')) none pos) (.raise xi [c]) :=
  (ps_raise hc tk (pmk_G (dvs := []) (ds := []) T iC tI F hr hb .nil passN hg hm ha hdb he rfl)).imp fun D σ H q => by
    obtain ⟨B, S, ρ, eo, so, h⟩ := q
    rw [run1] at h
    obtain ⟨xs, S1, hxs, h1⟩ := Rz.then_aft h
    refine tA.use eo so hxs fun vs B1 H1 so1 st1 eo1 d1 => ?_
    unfold exnF at h1
    rw [hat] at h1
    have hl := evs_len hxs
    match xs, hl, h1, d1 with
    | [x0], _, h1, d1 =>
      cases x0 with
      | m i => exact False.elim h1
      | p d =>
        obtain ⟨y, rfl, dy⟩ := d1.one
        dsimp only at h1
        refine ⟨by simp, fun a hna => ⟨a, y, rfl, upd_same, fun dx hdx hdne => ⟨rfl, dx, [(attr, y), ("code", .str xi.code)], by rw [upd_ne (Ne.symm hdne), upd_same], upd_same, ?_, ?_⟩⟩⟩
        · rw [upd_ne hdne] at hdx
          exact hdx
        · have hdx' : H1 dx = none := by
            rw [upd_ne hdne] at hdx
            exact hdx
          have eH : upd (del (upd (upd (upd (upd H1 a (exo a (fa.c xi.c) none)) dx (exd dx [("code", .str xi.code)])) a (exo a (fa.c xi.c) (some dx))) dx (exd dx [(attr, y), ("code", .str xi.code)])) a) dx (.xd [(attr, y), ("code", .str xi.code)]) = upd H1 dx (.xd [(attr, y), ("code", .str xi.code)]) := by
            funext b
            by_cases hb : b = dx
            · rw [hb, upd_same, upd_same]
            · rw [upd_ne hb, upd_ne hb]
              by_cases hba : b = a
              · rw [hba, del_same, hna]
              · rw [del_ne hba, upd_ne hb, upd_ne hba, upd_ne hb, upd_ne hba]
          show E _ _ _
          rw [eH]
          have st2 := Stab.new (o := .xd [(attr, y), ("code", .str xi.code)]) so1 hdx'
          refine h1 _ _ B1 _ (so1.new hdx') (st1.trans st2) ⟨rfl, hfew, dx, _, rfl, upd_same, fun n x hx => ?_⟩
          unfold Exn.at getN at hx
          simp only [List.zip_cons_cons, List.zip_nil_right, List.lookup_cons, List.lookup_nil] at hx
          rw [List.lookup_cons, List.lookup_cons, List.lookup_nil]
          split at hx
          · rename_i hn
            have hn := eq_of_beq hn
            subst hn
            cases hx
            have : ((("code" : Str)) == attr) = false := by
              rw [beq_eq_false_iff_ne]
              exact fun z => hne z.symm
            rw [this]
            exact ⟨_, rfl, rfl⟩
          · split at hx
            · rename_i hn
              have hn := eq_of_beq hn
              subst hn
              cases hx
              exact ⟨y, rfl, st2.dat _ _ dy⟩
            · cases hx
end
end Fw

/-! A key put into a dict. -/
namespace Fw
open PySem PySem.Spec PyProof.Rows L2
section
variable {fa : Ad} {cl : Nat → List A → Store → Rz A} {wf : Nat} {E : XK} {X : Cx} {o i v : Expr} {co ci cv : C} {pos tp : Pos} {k : Nat}
theorem ss_setD (hr : Room k X.A) (ho : SE fa cl X o co) (hi : SE fa cl X i ci) (hv : SE fa cl X v cv) (hs : swapsWith v (some (.Subscript o i tp)) pos.line X.env = pure false) : SS fa cl wf E X (.Assign [.Subscript o i tp] v pos) (.setD co ci cv) :=
  (ps_dcput (room9 hr) ho hi hv hs).imp fun D σ H q => by
    obtain ⟨B, S, ρ, eo, so, h⟩ := q
    rw [run1] at h
    obtain ⟨x, S1, hx, h1⟩ := Rz.then_aft h
    obtain ⟨y, S2, hy, h2⟩ := Rz.then_aft h1
    obtain ⟨z, S3, hz, h3⟩ := Rz.then_aft h2
    refine tE.use eo so hx fun v1 B1 H1 so1 st1 eo1 d1 => tE.use eo1 so1 hy fun v2 B2 H2 so2 st2 eo2 d2 => tE.use eo2 so2 hz fun v3 B3 H3 so3 st3 eo3 d3 => ?_
    split at h3
    · rename_i j kk w
      split at h3
      · rename_i ks vs nk hs' hk
        split at h3
        · rename_i hl
          have d2' := st3.datA d2
          obtain ⟨a0, hb, e0, _⟩ := d2'
          obtain ⟨a, hh, ws, nks, ea, g, en, kl, dl⟩ := dict_rel (x := .m j) (ks := ks) (vs := vs) so3 (st3.datA d2) (by simp only [dictAt]; rw [hs'])
          rw [ea] at e0
          cases e0
          obtain ⟨b, rfl, nk1, nk2⟩ := dKey_ref hk d3
          obtain ⟨u, hu, ep2, hh2, ws2, eu, y1, y2, y3, y4⟩ := so3.obj j a0 _ hb hs' (fun z => by cases z)
          have dx : Dat (gx X fa) ⟨B3, S3, H3⟩ w v1 := st3.dat _ _ (st2.dat _ _ d1)
          have ob : ∀ ep, Ob (gx X fa) ⟨B3, S3, H3⟩ a0 (.dct (dPutK kk nk ks) (dPutV nk w ks vs)) (DcO a0 ep (putHs X.w nks hh nk b) (putWs nks ws nk v1)) :=
            fun ep => ⟨ep, _, _, rfl, y1, keysOk_put nk1 en y2, keyL_put nk1 nk2 d3 en kl, datL_put dx en dl⟩
          have ne : (MO.dct ks vs).lv := trivial
          have stp := fun ep => Stab.putO (o' := .dct (dPutK kk nk ks) (dPutV nk w ks vs)) (w := DcO a0 ep (putHs X.w nks hh nk b) (putWs nks ws nk v1)) so3 hb hs' ne
          refine ⟨a0, b, nks, hh, ws, nk, ea, rfl, g, Dat.ky nk1 nk2 d3, by rw [dl.len]; exact lim_le hl, fun ep => ?_⟩
          exact h3 σ B3 _ (so3.putO hb hs' ne (ob ep)) (((st1.trans st2).trans st3).trans (stp ep)) (eo3.mono (stp ep))
        · exact False.elim h3
      · exact False.elim h3
    · exact False.elim h3
theorem sxe_getO {e f : Expr} {x : CXx} {cd : C} {apos cpos : Pos} (hr : Room k X.A) (ho : SE fa cl X o co) (he : SXE fa cl E X e x) (hf : SE fa cl X f cd) (m : M2 X o "get" apos e f cpos) : SXE fa cl E X (.Call (.Attribute o "get" apos) [e, f] [] cpos) (.getO co x cd) := (pe_dcget2 (room9 hr) ho he hf m).imp fun σ H Q q => by
  obtain ⟨B, S, ρ, eo, so, h⟩ := q
  rw [evX] at h
  obtain ⟨xv, S1, hx, h1⟩ := AfZ.np h
  split at h1
  · rename_i hsm
    obtain ⟨⟨ks0, vs0⟩, hd0⟩ := Option.isSome_iff_exists.mp hsm
    refine tE.use eo so hx fun v1 B1 H1 so1 st1 eo1 d1 => ?_
    obtain ⟨a, hs0, ws0, nks0, rfl, g0, _⟩ := dict_rel so1 d1 hd0
    have h1 := h1.mono st1
    refine ⟨a, nks0, hs0, ws0, rfl, g0, B1, S1, ρ, eo1, so1, AfZ.bind h1 fun y S2 h2 v2 B2 H2 so2 st2 d2 => ?_⟩
    obtain ⟨zv, S3, hz, h3⟩ := AfZ.np h2
    refine tE.use (eo1.mono st2) so2 hz fun v3 B3 H3 so3 st3 eo3 d3 => ?_
    unfold getF at h3
    split at h3
    · rename_i ks vs y' z' hda
      split at h3
      · rename_i nk hk
        obtain ⟨a', hs', ws, nks, ea, g, en, kl, dl⟩ := dict_rel so3 (st3.datA (st2.datA d1)) hda
        cases ea
        have d2' := st3.datA d2
        obtain ⟨b, rfl, nk1, nk2⟩ := dKey_ref hk d2'
        refine ⟨b, nks, hs', ws, nk, rfl, g, Dat.ky nk1 nk2 d2', h3 _ B3 H3 so3 (st2.trans st3) ?_⟩
        have dv := dFind_val (k := nk) en dl
        cases hq : dFind nk ks vs with
        | none =>
          rw [hq] at dv
          rw [show valD nks ws nk = none from dv]
          exact d3
        | some d =>
          rw [hq] at dv
          obtain ⟨w', e1, e2⟩ := dv
          rw [e1]
          exact e2
      · exact False.elim h3
    · exact False.elim h3
  · exact False.elim h1
end
end Fw

/-! list.insert; the keys of a dict walked; dict(pairs). -/
namespace Fw
open PySem PySem.Spec PyProof.Rows L2
theorem ins_eq (l : List Value) (k : Nat) (y : Value) : (l.toArray.extract 0 k).push y ++ l.toArray.extract k = (l.take k ++ y :: l.drop k).toArray := by
  apply Array.toList_inj.mp
  simp
  exact List.take_of_length_le (by simp)
def rInsert : V → List V → Hp → VK → Prop := fun x vs H Q => ∃ l xs i y, x = .ref l ∧ vs = [.int i, y] ∧ H l = some (.lst xs) ∧ 0 ≤ i ∧ i.toNat ≤ xs.length ∧ xs.length < sizeLine ∧ Q .non (upd H l (.lst (xs.take i.toNat ++ y :: xs.drop i.toNat)))
theorem mt_insert {X : Cx} : MtM X "list.insert" rInsert := by
  intro pins s σ H x vs v us Q I rx rv h
  obtain ⟨l, xs, i, y, rfl, rfl, hH, h0, hi, hz, q⟩ := h
  cases rx
  cases rv with
  | cons ri rv =>
    cases rv with
    | cons ry rv =>
      cases rv
      obtain ⟨t, rfl⟩ := ri
      obtain ⟨z, its, n, r, hl, e⟩ := I.lstM hH
      have hlen := r.length
      have hb : sizeLine ≤ 2 ^ 62 := by decide
      have hfit : Builtin.List.listFitsIndex i = true := by
        unfold Builtin.List.listFitsIndex
        rw [Bool.and_eq_true, decide_eq_true_eq, decide_eq_true_eq]
        omega
      refine call_meets F.slot_list_insert ⟨_, e, rfl⟩ F.entry_list_insert (F.args_list_insert_3 _ _ _) (PySem.AutoSeq1.list_insert_list_int_val_1 l its.toArray n i t _ (by simp [hfit]) (by rw [List.size_toArray]; omega)) ⟨e, ?_⟩
      refine ⟨.non, _, I.lset (its' := its.take i.toNat ++ _ :: its.drop i.toNat) hH e ?_ ((r.take _).append (.cons ry (r.drop _))) ?_, rfl, q⟩
      · dsimp only
        rw [if_neg (by omega), List.size_toArray, Nat.min_eq_left (by omega)]
        exact ins_eq _ _ _
      · rw [List.length_append, List.length_cons, List.length_take, List.length_drop]
        omega
section
variable {fa : Ad} {cl : Nat → List A → Store → Rz A} {wf : Nat} {E : XK} {X : Cx} {o i e f : Expr} {co c c2 : C} {pos apos : Pos} {k : Nat}
theorem datL_ins {g : G} {z : Z} {x : D} {v : V} (hx : Dat g z x v) : ∀ {ds : List D} {vs : List V} (n : Nat), DatL g z ds vs → DatL g z (ds.take n ++ x :: ds.drop n) (vs.take n ++ v :: vs.drop n)
  | ds, vs, 0, h => ⟨v, vs, rfl, hx, h⟩
  | [], vs, n + 1, h => by
    rw [show vs = [] from h]
    exact ⟨v, [], rfl, hx, rfl⟩
  | d :: ds, _, n + 1, ⟨w, r, e, h1, h2⟩ => by
    subst e
    exact ⟨w, _, rfl, h1, datL_ins hx n h2⟩
theorem insert_inv {j : Nat} {xs : List A} {z : A} {S S' : Store} (h : mthF .insert (.m j) xs S = .ok z S') : ∃ i x ys, xs = [.p (.int i), .p x] ∧ S[j]? = some (.lst ys) ∧ (0 ≤ i ∧ i.toNat ≤ ys.length ∧ ys.length < LIM) ∧ z = .p .non ∧ S' = S.set j (.lst (ys.take i.toNat ++ x :: ys.drop i.toNat)) := by
  unfold mthF at h
  split at h
  case h_2 =>
    rename_i j' ii d heq heq2
    cases heq
    cases heq2
    split at h
    · rename_i ys hj
      split at h
      · rename_i hl
        cases h
        exact ⟨ii, d, ys, rfl, hj, hl, rfl, rfl⟩
      · cases h
    · cases h
  all_goals first
    | (cases h; done)
    | (rename_i heq1 _; cases heq1; done)
    | contradiction
theorem se_insert (ho : SE fa cl X o co) (ha : SA fa cl X [e, f] [c, c2]) (hbase : attributeBase o "insert" X.env (eval o X.env) = eval o X.env)
    (hfew : ((backTo pos (starEach [e, f] X.env)).all (fun x => !x.1) && (backToKw pos (keywordEach [] X.env)).all (fun x => x.1.isSome) && decide (([e, f] : List Expr).length + ([] : List Keyword).length + (if ([] : List Keyword).isEmpty then 0 else 1) < 30)) = true)
    (hline : (apos.endLine == pos.line) = true) (hs : starEach [e, f] X.env = (false, eval e X.env) :: starEach [f] X.env) (hplain : (backTo pos (starEach [f] X.env)).any (·.1) = false) :
    SE fa cl X (.Call (.Attribute o "insert" apos) [e, f] [] pos) (.mth .insert co [c, c2]) :=
  (pe_bm PySem.F.plainAttrs_list PySem.F.slot_list_insert PySem.F.type_list_insert mt_insert ho ha hbase hfew hline hs hplain).imp fun σ H Q q => by
    obtain ⟨B, S, ρ, z, S', eo, so, hm, k⟩ := q
    rw [ev] at hm
    obtain ⟨x, S1, hx, hm1⟩ := Rz.bind_ok hm
    split at hm1
    · rename_i hty
      obtain ⟨xs, S2, hxs, hm2⟩ := Rz.bind_ok hm1
      obtain ⟨w, S3, hw, hm3⟩ := Rz.bind_ok hm2
      rw [tst_f] at hm3
      cases hm3
      cases x with
      | p d => simp [mthTy] at hty
      | m j =>
        unfold mthTy at hty
        dsimp only at hty
        split at hty
        · rename_i ys0 hj0
          refine tE.use eo so hx fun v1 B1 H1 so1 st1 eo1 d1 => ?_
          obtain ⟨a, hb, rfl, hnr⟩ := d1
          obtain ⟨vs0, e0, _⟩ := so1.ob j a ys0 hb hj0
          refine ⟨.inl ⟨rfl, _, SqL.of e0⟩, tA.use eo1 so1 hxs fun vs B2 H2 so2 st2 eo2 d2 => ?_⟩
          obtain ⟨ii, d, ys, rfl, hj, hl, rfl, rfl⟩ := insert_inv hw
          obtain ⟨u1, r1, rfl, di, u2, r2, rfl, dv, hn⟩ := d2
          obtain rfl : r2 = [] := hn
          obtain rfl : u1 = V.int ii := di
          have hb2 := (st2.pre j a hb hnr).1
          obtain ⟨ws, e2, l2⟩ := so2.ob j a ys hb2 hj
          refine ⟨a, ws, ii, u2, rfl, rfl, e2, hl.1, by rw [l2.len]; exact hl.2.1, by rw [l2.len]; exact Nat.lt_of_lt_of_le hl.2.2 lim_line, ?_⟩
          exact k _ B2 _ (so2.put hb2 hj (datL_ins dv _ l2)) ((st1.trans st2).trans (Stab.put so2 hb2 hj)) rfl
        · cases hty
    · cases hm1
end
/-! ### the keys of a dict, walked -/
/-- a dict that is not changed while it is walked -/
def Itd (a : Addr) (ep : Nat) (hs : List (Int × Addr)) (ws : List V) : It :=
  ⟨fun i H => H a = some (DcO a ep hs ws) ∧ i < hs.length, fun i H x H' => H' = H ∧ ∃ p, hs[i]? = some p ∧ x = .ref p.2, fun i H => H a = some (DcO a ep hs ws) ∧ hs.length ≤ i⟩
theorem dco_raw {X : Cx} {pins : List (Addr × Obj)} {σ : L2.St} {H : Hp} {s : Shared} {a : Addr} {ep : Nat} {hs : List (Int × Addr)} {ws : List V} (I : Inv X pins σ H s) (h : H a = some (DcO a ep hs ws)) :
    ∃ es, s.heap.DictRaw a es ep ∧ es.size = hs.length ∧ ∀ (i : Nat) (hi : i < es.size), ∃ p, hs[i]? = some p ∧ es[i].key = .ref p.2 := by
  obtain ⟨φ, _, _⟩ := I.hok a _ h
  obtain ⟨o, ho, e1, e2, us, es, r, e3, e4⟩ := φ
  have hu : us.length = hs.length := by rw [← r.length, ← e2]
  have hsz : es.size = hs.length := by
    rw [← Array.length_toList, e4, List.length_zipWith, hu, Nat.min_self]
  refine ⟨es, ⟨o, ho, e1, e3⟩, hsz, fun i hi => ?_⟩
  have h1 : i < hs.length := by omega
  refine ⟨hs[i], List.getElem?_eq_getElem h1, ?_⟩
  have : es[i] = es.toList[i]'(by simpa using hi) := by simp
  rw [this]
  have e5 : es.toList[i]? = some (⟨hs[i].1, .ref hs[i].2, us[i]'(by omega)⟩ : DictEntry) := by
    rw [e4, List.getElem?_zipWith, List.getElem?_eq_getElem h1, List.getElem?_eq_getElem (by omega : i < us.length)]
  rw [List.getElem?_eq_getElem (by simpa using hi)] at e5
  rw [Option.some.inj e5]
theorem turn_dict {P : Program} {w : World} {K : PySem.W.Frag} {tg : Expr} (a it : Addr) (ep : Nat) (hs : List (Int × Addr)) (ws : List V) : Turn P w K tg (Itd a ep hs ws) [it] it (fun i h => h.IsKeyIter it a i hs.length ep) where
  mem := by simp
  obj := fun i h st b hb => by
    have e : b = it := by simpa using hb
    subst e
    obtain ⟨o, e, c, d⟩ := st
    exact ⟨o, e, fun v z => by rw [d] at z; cases z⟩
  keep := fun i h h' st k => st.at fun o e => k it (by simp) o e
  item := by
    intro X hP hw hK hc i pins s σ H E I hf st hg
    subst hP hw hK
    obtain ⟨hq, hi⟩ := hg
    obtain ⟨es, hr, hsz, hk⟩ := dco_raw I hq
    rw [← hsz] at st
    obtain ⟨f0, f1, f2, f3, f4, f5⟩ := hf it (by simp)
    obtain ⟨p, hp, ek⟩ := hk i (by omega)
    refine wpAny_pyNext_keys_item_raw st hr (by omega) fun h' st' sb => ?_
    have I1 : Inv X pins σ H { s with heap := h' } := I.turned (t' := s.toks) (fun b o hb e => (sb.2 b hb).trans e) f0 f1 f3 f4 f5
    obtain ⟨o, e, c, d⟩ := id st'
    rw [ek]
    exact ⟨_, rfl, go_of (s := { s with heap := h' }) e c d (by decide) ⟨.ref p.2, H, I1, rfl, ⟨rfl, p, hp, rfl⟩, by rw [← hsz]; exact st', fun b hb => (hf b hb).1⟩⟩
  done := by
    intro X hP hw hK hc i pins s σ H E I hf st hg
    subst hP hw hK
    obtain ⟨hq, hi⟩ := hg
    obtain ⟨es, hr, hsz, hk⟩ := dco_raw I hq
    rw [← hsz] at st
    obtain ⟨f0, f1, f2, f3, f4, f5⟩ := hf it (by simp)
    exact wpAny_pyNext_keys_end_raw (I.ok.hd hc) st hr (by omega) fun h' eb => ⟨rfl, I.turned (t' := s.toks) (fun b o hb e => eb b o hb e) f0 f1 f3 f4 f5⟩
  self := fun _ _ _ _ _ st h => wpAny_pyIter_keyiter st h
def iDict (td : TE) : TI := fun σ H R => td σ H fun x H1 => ∃ a ep hs ws, x = .ref a ∧ (a == sysModules) = false ∧ H1 a = some (DcO a ep hs ws) ∧ R (Itd a ep hs ws) H1
theorem pi_dict {X : Cx} {tg l : Expr} {tl : TE} (hl : PE X l tl) : PI X tg l (iDict tl) := by
  refine ⟨fun pins s σ H R I h => ?_⟩
  refine thn (hl.run pins s σ H _ I h) fun v s1 ⟨x, H1, I1, r1, q1⟩ => ?_
  obtain ⟨a, ep, hs, ws, e, hb, hq, q⟩ := q1
  subst e
  cases r1
  obtain ⟨es, hr, hsz, hk⟩ := dco_raw I1 hq
  refine wpAny_pyIter_dict_raw hb hr ?_
  refine ⟨s1.heap.objs.size, [s1.heap.objs.size], _, _, H1, rfl, I1.kept (t' := s1.toks) fun b o e => Heap.get?_push_of_some _ e, turn_dict a _ ep hs ws, ⟨_, Heap.get?_push_size _ rfl, rfl, by rw [hsz]; rfl⟩, fun b hb => ?_, q⟩
  have e : b = s1.heap.objs.size := by simpa using hb
  subst e
  exact I1.fpOk (Nat.le_refl _) (I1.hok.fresh (Nat.le_refl _))
theorem KeyL.get {g : G} {z : Z} : ∀ {ds : List D} {hs : List (Int × Addr)} {i : Nat} {d : D}, KeyL g z ds hs → ds[i]? = some d → ∃ p, hs[i]? = some p ∧ Dat g z d (.ref p.2)
  | [], _, i, d, _, h => by simp at h
  | d' :: ds, _, 0, d, ⟨k, b, r, e, h1, h2, h3, h4⟩, h => by
    subst e
    cases h
    exact ⟨_, rfl, h3⟩
  | d' :: ds, _, i + 1, d, ⟨k, b, r, e, h1, h2, h3, h4⟩, h => by
    subst e
    obtain ⟨p, hp, dp⟩ := KeyL.get (i := i) h4 (by simpa using h)
    exact ⟨p, by simpa using hp, dp⟩
theorem KeyL.len {g : G} {z : Z} : ∀ {ds : List D} {hs : List (Int × Addr)}, KeyL g z ds hs → hs.length = ds.length
  | [], _, h => by rw [show _ = [] from h]; rfl
  | d' :: ds, _, ⟨k, b, r, e, h1, h2, h3, h4⟩ => by rw [e, List.length_cons, List.length_cons, KeyL.len h4]
theorem walks_dict {g : G} {z : Z} {a : Addr} {ep : Nat} {ks : List D} {hs : List (Int × Addr)} {ws : List V} (hq : z.H a = some (DcO a ep hs ws)) (hn : ¬ live z.B z.S a) (kl : KeyL g z ks hs) : Walks g (Itd a ep hs ws) z (ks.map .p) := by
  have hk : ∀ z', Sub g z z' → z'.H a = some (DcO a ep hs ws) := fun z' s => (s.non a _ Chg.dct hq hn).1
  refine ⟨fun i B S H s so hi => ?_, fun i B S H x H' y s so hy q => ?_, fun B S H s so => ?_⟩
  · rw [List.length_map] at hi
    exact ⟨hk _ s, by rw [kl.len]; exact hi⟩
  · obtain ⟨rfl, p, hp, rfl⟩ := q
    obtain ⟨d', hd', rfl⟩ := map_p hy
    obtain ⟨p', hp', dp⟩ := KeyL.get (s.keyL kl) hd'
    rw [hp] at hp'
    cases hp'
    exact ⟨so, Stab.refl, dp⟩
  · exact ⟨hk _ s, by rw [List.length_map, kl.len]; exact Nat.le_refl _⟩
end Fw
namespace Fw
open PySem PySem.Spec PyProof.Rows L2
section
variable {fa : Ad} {cl : Nat → List A → Store → Rz A} {X : Cx} {e tg : Expr} {c : C}
theorem si_keys (h : SE fa cl X e c) : SI fa cl X tg e .keys [c] := by
  refine ⟨fun pins s σ H R I q => ?_⟩
  obtain ⟨B, S, ρ, xs, S', items, eo, so, hm, hw, k⟩ := q
  rw [evs] at hm
  obtain ⟨x, S1, hx, hm1⟩ := Rz.bind_ok hm
  rw [evs] at hm1
  cases hm1
  cases x with
  | m i => simp [walkF] at hw
  | p d =>
    cases d with
    | dct ks vs =>
      simp only [walkF, Option.some.injEq] at hw
      subst hw
      refine (pi_dict h).run pins s σ H R I ?_
      refine tE.use eo so hx fun v1 B1 H1 so1 st1 eo1 d1 => ?_
      obtain ⟨a, ep, hs, ws, rfl, t, n, y, ko, kl, l⟩ := id d1
      exact ⟨a, ep, hs, ws, rfl, y, t, k _ B1 H1 so1 st1 (walks_dict t n kl)⟩
    | _ => simp [walkF] at hw
end
end Fw

/-! dict(pairs), the keys tuples. -/
namespace Fw
open PySem PySem.Spec PyProof.Rows L2
/-- a list of pairs (key, value) -/
def PrAt (K : PySem.W.Frag) (H : Hp) : List Addr → List (Int × Addr) → List V → Prop
  | [], hs, ws => hs = [] ∧ ws = []
  | p :: ps, hs, ws => ∃ h r w r', hs = h :: r ∧ ws = w :: r' ∧ SqT K H p [.ref h.2, w] ∧ PrAt K H ps r r'
def prV (hs : List (Int × Addr)) (us : List Value) : List (Value × Value) := List.zipWith (fun (h : Int × Addr) (u : Value) => (Value.ref h.2, u)) hs us
theorem pairsN_of {X : Cx} {pins : List (Addr × Obj)} {σ : L2.St} {H : Hp} {s : Shared} (I : Inv X pins σ H s) : ∀ {ps : List Addr} {hs : List (Int × Addr)} {ws : List V}, PrAt X.K H ps hs ws →
    ∃ us, Vals ws us ∧ us.length = ps.length ∧ hs.length = ps.length ∧ ∀ (j : Nat) (k v : Value), (prV hs us)[j]? = some (k, v) → ∃ b, ps[j]? = some b ∧ s.heap.IsTuple b #[k, v]
  | [], _, _, ⟨rfl, rfl⟩ => ⟨[], .nil, rfl, rfl, fun j k v e => by simp [prV] at e⟩
  | p :: ps, _, _, ⟨h, r, w, r', rfl, rfl, t, rest⟩ => by
    obtain ⟨us, rv, l1, l2, g⟩ := pairsN_of I rest
    obtain ⟨its, rv', ht, _⟩ := I.tuple t
    obtain ⟨u, y, ei, ru, ry⟩ := vals2 rv'
    subst ei
    obtain rfl : u = Value.ref h.2 := ru
    refine ⟨y :: us, .cons ry rv, by rw [List.length_cons, List.length_cons, l1], by rw [List.length_cons, List.length_cons, l2], fun j k v e => ?_⟩
    cases j with
    | zero =>
      have e' : (Value.ref h.2, y) = (k, v) := Option.some.inj e
      cases e'
      exact ⟨p, rfl, ht⟩
    | succ j =>
      obtain ⟨b, e1, e2⟩ := g j k v (by simpa [prV] using e)
      exact ⟨b, by simpa using e1, e2⟩
theorem stored_nodup : ∀ (ps xs : List (NestedKey × Addr × Value)), (xs.map (·.1) ++ ps.map (·.1)).Nodup → storedAllH xs ps = xs ++ ps
  | [], xs, _ => by simp [storedAllH]
  | p :: ps, xs, h => by
    have hn : atKey xs p.1 = none := by
      unfold atKey
      rw [Option.map_eq_none_iff, List.find?_eq_none]
      intro x hx
      rw [decide_eq_true_eq]
      intro e
      rw [List.nodup_append] at h
      exact h.2.2 x.1 (List.mem_map_of_mem hx) p.1 (by simp) e
    have e : storedH xs p.1 p.2.1 p.2.2 = xs ++ [p] := storedH_new hn _ _
    show storedAllH (storedH xs p.1 p.2.1 p.2.2) ps = _
    rw [e, stored_nodup ps (xs ++ [p]) (by simpa using h)]
    simp
theorem mk3_prV : ∀ {nks : List NestedKey} {hs : List (Int × Addr)} {us : List Value} {i : Nat} {key v : Value}, hs.length = nks.length → (prV hs us)[i]? = some (key, v) → ∃ k b, (mk3 nks hs us)[i]? = some (k, b, v) ∧ key = .ref b
  | [], [], us, i, key, v, _, h => by simp [prV] at h
  | [], _ :: _, us, i, key, v, hl, h => by cases hl
  | n :: nks, [], us, i, key, v, hl, h => by cases hl
  | n :: nks, h' :: hs, [], i, key, v, hl, h => by simp [prV] at h
  | n :: nks, h' :: hs, u :: us, 0, key, v, hl, h => by
    have e' : (Value.ref h'.2, u) = (key, v) := Option.some.inj h
    cases e'
    exact ⟨n, h'.2, rfl, rfl⟩
  | n :: nks, h' :: hs, u :: us, i + 1, key, v, hl, h => by
    obtain ⟨k, b, e1, e2⟩ := mk3_prV (i := i) (us := us) (by simpa using hl) (by simpa [prV] using h)
    exact ⟨k, b, by rw [mk3]; simpa using e1, e2⟩
theorem mk3_len : ∀ {nks : List NestedKey} {hs : List (Int × Addr)} {us : List Value}, hs.length = nks.length → us.length = nks.length → (mk3 nks hs us).length = nks.length := fun h1 h2 => by
  have := congrArg List.length (mk3_keys h1 h2)
  rw [List.length_map] at this
  exact this
/-- dict(xs) of a list of pairs (key, value), no key twice -/
theorem call_dictNP {X : Cx} {k0 : Nat} (hcalm : X.calm = true) (hr : Room k0 X.A) : CallR X (.type "dict") (fun xs H Q => ∃ (a : Addr) (ps : List Addr) (nks : List NestedKey) (hs : List (Int × Addr)) (ws : List V), xs = [.ref a] ∧ SqL X.K H a (ps.map V.ref) ∧ PrAt X.K H ps hs ws ∧ KyH X.K X.w H nks hs ∧ nks.Nodup ∧
    ∀ p ep, H p = none → (p == sysModules) = false → Q (.ref p) (upd H p (DcO p ep hs ws))) := by
  intro pins s σ H xs us Q I r q
  obtain ⟨a, ps, nks, hs, ws, ex, hq, hp, hk, hnd, q⟩ := q
  subst ex
  obtain ⟨u, eu, rx⟩ := vals1 r
  subst eu
  cases rx
  obtain ⟨its, rv, pl, hz⟩ := I.list hq
  have ei := refs_at rv
  subst ei
  rw [List.length_map] at hz
  obtain ⟨us, rel, l1, l2, hpr⟩ := pairsN_of I hp
  obtain ⟨o, n, ho, hc, hd, hdat⟩ := pl
  have hkl := hk.len
  have hul : us.length = nks.length := by rw [l1, ← l2, hkl]
  have hpl : (prV hs us).length = ps.length := by
    unfold prV
    rw [List.length_zipWith, l1, l2, Nat.min_self]
  have hm : (s.heap.objs.size == sysModules) = false := beq_eq_false_iff_ne.mpr (Nat.ne_of_gt I.big)
  have hu := hr.un
  have hnu : ((mk3 nks hs us).map (·.1)).Nodup := by
    rw [mk3_keys hkl hul]
    exact hnd
  refine call_dict_pairsH (knd := nestedKind X.prog X.w) (ps := mk3 nks hs us) (PairArg.list a (ps.map Value.ref).toArray (fun j => ps.getD j 0) (prV hs us)) (I.ok.hd hcalm) (by show X.A.units + 1 + 1 + 8 < cLine; omega)
    ⟨⟨o, n, ho, hc, hd, hdat⟩, by rw [List.size_toArray, List.length_map, hpl], fun j k v e => ?_⟩ ⟨by rw [mk3_len hkl hul, hpl, ← l1, hul], fun i key v e => mk3_prV hkl e⟩ (fun h' kp x hx => ?_) (by rw [hpl]; exact hz) fun h' tk dd kp => ?_
  · obtain ⟨b, e1, e2⟩ := hpr j k v e
    refine ⟨?_, ?_⟩
    · show (ps.map Value.ref).toArray[j]? = some (.ref (ps.getD j 0))
      rw [List.getElem?_toArray, List.getElem?_map, e1, List.getD_eq_getElem?_getD, e1]
      rfl
    · show PairAt s.heap (ps.getD j 0) k v
      rw [List.getD_eq_getElem?_getD, e1]
      exact .inl e2
  · exact nestedKind_stays.stays (fun b ob vs n' e _ => kp b ob (Nat.ne_of_lt (Heap.lt_size e)) (by simp) e) (mk3_is I hk x hx)
  · rw [stored_nodup _ [] (by simpa using hnu), List.nil_append] at dd
    obtain ⟨o', es, ep, hq', h2, h3, h4, _, h5⟩ := dd
    rw [mk3_entry hk hul] at h4
    exact ⟨.ref s.heap.objs.size, upd H s.heap.objs.size (DcO s.heap.objs.size ep hs ws), I.laid (t' := tk) (fun b ob e => kp b ob (by simp) e) (Nat.le_refl _) (dco_ok hq' h2 (by rw [rel.length, l1, l2]) rel h3 h4), rfl, q _ ep (I.hok.fresh (Nat.le_refl _)) hm⟩
section
variable {fa : Ad} {cl : Nat → List A → Store → Rz A} {X : Cx} {e : Expr} {c : C} {k : Nat}
theorem pairs_rel {g : G} {z : Z} : ∀ {ds ks vs : List D} {us : List V}, pairsOf ds = some (ks, vs) → DatL g z ds us → ∃ (ps : List Addr) (hs : List (Int × Addr)) (ws : List V) (nks : List NestedKey), us = ps.map V.ref ∧ PrAt g.K z.H ps hs ws ∧ ks.map nkD = nks.map some ∧ KeyL g z ks hs ∧ DatL g z vs ws
  | [], ks, vs, us, h, hd => by
    cases h
    obtain rfl : us = [] := hd
    exact ⟨[], [], [], [], rfl, ⟨rfl, rfl⟩, rfl, rfl, rfl⟩
  | d :: ds, ks, vs, us, h, ⟨v, r, e, h1, h2⟩ => by
    subst e
    unfold pairsOf at h
    split at h
    · rename_i heq
      cases heq
    · rename_i kd vd r' heq
      cases heq
      split at h
      · rename_i nk ks' vs' hk hr
        cases h
        obtain ⟨ps, hs, ws, nks, e0, e1, e2, e3, e4⟩ := pairs_rel hr h2
        obtain ⟨p, vs2, rfl, t, v1, r1, e5, d1, v2, r2, e6, d2, e7⟩ := h1
        obtain rfl : r2 = [] := e7
        subst e6
        subst e5
        obtain ⟨b, rfl, q1, q2⟩ := dKey_ref hk d1
        refine ⟨p :: ps, (nk.hash g.w, b) :: hs, v2 :: ws, nk :: nks, by rw [e0]; rfl, ⟨_, _, _, _, rfl, rfl, t, e1⟩, by rw [List.map_cons, List.map_cons, q1, e2], ⟨nk, b, hs, rfl, q1, q2, d1, e3⟩, ⟨v2, ws, rfl, d2, e4⟩⟩
      · cases h
    · cases h
theorem se_dctP {p pos : Pos} (hc : X.calm = true) (hr : Room k X.A) (hg : Gl X "dict") (hmg : X.mg "dict" = none) (he : starEach [e] X.env = (false, eval e X.env) :: starEach [] X.env) (ha : SA fa cl X [e] [c]) : SE fa cl X (.Call (.Name "dict" p) [e] [] pos) (.dctP c) :=
  (pe_callTy (call_dictNP hc hr) hg hmg rfl ha (by decide) (by decide) he rfl).imp fun σ H Q q => by
    obtain ⟨B, S, ρ, z, S', eo, so, hm, k⟩ := q
    rw [ev] at hm
    obtain ⟨x, S1, hx, hm1⟩ := Rz.bind_ok hm
    have ex : evs cl [c] ρ S = .ok [x] S1 := by rw [evs, hx]; rfl
    split at hm1
    · rename_i d hd
      rw [tst_f] at hm1
      cases hm1
      refine tA.use eo so ex fun vs B1 H1 so1 st1 eo1 d1 => ?_
      unfold dctF at hd
      split at hd
      · rename_i ds
        split at hd
        · rename_i ks vs' hp
          split at hd
          · rename_i hn
            cases hd
            obtain ⟨v, rfl, a, us, rfl, t, nl, dl⟩ := d1.one
            obtain ⟨ps, hs, ws, nks, rfl, e1, e2, e3, e4⟩ := pairs_rel hp dl
            obtain ⟨nks', e5, e6⟩ := KeyL.ky e3
            refine ⟨a, ps, nks', hs, ws, rfl, SqL.of t, e1, e6, nodup_of_some (by rw [← e5]; exact hn.1), fun p ep hp0 hb => ?_⟩
            have stn : Stab (gx X fa) ⟨B1, S', H1⟩ ⟨B1, S', upd H1 p (DcO p ep hs ws)⟩ := Stab.new so1 hp0
            exact k _ B1 _ (so1.new hp0) (st1.trans stn) ⟨p, ep, hs, ws, rfl, upd_same, so1.fresh hp0, hb, hn.1, stn.keyL e3, stn.datL e4⟩
          · cases hd
        · cases hd
      · cases hd
    · cases hm1
end
end Fw

/-! A dict with text keys is set; an attribute becomes a new list or dict. -/
namespace Fw
open PySem PySem.Spec PyProof.Rows L2
section
variable {fa : Ad} {cl : Nat → List A → Store → Rz A} {wf : Nat} {E : XK} {X : Cx} {o i v : Expr} {co ci cv : C} {pos tp : Pos} {k : Nat}
theorem ss_setK (hr : Room k X.A) (ho : SE fa cl X o co) (hi : SE fa cl X i ci) (hv : SE fa cl X v cv) (hs : swapsWith v (some (.Subscript o i tp)) pos.line X.env = pure false) : SS fa cl wf E X (.Assign [.Subscript o i tp] v pos) (.setK co ci cv) :=
  (ps_dput (room1 hr) ho hi hv hs).imp fun D σ H q => by
    obtain ⟨B, S, ρ, eo, so, h⟩ := q
    rw [run1] at h
    obtain ⟨x, S1, hx, h1⟩ := Rz.then_aft h
    obtain ⟨y, S2, hy, h2⟩ := Rz.then_aft h1
    obtain ⟨z, S3, hz, h3⟩ := Rz.then_aft h2
    refine tE.use eo so hx fun v1 B1 H1 so1 st1 eo1 d1 => tE.use eo1 so1 hy fun v2 B2 H2 so2 st2 eo2 d2 => tE.use eo2 so2 hz fun v3 B3 H3 so3 st3 eo3 d3 => ?_
    split at h3
    · rename_i j kk w
      split at h3
      · rename_i ks vs hs'
        split at h3
        · rename_i hl
          obtain ⟨a0, hb, rfl, hnr⟩ := st3.datA d2
          obtain ⟨u, hu, ws, eu, ln, dl⟩ := so3.obj j a0 _ hb hs' (fun z => by cases z)
          subst eu
          have d3 : v3 = V.str kk := d3
          subst d3
          have dx : Dat (gx X fa) ⟨B3, S3, H3⟩ w v1 := st3.dat _ _ (st2.dat _ _ d1)
          have lw : ks.length = ws.length := by rw [ln, dl.len]
          have ob : Ob (gx X fa) ⟨B3, S3, H3⟩ a0 (.dks (kPutN kk ks) (kPutV kk w ks vs)) (ksO (kPutN kk ks) (kPutW kk v1 ks ws)) := ⟨_, rfl, by
            have := kPut_len (k := kk) (v := w) ln
            exact this, kPut_dat dx dl⟩
          have ne : (MO.dks ks vs).lv := trivial
          have stp := Stab.putO (o' := .dks (kPutN kk ks) (kPutV kk w ks vs)) (w := ksO (kPutN kk ks) (kPutW kk v1 ks ws)) so3 hb hs' ne
          refine ⟨a0, upd H3 a0 (ksO (kPutN kk ks) (kPutW kk v1 ks ws)), rfl, ?_, h3 σ B3 _ (so3.putO hb hs' ne ob) (((st1.trans st2).trans st3).trans stp) (eo3.mono stp)⟩
          have q := DPut.k (H := H3) (a := a0) (kvs := (ks.map Sum.inr).zip ws) (k := .inr kk) (v := v1) hu (by
            rw [List.length_zip, List.length_map, lw, Nat.min_self, dl.len]
            exact Nat.lt_of_le_of_lt hl (by decide))
          rw [putK_ks lw] at q
          exact q
        · exact False.elim h3
      · exact False.elim h3
    · exact False.elim h3
/-- a free place becomes a thing -/
theorem resv_set {g : G} {B : Bk} {S : Store} {H : Hp} {p : Addr} {o : MO} {w : HO} {r : Nat} (k : StoreOk g ⟨B, S, H⟩) (hp : H p = none) (hr : S[r]? = some .resv) (ho : o.lv) (hm : ∀ c ns xs, o ≠ .inm c ns xs)
    (d : Ob g ⟨B, S, H⟩ p o w) : StoreOk g ⟨⟨B.l.set r p, B.E⟩, S.set r o, upd H p w⟩ ∧ Stab g ⟨B, S, H⟩ ⟨⟨B.l.set r p, B.E⟩, S.set r o, upd H p w⟩ := by
  have lB : B.l.length = S.length := k.len
  have hrl : r < B.l.length := by
    rw [lB]
    exact (List.getElem?_eq_some_iff.mp hr).1
  have hon : o ≠ .resv := fun q => by
    rw [q] at ho
    exact ho
  have st : Stab g ⟨B, S, H⟩ ⟨⟨B.l.set r p, B.E⟩, S.set r o, upd H p w⟩ := by
    refine Stab.of (fun a vs h => sqT_upd hp h) (fun a u _ h n => ⟨at_upd hp h, fun q => ?_⟩) (fun a o u h => at_upd hp h) (fun i a h n => ?_) rfl (fun a ha => upd_ne (k.exne hp a ha))
    · rcases q with ⟨i, o', h1, h2, h3⟩ | q
      · rcases set_cases (show (B.l.set r p)[i]? = some a from h1) with ⟨_, rfl⟩ | ⟨hi, h1'⟩
        · exact ne_of_none h hp rfl
        · rcases set_cases (show (S.set r o)[i]? = some o' from h2) with ⟨e, _⟩ | ⟨_, h2'⟩
          · exact hi e
          · exact n (.inl ⟨i, o', h1', h2', h3⟩)
      · exact n (.inr q)
    · have hi : r ≠ i := fun e => n (by rw [← e]; exact hr)
      refine ⟨?_, ?_⟩
      · show (B.l.set r p)[i]? = some a
        rw [List.getElem?_set_ne hi]
        exact h
      · show (S.set r o)[i]? ≠ _
        rw [List.getElem?_set_ne hi]
        exact n
  refine ⟨⟨by show (B.l.set r p).length = (S.set r o).length; rw [List.length_set, List.length_set]; exact lB, fun i j a h1 h2 n1 n2 => ?_, fun i a y h1 h2 hn => ?_, fun a ha => ?_, g.fa.ivN _ _ _ hp k.iv, fun i c ns xs h j hj => ?_⟩, st⟩
  · rcases set_cases (show (B.l.set r p)[i]? = some a from h1) with ⟨hi, rfl⟩ | ⟨hi, h1'⟩
    · rcases set_cases (show (B.l.set r p)[j]? = some p from h2) with ⟨hj, _⟩ | ⟨hj, h2'⟩
      · rw [← hi, ← hj]
      · exact absurd (k.notIn hp j h2') fun q => n2 (by show (S.set r o)[j]? = _; rw [List.getElem?_set_ne hj]; exact q)
    · have n1' : S[i]? ≠ some .resv := fun q => n1 (by show (S.set r o)[i]? = _; rw [List.getElem?_set_ne hi]; exact q)
      rcases set_cases (show (B.l.set r p)[j]? = some a from h2) with ⟨hj, rfl⟩ | ⟨hj, h2'⟩
      · exact absurd (k.notIn hp i h1') n1'
      · exact k.nd i j a h1' h2' n1' fun q => n2 (by show (S.set r o)[j]? = _; rw [List.getElem?_set_ne hj]; exact q)
  · rcases set_cases (show (B.l.set r p)[i]? = some a from h1) with ⟨hi, rfl⟩ | ⟨hi, h1'⟩
    · rcases set_cases (show (S.set r o)[i]? = some y from h2) with ⟨_, rfl⟩ | ⟨hi', _⟩
      · exact ⟨w, upd_same, st.ob d⟩
      · exact absurd hi hi'
    · rcases set_cases (show (S.set r o)[i]? = some y from h2) with ⟨hi', _⟩ | ⟨_, h2'⟩
      · exact absurd hi' hi
      · obtain ⟨u, e, q⟩ := k.obj i a y h1' h2' hn
        exact ⟨u, at_upd hp e, st.ob q⟩
  · have ha : a ∈ B.E := ha
    obtain ⟨⟨u, e, c⟩, n⟩ := k.ex a ha
    refine ⟨⟨u, at_upd hp e, c⟩, fun i q => ?_⟩
    rcases set_cases (show (B.l.set r p)[i]? = some a from q) with ⟨_, rfl⟩ | ⟨hi, q'⟩
    · exact absurd rfl (k.exne hp _ ha)
    · show (S.set r o)[i]? = _
      rw [List.getElem?_set_ne hi]
      exact n i q'
  · rcases set_cases (show (S.set r o)[i]? = some _ from h) with ⟨_, e⟩ | ⟨_, h'⟩
    · exact absurd e (hm _ _ _)
    · exact k.lt i c ns xs h' j hj
theorem ss_setR {n : Str} {c0 r i0 : Nat} {dk : Bool} {pos' : Pos} (ho : PE X o (tVar i0)) (hv : PE X v fun _ H Q => ∀ p, H p = none → Q (.ref p) (upd H p (if dk then ksO [] [] else .lst []))) (hc : Cls X.K (fa.c c0)) (hn : NoAttr X.K (fa.c c0) n)
    (hs : swapsWith v (some (.Attribute o n pos')) pos.line X.env = pure false) : SS fa cl wf E X (.Assign [.Attribute o n pos'] v pos) (.setR c0 i0 n r dk) := (ps_fld ho hv hs).imp fun D σ H q => by
  obtain ⟨B, S, ρ, eo, so, h⟩ := q
  intro p hp
  rw [run1] at h
  split at h
  · rename_i i hoi
    split at h
    · rename_i c ns xs hi
      split at h
      · rename_i hcl
        obtain ⟨rfl, hl, hri0⟩ := hcl
        have hri : i - (r + 1) < i := by omega
        clear hri0
        generalize i - (r + 1) = r at h hri
        split at h
        · rename_i hr
          have nw : (if dk then MO.dks [] [] else .lst []).lv := by cases dk <;> trivial
          have nm : ∀ c ns xs, (if dk then MO.dks [] [] else .lst []) ≠ .inm c ns xs := by cases dk <;> (intro c ns xs z; cases z)
          have nob : Ob (gx X fa) ⟨B, S, H⟩ p (if dk then MO.dks [] [] else .lst []) (if dk then ksO [] [] else .lst []) := by
            cases dk
            · exact ⟨[], rfl, rfl⟩
            · exact ⟨[], rfl, rfl, rfl⟩
          obtain ⟨s1, t1⟩ := resv_set so hp hr nw nm nob
          obtain ⟨v0, hv0, ad, hb, rfl, hnr⟩ := eo.get i0 _ hoi
          have hb1 := (t1.pre i ad hb hnr).1
          have hne : r ≠ i := by omega
          have hi1 : (S.set r (if dk then MO.dks [] [] else .lst []))[i]? = some (.inm c ns xs) := by
            rw [List.getElem?_set_ne hne]
            exact hi
          have hrl : r < S.length := (List.getElem?_eq_some_iff.mp hr).1
          obtain ⟨u, hu, dx, vs, eu, ln, dl⟩ := s1.obj i ad _ hb1 hi1 (fun z => by cases z)
          subst eu
          have dd : DatA (gx X fa) ⟨⟨B.l.set r p, B.E⟩, S.set r (if dk then MO.dks [] [] else .lst []), upd H p (if dk then ksO [] [] else .lst [])⟩ (.m r) (.ref p) := by
            refine ⟨p, ?_, rfl, ?_⟩
            · show (B.l.set r p)[r]? = some p
              rw [List.getElem?_set_self (by rw [show B.l.length = S.length from so.len]; exact hrl)]
            · show (S.set r _)[r]? ≠ _
              rw [List.getElem?_set_self hrl]
              intro z
              have := Option.some.inj z
              rw [this] at nw
              exact nw
          obtain ⟨ws, w1, w2, w3⟩ := putA_dat (n := n) dd ln dl
          have ne : (MO.inm c ns xs).lv := trivial
          have stp := Stab.putO (o' := .inm c (putN n (.m r) ns xs).1 (putN n (.m r) ns xs).2) (w := .ins (fa.c c) dx (putF n (.ref p) (ns.zip vs))) s1 hb1 hi1 ne
          have sop := s1.putO hb1 hi1 ne (o' := .inm c (putN n (.m r) ns xs).1 (putN n (.m r) ns xs).2) (w := .ins (fa.c c) dx (putF n (.ref p) (ns.zip vs))) ⟨dx, ws, by rw [w2], w3, w1⟩ (by
            intro c2 ns2 xs2 e m hm
            cases e
            rcases putA_mem hm with q | q
            · cases q
              exact hri
            · exact so.lt i _ _ _ hi m q)
          refine ⟨_, hv0, ad, _, dx, _, rfl, hu, hc, hn, ?_, h σ _ _ sop (t1.trans stp) ((eo.mono t1).mono stp)⟩
          rw [List.length_zip]
          omega
        · exact False.elim h
      · exact False.elim h
    · exact False.elim h
  · exact False.elim h
end
end Fw

/-! == of dicts whose keys stand in the heap; == and != by an own __eq__. -/
namespace PySem.W
open Lean Elab Tactic Meta PySem PySem.Calls PyProof.Rows PyProof.V PySem.Spec
section
variable {prog : Program} {w : World} {A : Around} {E : Value → Shared → Prop} {s : Shared} {K : Frag} {x C f : Addr} {ox : Obj} {od : Option Obj}
/-- a slot of object, asked of an own instance -/
theorem check_slot_K {M : Model} {id owner n : String} {rest : List Value} {Q : Unit → Shared → Prop} (hk : builtinKind id = some .slot) (hs : splitId id = some (owner, n))
    (ha : argsOk id ⟨.ref x :: rest, []⟩) (X : K.In s.heap) (I : InstAt s.heap x ox C od) (hob : subIn K (.ref C) (.type owner) = some true) (hq : Q () s) :
    wpAny M A (checkBuiltinCall id ⟨.ref x :: rest, []⟩) Q E s := by
  simp only [checkBuiltinCall, hk, hs]
  refine wpAny_bind ?_
  unfold isInstance
  refine wpAny_bind (I.type.here ((looks_subIn X hob).here ?_))
  cases hsig : Manifest.signature? id with
  | none => exact wpAny_pure hq
  | some sig =>
    simp only [argsOk, hsig] at ha
    have h2 : Bind.checkArgs id sig ⟨.ref x :: rest, []⟩ = pure () := ha
    show wpAny M A (Bind.checkArgs id sig ⟨.ref x :: rest, []⟩) Q E _
    rw [h2]
    exact wpAny_pure hq
theorem objNe_K {b : Value} (X : K.In s.heap) (I : InstAt s.heap x ox C od) (hs : findIn K (.ref C) "__eq__" = some (some (.ref f))) (hf : isFn K (.ref f) = true) (hu : A.units < cLine) {Q : Fin → Shared → Prop}
    (hcall : wpAny (model prog w) A (call (.ref f) [.ref x, b]) (fun v s' => ∃ r, v = .bool r ∧ Q (.done (.ret (.bool (!r)))) s') E s) :
    wpAny (model prog w) A (Builtin.«object.__ne__» ⟨[.ref x, b], []⟩) Q E s := by
  unfold Builtin.«object.__ne__»
  repeat (first
    | with_reducible refine wpAny_cRoomFor hu ?_
    | (refine wpAny_bind (m := callSpecialIfBound? (.ref x) (Str.ofString "__eq__") [b])
        (ifBound_K X I hs hf (wpAny_mono hcall (fun r s' hr => by
          obtain ⟨b, rfl, hq⟩ := hr
          repeat (first | exact hq | exact wpAny_pure hq | exact wpAny_truthy_bool hq | (refine wpAny_bind (m := truthy (.bool _)) (wpAny_truthy_bool ?_)) | wp_step)) fun _ _ e => e)))
    | wp_step)
/-- object's __ne__ of an own instance that has an __eq__ alone -/
theorem tryNe_K {b : Value} {Q : Option Value → Shared → Prop} (X : K.In s.heap) (I : InstAt s.heap x ox C od) (hne : findIn K (.ref C) "__ne__" = some (some (.builtin "object.__ne__"))) (hob : subIn K (.ref C) (.type "object") = some true)
    (hs : findIn K (.ref C) "__eq__" = some (some (.ref f))) (hf : isFn K (.ref f) = true) (hu : A.units + 1 < cLine)
    (hcall : wpAny (model prog w) A.in1 (call (.ref f) [.ref x, b]) (fun v s' => ∃ r, v = .bool r ∧ Q (some (.bool (!r))) s') E s) :
    wpAny (model prog w) A (tryCompare (.ref x) "__ne__" b) Q E s := by
  have S := PySem.F.cmp_object.ne
  simp only [tryCompare]
  refine wpAny_bind ?_
  simp only [callSpecialIfBound?, bindSpecialIfBound?]
  refine wpAny_holding (wpAny_bind (wpAny_bind (wpAny_bind (I.type.here ((looks_findIn X hne).here ?_)))))
  simp only [S.bind]
  have hc : wpAny (model prog w) A (call (.builtin "object.__ne__") (.ref x :: [b])) (fun v s' => wpAny (model prog w) A (match some v with
      | some .notImplemented => pure none
      | none => pure none
      | some v => pure (some v)) Q E s') E s := wpAny_call (codeAny_call_builtin S.plain PySem.F.cmpEntry_ne (check_slot_K PySem.F.cmpKind_ne PySem.F.cmpSplit_ne (PySem.F.cmpArgs_ne _ _) X I hob
    (objNe_K (A := A.in1) X I hs hf hu (wpAny_mono hcall (fun v s' hv => by
      obtain ⟨r, rfl, hq⟩ := hv
      exact ⟨r, rfl, wpAny_pure hq⟩) fun _ _ e => e))))
  refine wpAny_bind (wpAny_askSetting (wpAny_ite ?_))
  have fin : wpAny (model prog w) A (call (.builtin "object.__ne__") ([.ref x] ++ [b]) >>= fun v => pure (some v)) (fun a s' => wpAny (model prog w) A (match a with
      | some .notImplemented => pure none
      | none => pure none
      | some v => pure (some v)) Q E s') E s := wpAny_bind (wpAny_mono hc (fun v s' hv => wpAny_pure hv) fun _ _ e => e)
  split
  · exact wpAny_bind (wpAny_pure (wpAny_pure fin))
  · exact wpAny_tryCatch (wpAny_bind (wpAny_pure (wpAny_pure fin)))
/-- x != y by an own __eq__, both of the class -/
theorem ne_K {L : Addr} {h₀ : Heap} {m : Str → Option Value} {b : Value} {Q : Value → Shared → Prop} (hu : A.units + 1 < cLine) (F : Fr h₀ L s.heap m) (X₀ : K.In h₀) (I : InstAt s.heap x ox C od) (hb : Looks (model prog w) s.heap (typeOf b) (.ref C))
    (hne : findIn K (.ref C) "__ne__" = some (some (.builtin "object.__ne__"))) (hob : subIn K (.ref C) (.type "object") = some true) (hs : findIn K (.ref C) "__eq__" = some (some (.ref f))) (hf : isFn K (.ref f) = true)
    (h : wpAny (model prog w) A.in1 (call (.ref f) [.ref x, b]) (fun v s' => ∃ r, v = .bool r ∧ Q (.bool (!r)) s') E s) : wpAny (model prog w) A (richCompare .NotEq (.ref x) b) Q E s := by
  have X := X₀.keeps F.keep
  have one : wpAny (model prog w) A (tryCompare (.ref x) "__ne__" b) (fun r s' => ∃ v, r = some v ∧ Q v s') E s :=
    tryNe_K X I hne hob hs hf hu (wpAny_mono h (fun v s' hv => by
      obtain ⟨r, e, hq⟩ := hv
      exact ⟨r, e, _, rfl, hq⟩) fun _ _ e => e)
  unfold richCompare
  simp only [oneThing_ref]
  refine wpAny_holding (wpAny_bind (wpAny_cRoomFor (Nat.lt_of_succ_lt hu) ?_))
  refine wpAny_bind (I.type.here (wpAny_bind (hb.here ?_)))
  rw [show (Value.ref C != Value.ref C) = false from by simp]
  simp only [Bool.false_eq_true, if_false]
  refine wpAny_bind (wpAny_pure ?_)
  simp only [Bool.false_eq_true, if_false]
  refine wpAny_bind (wpAny_mono one (fun r s' z => ?_) fun _ _ e => e)
  obtain ⟨v, rfl, hq⟩ := z
  exact wpAny_pure hq
end
end PySem.W
namespace Fw
open PySem PySem.Spec PyProof.Rows L2
/-- two instances of the class at C are asked: f of what the own __eq__ says -/
def rEqI (C : Addr) (neg : Bool) (sp : Sp) (E : XK) : R2 := fun x y H Q => ∃ a b dx dy fs gs, x = .ref a ∧ y = .ref b ∧ H a = some (.ins C dx fs) ∧ H b = some (.ins C dy gs) ∧ sp [.ref a, .ref b] H (fun v H' => ∃ r : Bool, v = .bl r ∧ Q (.bl (if neg then !r else r)) H') E
section
variable {X : Cx} {CX : CXT} {k : Nat} {C f : Addr} {fd : FuncData} {ps : List Str} {sp : Sp} {E : XK}
theorem op_eqI (F : FnOk X.prog X.w X.K X.mg X.base CX k f fd ps sp) (hs : PySem.W.findIn X.K (.ref C) "__eq__" = some (some (.ref f))) (hf : PySem.W.isFn X.K (.ref f) = true) (hb : Binds X.K fd ps []) (hr : Room k X.A) (hx : Passes CX X E) : OpR X (compareOp .Eq) (rEqI C false sp E) := by
  intro pins s σ H x y u v Q I rx ry hq
  obtain ⟨a, b, dx, dy, fs, gs, rfl, rfl, ha, hb', hsp⟩ := hq
  cases rx
  cases ry
  obtain ⟨mA, J, _⟩ := ins_get I.hok ha
  obtain ⟨mB, J', _⟩ := ins_get I.hok hb'
  obtain ⟨od, J, _⟩ := J.look
  obtain ⟨od', J', _⟩ := J'.look
  obtain ⟨m, hF⟩ := I.fr
  show wpAny (model X.prog X.w) X.A (richCompare .Eq (.ref a) (.ref b)) (EP X pins σ Q) X.xe s
  refine PySem.W.cmp_K (op := .Eq) (tb := .ref C) hr.units0 hF I.ok.mod.kin J J'.type (by simp [PySem.W.notFirst]) hs hf ?_
  have hl := F.len _ _ _ _ hsp
  have r2 : Vals [V.ref a, V.ref b] [Value.ref a, Value.ref b] := .cons rfl (.cons rfl .nil)
  refine wpAny_call (codeAny_mono (F.run X.A X.stack s H ⟨[.ref a, .ref b], []⟩ [.ref a, .ref b] [.ref a, .ref b] _ E hr I.env0 (by
    have := hb s [.ref a, .ref b] I.kIn (by simpa using hl)
    simpa using this) r2 hsp) fun r s' hq => ?_)
  cases r with
  | error e => exact hx pins σ H s e s' I hq
  | ok fl =>
    cases fl with
    | ret w =>
      obtain ⟨z, H', I', rz, r, ez, q⟩ := I.after hq
      subst ez
      cases rz
      exact ⟨.bl r, H', I', rfl, q⟩
    | next => exact False.elim hq
    | brk => exact False.elim hq
    | cont => exact False.elim hq
theorem op_neI (F : FnOk X.prog X.w X.K X.mg X.base CX k f fd ps sp) (hs : PySem.W.findIn X.K (.ref C) "__eq__" = some (some (.ref f))) (hf : PySem.W.isFn X.K (.ref f) = true) (hne : PySem.W.findIn X.K (.ref C) "__ne__" = some (some (.builtin "object.__ne__"))) (hob : PySem.W.subIn X.K (.ref C) (.type "object") = some true) (hb : Binds X.K fd ps []) (hr : Room (k + 1) X.A) (hx : Passes CX X E) : OpR X (compareOp .NotEq) (rEqI C true sp E) := by
  intro pins s σ H x y u v Q I rx ry hq
  obtain ⟨a, b, dx, dy, fs, gs, rfl, rfl, ha, hb', hsp⟩ := hq
  cases rx
  cases ry
  obtain ⟨mA, J, _⟩ := ins_get I.hok ha
  obtain ⟨mB, J', _⟩ := ins_get I.hok hb'
  obtain ⟨od, J, _⟩ := J.look
  obtain ⟨od', J', _⟩ := J'.look
  obtain ⟨m, hF⟩ := I.fr
  show wpAny (model X.prog X.w) X.A (richCompare .NotEq (.ref a) (.ref b)) (EP X pins σ Q) X.xe s
  refine PySem.W.ne_K hr.in1.units0 hF I.ok.mod.kin J J'.type hne hob hs hf ?_
  have hl := F.len _ _ _ _ hsp
  have r2 : Vals [V.ref a, V.ref b] [Value.ref a, Value.ref b] := .cons rfl (.cons rfl .nil)
  refine wpAny_call (codeAny_mono (F.run X.A.in1 X.stack s H ⟨[.ref a, .ref b], []⟩ [.ref a, .ref b] [.ref a, .ref b] _ E hr.in1 I.env0.in1 (by
    have := hb s [.ref a, .ref b] I.kIn (by simpa using hl)
    simpa using this) r2 hsp) fun r s' hq => ?_)
  cases r with
  | error e => exact hx pins σ H s e s' I hq
  | ok fl =>
    cases fl with
    | ret w =>
      obtain ⟨z, H', I', rz, r, ez, q⟩ := I.after hq
      subst ez
      cases rz
      exact ⟨r, rfl, .bl (!r), H', I', rfl, q⟩
    | next => exact False.elim hq
    | brk => exact False.elim hq
    | cont => exact False.elim hq
end
end Fw

/-! == of two dicts whose keys stand in the heap. -/
namespace PySem.W
open Lean Elab Tactic Meta PySem PySem.Calls PyProof.Rows PyProof.V PySem.Spec
section
variable {prog : Program} {w : World} {K : Type} [DecidableEq K] {knd : HeapKind prog w K} {A : Around} {E : Value → Shared → Prop} {s : Shared}
/-- the entries of one dict looked up in the other -/
inductive HitsH {K : Type} [DecidableEq K] (prog : Program) (w : World) (A : Around) (s : Shared) (xb : List (K × Addr × Value)) : List (K × Addr × Value) → Bool → Prop
  | nil : HitsH prog w A s xb [] true
  | miss {k : K} {c : Addr} {v : Value} {r : List (K × Addr × Value)} : atKey xb k = none → HitsH prog w A s xb ((k, c, v) :: r) false
  | hit {k : K} {c : Addr} {v : Value} {p : Addr × Value} {r : List (K × Addr × Value)} {e b : Bool} : atKey xb k = some p → SeqAt.EqP prog w A s v p.2 e → HitsH prog w A s xb r b → HitsH prog w A s xb ((k, c, v) :: r) (e && b)
theorem HitsH.inv {xb : List (K × Addr × Value)} {k : K} {c : Addr} {v : Value} {r : List (K × Addr × Value)} {b : Bool} (h : HitsH prog w A s xb ((k, c, v) :: r) b) :
    (atKey xb k = none ∧ b = false) ∨ ∃ p e b', atKey xb k = some p ∧ SeqAt.EqP prog w A s v p.2 e ∧ HitsH prog w A s xb r b' ∧ b = (e && b') := by
  cases h with
  | miss hn => exact .inl ⟨hn, rfl⟩
  | hit hy he hr => exact .inr ⟨_, _, _, hy, he, hr, rfl⟩
theorem samePairsH {nm : String} {a b : Addr} {xa xb : List (K × Addr × Value)} {r : Bool} {Q : Bool → Shared → Prop} (hu : knd.room A) (ha : (a == sysModules) = false) (hb : (b == sysModules) = false)
    (da : s.heap.DictOfH knd a xa) (db : s.heap.DictOfH knd b xb) (hits : xa.length = xb.length → HitsH prog w A s xb xa r) (h : Q (xa.length == xb.length && r) s) :
    wpAny (model prog w) A (Builtin.Dict.samePairs nm a b) Q E s := by
  obtain ⟨oa, es, ep, hoa, _, hda, hka, hia, hna⟩ := da
  obtain ⟨ob, es', ep', hob, _, hdb, hkb, hib, hnb⟩ := db
  have hla : xa.length = es.size := (size_of_entries hka).symm
  have hlb : xb.length = es'.size := (size_of_entries hkb).symm
  rw [hla, hlb] at h
  unfold Builtin.Dict.samePairs Builtin.Dict.showsAll
  rw [if_neg (show ¬ (a == sysModules) = true by rw [ha]; exact Bool.false_ne_true), if_neg (show ¬ (b == sysModules) = true by rw [hb]; exact Bool.false_ne_true)]
  refine wpAny_bind (wpAny_pure (wpAny_bind (wpAny_pure ?_)))
  refine wpAny_bind (wpAny_dictEntries hoa hda ?_)
  dsimp only
  refine wpAny_bind (wpAny_dictEntries hob hdb ?_)
  by_cases hsz : es.size = es'.size
  case neg =>
    rw [if_pos (by simpa using hsz)]
    have hbf : (es.size == es'.size) = false := by simpa using hsz
    rw [hbf, Bool.false_and] at h
    exact wpAny_bind (wpAny_rule (wpAny_pure h))
  case pos =>
    have h' : Q r s := by simpa [hsz] using h
    have hits' := hits (by rw [hla, hlb]; exact hsz)
    rw [if_neg (by rw [hsz]; simp)]
    refine wpAny_bind (wpAny_dictEpoch hoa hda ?_)
    refine wpAny_bind ?_
    rw [Std.Legacy.Range.forIn_eq_forIn_range']
    simp only [Std.Legacy.Range.size, Nat.sub_zero, Nat.add_sub_cancel, Nat.div_one]
    refine wpAny_forIn_list _
      (fun rest q s' => s' = s ∧ q = (none, ()) ∧ ∃ i, rest = List.range' i (es.size - i) ∧ i ≤ es.size ∧ HitsH prog w A s xb (xa.drop i) r)
      _ ?_ ?_ _ _ ⟨rfl, rfl, 0, by simp, Nat.zero_le _, hits'⟩
    · rintro x rest q s' ⟨rfl, rfl, i, hr, hi, hpre⟩
      have hlt : i < es.size := by
        rcases Nat.lt_or_ge i es.size with h | h
        · exact h
        · rw [Nat.sub_eq_zero_of_le h] at hr; simp at hr
      obtain ⟨rfl, hrest⟩ : x = i ∧ rest = List.range' (i + 1) (es.size - (i + 1)) := by
        have e : es.size - i = (es.size - (i + 1)) + 1 := by omega
        rw [e, List.range'_succ] at hr
        injection hr with h1 h2
        exact ⟨h1, h2⟩
      refine wpAny_bind (wpAny_dictEntries hoa hda ?_)
      have hlt' : x < xa.length := by rw [hla]; exact hlt
      obtain ⟨k, c, v, hkv⟩ : ∃ k c v, xa[x] = (k, c, v) := ⟨_, _, _, rfl⟩
      have hxa : xa[x]? = some (k, c, v) := by rw [List.getElem?_eq_getElem hlt', hkv]
      have hdrop : xa.drop x = (k, c, v) :: xa.drop (x + 1) := by rw [← hkv]; exact List.drop_eq_getElem_cons hlt'
      have hex : es[x]? = some ⟨knd.hash k, .ref c, v⟩ := by rw [entry_at hka x, hxa]; rfl
      have hic : knd.is s'.heap k c := hia _ (List.mem_of_getElem? hxa)
      rw [hex]
      rw [hdrop] at hpre
      dsimp only
      show wpAny _ _ (holding [Value.ref c, v] _ >>= _) _ _ _
      refine wpAny_bind (wpAny_holding (wpAny_bind (wpAny_dictFind_heap hu hic hob hdb hkb hib hnb (fun hno => ?_) fun j p hj => ?_)))
      · have hn : atKey xb k = none := atKey_none_of_get hno
        rcases hpre.inv with ⟨_, er⟩ | ⟨p, _, _, hy, _⟩
        · rw [er] at h'
          refine wpAny_pure ?_
          show wpAny _ _ (if (!false) = true then _ else _) _ _ _
          rw [if_pos (by decide)]
          exact wpAny_pure (wpAny_pure h')
        · rw [hn] at hy; exact nomatch hy
      · have hv' : atKey xb k = some p := atKey_of_get hnb hj
        refine wpAny_bind (wpAny_dictEntries hob hdb ?_)
        have hej : es'[j]? = some ⟨knd.hash k, .ref p.1, p.2⟩ := by rw [entry_at hkb j, hj]; rfl
        rw [hej]
        dsimp only
        rcases hpre.inv with ⟨hn, _⟩ | ⟨y, e, b', hy, he, hrr, er⟩
        · rw [hv'] at hn; exact nomatch hn
        · rw [hv'] at hy
          cases hy
          refine wpAny_holding (he _ _ ?_)
          cases e with
          | false =>
            rw [er, Bool.false_and] at h'
            show wpAny _ _ (if (!false) = true then _ else _) _ _ _
            rw [if_pos (by decide)]
            exact wpAny_pure (wpAny_pure h')
          | true =>
            rw [Bool.true_and] at er
            rw [← er] at hrr
            show wpAny _ _ (if (!true) = true then _ else _) _ _ _
            rw [if_neg (by decide)]
            refine wpAny_bind (wpAny_dictEpoch hoa hda ?_)
            rw [if_neg (by simp)]
            exact wpAny_pure ⟨rfl, rfl, x + 1, hrest, hlt, hrr⟩
    · rintro q s' ⟨rfl, rfl, i, hr, hi, hpre⟩
      have hin : i = es.size := by
        rcases Nat.lt_or_ge i es.size with h | h
        · have e : es.size - i = (es.size - (i + 1)) + 1 := by omega
          rw [e, List.range'_succ] at hr; exact nomatch hr
        · exact Nat.le_antisymm hi h
      refine wpAny_pure ?_
      rw [hin, ← hla, List.drop_length] at hpre
      cases hpre
      exact h'
theorem rcH_dicts {a b : Addr} {xa xb : List (K × Addr × Value)} {r : Bool} (hr : knd.room A.in1) (ha : (a == sysModules) = false) (hb : (b == sysModules) = false)
    (da : s.heap.DictOfH knd a xa) (db : s.heap.DictOfH knd b xb) (hu : A.units < cLine) (hits : xa.length = xb.length → HitsH prog w A.in1 s xb xa r) (E Q : Value → Shared → Prop) (h : Q (.bool (xa.length == xb.length && r)) s) : wpAny (model prog w) A (richCompare .Eq (.ref a) (.ref b)) Q E s := by
  refine wpAny_richCompare_same_room (op := .Eq) da.typeIs db.typeIs PySem.F.slot_dict_eq (wpAny_call_entry PySem.F.slot_dict_eq da.typeIs PySem.F.entry_dict_eq ?_ (PySem.F.args_dict_eq_2 _ _)) hu
  show wpAny _ _ (Builtin.Dict.dictSlotArgs "__eq__" ⟨[.ref a, .ref b], []⟩ >>= _) _ _ s
  refine wpAny_bind ?_
  unfold Builtin.Dict.dictSlotArgs
  refine wpAny_bind (wpAny_notOrdered_dict da.typeIs ?_)
  show wpAny _ _ (pure (Value.ref a, Value.ref b)) _ _ s
  refine wpAny_pure ?_
  refine wpAny_bind (wpAny_isInstance (T := "dict") db.typeIs PySem.F.sub_dict_dict ?_)
  simp only [Bool.not_true, Bool.false_eq_true, if_false]
  refine wpAny_bind (wpAny_pure (wpAny_bind (wpAny_pure ?_)))
  refine wpAny_bind (samePairsH hr ha hb da db hits ?_)
  refine wpAny_pure ⟨_, rfl, ?_, ?_⟩
  · exact fun x => nomatch x
  · simpa using h
end
end PySem.W
namespace Fw
open PySem PySem.Spec PyProof.Rows L2
def valI (ks : List NestedKey) (is : List Int) (k : NestedKey) : Option Int := ((ks.zip is).find? fun p => decide (p.1 = k)).map (·.2)
/-- every pair stands in the other dict, too -/
def dcB (ks : List NestedKey) (is : List Int) (f : NestedKey → Option Int) : Bool := (ks.zip is).all fun p => decide (f p.1 = some p.2)
theorem valI_valD (k : NestedKey) : ∀ (ks : List NestedKey) (is : List Int), valD ks (is.map V.int) k = (valI ks is k).map V.int
  | [], is => by simp [valD, valI]
  | _ :: _, [] => by simp [valD, valI]
  | k' :: ks, i :: is => by
    by_cases e : k' = k
    · simp [valD, valI, List.find?_cons, e]
    · have ih := valI_valD k ks is
      unfold valD valI at ih
      simp only [valD, valI, List.map_cons, List.zip_cons_cons, List.find?_cons, decide_eq_false e]
      exact ih
theorem hits_of {prog : Program} {w : World} {A : Around} {s : Shared} {xb : List (NestedKey × Addr × Value)} {f : NestedKey → Option Int} (hf : ∀ k, RelO ((f k).map V.int) ((atKey xb k).map (·.2))) :
    ∀ {ks : List NestedKey} {hs : List (Int × Addr)} {is : List Int} {us : List Value}, hs.length = ks.length → Vals (is.map V.int) us → is.length = ks.length → PySem.W.HitsH prog w A s xb (mk3 ks hs us) (dcB ks is f)
  | [], hs, is, us, h1, r, h2 => by
    have : mk3 [] hs us = [] := by cases hs <;> cases us <;> rfl
    rw [this]
    exact .nil
  | _ :: _, [], _, _, h1, _, _ => by cases h1
  | _ :: _, _ :: _, [], _, _, _, h2 => by cases h2
  | k :: ks, h :: hs, i :: is, us, h1, r, h2 => by
    cases r with
    | cons r1 r2 =>
      rename_i u us
      have ih := hits_of (prog := prog) (w := w) (A := A) (s := s) hf (ks := ks) (hs := hs) (is := is) (by simpa using h1) r2 (by simpa using h2)
      rw [mk3]
      have hk := hf k
      have e : dcB (k :: ks) (i :: is) f = (decide (f k = some i) && dcB ks is f) := by
        unfold dcB
        rw [List.zip_cons_cons, List.all_cons]
      rw [e]
      cases hfk : f k with
      | none =>
        rw [hfk] at hk
        have hn : atKey xb k = none := by
          cases q : atKey xb k with
          | none => rfl
          | some p => rw [q] at hk; exact False.elim hk
        have : (decide (none = some i) && dcB ks is f) = false := by simp
        rw [this]
        exact .miss hn
      | some j =>
        rw [hfk] at hk
        cases q : atKey xb k with
        | none => rw [q] at hk; exact False.elim hk
        | some p =>
          rw [q] at hk
          have hk : RelV (.int j) p.2 := hk
          have ee : (decide (some j = some i)) = eqV (.int i) (.int j) := by
            show _ = (i == j)
            by_cases z : j = i
            · subst z
              simp
            · have z' : ¬ i = j := fun y => z y.symm
              simp [z, z']
          rw [ee]
          exact .hit q (SeqAt.EqAt.eqP (eqAt_V r1 hk rfl rfl)) ih
/-- two dicts of numbers are asked whether they are equal -/
def rEqDc (X : Cx) : R2 := fun x y H Q => ∃ a b nks hs is nks' hs' is', x = .ref a ∧ y = .ref b ∧ DcAt X.K X.w H a nks hs (is.map V.int) ∧ DcAt X.K X.w H b nks' hs' (is'.map V.int) ∧ Q (.bl (decide (nks.length = nks'.length) && dcB nks is (valI nks' is'))) H
theorem mk3_length : ∀ {ks : List NestedKey} {hs : List (Int × Addr)} {us : List Value}, hs.length = ks.length → us.length = ks.length → (mk3 ks hs us).length = ks.length := fun h1 h2 => by
  rw [← List.length_map (f := (·.1)), mk3_keys h1 h2]
theorem op_eq_dc {X : Cx} (hu : X.A.units + 9 < cLine) : OpR X (compareOp .Eq) (rEqDc X) := by
  intro pins s σ H x y v u Q I rx ry hq
  obtain ⟨a, b, nks, hs, is, nks', hs', is', rfl, rfl, g1, g2, q⟩ := hq
  cases rx
  cases ry
  obtain ⟨l1, us, r1, d1⟩ := dc_at I g1
  obtain ⟨l2, us', r2, d2⟩ := dc_at I g2
  have k1 := g1.2.2.2.len
  have k2 := g2.2.2.2.len
  rw [List.length_map] at l1 l2
  have u1 : us.length = nks.length := by rw [← r1.length, List.length_map, l1]
  have u2 : us'.length = nks'.length := by rw [← r2.length, List.length_map, l2]
  show wpAny (model X.prog X.w) X.A (richCompare .Eq (.ref a) (.ref b)) (EP X pins σ Q) X.xe s
  refine PySem.W.rcH_dicts (knd := nestedKind X.prog X.w) (r := dcB nks is (valI nks' is')) (dc_room hu) g1.2.1 g2.2.1 d1 d2 (by omega) (fun _ => hits_of (fun k => ?_) k1 r1 l1) _ _ ?_
  · rw [← valI_valD]
    exact mk3_val k2 r2
  · rw [mk3_length k1 u1, mk3_length k2 u2]
    have e : (nks.length == nks'.length) = decide (nks.length = nks'.length) := by
      by_cases z : nks.length = nks'.length <;> simp [z]
    rw [e]
    exact ⟨.bl _, H, I, rfl, q⟩
end Fw

/-! Properties, == and != by an own __eq__, == of dicts of numbers: the readings. -/
namespace Fw
open PySem PySem.Spec PyProof.Rows L2
section
variable {X : Cx} {fa : Ad} {cl : Nat → List A → Store → Rz A} {k : Nat} {a b o : Expr} {ca cb co : C} {pos : Pos}
theorem key_eqI {neg : Bool} {f : Addr} {fd : FuncData} {ps : List Str} {ci fi : Nat} (hm : Meth X.K (fa.c ci) "__eq__" f) (hne : neg = true → PySem.W.findIn X.K (.ref (fa.c ci)) "__ne__" = some (some (.builtin "object.__ne__")) ∧ PySem.W.subIn X.K (.ref (fa.c ci)) (.type "object") = some true)
    (F : FnOk X.prog X.w X.K X.mg X.base (L2.CX X.prog X.w) k f fd ps (spX (gx X fa) 2 (cl fi))) (hr : Room (k + 1) X.A) (hb : Binds X.K fd ps []) (hx : Passes (L2.CX X.prog X.w) X E0) :
    OpR X (compareOp (if neg then .NotEq else .Eq)) (rEqI (fa.c ci) neg (spX (gx X fa) 2 (cl fi)) E0) := by
  cases neg with
  | false => exact op_eqI F hm.at_ hm.fn hb (hr.mono (Nat.le_succ _)) hx
  | true => exact op_neI F hm.at_ hm.fn (hne rfl).1 (hne rfl).2 hb hr hx
theorem run_eqI {neg : Bool} {ci fi : Nat} {B : Bk} {S S' : Store} {H : Hp} {ρ : Env} {σ : L2.St} {z : A} {t : Bool} {Q : VK} (eo : EnvOk (gx X fa) ⟨B, S, H⟩ ρ σ) (so : StoreOk (gx X fa) ⟨B, S, H⟩) (hm : ev cl t (.eqI neg ci fi ca cb) ρ S = .ok z S')
    (k : ∀ r : Bool, z = .p (.bl r) → ∀ B' H', StoreOk (gx X fa) ⟨B', S', H'⟩ → Stab (gx X fa) ⟨B, S, H⟩ ⟨B', S', H'⟩ → Q (.bl r) H') :
    tOp (rEqI (fa.c ci) neg (spX (gx X fa) 2 (cl fi)) E0) (tE (gx X fa) (ev cl false ca)) (tE (gx X fa) (ev cl false cb)) σ H Q := by
  rw [ev] at hm
  obtain ⟨x, S1, hx, hm1⟩ := Rz.bind_ok hm
  obtain ⟨y, S2, hy, hm2⟩ := Rz.bind_ok hm1
  split at hm2
  · rename_i c ns1 ds1 c' ns2 ds2 hi1 hi2
    split at hm2
    · rename_i hc
      obtain ⟨rfl, rfl⟩ := hc
      refine tE.use eo so hx fun v1 B1 H1 so1 st1 eo1 d1 => tE.use eo1 so1 hy fun v2 B2 H2 so2 st2 eo2 d2 => ?_
      obtain ⟨a1, dx, vs, rfl, h1, _, _⟩ := insF_at so2 (st2.datA d1) hi1
      obtain ⟨a2, dy, ws, rfl, h2, _, _⟩ := insF_at so2 d2 hi2
      refine ⟨a1, a2, dx, dy, _, _, rfl, rfl, h1, h2, B2, S2, [x, y], so2, ⟨_, _, rfl, st2.datA d1, _, _, rfl, d2, rfl⟩, rfl, ?_⟩
      cases hq : cl fi [x, y] S2 with
      | ok w S3 =>
        rw [hq] at hm2
        cases w with
        | m j => cases hm2
        | p d =>
          cases d with
          | bl r =>
            cases hm2
            exact fun v B' H' so' st' dv => ⟨r, dv, k _ rfl B' H' so' ((st1.trans st2).trans st')⟩
          | _ => cases hm2
      | ex e S3 => rw [hq] at hm2; cases hm2
      | bad => rw [hq] at hm2; cases hm2
    · cases hm2
  · cases hm2
section
variable {neg : Bool} {f : Addr} {fd : FuncData} {ps : List Str} {ci fi : Nat} (ha : SE fa cl X a ca) (hb : SE fa cl X b cb) (hm : Meth X.K (fa.c ci) "__eq__" f) (hne : neg = true → PySem.W.findIn X.K (.ref (fa.c ci)) "__ne__" = some (some (.builtin "object.__ne__")) ∧ PySem.W.subIn X.K (.ref (fa.c ci)) (.type "object") = some true)
    (F : FnOk X.prog X.w X.K X.mg X.base (L2.CX X.prog X.w) k f fd ps (spX (gx X fa) 2 (cl fi))) (hr : Room (k + 1) X.A) (hbn : Binds X.K fd ps []) (hx : Passes (L2.CX X.prog X.w) X E0) (hs : ∀ es k p, b ≠ .Set es k p)
include ha hb hm hne F hr hbn hx hs
theorem se_eqI : SE fa cl X (.Compare a [if neg then .NotEq else .Eq] [b] pos) (.eqI neg ci fi ca cb) := by
  refine (pe_cmpR (key_eqI hm hne F hr hbn hx) ha hb (notSet_marks hs)).imp fun σ H Q q => ?_
  obtain ⟨B, S, ρ, z, S', eo, so, hm, k⟩ := q
  exact run_eqI eo so hm fun r e B' H' so' st' => by
    subst e
    exact k _ B' H' so' st' rfl
theorem st_eqI : ST fa cl X (.Compare a [if neg then .NotEq else .Eq] [b] pos) (.eqI neg ci fi ca cb) := by
  refine (pt_cmpR (key_eqI hm hne F hr hbn hx) ha hb (notSet_marks hs)).imp fun σ H Q q => ?_
  obtain ⟨B, S, ρ, z, S', eo, so, hm, k⟩ := q
  exact run_eqI eo so hm fun r e B' H' so' st' => by
    cases e
    exact ⟨_, rfl, k B' H' so' st'⟩
end
theorem ints_datL {g : G} {z : Z} : ∀ {ds : List D} {is : List Int} {vs : List V}, D.ints ds = some is → DatL g z ds vs → vs = is.map V.int := fun h d => d.ints h
theorem dEqB_dcB {ks ks' : List D} {is js : List Int} {nks nks' : List NestedKey} (e : ks.map nkD = nks.map some) (e' : ks'.map nkD = nks'.map some) : dEqB ks is ks' js = dcB nks is (valI nks' js) := by
  have fd : ∀ (k : NestedKey) (ks' : List D) (nks' : List NestedKey) (js : List Int), ks'.map nkD = nks'.map some → ((ks'.zip js).find? fun q => decide (nkD q.1 = some k)).map (·.2) = valI nks' js k := by
    intro k ks'
    induction ks' with
    | nil =>
      intro nks' js e
      cases nks' with
      | nil => rfl
      | cons a b => cases e
    | cons d ks' ih =>
      intro nks' js e
      cases nks' with
      | nil => cases e
      | cons n nks' =>
        rw [List.map_cons, List.map_cons] at e
        injection e with e1 e2
        cases js with
        | nil => rfl
        | cons j js =>
          have := ih nks' js e2
          unfold valI at this ⊢
          rw [List.zip_cons_cons, List.zip_cons_cons, List.find?_cons, List.find?_cons, e1]
          by_cases z : n = k
          · rw [decide_eq_true (by rw [z]), decide_eq_true z]
            rfl
          · rw [decide_eq_false (fun y => z (Option.some.inj y)), decide_eq_false z]
            exact this
  unfold dEqB dcB
  clear fd
  induction ks generalizing nks is with
  | nil =>
    cases nks with
    | nil => rfl
    | cons a b => cases e
  | cons d ks ih =>
    cases nks with
    | nil => cases e
    | cons n nks =>
      rw [List.map_cons, List.map_cons] at e
      injection e with e1 e2
      cases is with
      | nil => rfl
      | cons i is =>
        rw [List.zip_cons_cons, List.zip_cons_cons, List.all_cons, List.all_cons, ih e2]
        congr 1
        dsimp only
        rw [e1]
        dsimp only
        have fd : ∀ (k : NestedKey) (ks' : List D) (nks' : List NestedKey) (js : List Int), ks'.map nkD = nks'.map some → ((ks'.zip js).find? fun q => decide (nkD q.1 = some k)).map (·.2) = valI nks' js k := by
          intro k ks'
          induction ks' with
          | nil =>
            intro nks' js e
            cases nks' with
            | nil => rfl
            | cons a b => cases e
          | cons d ks' ih =>
            intro nks' js e
            cases nks' with
            | nil => cases e
            | cons n nks' =>
              rw [List.map_cons, List.map_cons] at e
              injection e with e1 e2
              cases js with
              | nil => rfl
              | cons j js =>
                have := ih nks' js e2
                unfold valI at this ⊢
                rw [List.zip_cons_cons, List.zip_cons_cons, List.find?_cons, List.find?_cons, e1]
                by_cases z : n = k
                · rw [decide_eq_true (by rw [z]), decide_eq_true z]
                  rfl
                · rw [decide_eq_false (fun y => z (Option.some.inj y)), decide_eq_false z]
                  exact this
        rw [fd n ks' nks' js e']
/-- what isinstance asks of an own class -/
structure InsI (K : PySem.W.Frag) (C : Addr) : Prop where
  ha : PySem.W.findIn K (.ref C) "__class__" = some (some (.builtin "object.__class__"))
  hn : PySem.W.specialIn K (.builtin "object.__class__") "__get__" = some (some (.builtin "getset_descriptor.__get__"))
  htk : PySem.W.takesIn K (.builtin "object.__class__") = some true
  hm : PySem.W.mroIn K C (.type "object") = some true
  me : PySem.W.kitOne K (.ref C) (.ref C) = some true
theorem call_isI {C : Addr} (cl : Cls X.K C) (c : InsI X.K C) : CallR X (.builtin "isinstance") (fun xs H Q => ∃ a dx fs, xs = [.ref a, .ref C] ∧ H a = some (.ins C dx fs) ∧ Q (.bl true) H) := by
  intro pins s σ H xs us Q I r h
  obtain ⟨a, dx, fs, rfl, ha, q⟩ := h
  obtain ⟨u, w', rfl, ru, rw'⟩ := vals2 r
  cases rw'
  exact isinst_ok I ru (TyOf.ins ha cl c.ha c.hn c.htk c.hm) c.me fun tk => ⟨.bl true, H, I.tok _, rfl, q⟩
theorem se_isI {ci : Nat} {y : Str} {p p2 : Pos} (hg : Gl X "isinstance") (hmg : X.mg "isinstance" = none) (hy : Gl X y) (hyd : (y == ("__debug__" : Str)) = false) (hym : X.mg y = some (.ref (fa.c ci))) (hc : Cls X.K (fa.c ci)) (hi : InsI X.K (fa.c ci)) (ho : SE fa cl X o co)
    (hs : starEach [o, .Name y p2] X.env = (false, eval o X.env) :: starEach [.Name y p2] X.env) : SE fa cl X (.Call (.Name "isinstance" p) [o, .Name y p2] [] pos) (.isI ci co) :=
  (pe_callB (call_isI hc hi) hg hmg (by decide +kernel) (pa_cons ho (pa_cons (pe_glob hy hym (v := .ref (fa.c ci)) rfl hyd) pa_nil) hs) (by decide +kernel) (by decide +kernel) hs rfl).imp fun σ H Q q => by
    obtain ⟨B, S, ρ, z, S', eo, so, hm, k⟩ := q
    rw [ev] at hm
    obtain ⟨x, S1, hx, hm1⟩ := Rz.bind_ok hm
    split at hm1
    · rename_i c ns ds hi1
      split at hm1
      · rename_i hc
        subst hc
        cases hm1
        refine tE.use eo so hx fun v1 B1 H1 so1 st1 eo1 d1 => ?_
        obtain ⟨a1, dx, vs, rfl, h1, _, _⟩ := insF_at so1 d1 hi1
        exact ⟨a1, dx, _, rfl, h1, k _ B1 H1 so1 st1 rfl⟩
      · cases hm1
    · cases hm1
theorem se_eqD (hu : X.A.units + 9 < cLine) (ha : SE fa cl X a ca) (hb : SE fa cl X b cb) (hs : ∀ es k p, b ≠ .Set es k p) : SE fa cl X (.Compare a [.Eq] [b] pos) (.eqD ca cb) := by
  refine (pe_cmpR (op_eq_dc hu) ha hb (notSet_marks hs)).imp fun σ H Q q => ?_
  obtain ⟨B, S, ρ, z, S', eo, so, hm, k⟩ := q
  rw [ev] at hm
  obtain ⟨x, S1, hx, hm1⟩ := Rz.bind_ok hm
  obtain ⟨y, S2, hy, hm2⟩ := Rz.bind_ok hm1
  split at hm2
  · rename_i r hr
    cases hm2
    refine tE.use eo so hx fun v1 B1 H1 so1 st1 eo1 d1 => tE.use eo1 so1 hy fun v2 B2 H2 so2 st2 eo2 d2 => ?_
    unfold dEqF at hr
    split at hr
    · rename_i ks vs ks' vs' h1 h2
      split at hr
      · rename_i is js hi hj
        cases hr
        obtain ⟨a1, hs1, ws1, nks1, rfl, g1, en1, kl1, dl1⟩ := dict_rel so2 (st2.datA d1) h1
        obtain ⟨a2, hs2, ws2, nks2, rfl, g2, en2, kl2, dl2⟩ := dict_rel so2 d2 h2
        have e1 := dl1.ints hi
        have e2 := dl2.ints hj
        subst e1
        subst e2
        refine ⟨a1, a2, nks1, hs1, is, nks2, hs2, js, rfl, rfl, g1, g2, k _ B2 H2 so2 (st1.trans st2) ?_⟩
        have l1 := congrArg List.length en1
        have l2 := congrArg List.length en2
        rw [List.length_map, List.length_map] at l1 l2
        rw [dEqB_dcB en1 en2, l1, l2]
        rfl
      · cases hr
    · cases hr
  · cases hm2
theorem se_prop {f p : Addr} {fd : FuncData} {ps : List Str} {ci fi : Nat} {m : Str} (ho : SE fa cl X o co) (hc : Cls X.K (fa.c ci)) (hp : PropOf X.K (fa.c ci) m p f) (F : FnOk X.prog X.w X.K X.mg X.base (L2.CX X.prog X.w) k f fd ps (spX (gx X fa) 1 (cl fi))) (hr : Room (k + 1) X.A)
    (hb : Binds X.K fd ps []) (hx : Passes (L2.CX X.prog X.w) X.nox E0) (hab : attributeBase o m X.env (eval o X.env) = eval o X.env) : SE fa cl X (.Attribute o m pos) (.meth ci fi m co [] []) :=
  (pe_prop ho hc hp F hr hb .nil hx hab).imp fun σ H Q q => by
    obtain ⟨B, S, ρ, z, S', eo, so, hm, k⟩ := q
    rw [ev] at hm
    obtain ⟨w, S3, hm1, hm2⟩ := Rz.bind_ok hm
    rw [tst_f] at hm2
    cases hm2
    cases hx : ev cl false co ρ S with
    | ok x S1 =>
      rw [hx] at hm1
      refine tE.use eo so hx fun v B1 H1 so1 st1 eo1 d1 => ?_
      have hm3 : (match insG x S1 with
        | some (c, ns, _) => if (decide (c = ci) && !(ns.any fun n => n == m)) = true then (evs cl [] ρ S1).np.bind fun xs S2 => cl fi (x :: (xs ++ ([] : List D).map .p)) S2 else .bad
        | none => .bad : Rz A) = .ok z S' := hm1
      have e0 : evs cl [] ρ S1 = .ok [] S1 := by rw [evs]
      rw [e0] at hm3
      clear hm1
      split at hm3
      · rename_i c' ns ds' hi
        split at hm3
        · rename_i hc'
          rw [Bool.and_eq_true, decide_eq_true_eq] at hc'
          obtain ⟨rfl, _⟩ := hc'
          obtain ⟨a1, dx, vs, rfl, h1, _, _⟩ := insG_at so1 d1 hi
          have hm4 : cl fi [x] S1 = .ok z S' := hm3
          refine ⟨a1, dx, _, rfl, h1, B1, S1, [x], so1, ⟨_, _, rfl, d1, rfl⟩, rfl, ?_⟩
          rw [hm4]
          exact fun v B' H' so' st' dv => k v B' H' so' (st1.trans st') dv
        · cases hm3
      · cases hm3
    | ex e S1 => rw [hx] at hm1; cases hm1
    | bad => rw [hx] at hm1; cases hm1
end
end Fw

/-! Own exceptions as values: made, asked for an attribute, asked for their class. -/
namespace Fw
open PySem PySem.Spec PyProof.Rows L2
section
variable {X : Cx} {o e : Expr} {es : List Expr} {to te : TE} {ta : TA} {f : Str} {p p' p1 p2 pos : Pos}
/-- C(..) as a value: a new exception, its dict -/
def tMkV (C : Addr) (sp : Sp) (dvs : List V) (ta : TA) : TE := fun σ H Q => ta σ H fun vs H1 => vs.length ≤ 1000 ∧ ∀ a, H1 a = none → sp (.ref a :: (vs ++ dvs)) (upd H1 a (exo a C none)) (fun v H2 => v = .non ∧ ∃ d fs, H2 a = some (exo a C (some d)) ∧ H2 d = some (exd d fs) ∧ H1 d = none ∧ Q (.ref a) H2) (fun _ _ _ => False)
/-- the class is called: what stands behind its arguments -/
theorem mkV_call {CX : CXT} {C fI : Addr} {k : Nat} {fd : FuncData} {ps : List Str} {sp : Sp} {ds : List Value} {dvs : List V} {pins : List (Addr × Obj)} {σ : L2.St} {H1 : Hp} {s1 : Shared} {vs : List V} {us : List Value} {Q : VK}
    (T : OexG X.K C) (iC : PySem.W.findIn X.K (.ref C) "__init__" = some (some (.ref fI))) (tI : PySem.W.typeIn X.K (.ref fI) = some (.type "function"))
    (F1 : FnOk X.prog X.w X.K X.mg X.base CX k fI fd ps sp) (hr : Room (k + 1) X.A) (hb : Binds X.K fd ps ds) (hd : Vals dvs ds) (hx : Passes CX X E0) (I1 : Inv X pins σ H1 s1) (r1 : Vals vs us) (hz : vs.length ≤ 1000)
    (q1 : ∀ a, H1 a = none → sp (.ref a :: (vs ++ dvs)) (upd H1 a (exo a C none)) (fun v H2 => v = .non ∧ ∃ d fs, H2 a = some (exo a C (some d)) ∧ H2 d = some (exd d fs) ∧ H1 d = none ∧ Q (.ref a) H2) (fun _ _ _ => False)) :
    wpAny (model X.prog X.w) X.A (call (.ref C) us) (fun u s' => ∃ v H', Inv X pins σ H' s' ∧ RelV v u ∧ Q v H') X.xe s1 := by
  obtain ⟨B, newId, initId, bmB, nm, q, N, bs, bm, sn, sub, ab, col, dd, k0, k1, k2, k3, k5, XB, hC, ht⟩ := T.cls
  obtain ⟨hp, g, dr, tk, os⟩ := s1
  have hsz : hp.objs.size ≤ hp.objs.size + 1 := Nat.le_succ _
  have hn : H1 (hp.objs.size + 1) = none := I1.hok.fresh hsz
  have hq := q1 (hp.objs.size + 1) hn
  have kk : ∀ b o, hp.get? b = some o → ((hp.push (PySem.W.kdv_tup us)).push (PySem.HandSPX.excO C hp.objs.size)).get? b = some o := fun b o e => Heap.get?_push_of_some _ (Heap.get?_push_of_some _ e)
  have hget : ((hp.push (PySem.W.kdv_tup us)).push (PySem.HandSPX.excO C hp.objs.size)).get? (hp.objs.size + 1) = some (PySem.HandSPX.excO C hp.objs.size) := by heap_get
  have I2 : Inv X pins σ (upd H1 (hp.objs.size + 1) (exo (hp.objs.size + 1) C none)) ⟨(hp.push (PySem.W.kdv_tup us)).push (PySem.HandSPX.excO C hp.objs.size), g, dr, tk, os⟩ :=
    I1.laid (t' := tk) (a := hp.objs.size + 1) (o := exo (hp.objs.size + 1) C none) (h' := (hp.push (PySem.W.kdv_tup us)).push (PySem.HandSPX.excO C hp.objs.size)) kk hsz (exo_ok hget)
  have r2 : Vals (V.ref (hp.objs.size + 1) :: (vs ++ dvs)) (Value.ref (hp.objs.size + 1) :: (us ++ ds)) := .cons rfl (r1.append hd)
  have hl : (Value.ref (hp.objs.size + 1) :: us ++ ds).length = ps.length := by
    have e := r2.length
    rw [F1.len _ _ _ _ hq] at e
    exact e.symm
  have hus : us.length ≤ sizeLine := by
    rw [← Paired.length r1, sizeLine_eq]
    omega
  refine wpAny_call (PySem.HandSPX.call_own XB.ex (fun Y => PySem.W.excTail_contains Y bm ht) (I1.kIn _ _ hC) (PySem.W.looks_findIn I1.kIn iC) (fun self => PySem.W.bind_fn I1.kIn self tI) hus
    (codeAny_mono (F1.run _ X.stack _ _ ⟨Value.ref (hp.objs.size + 1) :: us, []⟩ (Value.ref (hp.objs.size + 1) :: (us ++ ds)) _ _ (fun _ _ _ => False) (hr.make C us []) (I2.env0.make C us []) (hb _ (Value.ref (hp.objs.size + 1) :: us) I2.kIn hl) r2 hq) fun r s' hq' => ?_))
  cases r with
  | error er => exact hx pins σ _ _ er s' I2 hq'
  | ok fl =>
    cases fl with
    | ret u =>
      obtain ⟨v, H2, os2, bare2, un2, hok2, rv, ev, d, fs, ea, ed, hd1, q2⟩ := hq'
      subst ev
      obtain ⟨h2, g2, d2, t2, os'⟩ := s'
      refine ⟨rv, .ref (hp.objs.size + 1), H2, ?_, rfl, q2⟩
      have ne : ∀ {b : Addr} {o : Obj}, hp.get? b = some o → b ≠ hp.objs.size + 1 := fun {b o} z => Nat.ne_of_lt (Nat.lt_of_lt_of_le (Heap.lt_size z) hsz)
      have U : Un (frs X.stack) [] H1 H2 hp h2 := {
        keep := fun b o z n hf hx => un2.keep b o (kk b o z) (by rw [upd_ne (ne z)]; exact n) hf hx
        slot := fun b o z n hf hx => un2.slot b o (kk b o z) (by rw [upd_ne (ne z)]; exact n) hf hx
        free := fun b o z n hx => un2.free b o (kk b o z) (by rw [upd_ne (ne z)]; exact n) hx
        there := fun b o z hx => un2.there b o (kk b o z) hx
        tups := fun b xs z => un2.tups b xs (by rw [upd_ne (ne_of_none z hn)]; exact z)
        frzs := fun b o v z => un2.frzs b o v (by rw [upd_ne (ne_of_none z hn)]; exact z)
        tbls := fun b ps z => un2.tbls b ps (by rw [upd_ne (ne_of_none z hn)]; exact z) }
      exact I1.call' (ch := []) os2 U hok2 bare2 (fun b z => absurd z (by simp))
    | next => exact False.elim hq'
    | brk => exact False.elim hq'
    | cont => exact False.elim hq'
theorem pe_GV {CX : CXT} {x : Str} {C fI : Addr} {k : Nat} {fd : FuncData} {ps : List Str} {sp : Sp} {ds : List Value} {dvs : List V} (T : OexG X.K C) (iC : PySem.W.findIn X.K (.ref C) "__init__" = some (some (.ref fI))) (tI : PySem.W.typeIn X.K (.ref fI) = some (.type "function"))
    (F1 : FnOk X.prog X.w X.K X.mg X.base CX k fI fd ps sp) (hr : Room (k + 1) X.A) (hb : Binds X.K fd ps ds) (hd : Vals dvs ds) (hx : Passes CX X E0) (hg : Gl X x) (hm : X.mg x = some (.ref C)) (ha : PA X (e :: es) ta)
    (hdb : (x == ("__debug__" : Str)) = false := by decide) (he : starEach (e :: es) X.env = (false, eval e X.env) :: starEach es X.env := by rfl) (hpl : (backTo pos (starEach es X.env)).any (·.1) = false := by rfl) :
    PE X (.Call (.Name x p) (e :: es) [] pos) (tMkV C sp dvs ta) := by
  refine ⟨fun pins s σ H Q I h => ?_⟩
  refine wpAny_Call_Name_kw (ld_glob I hg hm ?_ hdb)
  refine PySem.W.callWith_K (h₀ := X.base) I.ok.mod.kin T.kC (thn (ha.run pos pins s σ H _ I h) fun us s1 ⟨vs, H1, I1, r1, hz, q1⟩ => ⟨I1.kIn, ?_⟩) he hpl
  exact mkV_call T iC tI F1 hr hb hd hx I1 r1 hz q1
theorem pe_GV0 {CX : CXT} {x : Str} {C fI : Addr} {k : Nat} {fd : FuncData} {ps : List Str} {sp : Sp} (T : OexG X.K C) (iC : PySem.W.findIn X.K (.ref C) "__init__" = some (some (.ref fI))) (tI : PySem.W.typeIn X.K (.ref fI) = some (.type "function"))
    (F1 : FnOk X.prog X.w X.K X.mg X.base CX k fI fd ps sp) (hr : Room (k + 1) X.A) (hb : Binds X.K fd ps []) (hx : Passes CX X E0) (hg : Gl X x) (hm : X.mg x = some (.ref C)) (hdb : (x == ("__debug__" : Str)) = false := by decide) :
    PE X (.Call (.Name x p) [] [] pos) (tMkV C sp [] (fun σ H Q => Q [] H)) := by
  refine ⟨fun pins s σ H Q I h => ?_⟩
  refine wpAny_Call_Name_kw (ld_glob I hg hm ?_ hdb)
  obtain ⟨hz, q1⟩ := h
  refine PySem.W.callWith_K0 (I.tok _).kIn T.kC ?_
  exact mkV_call T iC tI F1 hr hb .nil hx (I.tok _) .nil hz q1
/-- e.f of an exception -/
def tXv (K : PySem.W.Frag) (f : Str) (te : TE) : TE := fun σ H Q => te σ H fun x H1 => ∃ (a C dx : Addr) (fs : List (Str × V)) (v : V), x = .ref a ∧ H1 a = some (exo a C (some dx)) ∧ H1 dx = some (exd dx fs) ∧ XfC K C ∧ PySem.W.findIn K (.ref C) f = some none ∧ fs.lookup f = some v ∧ Q v H1
theorem exo_inst {pins : List (Addr × Obj)} {σ : L2.St} {H : Hp} {s : Shared} {a C dx : Addr} {fs : List (Str × V)} (I : Inv X pins σ H s) (ea : H a = some (exo a C (some dx))) (ed : H dx = some (exd dx fs)) : ∃ ox od, PySem.W.InstAt s.heap a ox C (some od) ∧ s.heap.get? dx = some od := by
  obtain ⟨t0, hoe⟩ := exo_at I.hok ea
  obtain ⟨mA, hns, rel⟩ := exd_at I.hok ed
  obtain ⟨od, ho, hl⟩ := lookIn_ns hns
  exact ⟨_, od, ⟨hoe, rfl, rfl, ho⟩, ho⟩
theorem pe_xv {n : Str} (he : PE X e te) (hb : attributeBase e n X.env (eval e X.env) = eval e X.env) : PE X (.Attribute e n pos) (tXv X.K n te) := by
  refine ⟨fun pins s σ H Q I h => ?_⟩
  refine attr_of hb (thn (he.run pins s σ H _ I h) fun u s1 hh => ?_)
  obtain ⟨x, H1, I1, rx, a, C, dx, fs, v, ex, ea, ed, T, hno, l, q⟩ := hh
  subst ex
  obtain rfl : u = Value.ref a := rx
  obtain ⟨t0, hoe⟩ := exo_at I1.hok ea
  obtain ⟨mA, hns, rel⟩ := exd_at I1.hok ed
  obtain ⟨od, ho, hl⟩ := lookIn_ns hns
  obtain ⟨u, hu, ru⟩ := RelO.some_of (v := v) (o := mA n) (by rw [← l]; exact rel n)
  have J : PySem.W.InstAt s1.heap a _ C (some od) := ⟨hoe, rfl, rfl, ho⟩
  exact HandSPX.exc_get I1.kIn J T.ga T.gg T.exC (PySem.W.findObj_own T.hdC hno rfl (by rw [hl, hu])) (handed_of ru) ⟨v, H1, I1.tok _, ru, q⟩
end
end Fw

/-! isinstance of an own exception that has its dict. -/
namespace Fw
open PySem PySem.Spec PySem.Calls PyProof.Rows PySem.W
section
variable {prog : Program} {w : World} {A : Around} {E : Value → Shared → Prop} {s : Shared} {K : Frag} {x D : Addr} {ox : Obj} {od : Option Obj}
theorem findObj_dataV {C : Addr} {name : Str} {a g : Value} (hc : (clsIn K C).isSome = true) (ha : findIn K (.ref C) name = some (some a)) (hg : specialIn K a "__get__" = some (some g)) (ht : takesIn K a = some true) : findObj K C od name = some (.bind g a) := by
  obtain ⟨cd, hc⟩ := Option.isSome_iff_exists.mp hc
  unfold findObj
  rw [hc, Option.bind_some, ha, Option.bind_some]
  simp [hg, ht]
theorem kin_classV {Q : Option Value → Shared → Prop} (hga : findIn K (.ref D) "__getattribute__" = some (some (.builtin "BaseException.__getattribute__"))) (hgt : findIn K (.ref D) "__getattr__" = some none) (hsub : subIn K (.ref D) (.type "BaseException") = some true)
    (hdct : hasDictIn K D = true) (ha : findIn K (.ref D) "__class__" = some (some (.builtin "object.__class__")))
    (hn : specialIn K (.builtin "object.__class__") "__get__" = some (some (.builtin "getset_descriptor.__get__"))) (htk : takesIn K (.builtin "object.__class__") = some true) (hm : mroIn K D (.type "object") = some true)
    (X : K.In s.heap) (I : InstAt s.heap x ox D od) (h : Q (some (.ref D)) { s with toks := s.toks + 1 }) : wpAny (model prog w) A (getAttr? (.ref x) "__class__") Q E s := by
  have hf : findObj K D od "__class__" = some (.bind (.builtin "getset_descriptor.__get__") (.builtin "object.__class__")) := findObj_dataV (by obtain ⟨cd, hc, _⟩ := any_some hdct; rw [hc]; rfl) ha hn htk
  obtain ⟨hp, g, d, t, os⟩ := s
  have L0 := I.type (M := model prog w)
  have L1 := looks_findIn (M := model prog w) X hga
  have L2 := looks_findIn (M := model prog w) X hgt
  have L3 := looks_find (M := model prog w) X I hf
  have sub : Looks (model prog w) hp (isInstance (.ref x) (.type "BaseException")) true := L0.andThen (looks_subIn X hsub)
  have hx0 : (false && onTheHeap (Value.builtin "BaseException.__getattribute__")) = false := rfl
  have hx2 : (Value.builtin "BaseException.__getattribute__" == Value.builtin "object.__getattribute__") = false := by decide +kernel
  have hx1 : (onTheHeap (Value.ref D) && Value.builtin "BaseException.__getattribute__" == Value.builtin "object.__getattribute__") = false := by rw [hx2]; rfl
  unfold getAttr? getAttrBy? getAttrBy
  refine wpAny_bind (wpAny_mkText (wpAny_bind (wpAny_attempt (wpAny_holding (wpAny_bind (L0.at (wpAny_bind (L1.at ?_))))))))
  show wpAny _ _ (if (onTheHeap (Value.ref D) && Value.builtin "BaseException.__getattribute__" == Value.builtin "object.__getattribute__") = true then _ else _) _ _ _
  rw [hx1, if_neg Bool.false_ne_true]
  unfold getAttrByItsOwn hookBefore
  refine wpAny_bind ?_
  rw [if_pos (show onTheHeap (Value.ref D) = true from rfl)]
  refine L2.at ?_
  refine wpAny_bind (wpAny_attempt (wpAny_holding ?_))
  unfold callGetattribute
  rw [hx0, if_neg Bool.false_ne_true]
  unfold boundAndCalled
  rw [PySem.F.excAttr_ValueError.ga.bind (.ref x)]
  refine wpAny_bind (wpAny_pure ?_)
  show wpAny _ _ (call (.builtin "BaseException.__getattribute__") [.ref x, .str "__class__" t]) _ _ _
  refine wpAny_call (codeAny_call_builtin PySem.F.excAttr_ValueError.ga.plain PySem.F.entry_bexc_ga ?_)
  refine @check_slot (model prog w) _ _ ⟨hp, g, d, t + 1, os⟩ "BaseException.__getattribute__" "BaseException" "__getattribute__" (.ref x) [.str "__class__" t] [] _ (by decide +kernel) (by decide +kernel) sub (PySem.F.args_bexc_ga (.ref x) (.str "__class__" t)) ?_
  unfold Builtin.«object.__getattribute__»
  refine wpAny_bind (wpAny_of_eq (a := ((Value.ref x : Value), [Value.str "__class__" t])) (by first | rfl | (simp only [slotArgs]; rfl)) ?_)
  refine wpAny_bind (wpAny_pure (wpAny_bind (L0.at (wpAny_bind (L3.at ?_)))))
  show wpAny _ _ (holding [Value.builtin "object.__class__"] (call (.builtin "getset_descriptor.__get__") [.builtin "object.__class__", .ref x, .ref D]) >>= ret) _ _ _
  refine wpAny_bind (wpAny_holding (wpAny_call (class_get (s := ⟨hp, g, d, t + 1, os⟩) (ox := ox) (od := od) X I hm ?_)))
  refine wpAny_pure ?_
  show wpAny _ _ (handedOut (.ref D)) _ _ _
  rw [handedOut_of (v := .ref D) rfl]
  first
    | exact wpAny_pure (wpAny_pure h)
    | exact wpAny_pure h
    | exact wpAny_pure (wpAny_bind (wpAny_pure (wpAny_pure h)))

theorem kitx_excV (hga : findIn K (.ref D) "__getattribute__" = some (some (.builtin "BaseException.__getattribute__"))) (hgt : findIn K (.ref D) "__getattr__" = some none) (hsub : subIn K (.ref D) (.type "BaseException") = some true) (hdct : hasDictIn K D = true) (ha : findIn K (.ref D) "__class__" = some (some (.builtin "object.__class__")))
    (hn : specialIn K (.builtin "object.__class__") "__get__" = some (some (.builtin "getset_descriptor.__get__"))) (htk : takesIn K (.builtin "object.__class__") = some true) (hm : mroIn K D (.type "object") = some true) :
    KitX K (.ref x) (.ref D) (fun h => ∃ ox od, InstAt h x ox D od) where
  ty := fun _ _ _ ⟨_, _, I⟩ => I.type
  it := fun _ _ X _ => by
    obtain ⟨cdD, hcD, _⟩ := any_some hdct
    unfold clsIn at hcD
    split at hcD
    · rename_i c' d' cd' sl' ho
      intro A' Q' E' s' k q
      unfold isType loadHead
      exact wpAny_bind (wpAny_loadPart (k _ _ (X _ _ ho)) (wpAny_pure q))
    · cases hcD
  ne := fun h tp dd its n sl X htp => by
    obtain ⟨cdD, hcD, _⟩ := any_some hdct
    refine Bool.eq_false_iff.mpr fun q => ?_
    have e : D = tp := Value.ref.inj (beq_iff_eq.mp q)
    subst e
    unfold clsIn at hcD
    split at hcD
    · rename_i c' d' cd' sl' ho
      have z := (X _ _ ho).symm.trans htp
      cases z
    · cases hcD
  ca := fun X ⟨_, _, I⟩ k => kin_classV hga hgt hsub hdct ha hn htk hm X I k
end
open L2
/-- isinstance(e, c), e an exception with its dict -/
def rIsV (K : PySem.W.Frag) : List V → Hp → VK → Prop := fun xs H Q => ∃ (a C dx : Addr) (fs : List (Str × V)) (c : V) (cv : Value) (b : Bool), xs = [.ref a, c] ∧ H a = some (exo a C (some dx)) ∧ H dx = some (exd dx fs) ∧ ExcC K C ∧ (∀ u, RelV c u → u = cv) ∧ PySem.W.kitOne K (.ref C) cv = some b ∧ Q (.bl b) H
theorem call_isV {X : Cx} : CallR X (.builtin "isinstance") (rIsV X.K) := by
  intro pins s σ H xs us Q I r h
  obtain ⟨a, C, dx, fs, c, cv, b, rfl, ea, ed, T, hcv, e, q⟩ := h
  cases r with
  | cons rx rr =>
    cases rr with
    | cons rt rr =>
      cases rr
      cases rx
      have ec := hcv _ rt
      subst ec
      obtain ⟨ox, od, J, _⟩ := exo_inst I ea ed
      exact PySem.W.kia_one (kitx_excV T.hg T.hk T.hs T.hd T.ha T.hn T.ht T.hm) I.kIn ⟨ox, some od, J⟩ e (fun z => nomatch z) fun tk => ⟨.bl b, H, I.kept (t' := tk) fun _ _ z => z, rfl, q⟩
end Fw

/-! Own exceptions as values: what the evaluator says of them is so. -/
namespace Fw
open PySem PySem.Spec PyProof.Rows L2
/-- what the __init__ of an own exception without a parameter promises -/
def spExc0 (C : Addr) (code : Str) : Sp := fun vs H Q _ => ∃ (a : Addr), vs = [.ref a] ∧ H a = some (exo a C none) ∧ ∀ dx, H dx = none → dx ≠ a → Q .non (upd (upd H dx (exd dx [("code", .str code)])) a (exo a C (some dx)))
def ExcBody0 (me code : Str) (body : List Stmt) : Prop := ∃ p1 p2 j p3 p4, body = [.Assign [.Attribute (.Name me p1) "code" p2] (.Constant (.str code) j p3) p4]
theorem exc_fn0 {P : Program} {w : World} {K : PySem.W.Frag} {mg : Str → Option Value} {base : Heap} {x qual me code : Str} {params : Arguments} {body : List Stmt} {scope : Scope} {dvs : List V} {kws : List (Str × V)} {f C : Addr} {fd : FuncData} {k : Nat}
    (F : FunD K x qual params body scope dvs kws f fd) (Sc : FnScope [me] [me] scope) (hB : ExcBody0 me code body) (T : OexG K C) (n1 : PySem.W.findIn K (.ref C) "code" = some none)
    (d1 : (me == ("__debug__" : Str)) = false) (d2 : (me == ("__classdict__" : Str)) = false) :
    FnOk P w K mg base (L2.CX P w) (k + 1) f fd [me] (spExc0 C code) := by
  obtain ⟨p1, p2, j, p3, p4, rfl⟩ := hB
  refine F.ok Sc (fun vs H Q E ⟨a, e, _⟩ => by rw [e] <;> rfl) fun cdv A outer s H vs Q E hr h => ?_
  obtain ⟨a, rfl, ha, hq⟩ := h
  have v1 : Vis (cxOf (L2.CX P w) P w K mg base [me] qual scope f cdv A outer s H E).env.scope me := (Sc.par me (List.mem_cons_self ..)).elim .inl fun z => .inr (.inl z)
  refine ⟨_, pss_cons (ps_gst (pe_var (i := 0) rfl v1 d1 d2) pe_str) pss_nil, ?_⟩
  exact ⟨.ref a, rfl, a, C, rfl, T, n1, .inl ⟨ha, fun dx hdx hne => hq dx hdx hne⟩⟩
section
variable {fa : Ad} {cl : Nat → List A → Store → Rz A} {X : Cx} {e o : Expr} {c co : C} {pos : Pos} {k : Nat}
theorem exv_dat {g : G} {B : Bk} {S : Store} {H : Hp} {a dx : Addr} {c : Nat} {ns : List Str} {ds : List D} {vs : List V} (so : StoreOk g ⟨B, S, H⟩) (ha : H a = none) (hx : upd H a (exo a (g.fa.c c) (some dx)) dx = none) (hl : ns.length = ds.length) (d : DatL g ⟨B, S, H⟩ ds vs) :
    StoreOk g ⟨B, S, upd (upd H a (exo a (g.fa.c c) (some dx))) dx (exd dx (ns.zip vs))⟩ ∧ Stab g ⟨B, S, H⟩ ⟨B, S, upd (upd H a (exo a (g.fa.c c) (some dx))) dx (exd dx (ns.zip vs))⟩ ∧ Dat g ⟨B, S, upd (upd H a (exo a (g.fa.c c) (some dx))) dx (exd dx (ns.zip vs))⟩ (.exv c ns ds) (.ref a) := by
  have so1 := so.new (o := exo a (g.fa.c c) (some dx)) ha
  have st1 := Stab.new (o := exo a (g.fa.c c) (some dx)) so ha
  have st2 := Stab.new (o := exd dx (ns.zip vs)) so1 hx
  have hd : dx ≠ a := fun z => by
    rw [z, upd_same] at hx
    cases hx
  have hx0 : H dx = none := by
    rw [upd_ne hd] at hx
    exact hx
  exact ⟨so1.new hx, st1.trans st2, a, dx, vs, rfl, by show upd (upd H a _) dx _ a = _; rw [upd_ne (Ne.symm hd), upd_same], so.fresh ha, upd_same, so.fresh hx0, hl, (st1.trans st2).datL d⟩
theorem upd4 {H : Hp} {a dx : Addr} {o1 o2 o3 o4 : HO} (h : dx ≠ a) : upd (upd (upd (upd H a o1) dx o2) a o3) dx o4 = upd (upd H a o3) dx o4 := by
  funext b
  by_cases hb : b = dx
  · rw [hb, upd_same, upd_same]
  · rw [upd_ne hb, upd_ne hb]
    by_cases hba : b = a
    · rw [hba, upd_same, upd_same]
    · rw [upd_ne hba, upd_ne hb, upd_ne hba, upd_ne hba]
theorem upd3 {H : Hp} {a dx : Addr} {o1 o2 o3 : HO} (h : dx ≠ a) : upd (upd (upd H a o1) dx o2) a o3 = upd (upd H a o3) dx o2 := by
  funext b
  by_cases hb : b = dx
  · rw [hb, upd_same, upd_ne h, upd_same]
  · rw [upd_ne hb]
    by_cases hba : b = a
    · rw [hba, upd_same, upd_same]
    · rw [upd_ne hba, upd_ne hb, upd_ne hba, upd_ne hba]
theorem se_mkx {f : Addr} {fd : FuncData} {xi : Xi} {x attr : Str} {p : Pos} {ps : List Str} (T : OexG X.K (fa.c xi.c)) (iC : PySem.W.findIn X.K (.ref (fa.c xi.c)) "__init__" = some (some (.ref f))) (tI : PySem.W.typeIn X.K (.ref f) = some (.type "function"))
    (F : FnOk X.prog X.w X.K X.mg X.base (L2.CX X.prog X.w) k f fd ps (spExc (fa.c xi.c) xi.code attr)) (hr : Room (k + 1) X.A) (hb : Binds X.K fd ps []) (hg : Gl X x) (hm : X.mg x = some (.ref (fa.c xi.c))) (hat : xi.attr = some attr)
    (ha : SA fa cl X [e] [c]) (hdb : (x == ("__debug__" : Str)) = false) (he : starEach [e] X.env = (false, eval e X.env) :: starEach [] X.env) : SE fa cl X (.Call (.Name x p) [e] [] pos) (.mkx xi [c]) :=
  (pe_GV (dvs := []) (ds := []) T iC tI F hr hb .nil passN hg hm ha hdb he rfl).imp fun σ H Q q => by
    obtain ⟨B, S, ρ, z, S', eo, so, hv, k⟩ := q
    rw [ev] at hv
    obtain ⟨xs, S1, hxs, h1⟩ := Rz.bind_ok hv
    refine tA.use eo so hxs fun vs B1 H1 so1 st1 eo1 d1 => ?_
    unfold exvF at h1
    rw [hat] at h1
    have hl := evs_len hxs
    match xs, hl, h1, d1 with
    | [x0], _, h1, d1 =>
      cases x0 with
      | m i => cases h1
      | p d =>
        obtain ⟨y, rfl, dy⟩ := d1.one
        dsimp only at h1
        rw [tst_f] at h1
        cases h1
        refine ⟨by simp, fun a hna => ⟨a, y, rfl, upd_same, fun dx hdx hdne => ?_⟩⟩
        have hdx' : H1 dx = none := by
          rw [upd_ne hdne] at hdx
          exact hdx
        rw [upd4 hdne]
        obtain ⟨so2, st2, dd⟩ := exv_dat (g := gx X fa) (c := xi.c) (ns := [attr, "code"]) (ds := [d, .str xi.code]) (vs := [y, .str xi.code]) (dx := dx) so1 hna (by rw [upd_ne hdne]; exact hdx') rfl ⟨y, _, rfl, dy, _, _, rfl, rfl, rfl⟩
        exact ⟨rfl, dx, _, by rw [upd_ne (Ne.symm hdne), upd_same], upd_same, hdx', k _ B1 _ so2 (st1.trans st2) dd⟩
theorem se_mkx0 {f : Addr} {fd : FuncData} {xi : Xi} {x : Str} {p : Pos} {ps : List Str} (T : OexG X.K (fa.c xi.c)) (iC : PySem.W.findIn X.K (.ref (fa.c xi.c)) "__init__" = some (some (.ref f))) (tI : PySem.W.typeIn X.K (.ref f) = some (.type "function"))
    (F : FnOk X.prog X.w X.K X.mg X.base (L2.CX X.prog X.w) k f fd ps (spExc0 (fa.c xi.c) xi.code)) (hr : Room (k + 1) X.A) (hb : Binds X.K fd ps []) (hg : Gl X x) (hm : X.mg x = some (.ref (fa.c xi.c))) (hat : xi.attr = none)
    (hdb : (x == ("__debug__" : Str)) = false) : SE fa cl X (.Call (.Name x p) [] [] pos) (.mkx xi []) :=
  (pe_GV0 T iC tI F hr hb passN hg hm hdb).imp fun σ H Q q => by
    obtain ⟨B, S, ρ, z, S', eo, so, hv, k⟩ := q
    rw [ev] at hv
    obtain ⟨xs, S1, hxs, h1⟩ := Rz.bind_ok hv
    rw [evs] at hxs
    cases hxs
    unfold exvF at h1
    rw [hat] at h1
    dsimp only at h1
    rw [tst_f] at h1
    cases h1
    refine ⟨by simp, fun a hna => ⟨a, rfl, upd_same, fun dx hdx hdne => ?_⟩⟩
    have hdx' : H dx = none := by
      rw [upd_ne hdne] at hdx
      exact hdx
    rw [upd3 hdne]
    obtain ⟨so2, st2, dd⟩ := exv_dat (g := gx X fa) (c := xi.c) (ns := ["code"]) (ds := [.str xi.code]) (vs := [.str xi.code]) (dx := dx) so hna (by rw [upd_ne hdne]; exact hdx') rfl ⟨_, _, rfl, rfl, rfl⟩
    exact ⟨rfl, dx, _, by rw [upd_ne (Ne.symm hdne), upd_same], upd_same, hdx', k _ B _ so2 st2 dd⟩
theorem se_fldX {n : Str} {al : List Nat} (ho : SE fa cl X o co) (hf : ∀ c ∈ al, XfC X.K (fa.c c) ∧ PySem.W.findIn X.K (.ref (fa.c c)) n = some none) (hb : attributeBase o n X.env (eval o X.env) = eval o X.env) : SE fa cl X (.Attribute o n pos) (.fldX co n al) :=
  (pe_xv ho hb).imp fun σ H Q q => by
    obtain ⟨B, S, ρ, z, S', eo, so, hm, k⟩ := q
    rw [ev] at hm
    obtain ⟨x, S1, hx, hm1⟩ := Rz.bind_ok hm
    refine tE.use eo so hx fun v B1 H1 so1 st1 eo1 d1 => ?_
    split at hm1
    · rename_i c' ns ds
      split at hm1
      · rename_i hc'
        obtain ⟨a, dx, vs, rfl, h1, _, h2, _, ln, dl⟩ := d1
        obtain ⟨d, S2, hd, hm2⟩ := Rz.bind_ok hm1
        obtain ⟨hd', rfl⟩ := Rz.of_ok hd
        rw [tst_f] at hm2
        cases hm2
        obtain ⟨w, hw, dw⟩ := getN_dat dl hd'
        obtain ⟨f1, f2⟩ := hf c' (List.contains_iff_mem.mp hc')
        exact ⟨a, _, dx, _, w, rfl, h1, h2, f1, f2, hw, k w B1 H1 so1 st1 dw⟩
      · cases hm1
    · cases hm1
theorem se_isX {y : Str} {p p2 : Pos} {v : V} {cv : Value} {ns al : List Nat} (hg : Gl X "isinstance") (hmg : X.mg "isinstance" = none) (hy : PE X (.Name y p2) (tC v)) (hv : ∀ u, RelV v u → u = cv) (hf : ∀ c ∈ al, ExcC X.K (fa.c c) ∧ PySem.W.kitOne X.K (.ref (fa.c c)) cv = some (ns.contains c)) (ho : SE fa cl X o co)
    (hs : starEach [o, .Name y p2] X.env = (false, eval o X.env) :: starEach [.Name y p2] X.env) : SE fa cl X (.Call (.Name "isinstance" p) [o, .Name y p2] [] pos) (.isX co y ns al) :=
  (pe_callB call_isV hg hmg (by decide +kernel) (pa_cons ho (pa_cons hy pa_nil) hs) (by decide +kernel) (by decide +kernel) hs rfl).imp fun σ H Q q => by
    obtain ⟨B, S, ρ, z, S', eo, so, hm, k⟩ := q
    rw [ev] at hm
    obtain ⟨x, S1, hx, hm1⟩ := Rz.bind_ok hm
    split at hm1
    · rename_i c' ns' ds
      split at hm1
      · rename_i hc'
        cases hm1
        refine tE.use eo so hx fun v1 B1 H1 so1 st1 eo1 d1 => ?_
        obtain ⟨a, dx, vs, rfl, h1, _, h2, _, ln, dl⟩ := d1
        obtain ⟨f1, f2⟩ := hf c' (List.contains_iff_mem.mp hc')
        exact ⟨a, _, dx, _, v, cv, _, rfl, h1, h2, f1, hv, f2, k _ B1 H1 so1 st1 rfl⟩
      · cases hm1
    · cases hm1
end
end Fw

/-! try: body, except (x1, x2) as n: suite, and further clauses that are not reached. -/
namespace Fw
open PySem PySem.Spec PyProof.Rows L2
/-- behind the suite the clause's name is gone -/
def goneD (i : Nat) (D : Ends) : Ends := { nx := fun σ' H' => D.nx (σ'.set i none) H', rt := D.rt, bk := fun σ' H' => D.bk (σ'.set i none) H', ct := fun σ' H' => D.ct (σ'.set i none) H' }
/-- what the clause wishes of an exception of the body -/
def wTup (K : PySem.W.Frag) (ln : Nat) (c1 c2 : Value) (i : Nat) (ts : Addr → Value → Option Addr → TS) (D : Ends) : WX := fun cls d σ H =>
  PySem.W.exmAny K cls [c1, c2] = some true ∧ ∀ a, H a = none → σ.length = ln → ts a cls d (goneD i D) (σ.set i (some (.ref a))) H
theorem fly_push {base : Heap} {l : List PySem.Env} {e : Addr} {Zp : Obj → Prop} {h : Heap} (f : PySem.HandSPX.FlyingZ base l e Zp h) (o : Obj) : PySem.HandSPX.FlyingZ base l e Zp (h.push o) := by
  obtain ⟨k1, k2, k3, oe, vs, T, oT, ts, q1, q2, q3, q4, q5, q6, q7, q8, q9⟩ := f
  exact ⟨fun b u z => Heap.get?_push_of_some _ (k1 b u z), k2, k3.of_keeps fun b u z _ => ⟨u, Heap.get?_push_of_some _ z, rfl⟩, oe, vs, T, oT, ts, Heap.get?_push_of_some _ q1, q2, q3, q4, q5, q6, Heap.get?_push_of_some _ q7, q8, q9⟩
section
variable {X : Cx} {x1 x2 n : Str} {c1 c2 : Value} {i kk : Nat} {body suite : List Stmt} {b0 : Stmt} {np1 np2 tp pos pos' : Pos} {rest : List ExceptHandler} {tb : WX → TS} {ts : Addr → Value → Option Addr → TS}
theorem try_tup2 (hs : X.stack = X.env :: X.outer) (hf : X.env.frame = some X.env.locals) (hN : X.N.Nodup) (hi : X.N[i]? = some n) (hln : X.env.kindOf n = some .local) (g1 : Gl X x1) (m1 : X.mg x1 = some c1) (d1 : (x1 == ("__debug__" : Str)) = false) (g2 : Gl X x2) (m2 : X.mg x2 = some c2) (d2 : (x2 == ("__debug__" : Str)) = false)
    (hb : ∀ (W : WX) (pn : List (Addr × Obj)) (xe : Value → Shared → Prop), Takes (X.tr pn xe) W → PSs (X.tr pn xe) body (tb W))
    (hsu : ∀ (a : Addr) (oe : Obj) (cls : Value) (d : Option Addr) (pn : List (Addr × Obj)), Zc cls d oe → (∃ vs, oe.data = .fields vs) → PSs (X.suite a ((a, oe) :: pn)) (b0 :: suite) (ts a cls d)) :
    PS X (.Try body (.ExceptHandler (some (.Tuple [.Name x1 np1, .Name x2 np2] kk tp)) (some n) (b0 :: suite) pos' :: rest) [] [] pos) (fun D σ H => tb (wTup X.K X.N.length c1 c2 i ts D) D σ H) := by
  refine ⟨fun pins s σ H D I h => ?_⟩
  have ok := I.ok
  have hfr : X.A.frames = some (X.env :: X.outer) := by
    rw [ok.frames, hs]
  refine wpAny_Try_except ?_
  refine wpAny_mono ((hb (wTup X.K X.N.length c1 c2 i ts D) (X.pn ++ pins) (fun e t1 => wpAny (model X.prog X.w) X.A (noteFrame e X.env) (fun _ t2 => wpAny (model X.prog X.w) X.A (setFlight e none) (fun _ t3 =>
    wpAny (model X.prog X.w) X.A (handleBy e X.env (.ExceptHandler (some (.Tuple [.Name x1 np1, .Name x2 np2] kk tp)) (some n) (b0 :: suite) pos' :: rest)) (SP X pins D) X.xe t3) X.xe t2) X.xe t1) (fun u s' xx => ?_)).run [] s σ H D (I.toTry _) h) (fun fl s1 hsp => ?_) (fun e s1 he => he)
  · obtain ⟨a, B, sI, pins', σ', H', cls, d, rfl, J', nb, up, sky, na, os, ag, hyes, hgo⟩ := xx
    have J : Inv X pins σ' H' sI := J'.ofTry ok
    have sky2 : Sky B (X.env :: X.outer) a (Zc cls d) X.env.locals s'.heap := by
      rw [← hs]
      exact sky
    show wpAny (model X.prog X.w) X.A (noteFrame (.ref a) X.env) _ _ _
    refine Sky.land Zc.steady hfr hf sky2 fun h3 fl3 up3 => ?_
    have J3 : Inv X pins σ' H' { s' with heap := h3 } := J.landed nb fl3.1 (up.trans up3) os ag
    obtain ⟨oe3, vs3, he3, hz3, hd3⟩ := fl3.there
    have off : ∀ {h : Heap} {o : Obj} {vs : Array Value}, h.FunFrames B (X.env :: X.outer) → h.get? a = some o → o.data = .fields vs → a ∉ frs (X.env :: X.outer) := fun {h o vs} ff e dd hm => by
      obtain ⟨_, o', e', hnf⟩ := ff.mem hm
      rw [e] at e'
      cases e'
      exact hnf _ dd
    have nfr := off fl3.2.2.1 he3 hd3
    have nL : a ≠ X.env.locals := fun z => nfr (List.mem_filterMap.mpr ⟨X.env, List.mem_cons_self, by rw [hf, z]⟩)
    have nF : a ∉ X.fs := fun hm => by
      obtain ⟨e, he, q⟩ := List.mem_filterMap.mp hm
      exact nfr (List.mem_filterMap.mpr ⟨e, List.mem_cons_of_mem _ he, q⟩)
    have S3 := J3.suite he3 hd3 na nL nF
    refine wpAny_handleBy_cons (codeAny_handlers_test ?_) (by intro q; cases q)
    refine wpAny_Tuple_spliced (spliced_more (ld_glob (X := X.suite a ((a, oe3) :: (X.pn ++ pins))) S3 g1 m1 ?_ d1))
    refine spliced_more (ld_glob (X := X.suite a ((a, oe3) :: (X.pn ++ pins))) S3 g2 m2 ?_ d2)
    refine spliced_none ⟨show 2 ≤ sizeLine by decide, ?_⟩
    let ot : Obj := { cls := .type "tuple", data := .seq [c1, c2].toArray }
    have LT : PySem.W.Looks (model X.prog X.w) (h3.push ot) (typeOf (.ref a)) cls := fun A Q E s k q => wpAny_typeOf_ref (k _ _ (Heap.get?_push_of_some _ he3)) (by rw [hz3.1]; exact q)
    have kin : X.K.In (h3.push ot) := fun b o z => Heap.get?_push_of_some _ (J3.kIn b o z)
    have LM := PySem.W.exm_tup2 (M := model X.prog X.w) kin LT (Heap.get?_push_size h3 rfl) hyes
    refine LM.here ?_
    refine codeAny_handlers_suite_as ?_
    have fl3' := fly_push fl3 ot
    refine HandSPX.lands_againZ fl3' fun h4 fl4 up4 => ?_
    have J4 : Inv X pins σ' H' { s' with heap := h4 } := J.landed nb fl4.1 (((up.trans up3).trans (Heap.UpToSlots.of_keeps fun b o z => Heap.get?_push_of_some _ z)).trans up4) os ag
    obtain ⟨oe4, vs4, he4, hz4, hd4⟩ := fl4.there
    have S4 := J4.suite he4 hd4 na nL nF
    refine store_ok (X := X.suite a ((a, oe4) :: (X.pn ++ pins))) (v := .ref a) S4 hN hi (.inl hln) rfl (fun s5 S5 => ?_) (.inr hln)
    refine wpAny_mono ((hsu a oe4 cls d (X.pn ++ pins) hz4 ⟨_, hd4⟩).run [] s5 _ H' _ S5 (hgo a na J.len)) (fun fl s6 hsp => ?_) (fun _ _ z => False.elim z)
    have out : ∀ {σ6 : L2.St} {H6 : Hp} {Q : Shared → Prop}, Inv (X.suite a ((a, oe4) :: (X.pn ++ pins))) [] σ6 H6 s6 → (∀ s7, Inv X pins (σ6.set i none) H6 s7 → Q s7) →
        wpAny (model X.prog X.w) X.A (do bindName X.env n .none; unbindBehindTheSuite X.env n pos') (fun _ s7 => Q s7) X.xe s6 := fun {σ6 H6 Q} S6 hq => gone_ok (S6.unsuite ok) hN hi hln hq
    cases fl with
    | next =>
      obtain ⟨σ6, H6, S6, q6⟩ := hsp
      exact out S6 fun s7 J7 => ⟨_, _, J7, q6⟩
    | brk =>
      obtain ⟨σ6, H6, S6, q6⟩ := hsp
      exact out S6 fun s7 J7 => ⟨_, _, J7, q6⟩
    | cont =>
      obtain ⟨σ6, H6, S6, q6⟩ := hsp
      exact out S6 fun s7 J7 => ⟨_, _, J7, q6⟩
    | ret u =>
      obtain ⟨v6, σ6, H6, S6, r6, q6⟩ := hsp
      exact out S6 fun s7 J7 => ⟨_, _, _, J7, r6, q6⟩
  · cases fl with
    | next =>
      obtain ⟨σ', H', J', q⟩ := hsp
      exact wpAny_execs_nil ⟨σ', H', J'.ofTry ok, q⟩
    | brk =>
      obtain ⟨σ', H', J', q⟩ := hsp
      exact ⟨σ', H', J'.ofTry ok, q⟩
    | cont =>
      obtain ⟨σ', H', J', q⟩ := hsp
      exact ⟨σ', H', J'.ofTry ok, q⟩
    | ret u =>
      obtain ⟨v, σ', H', J', r, q⟩ := hsp
      exact ⟨v, σ', H', J'.ofTry ok, r, q⟩
end
end Fw

/-! What the law's own helpers tell of an exception: its code and its field. -/
namespace Fw
open PySem PySem.Spec PyProof.Rows L2
def ExtH (H H' : Hp) : Prop := ∀ b o, H b = some o → H' b = some o
theorem ExtH.refl {H : Hp} : ExtH H H := fun _ _ h => h
theorem ExtH.trans {H H1 H2 : Hp} (a : ExtH H H1) (b : ExtH H1 H2) : ExtH H H2 := fun c o h => b c o (a c o h)
theorem ExtH.new {H : Hp} {p : Addr} {o : HO} (hp : H p = none) : ExtH H (upd H p o) := fun b u e => at_upd hp e
/-- an attribute of an exception that is pinned -/
def tXg (a : Addr) (d : Option Addr) (f : Str) (te : TE) : TE := fun σ H Q => te σ H fun x H1 => x = .ref a ∧ ∃ (dd : Addr) (fs : List (Str × V)) (v : V), d = some dd ∧ H1 dd = some (.xd fs) ∧ fs.lookup f = some v ∧ Q v H1
theorem pe_xg {X : Cx} {a C : Addr} {oe : Obj} {d : Option Addr} {e : Expr} {te : TE} {pos : Pos} {n : Str} (T : XfC X.K C) (hno : PySem.W.findIn X.K (.ref C) n = some none) (hp : (a, oe) ∈ X.pn)
    (hz : Zc (.ref C) d oe) (hf : ∃ vs, oe.data = .fields vs) (he : PE X e te) (hb : attributeBase e n X.env (eval e X.env) = eval e X.env := by rfl) : PE X (.Attribute e n pos) (tXg a d n te) := by
  refine ⟨fun pins s σ H Q I h => ?_⟩
  refine attr_of hb (thn (he.run pins s σ H _ I h) fun u s1 hh => ?_)
  obtain ⟨x, H1, I1, rx, rfl, dd, fs, v, rfl, ea, l, q⟩ := hh
  obtain rfl : u = Value.ref a := rx
  have ha := (I1.pin (a, oe) (List.mem_append_left _ hp)).1
  obtain ⟨vs, hd⟩ := hf
  obtain ⟨mA, hns, hr⟩ := (show ObjOk X.prog X.w H1 s1.heap dd (.xd fs) from I1.hok dd _ ea)
  obtain ⟨od, ho, hl⟩ := lookIn_ns hns
  obtain ⟨u, hu, ru⟩ := RelO.some_of (v := v) (o := mA n) (by rw [← l]; exact hr n)
  have J : PySem.W.InstAt s1.heap a oe C (some od) := ⟨ha, hz.1, by unfold PySem.W.notCls; rw [hd] <;> rfl, by rw [hz.2]; exact ho⟩
  exact HandSPX.exc_get I1.kIn J T.ga T.gg T.exC (PySem.W.findObj_own T.hdC hno rfl (by rw [hl, hu])) (handed_of ru) ⟨v, H1, I1.tok _, ru, q⟩
/-! ### the helper that tells the field -/
inductive Consts : List Expr → List Str → Prop where
  | nil : Consts [] []
  | cons {x : Str} {j : Nat} {p : Pos} {es : List Expr} {cs : List Str} (r : Consts es cs) : Consts (.Constant (.str x) j p :: es) (x :: cs)
/-- its body: which attribute is told of which code; as: the attributes -/
inductive FieldB (n : Str) : List Stmt → (Str → Option Str) → List Str → Prop where
  | inn {es : List Expr} {cs : List Str} {attr : Str} {p1 p2 p3 p4 p5 p6 p7 p8 : Pos} {r : List Stmt} {m : Str → Option Str} {as : List Str} (h : Consts es cs) (hl : cs.length ≤ 100) (t : FieldB n r m as) :
    FieldB n (.If (.Compare (.Attribute (.Name n p1) "code" p2) [.In] [.List es p3] p4) [.Return (some (.Attribute (.Name n p5) attr p6)) p7] [] p8 :: r) (fun k => if k ∈ cs then some attr else m k) (attr :: as)
  | eq {c attr : Str} {j : Nat} {p1 p2 p3 p4 p5 p6 p7 p8 : Pos} {r : List Stmt} {m : Str → Option Str} {as : List Str} (t : FieldB n r m as) :
    FieldB n (.If (.Compare (.Attribute (.Name n p1) "code" p2) [.Eq] [.Constant (.str c) j p3] p4) [.Return (some (.Attribute (.Name n p5) attr p6)) p7] [] p8 :: r) (fun k => if k = c then some attr else m k) (attr :: as)
  | last {c attr : Str} {j j2 : Nat} {p1 p2 p3 p4 p5 p6 p7 p8 p9 : Pos} :
    FieldB n [.Return (some (.IfExp (.Compare (.Attribute (.Name n p1) "code" p2) [.Eq] [.Constant (.str c) j p3] p4) (.Attribute (.Name n p5) attr p6) (.Constant .none j2 p7) p8)) p9] (fun k => if k = c then some attr else none) [attr]
/-- what is told -/
def fldV (fs : List (Str × V)) (m : Str → Option Str) (k : Str) : Option V := match m k with
  | some attr => fs.lookup attr
  | none => some .non
/-- what its body does -/
def tField (a : Addr) (d : Option Addr) (m : Str → Option Str) : TS := fun D σ H => σ[0]? = some (some (.ref a)) ∧ ∃ (dd : Addr) (fs : List (Str × V)) (k : Str) (v : V), d = some dd ∧ H dd = some (.xd fs) ∧ fs.lookup ("code" : Str) = some (V.str k) ∧ fldV fs m k = some v ∧ ∀ H', ExtH H H' → D.rt v H'
section
variable {X : Cx} {a C : Addr} {oe : Obj} {d : Option Addr} {n : Str}
theorem consts_pa : ∀ {es : List Expr} {cs : List Str}, Consts es cs → ∃ t, PA X es t ∧ ∀ σ H Q, Q (cs.map V.str) H → t σ H Q
  | _, _, .nil => ⟨_, pa_nil, fun σ H Q q => q⟩
  | _, _, .cons r => by
    obtain ⟨t, h1, h2⟩ := consts_pa r
    exact ⟨_, pa_cons pe_str h1, fun σ H Q q => h2 σ H _ q⟩
theorem inV_strs {k : Str} {cs : List Str} : inV (.str k) (cs.map V.str) = decide (k ∈ cs) := by
  unfold inV
  rw [any_eqv]
  induction cs with
  | nil => rfl
  | cons c cs ih =>
    rw [List.any_cons, ih]
    by_cases h : c = k
    · subst h
      simp
    · have : (c == k) = false := by simpa using h
      rw [this, Bool.false_or]
      by_cases hm : k ∈ cs
      · simp [hm]
      · simp [hm, Ne.symm h]
theorem field_body (T : XfC X.K C) (hp : (a, oe) ∈ X.pn) (hz : Zc (.ref C) d oe) (hf : ∃ vs, oe.data = .fields vs)
    (hN : X.N[0]? = some n) (hv : Vis X.env.scope n) (d1 : (n == ("__debug__" : Str)) = false) (d2 : (n == ("__classdict__" : Str)) = false) (hco : PySem.W.findIn X.K (.ref C) "code" = some none) :
    ∀ {body : List Stmt} {m : Str → Option Str} {as : List Str}, FieldB n body m as → (∀ y ∈ as, PySem.W.findIn X.K (.ref C) y = some none) → PSs X body (tField a d m) := by
  have at_ : ∀ {y : Str} {p q : Pos}, PySem.W.findIn X.K (.ref C) y = some none → PE X (.Attribute (.Name n p) y q) (tXg a d y (tVar 0)) := fun {y p q} hy => pe_xg T hy hp hz hf (pe_var hN hv d1 d2)
  intro body m as hB
  induction hB with
  | @inn es cs attr p1 p2 p3 p4 p5 p6 p7 p8 r m as h hl t ih =>
    intro hm
    obtain ⟨tl, h1, h2⟩ := consts_pa (X := X) h
    refine (pss_cons (ps_if (pt_cmpR op_in_seq (at_ hco) (pe_lst h1) rfl) (pss_one (ps_ret (at_ (hm attr (List.mem_cons_self ..))))) pss_nil) (ih fun y hy => hm y (List.mem_cons_of_mem _ hy))).imp fun D σ H q => ?_
    obtain ⟨hs, dd, fs, k, v, e1, e2, e3, e4, e5⟩ := q
    refine ⟨.ref a, hs, rfl, dd, fs, .str k, e1, e2, e3, h2 σ H _ ⟨?_, fun p hp' => ⟨p, _, rfl, .inl (SqL.of upd_same), rfl, flat_strs _, _, rfl, ?_⟩⟩⟩
    · rw [List.length_map]
      exact Nat.le_trans hl (by decide)
    · have x1 : ExtH H (upd H p (.lst (cs.map V.str))) := ExtH.new hp'
      simp only [Bool.false_eq_true, if_false]
      rw [inV_strs]
      unfold fldV at e4
      dsimp only at e4
      by_cases hk : k ∈ cs
      · rw [if_pos hk] at e4
        rw [if_pos (decide_eq_true hk)]
        exact ⟨.ref a, hs, rfl, dd, fs, v, e1, x1 _ _ e2, e4, e5 _ x1⟩
      · rw [if_neg hk] at e4
        rw [if_neg (by rw [decide_eq_true_eq]; exact hk)]
        exact ⟨hs, dd, fs, k, v, e1, x1 _ _ e2, e3, e4, fun H' x2 => e5 H' (x1.trans x2)⟩
  | @eq c attr j p1 p2 p3 p4 p5 p6 p7 p8 r m as t ih =>
    intro hm
    refine (pss_cons (ps_if (pt_cmpR op_eq (at_ hco) pe_str rfl) (pss_one (ps_ret (at_ (hm attr (List.mem_cons_self ..))))) pss_nil) (ih fun y hy => hm y (List.mem_cons_of_mem _ hy))).imp fun D σ H q => ?_
    obtain ⟨hs, dd, fs, k, v, e1, e2, e3, e4, e5⟩ := q
    refine ⟨.ref a, hs, rfl, dd, fs, .str k, e1, e2, e3, rfl, _, rfl, ?_⟩
    unfold fldV at e4
    dsimp only at e4
    by_cases hk : k = c
    · rw [if_pos hk] at e4
      rw [if_pos (by rw [decide_eq_true_eq, hk])]
      exact ⟨.ref a, hs, rfl, dd, fs, v, e1, e2, e4, e5 _ ExtH.refl⟩
    · rw [if_neg hk] at e4
      rw [if_neg (by rw [decide_eq_true_eq]; intro z; cases z; exact hk rfl)]
      exact ⟨hs, dd, fs, k, v, e1, e2, e3, e4, e5⟩
  | @last c attr j j2 p1 p2 p3 p4 p5 p6 p7 p8 p9 =>
    intro hm
    refine (pss_one (ps_ret (pe_ifExp (pt_cmpR op_eq (at_ hco) pe_str rfl) (at_ (hm attr (List.mem_cons_self ..))) pe_non))).imp fun D σ H q => ?_
    obtain ⟨hs, dd, fs, k, v, e1, e2, e3, e4, e5⟩ := q
    refine ⟨.ref a, hs, rfl, dd, fs, .str k, e1, e2, e3, rfl, _, rfl, ?_⟩
    unfold fldV at e4
    dsimp only at e4
    by_cases hk : k = c
    · rw [if_pos hk] at e4
      rw [if_pos (by rw [decide_eq_true_eq, hk])]
      exact ⟨.ref a, hs, rfl, dd, fs, v, e1, e2, e4, e5 _ ExtH.refl⟩
    · rw [if_neg hk] at e4
      rw [if_neg (by rw [decide_eq_true_eq]; intro z; cases z; exact hk rfl)]
      cases e4
      exact e5 _ ExtH.refl
/-- a def called where an exception is handled -/
theorem run_hot {k : Nat} {f : Addr} {name qual : Str} {params : Arguments} {body : List Stmt} {scope : Scope} {dV kV doc pm cdv ct oc : Value} {an od : Option Addr} {osl : Array (Option Value)} {N ps : List Str} {pins : List (Addr × Obj)} {σ : L2.St} {H : Hp} {s : Shared} {us : List Value} {vs : List V} {Q : VK} {p : Addr × Obj}
    (lk : X.K.lookup f = some ⟨oc, od, .func (PySem.W.fnOf name qual params body scope dV kV doc pm an cdv ct), osl⟩) (hcd : PySem.W.codeIn X.K cdv qual = true) (S : FnScope N ps scope) (hr : L2H.RoomH (k + 1) X.A) (hp : p ∈ X.pn)
    (hb : Binds X.K (PySem.W.fnOf name qual params body scope dV kV doc pm an cdv ct) ps []) (I : Inv X pins σ H s) (r : Vals vs us) (hl : vs.length = ps.length)
    (hbody : ∃ t, PSs (L2H.cxH (fun _ _ _ _ _ _ => False) X.prog X.w X.K X.mg X.base N qual scope f cdv X.A X.stack s H E0 p).nox body t ∧ t { nx := fun _ H' => Q .non H', rt := Q } (L2.start N vs) H) :
    wpAny (model X.prog X.w) X.A (call (.ref f) us) (EP X pins σ Q) X.xe s := by
  have hl' : us.length = ps.length := by
    rw [← r.length]
    exact hl
  have b := hb s us I.kIn (by rw [List.append_nil]; exact hl')
  rw [List.append_nil] at b
  have P1 := I.pin p (List.mem_append_left _ hp)
  have hpin : L2H.PinOk X.stack H s p := ⟨P1.1, P1.2.1, fun hm => (List.mem_cons.mp (I.stkSub p.1 hm)).elim P1.2.2.1 P1.2.2.2.1, P1.2.2.2.2⟩
  have e0 := I.env0
  have KX := I.kIn
  have lim : s.heap.NoLimit := e0.mod.nolimit.keeps fun b o e => (e0.bs b o e).1
  have hkind : ∀ y ∈ ps.zip us, scope.names.lookup y.1 = some .local ∨ (scope.names.lookup y.1 = some .cell ∧ ((cellsFrom (s.heap.objs.size + 1) scope.names []).lookup y.1).isSome = true) := fun y hy => by
    rcases S.par y.1 (List.of_mem_zip hy).1 with q | q
    · exact .inl q
    · exact .inr ⟨q, PySem.W.cellsFrom_some _ _ _ (.inl q)⟩
  have rc : codeAny (model X.prog X.w) X.A (.call (.ref f) ⟨us, []⟩) (CR (fun _ _ _ _ _ _ => False) X.stack X.prog X.w H s Q E0) s := by
    refine codeAny_call_function hr.depth (KX _ _ lk) rfl S.co S.gen rfl (PySem.W.codeRec_of KX hcd) (b _ _ _ _ ?_)
    refine wpAny_newFunctionEnv_cells S.kind hkind fun env he s1 x => ?_
    subst he
    refine ⟨lim.keeps x.toInCall.keep, codeAny_func ?_⟩
    obtain ⟨t, ht, hq⟩ := hbody
    have J : Inv (L2H.cxH (fun _ _ _ _ _ _ => False) X.prog X.w X.K X.mg X.base N qual scope f cdv X.A X.stack s H E0 p) [] (L2.start N vs) H s1 := L2H.inv_startH S hpin e0 hl r x
    refine wpAny_mono (ht.nox.run [] s1 (L2.start N vs) H _ J hq) (fun fl s' hs => ?_) fun e s' hs => hs
    have done : ∀ {σ' : L2.St} {H' : Hp} {v : V} {u : Value}, Inv (L2H.cxH (fun _ _ _ _ _ _ => False) X.prog X.w X.K X.mg X.base N qual scope f cdv X.A X.stack s H E0 p) [] σ' H' s' → L2.RelV v u → Q v H' → CE X.stack X.prog X.w H s Q u s' :=
      fun {σ' H' v u} J rv q => ⟨v, H', J.os, J.bare, J.base, J.hok, rv, q⟩
    cases fl with
    | ret u =>
      obtain ⟨v, σ', H', J', rv, q⟩ := hs
      exact done J' rv q
    | next =>
      obtain ⟨σ', H', J', q⟩ := hs
      exact done (v := V.non) (u := Value.none) J' rfl q
    | brk =>
      obtain ⟨_, _, _, q⟩ := hs
      exact False.elim q
    | cont =>
      obtain ⟨_, _, _, q⟩ := hs
      exact False.elim q
  refine wpAny_call (codeAny_mono rc fun r s2 hq => ?_)
  cases r with
  | error e => exact (show False from hq).elim
  | ok fl =>
    cases fl with
    | ret u => exact I.after hq
    | next => exact False.elim hq
    | brk => exact False.elim hq
    | cont => exact False.elim hq
end
end Fw

/-! The law's own helper that calls what it got and tells how that ended. -/
namespace Fw
open PySem PySem.Spec PyProof.Rows L2
/-- its body -/
def WhyB (a told e few mis fld : Str) (body : List Stmt) : Prop := ∃ (p1 p2 p3 p4 p5 p6 p7 p8 p9 q1 q2 q3 q4 q5 q6 q7 q8 q9 r1 r2 r3 r4 r5 : Pos) (j1 j2 k1 k2 k3 : Nat) (rest : List ExceptHandler),
  body = [.Assign [.Name told p1] (.Tuple [.Constant (.str "value") j1 p2, .Constant .none j2 p3] k1 p4) p5,
    .Try [.Expr (.Call (.Name a p6) [] [] p7) p8] (.ExceptHandler (some (.Tuple [.Name few p9, .Name mis q1] k2 q2)) (some e) [.Assign [.Name told q3] (.Tuple [.Attribute (.Name e q4) "code" q5, .Call (.Name fld q6) [.Name e q7] [] q8] k3 q9) r1] r2 :: rest) [] [] r3,
    .Return (some (.Name told r5)) r4]
/-- what is wanted of an exception -/
def whyE (K : PySem.W.Frag) (few mis : Value) (as : List Str) (m : Str → Option Str) (Q : VK) : XK := fun cls d H' => ∃ (C dd : Addr) (fs : List (Str × V)) (k : Str) (v : V), cls = .ref C ∧ XcK K few mis as C ∧ d = some dd ∧ H' dd = some (.xd fs) ∧ fs.lookup ("code" : Str) = some (V.str k) ∧ fldV fs m k = some v ∧
  ∀ H2 T2, ExtH H' H2 → H2 T2 = some (.tup [.str k, v]) → Q (.ref T2) H2
def TTwhy (K : PySem.W.Frag) (few mis : Value) (as : List Str) (m : Str → Option Str) : (XK → Hp → VK → Prop) → Hp → VK → Prop := fun tl H Q =>
  ∀ T, H T = none → tl (whyE K few mis as m Q) (upd H T (.tup [.str "value", .non])) fun _ H' => Q (.ref T) H'
section
variable {X : Cx}
/-- what is known of the helper that tells the field -/
structure FldK (K : PySem.W.Frag) (mg : Str → Option Value) (fld n : Str) (m : Str → Option Str) (as : List Str) : Prop where
  ex : ∃ (f : Addr) (params : Arguments) (body : List Stmt) (scope : Scope) (dV kV doc pm cdv ct oc : Value) (an od : Option Addr) (osl : Array (Option Value)), K.lookup f = some ⟨oc, od, .func (PySem.W.fnOf fld fld params body scope dV kV doc pm an cdv ct), osl⟩ ∧ PySem.W.codeIn K cdv fld = true ∧ FnScope [n] [n] scope ∧
    Binds K (PySem.W.fnOf fld fld params body scope dV kV doc pm an cdv ct) [n] [] ∧ mg fld = some (.ref f) ∧ PySem.W.keepIn K (.ref f) = true ∧ FieldB n body m as
  d1 : (n == ("__debug__" : Str)) = false
  d2 : (n == ("__classdict__" : Str)) = false
  d3 : (fld == ("__debug__" : Str)) = false
theorem why_gives {x a told e few mis fld n q : Str} {sg : Scope} {g : Addr} {cdg : Value} {bg : List Stmt} {cf cm : Value} {m : Str → Option Str} {as : List Str} (hB : WhyB a told e few mis fld bg) (F : FldK X.K X.mg fld n m as) (hr : Room 4 X.A)
    (Sg : FnScope [a, told, e] [a] sg) (l1 : sg.names.lookup told = some .local) (l2 : sg.names.lookup e = some .local) (g1 : sg.names.lookup few = some .globalImplicit) (g2 : sg.names.lookup mis = some .globalImplicit) (g3 : sg.names.lookup fld = some .globalImplicit)
    (m1 : X.mg few = some cf) (m2 : X.mg mis = some cm) (d1 : (few == ("__debug__" : Str)) = false) (d2 : (mis == ("__debug__" : Str)) = false) (d3 : (told == ("__debug__" : Str)) = false) (d4 : (told == ("__classdict__" : Str)) = false) (d5 : (e == ("__debug__" : Str)) = false) (d6 : (e == ("__classdict__" : Str)) = false) :
    LamX.GivesTo X [a, told, e] x sg g cdg bg a q (TTwhy X.K cf cm as m) := by
  obtain ⟨p1, p2, p3, p4, p5, p6, p7, p8, p9, q1, q2, q3, q4, q5, q6, q7, q8, q9, r1, r2, r3, r4, r5, j1, j2, k1, k2, k3, rest, rfl⟩ := hB
  intro f c' s H Q tl act hc h
  let X0 : Cx := (cxOf C8.CX0 X.prog X.w X.K X.mg X.base [a, told, e] x sg g cdg X.A X.stack s H C8.E0).nox
  have nd : X0.N.Nodup := Sg.nd
  have pgt : ∀ {pos : Pos} {pn : List (Addr × Obj)} {ad : Addr}, PG (X0.suite ad pn) (.Name told pos) (gName 1) := fun {pos pn ad} => pg_name nd rfl (.inl l1) (.inr l1)
  have hr3 := hr.deeper (envOfC x sg s.heap.objs.size g cdg)
  have hroom : ∀ (ad : Addr) (pn : List (Addr × Obj)), L2H.RoomH 3 (X0.suite ad pn).A := fun ad pn => ⟨hr3.dp, hr3.un⟩
  -- the suite
  let ts : Addr → Value → Option Addr → TS := fun ad cls d D σ H => ∃ (C dd : Addr) (fs : List (Str × V)) (k : Str) (v : V), cls = .ref C ∧ XcK X.K cf cm as C ∧ d = some dd ∧ H dd = some (.xd fs) ∧ fs.lookup ("code" : Str) = some (V.str k) ∧ fldV fs m k = some v ∧ σ[2]? = some (some (.ref ad)) ∧
    ∀ H2 T2, ExtH H H2 → H2 T2 = some (.tup [.str k, v]) → D.nx (σ.set 1 (some (.ref T2))) H2
  have hsu : ∀ (ad : Addr) (oe : Obj) (cls : Value) (d : Option Addr) (pn : List (Addr × Obj)), Zc cls d oe → (∃ vs, oe.data = .fields vs) → PSs (X0.suite ad ((ad, oe) :: pn)) [.Assign [.Name told q3] (.Tuple [.Attribute (.Name e q4) "code" q5, .Call (.Name fld q6) [.Name e q7] [] q8] k3 q9) r1] (ts ad cls d) := by
    intro ad oe cls d pn hz hfd
    refine ⟨fun pins s1 σ1 H1 D I hh => ?_⟩
    obtain ⟨C, dd, fs, k, v, rfl, xc, rfl, e1, e2, e3, e4, kont⟩ := hh
    obtain ⟨ff, params, body, scope, dV, kV, doc, pm, cdv, ct, oc, an, od, osl, lk, hcd, Sf, hb, hmf, hkf, fb⟩ := F.ex
    have pv : ∀ {pos : Pos}, PE (X0.suite ad ((ad, oe) :: pn)) (.Name e pos) (tVar 2) := fun {pos} => pe_var rfl (.inl l2) d5 d6
    have pc : PE (X0.suite ad ((ad, oe) :: pn)) (.Attribute (.Name e q4) "code" q5) (tXg ad (some dd) "code" (tVar 2)) := pe_xg (C := C) (oe := oe) xc.xf xc.code (List.mem_cons_self ..) hz hfd pv
    have pf : PE (X0.suite ad ((ad, oe) :: pn)) (.Call (.Name fld q6) [.Name e q7] [] q8) (fun σ H Q => σ[2]? = some (some (.ref ad)) ∧ H dd = some (.xd fs) ∧ ∀ H', ExtH H H' → Q v H') := by
      refine ⟨fun pins s σ H Q I hq => ?_⟩
      obtain ⟨h1, h2, h3⟩ := hq
      refine wpAny_Call_Name_kw (ld_glob I g3 hmf ?_ F.d3)
      refine PySem.W.callWith_K (h₀ := X.base) I.ok.mod.kin hkf (thn ((pa_cons (pv (pos := q7)) pa_nil).run q8 pins s σ H (fun vs H1 => vs = [.ref ad] ∧ H1 = H) I ⟨_, h1, rfl, rfl⟩) fun us s2 ⟨vs, H2, I2, r, q⟩ => ⟨I2.kIn, ?_⟩) rfl rfl
      obtain ⟨rfl, rfl⟩ := q
      refine run_hot (k := 2) (p := (ad, oe)) lk hcd Sf (hroom _ _) (List.mem_cons_self ..) hb I2 r rfl ?_
      have vis : Vis scope n := (Sf.par n (List.mem_cons_self ..)).elim .inl fun z => .inr (.inl z)
      refine ⟨_, field_body (X := (L2H.cxH (fun _ _ _ _ _ _ => False) X.prog X.w X.K X.mg X.base [n] fld scope ff cdv _ _ s2 _ E0 (ad, oe)).nox) (C := C) (oe := oe) (d := some dd) xc.xf (List.mem_cons_self ..) hz hfd rfl vis F.d1 F.d2 xc.code fb xc.fld, ?_⟩
      exact ⟨rfl, dd, fs, k, v, rfl, h2, e2, e3, h3⟩
    refine (pss_one (ps_asg (pe_tup (pa_cons pc (pa_cons pf pa_nil))) pgt rfl rfl rfl)).run pins s1 σ1 H1 D I ?_
    refine ⟨_, e4, rfl, dd, fs, .str k, rfl, e1, e2, e4, e1, fun H' x1 => ⟨show 2 ≤ sizeLine by decide, fun p hp => ?_⟩⟩
    exact kont _ p (x1.trans (ExtH.new hp)) upd_same
  refine ⟨_, pss_cons (ps_asg (X := X0) (pe_tup (pa_cons pe_str (pa_cons pe_non pa_nil))) (pg_name (X := X0) (i := 1) nd rfl (.inl l1) (.inr l1)) rfl rfl rfl) (pss_cons (try_tup2 (X := X0) (c1 := cf) (c2 := cm) (i := 2) (ts := ts)
      (tb := fun W D σ H => ∃ Ech : XK, (∀ cls d σ' H', Ech cls d H' → W cls d σ' H') ∧ σ[0]? = some (some (.ref f)) ∧ H c' = some (LamX.CodeO c' q) ∧ tl Ech H fun _ H' => D.nx σ H')
      rfl rfl nd rfl l2 g1 m1 d1 g2 m2 d2 (fun W pn xe tk => ?_) hsu) (pss_one (ps_ret (pe_var (X := X0) (i := 1) rfl (.inl l1) d3 d4)))), ?_⟩
  · refine ⟨fun pins s' σ H' D I h' => ?_⟩
    obtain ⟨Ech, hW, h1, h2, h3⟩ := h'
    have hp := act W pn xe Ech p6 p7 tk hW
    exact (pss_one (ps_expr (pos := p8) hp rfl)).run pins s' σ H' D I ⟨h1, h2, h3⟩
  · refine ⟨show 2 ≤ sizeLine by decide, fun T hT => ?_⟩
    refine ⟨whyE X.K cf cm as m Q, fun cls d σ' H' hw => ?_, rfl, at_upd hT hc, ?_⟩
    · obtain ⟨C, dd, fs, k, v, rfl, xc, rfl, e1, e2, e3, kont⟩ := hw
      refine ⟨xc.few, fun ad had hlen => ⟨C, dd, fs, k, v, rfl, xc, rfl, e1, e2, e3, ?_, fun H2 T2 x1 x2 => ?_⟩⟩
      · rw [List.getElem?_set_self (by rw [hlen]; show 2 < 3; decide)]
      · have hlen : σ'.length = 3 := hlen
        refine ⟨.ref T2, ?_, kont H2 T2 x1 x2⟩
        rw [List.getElem?_set_ne (by decide), List.getElem?_set_self (by rw [List.length_set, hlen]; decide)]
    · refine (congrArg (tl (whyE X.K cf cm as m Q) (upd H T (.tup [.str "value", .non]))) ?_).mpr (h T hT)
      funext _ H'
      refine propext ⟨fun ⟨v, e1, e2⟩ => ?_, fun z => ⟨.ref T, rfl, z⟩⟩
      cases e1
      exact e2
end
end Fw

/-! The call of that helper with a lambda. -/
namespace Fw
open PySem PySem.Spec PyProof.Rows L2
theorem why_dat {g : G} {z : Z} {e : Exn} {fs : List (Str × V)} {d : D} (hl : ∀ n x, e.at n = some x → ∃ v, fs.lookup n = some v ∧ Dat g z x v) (h : whyF e = some d) :
    ∃ k x v, d = .tup [.str k, x] ∧ fs.lookup ("code" : Str) = some (V.str k) ∧ fldV fs fldM k = some v ∧ Dat g z x v := by
  unfold whyF at h
  split at h
  · rename_i k hk
    obtain ⟨v0, h1, h2⟩ := hl _ _ hk
    rw [show v0 = V.str k from h2] at h1
    unfold fldV
    cases hm : fldM k with
    | none =>
      rw [hm] at h
      cases h
      exact ⟨k, .non, .non, rfl, h1, by rw [hm], rfl⟩
    | some attr =>
      rw [hm] at h
      dsimp only at h
      cases hx : e.at attr with
      | none =>
        rw [hx] at h
        cases h
      | some x =>
        rw [hx] at h
        cases h
        obtain ⟨v, h3, h4⟩ := hl _ _ hx
        exact ⟨k, x, v, rfl, h1, by rw [hm]; exact h3, h4⟩
  · cases h
/-- what is known of the helper -/
structure WhyK (fa : Ad) (K : PySem.W.Frag) (mg : Str → Option Value) (x : Str) : Prop where
  ex : ∃ (g : Addr) (pg : Arguments) (bg : List Stmt) (sg : Scope) (dV kV doc pm cdv ct oc : Value) (an od : Option Addr) (osl : Array (Option Value)) (a told e few mis fld n : Str),
    mg x = some (.ref g) ∧ PySem.W.keepIn K (.ref g) = true ∧ K.lookup g = some ⟨oc, od, .func (PySem.W.fnOf x x pg bg sg dV kV doc pm an cdv ct), osl⟩ ∧ PySem.W.codeIn K cdv x = true ∧ Binds K (PySem.W.fnOf x x pg bg sg dV kV doc pm an cdv ct) [a] [] ∧ FnScope [a, told, e] [a] sg ∧
    WhyB a told e few mis fld bg ∧ FldK K mg fld n fldM fldNames ∧ sg.names.lookup a = some .local ∧ sg.names.lookup told = some .local ∧ sg.names.lookup e = some .local ∧ sg.names.lookup few = some .globalImplicit ∧ sg.names.lookup mis = some .globalImplicit ∧ sg.names.lookup fld = some .globalImplicit ∧
    mg few = some (.ref fa.few) ∧ mg mis = some (.ref fa.mis) ∧ ∀ y ∈ [a, told, e, few, mis], (y == ("__debug__" : Str)) = false ∧ (y == ("__classdict__" : Str)) = false
/-- what is known of the def that holds the lambdas -/
structure LamK (fa : Ad) (X : Cx) : Prop where
  ex : ∃ c P, LamX.TabB X.base X.mg c P ∧ X.env.code = .ref c ∧ (P, X.env.qual ++ "<lambda>") ∈ fa.T ∧ ∀ p ∈ fa.T, p.1 = P → p.2 = X.env.qual ++ "<lambda>"
section
variable {fa : Ad} {cl : Nat → List A → Store → Rz A} {X : Cx} {e : Expr} {c : C} {pos : Pos} {k : Nat}
theorem pe_why {x : Str} {p lpos : Pos} {params : Arguments} {body : Expr} {scope : Scope} {xc : XC} (hg : Gl X x) (W : WhyK fa X.K X.mg x) (Lk : LamK fa X) (hr : Room (k + 4) X.A) (L : LamX.LamS X.env.scope scope) (hdef : defaultsOf params X.env = ([], []))
    (hbind : ∀ (q : Str) (cl : List (Str × Addr)) (pm cv ctv : Value), bindArgs (PySem.W.kla_fn "<lambda>" q params body scope cl pm cv ctv) ⟨[], []⟩ = pure [])
    (hbody : ∀ (A : Around) (outer : List PySem.Env) (s : Shared) (H : Hp) (E : XK) (f c' : Addr), Room (k + 2) (A.deeper (LamX.lamEnv X scope s.heap.objs.size f c')) → SX fa cl E (LamX.lamCx X A outer s H E scope f c') body xc) (hdb : (x == ("__debug__" : Str)) = false) :
    PE X (.Call (.Name x p) [.Lambda params body scope lpos] [] pos) (tE (gx X fa) fun ρ S => whyR (xcF cl xc ρ S)) := by
  obtain ⟨g, pg, bg, sg, dV, kV, doc, pm, cdv, ct, oc, an, od, osl, a, told, er, few, mis, fld, n, h1, h2, h3, h4, h5, h6, h7, h8, h9, l1, l2, g1, g2, g3, m1, m2, hd⟩ := W.ex
  obtain ⟨cc, P, t1, t2, t3, t4⟩ := Lk.ex
  have da := hd a (by simp)
  have dt := hd told (by simp)
  have de := hd er (by simp)
  refine (LamX.pe_lamcall (k := k + 2) (a := a) (Ng := [a, told, er]) hg h1 h2 h3 h4 h5 h6 rfl (.inl h9) (why_gives h7 h8 (hr.mono (by omega)) h6 l1 l2 g1 g2 g3 m1 m2 (hd few (by simp)).1 (hd mis (by simp)).1 dt.1 dt.2 de.1 de.2) t1 t2 t3 t4 hr L hdef hbind
    (t := fun E => tX (gx X fa) E (xcF cl xc)) hbody hdb da.1 da.2).imp fun σ H Q q => ?_
  obtain ⟨B, S, ρ, y, S', eo, so, hm, kq⟩ := q
  have hm : whyR (xcF cl xc ρ S) = .ok y S' := hm
  refine ⟨so.iv, fun H1 x1 tb T hT => ?_⟩
  have st1 := Stab.ext so x1
  have so1 := so.ext x1 tb
  have st2 := Stab.new (o := .tup [.str "value", .non]) so1 hT
  have so2 := so1.new (o := .tup [.str "value", .non]) hT
  have dT : Dat (gx X fa) ⟨B, S, upd H1 T (.tup [.str "value", .non])⟩ (.tup [.str "value", .non]) (.ref T) := new_tup so1 hT ⟨_, _, rfl, rfl, _, _, rfl, rfl, rfl⟩
  refine ⟨B, S, ρ, (eo.mono st1).mono st2, so2, ?_⟩
  cases hx : xcF cl xc ρ S with
  | bad =>
    rw [hx] at hm
    cases hm
  | ok w S1 =>
    rw [hx] at hm
    cases hm
    exact fun v B' H' so' st' dv => kq _ B' H' so' ((st1.trans st2).trans st') (st'.dat _ _ dT)
  | ex ex S1 =>
    rw [hx] at hm
    have hm : Rz.of ((whyF ex).map A.p) S1 = .ok y S' := hm
    cases hw : whyF ex with
    | none =>
      rw [hw] at hm
      cases hm
    | some d =>
      rw [hw] at hm
      cases hm
      intro cls dd B' H' so' st' xo
      obtain ⟨rfl, xk, dx, fs, rfl, e2, e3⟩ := xo
      obtain ⟨kc, xd, v, rfl, w1, w2, w3⟩ := why_dat e3 hw
      refine ⟨_, dx, fs, kc, v, rfl, xk, rfl, e2, w1, w2, fun H2 T2 y1 y2 => ?_⟩
      have z1 := LamX.ExtN.of y1
      have st3 := Stab.ext so' z1
      have so3 := so'.ext z1 (LamX.Tabs.ext so'.iv y1)
      exact kq _ B' H2 so3 (((st1.trans st2).trans st').trans st3) ⟨T2, [.str kc, v], rfl, .inl (.inl y2), _, _, rfl, rfl, _, _, rfl, st3.dat _ _ w3, rfl⟩
theorem se_whyA {h : Hd} {cs : List C} (s : PE X e (tE (gx X fa) fun ρ S => whyR (xcF cl (.app h cs) ρ S))) : SE fa cl X e (.whyA h cs) := s.imp fun σ H Q q => by
  obtain ⟨B, S, ρ, z, S', eo, so, hm, k⟩ := q
  rw [ev] at hm
  obtain ⟨y, S2, hy, hm2⟩ := Rz.bind_ok hm
  rw [tst_f] at hm2
  cases hm2
  exact ⟨B, S, ρ, _, _, eo, so, hy, k⟩
theorem se_whyAK {fi : Nat} {cs ks : List C} {asm : List (Nat ⊕ D)} (s : PE X e (tE (gx X fa) fun ρ S => whyR (xcF cl (.appK fi cs ks asm) ρ S))) : SE fa cl X e (.whyAK fi cs ks asm) := s.imp fun σ H Q q => by
  obtain ⟨B, S, ρ, z, S', eo, so, hm, k⟩ := q
  rw [ev] at hm
  obtain ⟨y, S2, hy, hm2⟩ := Rz.bind_ok hm
  rw [tst_f] at hm2
  cases hm2
  exact ⟨B, S, ρ, _, _, eo, so, hy, k⟩
theorem se_whyK {ci fi : Nat} {m : Str} {o : C} {ks : List C} {asm : List (Nat ⊕ D)} (s : PE X e (tE (gx X fa) fun ρ S => whyR (xcF cl (.methK ci fi m o ks asm) ρ S))) : SE fa cl X e (.whyK ci fi m o ks asm) := s.imp fun σ H Q q => by
  obtain ⟨B, S, ρ, z, S', eo, so, hm, k⟩ := q
  rw [ev] at hm
  obtain ⟨y, S2, hy, hm2⟩ := Rz.bind_ok hm
  rw [tst_f] at hm2
  cases hm2
  exact ⟨B, S, ρ, _, _, eo, so, hy, k⟩
theorem se_whyS {ci fi : Nat} {m : Str} {o : C} {cs : List C} {ds : List D} (s : PE X e (tE (gx X fa) fun ρ S => whyR (xcF cl (.meth ci fi m o cs ds) ρ S))) : SE fa cl X e (.whyS ci fi m o cs ds) := s.imp fun σ H Q q => by
  obtain ⟨B, S, ρ, z, S', eo, so, hm, k⟩ := q
  rw [ev] at hm
  obtain ⟨y, S2, hy, hm2⟩ := Rz.bind_ok hm
  rw [tst_f] at hm2
  cases hm2
  exact ⟨B, S, ρ, _, _, eo, so, hy, k⟩
end
end Fw

/-! The checker: a code is that of a piece of the program's syntax. -/
namespace Fw
open PySem PySem.Spec PyProof.Rows L2
mutual
def D.eqb : D → D → Bool
  | .non, .non => true
  | .bl a, .bl b => a == b
  | .int a, .int b => decide (a = b)
  | .str a, .str b => decide (a = b)
  | .tup a, .tup b => D.eqbL a b
  | .lst a, .lst b => D.eqbL a b
  | .scr a, .scr b => decide (a = b)
  | .fn a, .fn b => decide (a = b)
  | .ty a, .ty b => decide (a = b)
  | .kl a, .kl b => decide (a = b)
  | _, _ => false
def D.eqbL : List D → List D → Bool
  | [], [] => true
  | a :: as, b :: bs => D.eqb a b && D.eqbL as bs
  | _, _ => false
end
mutual
theorem D.eqb_eq : ∀ {a b : D}, D.eqb a b = true → a = b
  | .non, b, h => by cases b <;> simp_all [D.eqb]
  | .bl a, b, h => by cases b <;> simp_all [D.eqb]
  | .int a, b, h => by cases b <;> simp_all [D.eqb]
  | .str a, b, h => by cases b <;> simp_all [D.eqb]
  | .tup a, b, h => by
    cases b with
    | tup b => rw [D.eqbL_eq (show D.eqbL a b = true by simpa [D.eqb] using h)]
    | _ => simp [D.eqb] at h
  | .lst a, b, h => by
    cases b with
    | lst b => rw [D.eqbL_eq (show D.eqbL a b = true by simpa [D.eqb] using h)]
    | _ => simp [D.eqb] at h
  | .scr a, b, h => by cases b <;> simp_all [D.eqb]
  | .fn a, b, h => by cases b <;> simp_all [D.eqb]
  | .ty a, b, h => by cases b <;> simp_all [D.eqb]
  | .kl a, b, h => by cases b <;> simp_all [D.eqb]
theorem D.eqbL_eq : ∀ {a b : List D}, D.eqbL a b = true → a = b
  | [], b, h => by cases b <;> simp_all [D.eqbL]
  | a :: as, b, h => by
    cases b with
    | nil => simp [D.eqbL] at h
    | cons b bs =>
      rw [D.eqbL, Bool.and_eq_true] at h
      rw [D.eqb_eq h.1, D.eqbL_eq h.2]
end
def asmEq : List (Nat ⊕ D) → List (Nat ⊕ D) → Bool
  | [], [] => true
  | .inl a :: as, .inl b :: bs => decide (a = b) && asmEq as bs
  | .inr a :: as, .inr b :: bs => D.eqb a b && asmEq as bs
  | _, _ => false
theorem asmEq_eq : ∀ {a b : List (Nat ⊕ D)}, asmEq a b = true → a = b
  | [], [], _ => rfl
  | .inl a :: as, .inl b :: bs, h => by
    rw [asmEq, Bool.and_eq_true] at h
    rw [of_decide_eq_true h.1, asmEq_eq h.2]
  | .inr a :: as, .inr b :: bs, h => by
    rw [asmEq, Bool.and_eq_true] at h
    rw [D.eqb_eq h.1, asmEq_eq h.2]
  | [], _ :: _, h => by simp [asmEq] at h
  | .inl _ :: _, [], h => by simp [asmEq] at h
  | .inr _ :: _, [], h => by simp [asmEq] at h
  | .inl _ :: _, .inr _ :: _, h => by simp [asmEq] at h
  | .inr _ :: _, .inl _ :: _, h => by simp [asmEq] at h

/-- a def of the module; a def of a class; such a def with a star parameter -/
inductive FK where
  | glob | meth | star
  deriving DecidableEq
structure FI where
  name : Str
  qual : Str
  kind : FK
  ps : List Str
  dfl : List (Nat × List D)
  kwl : List (Nat × List Str × List (Nat ⊕ D))
/-- a class: its name, its __init__, its methods, its instances' attributes, its constants, its classmethods -/
structure CI where
  name : Str
  init : Option Nat
  meths : List (Str × Nat)
  flds : List Str
  csts : List (Str × D)
  cms : List (Str × Nat)
  prps : List (Str × Nat)
  ne : Bool
/-- an own exception -/
structure EI where
  name : Str
  x : Xi
structure Tb where
  fns : List FI
  blts : List Str
  csts : List (Str × D)
  cls : List CI
  excs : List EI
  why : Option Str
  kts : List (Str × List Nat)
structure Cc where
  T : Tb
  N : List Str
  sc : Scope
  fs : Option Scope
  lam : Bool
def kd (K : Cc) (x : Str) : Option NameKind := K.sc.names.lookup x
def visB (K : Cc) (x : Str) : Bool := match kd K x with
  | some .local => true
  | some .cell => true
  | some .free => true
  | _ => false
def ownB (K : Cc) (x : Str) : Bool := match kd K x with
  | some .local => true
  | some .cell => (match K.fs with
    | none => true
    | some s => (match s.names.lookup x with
      | some .cell => true
      | _ => false))
  | _ => false
def glB (K : Cc) (x : Str) : Bool := match kd K x with
  | some .globalImplicit => true
  | _ => false
def bltB (K : Cc) (x : Str) : Bool := glB K x && K.T.blts.any fun y => decide (y = x)
def slotB (K : Cc) (i : Nat) (x : Str) : Bool := decide (K.N[i]? = some x)
def plainNm (x : Str) : Bool := !decide (x = "__debug__") && !decide (x = "__classdict__") && !decide (x = "__name__")
def starB : Expr → Bool
  | .Starred _ _ => true
  | _ => false
def setB : Expr → Bool
  | .Set _ _ _ => true
  | _ => false
def slcB' : Expr → Bool
  | .Slice _ _ _ _ => true
  | _ => false
def compB : Expr → Bool
  | .ListComp _ _ _ _ => true
  | .SetComp _ _ _ _ => true
  | .DictComp _ _ _ _ _ => true
  | _ => false
def superB : Expr → Bool
  | .Call (.Name _ _) [] [] _ => true
  | _ => false
def Ty.nmS : Ty → Str
  | .tNone => "NoneType" | .tBool => "bool" | .tInt => "int" | .tStr => "str" | .tTup => "tuple" | .tLst => "list"
def tyB (K : Cc) (e : Expr) (t : Ty) : Bool := match e with
  | .Name x _ => decide (x = t.nmS) && bltB K x && !decide (t = .tNone)
  | _ => false
def tysB (K : Cc) : List Expr → List Ty → Bool
  | [], [] => true
  | e :: es, t :: ts => tyB K e t && tysB K es ts
  | _, _ => false
def fiB (K : Cc) (fi : Nat) (x : Str) (p : FI → Bool) : Bool := match K.T.fns[fi]? with
  | some I => decide (I.name = x) && glB K x && plainNm x && (decide (I.kind = .glob) && p I)
  | none => false
/-- every parameter can be given by its place -/
def posB (I : FI) : Bool := I.dfl.any fun q => decide (q.1 = I.ps.length) && q.2.isEmpty
/-- a def that takes n values, the rest by these defaults -/
def dflB (K : Cc) (fi n : Nat) (ds : List D) : Bool := match K.T.fns[fi]? with
  | some I => !decide (I.kind = .star) && I.dfl.any fun q => decide (q.1 = n) && D.eqbL q.2 ds
  | none => false
/-- a def that takes n values and these by name -/
def kwlB (K : Cc) (fi n : Nat) (nm : Option (List Str)) (asm : List (Nat ⊕ D)) : Bool := match K.T.fns[fi]?, nm with
  | some I, some nm => !decide (I.kind = .star) && I.kwl.any fun q => decide (q.1 = n) && decide (q.2.1 = nm) && asmEq q.2.2 asm
  | _, _ => false
def clB (K : Cc) (ci : Nat) (p : CI → Bool) : Bool := match K.T.cls[ci]? with
  | some c => p c
  | none => false
def noPar : Arguments → Bool
  | ⟨[], [], none, [], [], none, []⟩ => true
  | _ => false
def xiEq (a b : Xi) : Bool := decide (a.c = b.c) && decide (a.code = b.code) && decide (a.attr = b.attr)
def kwNames : List Keyword → Option (List Str)
  | [] => some []
  | ⟨some n, _, _⟩ :: r => (kwNames r).map (n :: ·)
  | ⟨none, _, _⟩ :: _ => none
def ownS (K : Cc) : List Nat → Option (List (Str × Nat))
  | [] => some []
  | i :: r => match K.N[i]?, ownS K r with
    | some x, some l => some ((x, i) :: l)
    | _, _ => none
mutual
def chkG (K : Cc) : Expr → Tg → Bool
  | .Name x _, .nm i => slotB K i x && ownB K x
  | .Tuple es _ _, .tp ts => chkGs K es ts
  | _, _ => false
def chkGs (K : Cc) : List Expr → List Tg → Bool
  | [], [] => true
  | e :: es, t :: ts => !starB e && chkG K e t && chkGs K es ts
  | _, _ => false
end
mutual
def chkE : Nat → Cc → Expr → C → Bool
  | 0, _, _, _ => false
  | n + 1, K, e, c => match c with
    | .var i => (match e with
      | .Name x _ => slotB K i x && visB K x && plainNm x
      | _ => false)
    | .cst d => (match e with
      | .Constant (.int i) _ _ => D.eqb d (.int i)
      | .Constant (.str i) _ _ => D.eqb d (.str i)
      | .Constant (.bool i) _ _ => D.eqb d (.bl i)
      | .Constant .none _ _ => D.eqb d .non
      | .Name x p => (match d with
        | .ty t => tyB K (.Name x p) t
        | .fn fi => fiB K fi x fun _ => true
        | _ => glB K x && plainNm x && K.T.csts.any fun q => decide (q.1 = x) && D.eqb q.2 d)
      | _ => false)
    | .bin op ca cb => (match e with
      | .BinOp a o b _ => decide (o = op) && chkE n K a ca && chkE n K b cb
      | _ => false)
    | .neg ca => (match e with
      | .UnaryOp .USub a _ => chkE n K a ca
      | _ => false)
    | .cmp op ca cb => (match e with
      | .Compare a [o] [b] _ => decide (o = op) && !setB b && chkE n K a ca && chkE n K b cb
      | _ => false)
    | .chain op op' ca cb cd => (match e with
      | .Compare a [o, o'] [b, d] _ => decide (o = op) && decide (o' = op') && !setB d && chkE n K a ca && chkE n K b cb && chkE n K d cd
      | _ => false)
    | .and ca cb => (match e with
      | .BoolOp .And [a, b] _ => chkE n K a ca && chkE n K b cb
      | .BoolOp .And (a :: b :: d :: r) p => chkE n K a ca && chkE n K (.BoolOp .And (b :: d :: r) p) cb
      | _ => false)
    | .or ca cb => (match e with
      | .BoolOp .Or [a, b] _ => chkE n K a ca && chkE n K b cb
      | .BoolOp .Or (a :: b :: d :: r) p => chkE n K a ca && chkE n K (.BoolOp .Or (b :: d :: r) p) cb
      | _ => false)
    | .not ca => (match e with
      | .UnaryOp .Not a _ => chkE n K a ca
      | _ => false)
    | .ite ct ca cb => (match e with
      | .IfExp t a b _ => chkT n K t ct && chkE n K a ca && chkE n K b cb
      | _ => false)
    | .tup cs => (match e with
      | .Tuple es _ _ => chkEs n K es cs
      | _ => false)
    | .lst cs => (match e with
      | .List es _ => chkEs n K es cs
      | _ => false)
    | .lstM cs => (match e with
      | .List es _ => chkEs n K es cs
      | _ => false)
    | .listM ca => (match e with
      | .Call (.Name x _) es [] _ => decide (x = "list") && bltB K x && chkEs n K es [ca]
      | _ => false)
    | .tupS fl cs => (match e with
      | .Tuple es _ _ => chkSt n K es fl cs
      | _ => false)
    | .lstS fl cs => (match e with
      | .List es _ => chkSt n K es fl cs
      | _ => false)
    | .dctP ca => (match e with
      | .Call (.Name x _) [a] [] _ => decide (x = "dict") && bltB K x && chkEs n K [a] [ca]
      | _ => false)
    | .dctN => (match e with
      | .Dict [] [] _ => true
      | _ => false)
    | .getD ca cb => (match e with
      | .Subscript a b _ => !slcB' b && chkE n K a ca && chkE n K b cb
      | _ => false)
    | .inD neg ca cb => (match e with
      | .Compare a [o] [b] _ => decide (o = if neg then .NotIn else .In) && !setB b && chkE n K a ca && chkE n K b cb
      | _ => false)
    | .getO co ca cb => (match e with
      | .Call (.Attribute o m ap) [a, b] [] p => decide (m = "get") && (ap.endLine == p.line) && !superB o && !starB a && !starB b && chkE n K o co && chkE n K a ca && chkE n K b cb
      | _ => false)
    | .sub ca cb => (match e with
      | .Subscript a b _ => !slcB' b && chkE n K a ca && chkE n K b cb
      | _ => false)
    | .slcL ca cb => (match e with
      | .Subscript a (.Slice (some b) none none _) _ => chkE n K a ca && chkE n K b cb
      | _ => false)
    | .slcH ca cb => (match e with
      | .Subscript a (.Slice none (some b) none _) _ => chkE n K a ca && chkE n K b cb
      | _ => false)
    | .slcB ca cb cd => (match e with
      | .Subscript a (.Slice (some b) (some d) none _) _ => chkE n K a ca && chkE n K b cb && chkE n K d cd
      | _ => false)
    | .call fi cs ds => (match e with
      | .Call (.Name x _) es [] _ => fiB K fi x (fun I => I.dfl.any fun q => decide (q.1 = cs.length) && D.eqbL q.2 ds) && chkEs n K es cs
      | _ => false)
    | .callK fi cs ks asm => (match e with
      | .Call (.Name x _) es kws _ => (match kwNames kws with
        | some nm => fiB K fi x (fun I => I.kwl.any fun q => decide (q.1 = cs.length) && decide (q.2.1 = nm) && asmEq q.2.2 asm) && chkEs n K es cs && chkKs n K kws ks && !nm.isEmpty
        | none => false)
      | _ => false)
    | .blt b cs => (match e with
      | .Call (.Name x _) es [] _ => decide (x = b.nm) && bltB K x && !cs.isEmpty && chkEs n K es cs
      | _ => false)
    | .mth .append co cs => (match e, cs with
      | .Call (.Attribute o m ap) [a] [] p, [ca] => decide (m = "append") && (ap.endLine == p.line) && !superB o && !starB a && chkE n K o co && chkE n K a ca
      | _, _ => false)
    | .mth .join co cs => (match e, cs with
      | .Call (.Attribute o m ap) [a] [] p, [ca] => decide (m = "join") && (ap.endLine == p.line) && !superB o && !starB a && chkE n K o co && chkE n K a ca
      | _, _ => false)
    | .mth .insert co cs => (match e, cs with
      | .Call (.Attribute o m ap) [a, b] [] p, [ca, cb] => decide (m = "insert") && (ap.endLine == p.line) && !superB o && chkE n K o co && chkEs n K [a, b] [ca, cb]
      | _, _ => false)
    | .comp k its t own cond ce => (match e with
      | .ListComp elt [⟨tg, iter, ifs, 0⟩] scope _ => (match ownS K own with
        | some ow => blkC K.N K.sc scope ow && chkI n K tg iter k its && chkG ⟨K.T, K.N, relS scope K.sc, some scope, K.lam⟩ tg t && (t.slots.all fun i => decide (i ∈ own)) && !setB iter &&
          chkC n ⟨K.T, K.N, relS scope K.sc, some scope, K.lam⟩ ifs cond && chkE n ⟨K.T, K.N, relS scope K.sc, some scope, K.lam⟩ elt ce
        | none => false)
      | _ => false)
    | .eqI neg ci fi ca cb => (match e with
      | .Compare a [o] [b] _ => decide (o = if neg then .NotEq else .Eq) && !setB b && clB K ci (fun c => (c.meths.any fun q => decide (q.1 = "__eq__") && decide (q.2 = fi)) && (!neg || c.ne)) && dflB K fi 2 [] && chkE n K a ca && chkE n K b cb
      | _ => false)
    | .isI ci co => (match e with
      | .Call (.Name x _) [o, .Name y _] [] _ => decide (x = "isinstance") && bltB K x && !starB o && glB K y && plainNm y && clB K ci (fun c => decide (c.name = y) && c.ne) && chkE n K o co
      | _ => false)
    | .eqD ca cb => (match e with
      | .Compare a [o] [b] _ => decide (o = .Eq) && !setB b && chkE n K a ca && chkE n K b cb
      | _ => false)
    | .compM i t own cond ce => (match e with
      | .ListComp elt [⟨tg, iter, ifs, 0⟩] scope _ => (match ownS K own with
        | some ow => blkC K.N K.sc scope ow && chkE n K iter i && chkG ⟨K.T, K.N, relS scope K.sc, some scope, K.lam⟩ tg t && (t.slots.all fun i => decide (i ∈ own)) && !setB iter &&
          chkC n ⟨K.T, K.N, relS scope K.sc, some scope, K.lam⟩ ifs cond && chkE n ⟨K.T, K.N, relS scope K.sc, some scope, K.lam⟩ elt ce
        | none => false)
      | _ => false)
    | .fstr cs => (match e with
      | .JoinedStr (a :: b :: r) _ => chkJ n K (a :: b :: r) cs
      | _ => false)
    | .fmt ca => (match e with
      | .FormattedValue a cv none _ => decide (cv = -1) && chkE n K a ca
      | .JoinedStr [.FormattedValue a cv none _] _ => decide (cv = -1) && chkE n K a ca
      | _ => false)
    | .isiT ca ts => (match e with
      | .Call (.Name x _) [a, .Tuple es _ _] [] _ => decide (x = "isinstance") && bltB K x && !starB a && chkE n K a ca && tysB K es ts && decide (ts.length ≤ LIM)
      | _ => false)
    | .maxD ca cd => (match e with
      | .Call (.Name x _) [a] [⟨some nm, d, _⟩] _ => decide (x = "max") && decide (nm = "default") && bltB K x && chkEs n K [a] [ca] && chkE n K d cd
      | _ => false)
    | .fld ci co m => (match e with
      | .Attribute o m' _ => decide (m' = m) && !superB o && clB K ci (fun c => c.flds.any fun y => decide (y = m)) && chkE n K o co
      | _ => false)
    | .ccst ci m d => (match e with
      | .Attribute (.Name x _) m' _ => decide (m' = m) && glB K x && plainNm x && clB K ci (fun c => decide (c.name = x) && c.csts.any fun q => decide (q.1 = m) && D.eqb q.2 d)
      | _ => false)
    | .app h cs => chkX n K e (.app h cs)
    | .meth ci fi m co cs ds => chkX n K e (.meth ci fi m co cs ds) || (match e with
      | .Attribute o m' _ => decide (m' = m) && !superB o && clB K ci (fun c => c.prps.any fun q => decide (q.1 = m) && decide (q.2 = fi)) && dflB K fi 1 [] && decide (cs.length = 0) && decide (ds.length = 0) && chkE n K o co
      | _ => false)
    | .whyAK fi cs ks asm => (match e with
      | .Call (.Name x _) [.Lambda params body scope _] [] _ => K.lam && decide (K.T.why = some x) && glB K x && plainNm x && LamX.lamSB K.sc scope && noPar params && chkX n ⟨K.T, K.N, scope, some scope, false⟩ body (.appK fi cs ks asm)
      | _ => false)
    | .whyA h cs => (match e with
      | .Call (.Name x _) [.Lambda params body scope _] [] _ => K.lam && decide (K.T.why = some x) && glB K x && plainNm x && LamX.lamSB K.sc scope && noPar params && chkX n ⟨K.T, K.N, scope, some scope, false⟩ body (.app h cs)
      | _ => false)
    | .whyS ci fi m co cs ds => (match e with
      | .Call (.Name x _) [.Lambda params body scope _] [] _ => K.lam && decide (K.T.why = some x) && glB K x && plainNm x && LamX.lamSB K.sc scope && noPar params && chkX n ⟨K.T, K.N, scope, some scope, false⟩ body (.meth ci fi m co cs ds)
      | _ => false)
    | .methK ci fi m co ks asm => chkX n K e (.methK ci fi m co ks asm)
    | .whyK ci fi m co ks asm => (match e with
      | .Call (.Name x _) [.Lambda params body scope _] [] _ => K.lam && decide (K.T.why = some x) && glB K x && plainNm x && LamX.lamSB K.sc scope && noPar params && chkX n ⟨K.T, K.N, scope, some scope, false⟩ body (.methK ci fi m co ks asm)
      | _ => false)
    | .nope => true
    | .dctK => (match e with
      | .Dict [] [] _ => true
      | _ => false)
    | .getK ca cb => (match e with
      | .Subscript a b _ => !slcB' b && chkE n K a ca && chkE n K b cb
      | _ => false)
    | .inK neg ca cb => (match e with
      | .Compare a [o] [b] _ => decide (o = if neg then .NotIn else .In) && !setB b && chkE n K a ca && chkE n K b cb
      | _ => false)
    | .keysK ca => (match e with
      | .Call (.Name x _) [a] [] _ => decide (x = "list") && bltB K x && chkEs n K [a] [ca]
      | _ => false)
    | .mkx xi cs => (match e, cs with
      | .Call (.Name x _) [a] [] _, [ca] => glB K x && plainNm x && !starB a && (K.T.excs.any fun q => decide (q.name = x) && xiEq q.x xi) && xi.attr.isSome && chkE n K a ca
      | .Call (.Name x _) [] [] _, [] => glB K x && plainNm x && (K.T.excs.any fun q => decide (q.name = x) && xiEq q.x xi) && !xi.attr.isSome
      | _, _ => false)
    | .fldX co nm al => (match e with
      | .Attribute o m' _ => decide (m' = nm) && !superB o && (decide (nm = "code") || decide (nm ∈ fldNames)) && decide (al = K.T.excs.map fun q => q.x.c) && chkE n K o co
      | _ => false)
    | .isX co q ns al => (match e with
      | .Call (.Name x _) [o, .Name y _] [] _ => decide (x = "isinstance") && bltB K x && !starB o && glB K y && plainNm y && decide (q = y) && (K.T.kts.any fun t => decide (t.1 = y) && decide (t.2 = ns)) && decide (al = K.T.excs.map fun q => q.x.c) && chkE n K o co
      | _ => false)
    | .callV i nf cs => (match e with
      | .Call (.Name x _) es [] _ => slotB K i x && visB K x && plainNm x && decide (nf ≤ K.T.fns.length) && ((K.T.fns.take nf).all fun I => !decide (I.kind = .star) && posB I) && !cs.isEmpty && chkEs n K es cs
      | _ => false)
def chkX : Nat → Cc → Expr → XC → Bool
  | 0, _, _, _ => false
  | n + 1, K, e, x => match x with
    | .app (.fn fi ds) cs => (match e with
      | .Call (.Name x _) es [] _ => fiB K fi x (fun I => I.dfl.any fun q => decide (q.1 = cs.length) && D.eqbL q.2 ds) && chkEs n K es cs
      | _ => false)
    | .appK fi cs ks asm => (match e with
      | .Call (.Name x _) es kws _ => (match kwNames kws with
        | some nm => fiB K fi x (fun I => I.kwl.any fun q => decide (q.1 = cs.length) && decide (q.2.1 = nm) && asmEq q.2.2 asm) && chkEs n K es cs && chkKs n K kws ks && !nm.isEmpty
        | none => false)
      | _ => false)
    | .app (.make ci fi ds) cs => (match e with
      | .Call (.Name x _) es [] _ => clB K ci (fun c => decide (c.name = x) && decide (c.init = some fi)) && glB K x && plainNm x && !cs.isEmpty && dflB K fi (cs.length + 1) ds && chkEs n K es cs
      | _ => false)
    | .app (.makeM ci fi ds) cs => (match e with
      | .Call (.Name x _) es [] _ => clB K ci (fun c => decide (c.name = x) && decide (c.init = some fi)) && glB K x && plainNm x && !cs.isEmpty && dflB K fi (cs.length + 1) ds && chkEs n K es cs
      | _ => false)
    | .app (.makeR ci fi _ ds) cs => (match e with
      | .Call (.Name x _) es [] _ => clB K ci (fun c => decide (c.name = x) && decide (c.init = some fi)) && glB K x && plainNm x && !cs.isEmpty && dflB K fi (cs.length + 1) ds && chkEs n K es cs
      | _ => false)
    | .app (.makeL i ci fi) cs => (match e with
      | .Call (.Name x _) es [] _ => clB K ci (fun c => decide (c.init = some fi)) && slotB K i x && visB K x && plainNm x && !cs.isEmpty && dflB K fi (cs.length + 1) [] && chkEs n K es cs
      | _ => false)
    | .app (.cmeth ci fi m) cs => (match e with
      | .Call (.Attribute (.Name x _) m' ap) es [] p => decide (m' = m) && (ap.endLine == p.line) && clB K ci (fun c => decide (c.name = x) && c.cms.any fun q => decide (q.1 = m) && decide (q.2 = fi)) && glB K x && plainNm x && decide (es.length < 30) && (match K.T.fns[fi]? with
        | some I => decide (I.kind = .star)
        | none => false) && chkEs n K es cs
      | _ => false)
    | .meth ci fi m co cs ds => (match e with
      | .Call (.Attribute o m' ap) es [] p => decide (m' = m) && (ap.endLine == p.line) && !superB o && clB K ci (fun c => c.meths.any fun q => decide (q.1 = m) && decide (q.2 = fi)) && dflB K fi (cs.length + 1) ds && decide (es.length < 30) && chkE n K o co && chkEs n K es cs
      | _ => false)
    | .methK ci fi m co ks asm => (match e with
      | .Call (.Attribute o m' ap) [] kws p => decide (m' = m) && (ap.endLine == p.line) && !superB o && clB K ci (fun c => c.meths.any fun q => decide (q.1 = m) && decide (q.2 = fi)) && kwlB K fi 1 (kwNames kws) asm && decide (kws.length < 29) && chkE n K o co && chkKs n K kws ks
      | _ => false)
def chkT : Nat → Cc → Expr → C → Bool
  | 0, _, _, _ => false
  | n + 1, K, e, c => match e with
    | .UnaryOp .Not a _ => (match c with
      | .not ca => chkT n K a ca
      | _ => false)
    | .BoolOp .And vs p => (match c, vs with
      | .and ca cb, [a, b] => chkT n K a ca && chkT n K b cb
      | .and ca cb, a :: b :: d :: r => chkT n K a ca && chkT n K (.BoolOp .And (b :: d :: r) p) cb
      | _, _ => false)
    | .BoolOp .Or vs p => (match c, vs with
      | .or ca cb, [a, b] => chkT n K a ca && chkT n K b cb
      | .or ca cb, a :: b :: d :: r => chkT n K a ca && chkT n K (.BoolOp .Or (b :: d :: r) p) cb
      | _, _ => false)
    | .Compare a ops bs p => (match c, ops, bs with
      | .cmp op ca cb, [o], [b] => decide (o = op) && !setB b && chkE n K a ca && chkE n K b cb
      | .inK neg ca cb, [o], [b] => decide (o = if neg then .NotIn else .In) && !setB b && chkE n K a ca && chkE n K b cb
      | .inD neg ca cb, [o], [b] => decide (o = if neg then .NotIn else .In) && !setB b && chkE n K a ca && chkE n K b cb
      | .eqI neg ci fi ca cb, [o], [b] => decide (o = if neg then .NotEq else .Eq) && !setB b && clB K ci (fun c => (c.meths.any fun q => decide (q.1 = "__eq__") && decide (q.2 = fi)) && (!neg || c.ne)) && dflB K fi 2 [] && chkE n K a ca && chkE n K b cb
      | .chain op op' ca cb cd, [o, o'], [b, d] => decide (o = op) && decide (o' = op') && !setB d && chkE n K a ca && chkE n K b cb && chkE n K d cd
      | _, _, _ => false)
    | .UnaryOp .USub _ _ => false
    | .UnaryOp .UAdd _ _ => false
    | .UnaryOp .Invert _ _ => false
    | .IfExp _ _ _ _ => false
    | e => chkE n K e c
def chkEs : Nat → Cc → List Expr → List C → Bool
  | 0, _, _, _ => false
  | _ + 1, _, [], [] => true
  | n + 1, K, e :: es, c :: cs => !starB e && chkE n K e c && chkEs n K es cs
  | _ + 1, _, _, _ => false
def chkSt : Nat → Cc → List Expr → List Bool → List C → Bool
  | 0, _, _, _, _ => false
  | _ + 1, _, [], [], [] => true
  | n + 1, K, e :: es, f :: fl, c :: cs => (if f then (match e with
      | .Starred a _ => chkE n K a c
      | _ => false) else !starB e && chkE n K e c) && chkSt n K es fl cs
  | _ + 1, _, _, _, _ => false
def chkJ : Nat → Cc → List Expr → List C → Bool
  | 0, _, _, _ => false
  | _ + 1, _, [], [] => true
  | n + 1, K, e :: es, c :: cs => chkE n K e c && chkJ n K es cs
  | _ + 1, _, _, _ => false
def chkKs : Nat → Cc → List Keyword → List C → Bool
  | 0, _, _, _ => false
  | _ + 1, _, [], [] => true
  | n + 1, K, ⟨_, e, _⟩ :: es, c :: cs => chkE n K e c && chkKs n K es cs
  | _ + 1, _, _, _ => false
def chkC : Nat → Cc → List Expr → Option C → Bool
  | 0, _, _, _ => false
  | _ + 1, _, [], none => true
  | n + 1, K, [e], some c => chkT n K e c
  | _ + 1, _, _, _ => false
def chkI : Nat → Cc → Expr → Expr → ItK → List C → Bool
  | 0, _, _, _, _, _ => false
  | n + 1, K, tg, e, k, its => match k with
    | .seq => (match its with
      | [c] => chkE n K e c
      | _ => false)
    | .range1 => (match e, its with
      | .Call (.Name x _) [a] [] _, [c] => decide (x = "range") && bltB K x && chkEs n K [a] [c]
      | _, _ => false)
    | .range2 => (match e, its with
      | .Call (.Name x _) [a, b] [] _, [c, d] => decide (x = "range") && bltB K x && chkEs n K [a, b] [c, d]
      | _, _ => false)
    | .zip => (match tg, e, its with
      | .Tuple _ _ _, .Call (.Name x _) [a, b] [] _, [c, d] => decide (x = "zip") && bltB K x && chkEs n K [a, b] [c, d]
      | _, _, _ => false)
    | .enum => (match tg, e, its with
      | .Tuple _ _ _, .Call (.Name x _) [a] [] _, [c] => decide (x = "enumerate") && bltB K x && chkEs n K [a] [c]
      | _, _, _ => false)
    | .keys => (match its with
      | [c] => chkE n K e c
      | _ => false)
end
mutual
def chkCX : Nat → Cc → Expr → CXx → Bool
  | 0, _, _, _ => false
  | n + 1, K, e, x => match x with
    | .p c => chkE n K e c
    | .x xc => chkX n K e xc
    | .tup cs => (match e with
      | .Tuple es _ _ => chkCXs n K es cs
      | _ => false)
    | .lst cs => (match e with
      | .List es _ => chkCXs n K es cs
      | _ => false)
    | .lstM cs => (match e with
      | .List es _ => chkCXs n K es cs
      | _ => false)
    | .neg c => (match e with
      | .UnaryOp .USub a _ => chkCX n K a c
      | _ => false)
    | .int c => (match e with
      | .Call (.Name x _) [a] [] _ => decide (x = (Blt.int).nm) && bltB K x && !starB a && chkCX n K a c
      | _ => false)
    | .app co c => (match e with
      | .Call (.Attribute o m ap) [a] [] p => decide (m = "append") && (ap.endLine == p.line) && !superB o && !starB a && chkE n K o co && chkCX n K a c
      | _ => false)
    | .getO co c cd => (match e with
      | .Call (.Attribute o m ap) [a, b] [] p => decide (m = "get") && (ap.endLine == p.line) && !superB o && !starB a && !starB b && chkE n K o co && chkCX n K a c && chkE n K b cd
      | _ => false)
def chkCXs : Nat → Cc → List Expr → List CXx → Bool
  | 0, _, _, _ => false
  | _ + 1, _, [], [] => true
  | n + 1, K, e :: es, c :: cs => !starB e && chkCX n K e c && chkCXs n K es cs
  | _ + 1, _, _, _ => false
end
/-! ### statements -/
def liveB : C → Bool
  | .compM _ _ _ _ _ => true
  | .nope => true
  | _ => false
/-- a list comprehension is stored from within -/
def swB (K : Cc) (tg e : Expr) : Bool := match tg, e with
  | .Name t p, .ListComp _ _ scope pos => (match kd K t with
    | some .local => true
    | _ => false) && (p.line == pos.line) && !(scope.names.any fun (n, k) => n == t && (k == .local || k == .cell))
  | _, _ => false
def locNm (K : Cc) (l : Nat) : Expr → Bool
  | .Name x p => (match kd K x with
    | some .local => true
    | _ => false) && p.line == l
  | _ => false
/-- no stores are exchanged -/
def noSwap (K : Cc) (tg e : Expr) : Bool := match tg, e with
  | .Tuple ts _ _, .Tuple _ _ _ => ts.any fun t => !locNm K ((ts.head?.map (·.pos.line)).getD 0) t
  | .List _ _, _ => false
  | _, _ => true
mutual
def chkS : Nat → Cc → Stmt → Sc → Bool
  | 0, _, _, _ => false
  | n + 1, K, s, c => match c with
    | .asg t ce => (match s with
      | .Assign [tg] e _ => chkE n K e ce && chkG K tg t && (if swB K tg e then (match t with
          | .nm _ => !liveB ce
          | _ => false) else noSwap K tg e && !starB tg && (match e with
          | .SetComp _ _ _ _ => false
          | .DictComp _ _ _ _ _ => false
          | _ => true))
      | _ => false)
    | .par i j ca cb => (match s with
      | .Assign [.Tuple [.Name x px, .Name y py] _ _] (.Tuple [a, b] _ _) _ => slotB K i x && slotB K j y && !decide (i = j) && !decide (x = y) && locNm K px.line (.Name x px) && locNm K px.line (.Name y py) &&
          !([a, b].all (foldedForSure 8)) && !([a, b].all (constantsAlone 8)) && chkEs n K [a, b] [ca, cb]
      | _ => false)
    | .parT i j ca cb => (match s with
      | .Assign [.Tuple [.Name x px, .Name y py] kt pt] (.Tuple [a, b] k2 pt2) _ => slotB K i x && slotB K j y && ownB K x && ownB K y && noSwap K (.Tuple [.Name x px, .Name y py] kt pt) (.Tuple [a, b] k2 pt2) && chkEs n K [a, b] [ca, cb]
      | _ => false)
    | .setI co ci cv => (match s with
      | .Assign [.Subscript o i _] v _ => !compB v && chkE n K o co && chkE n K i ci && chkE n K v cv && !slcB' i
      | _ => false)
    | .setD co ci cv => (match s with
      | .Assign [.Subscript o i _] v _ => !compB v && chkE n K o co && chkE n K i ci && chkE n K v cv && !slcB' i
      | _ => false)
    | .exp ce => (match s with
      | .Expr e _ => !compB e && chkE n K e ce
      | _ => false)
    | .ret ce => (match s with
      | .Return (some e) _ => chkE n K e ce
      | _ => false)
    | .retN => (match s with
      | .Return none _ => true
      | _ => false)
    | .ite ce xa xb => (match s with
      | .If e a b _ => chkT n K e ce && chkSs n K a xa && chkSs n K b xb
      | _ => false)
    | .for k its t xs => (match s with
      | .For tg iter body [] _ => chkI n K tg iter k its && chkG K tg t && !setB iter && chkSs n K body xs
      | _ => false)
    | .while ce xs => (match s with
      | .While e body [] _ => chkT n K e ce && chkSs n K body xs
      | _ => false)
    | .frz _ => false
    | .asgX t x => (match s with
      | .Assign [tg] e _ => chkX n K e x && chkG K tg t && noSwap K tg e && !starB tg && !compB e
      | _ => false)
    | .expX x => (match s with
      | .Expr e _ => !compB e && chkX n K e x
      | _ => false)
    | .retX x => (match s with
      | .Return (some e) _ => chkX n K e x
      | _ => false)
    | .raise xi cs => (match s, cs with
      | .Raise (some (.Call (.Name x _) [a] [] _)) none _, [c] => glB K x && plainNm x && !starB a && (K.T.excs.any fun q => decide (q.name = x) && xiEq q.x xi) && xi.attr.isSome && !decide (xi.attr = some ("code" : Str)) && !decide (xi.code = "NothingLeft") && chkE n K a c
      | _, _ => false)
    | .setF ci co m cv => (match s with
      | .Assign [.Attribute o m' _] v _ => decide (m' = m) && (match v with
          | .SetComp _ _ _ _ => false
          | .DictComp _ _ _ _ _ => false
          | _ => true) && clB K ci (fun c => c.flds.any fun y => decide (y = m)) && chkE n K o co && chkE n K v cv
      | _ => false)
    | .asgE t x => (match s with
      | .Assign [tg] e _ => chkCX n K e x && chkG K tg t && noSwap K tg e && !starB tg && !compB e
      | _ => false)
    | .asgS i j ce => (match s with
      | .Assign [.Tuple [.Name x px, .Starred (.Name y py) ps] kt pt] e _ => slotB K i x && slotB K j y && ownB K x && ownB K y && noSwap K (.Tuple [.Name x px, .Starred (.Name y py) ps] kt pt) e && !compB e && chkE n K e ce
      | _ => false)
    | .expE x => (match s with
      | .Expr e _ => !compB e && chkCX n K e x
      | _ => false)
    | .retE x => (match s with
      | .Return (some e) _ => chkCX n K e x
      | _ => false)
    | .augF ci co m sb cv => (match s with
      | .AugAssign (.Attribute o m' _) op v _ => decide (m' = m) && decide (op = if sb then .Sub else .Add) && clB K ci (fun c => c.flds.any fun y => decide (y = m)) && chkE n K o co && chkE n K v cv
      | _ => false)
    | .nope => true
    | .setK co ci cv => (match s with
      | .Assign [.Subscript o i _] v _ => !compB v && chkE n K o co && chkE n K i ci && chkE n K v cv && !slcB' i
      | _ => false)
    | .setR ci i0 m _ dk => (match s with
      | .Assign [.Attribute (.Name x _) m' _] v _ => decide (m' = m) && (match dk, v with
          | true, .Dict [] [] _ => true
          | false, .List [] _ => true
          | _, _ => false) && clB K ci (fun c => c.flds.any fun y => decide (y = m)) && slotB K i0 x && visB K x && plainNm x
      | _ => false)
    | .pass => (match s with
      | .Pass _ => true
      | _ => false)
    | .brk => (match s with
      | .Break _ => true
      | _ => false)
    | .cnt => (match s with
      | .Continue _ => true
      | _ => false)
def chkSs : Nat → Cc → List Stmt → List Sc → Bool
  | 0, _, _, _ => false
  | n + 1, K, ss, cs => match cs with
    | [] => ss.isEmpty
    | .frz _ :: cs => chkSs n K ss cs
    | [.nope] => true
    | c :: cs => (match ss with
      | s :: ss => chkS n K s c && chkSs n K ss cs
      | [] => false)
end
end Fw

/-! What is checked is sound. -/
namespace Fw
open PySem PySem.Spec PyProof.Rows L2
/-- what is known of a class -/
structure ClK (fa : Ad) (w : World) (K : PySem.W.Frag) (mg : Str → Option Value) (ci : Nat) (c : CI) : Prop where
  mgC : mg c.name = some (.ref (fa.c ci))
  cls : Cls K (fa.c ci)
  init : ∀ fi, c.init = some fi → Mk K (fa.c ci) (fa.f fi)
  meths : ∀ m fi, (m, fi) ∈ c.meths → Meth K (fa.c ci) m (fa.f fi)
  flds : ∀ n ∈ c.flds, NoAttr K (fa.c ci) n
  csts : ∀ n d, (n, d) ∈ c.csts → ∃ mc v u, ClX.CRead K (fa.c ci) mc ∧ ClX.CVal K (fa.c ci) mc n v u ∧ ∀ z, Dat ⟨K, fa, w⟩ z d v
  cms : ∀ m fi, (m, fi) ∈ c.cms → ∃ mc p, ClX.CRead K (fa.c ci) mc ∧ ClX.CMet K (fa.c ci) mc m p (fa.f fi)
  prps : ∀ m fi, (m, fi) ∈ c.prps → ∃ p, PropOf K (fa.c ci) m p (fa.f fi)
  nes : c.ne = true → PySem.W.findIn K (.ref (fa.c ci)) "__ne__" = some (some (.builtin "object.__ne__")) ∧ PySem.W.subIn K (.ref (fa.c ci)) (.type "object") = some true ∧ InsI K (fa.c ci)
/-- what is known of an own exception -/
structure ExK (fa : Ad) (P : Program) (w : World) (K : PySem.W.Frag) (mg : Str → Option Value) (base : Heap) (e : EI) : Prop where
  mgE : mg e.name = some (.ref (fa.c e.x.c))
  oex : OexG K (fa.c e.x.c)
  few : e.x.code ≠ "NothingLeft" → PySem.W.exmAny K (.ref (fa.c e.x.c)) [.ref fa.few, .ref fa.mis] = some true
  xf : XfC K (fa.c e.x.c)
  code : PySem.W.findIn K (.ref (fa.c e.x.c)) "code" = some none
  fld : ∀ y ∈ fldNames, PySem.W.findIn K (.ref (fa.c e.x.c)) y = some none
  fn : ∀ attr, e.x.attr = some attr → ∃ f fd ps, PySem.W.findIn K (.ref (fa.c e.x.c)) "__init__" = some (some (.ref f)) ∧ PySem.W.typeIn K (.ref f) = some (.type "function") ∧ FnOk P w K mg base (L2.CX P w) 5 f fd ps (spExc (fa.c e.x.c) e.x.code attr) ∧ Binds K fd ps []
  fn0 : e.x.attr = none → ∃ f fd ps, PySem.W.findIn K (.ref (fa.c e.x.c)) "__init__" = some (some (.ref f)) ∧ PySem.W.typeIn K (.ref f) = some (.type "function") ∧ FnOk P w K mg base (L2.CX P w) 5 f fd ps (spExc0 (fa.c e.x.c) e.x.code) ∧ Binds K fd ps []
/-- a class that an exception is asked for -/
def KtK (fa : Ad) (K : PySem.W.Frag) (mg : Str → Option Value) (es : List EI) (y : Str) (ns : List Nat) : Prop := ∃ v cv, (∀ u, RelV v u → u = cv) ∧ ((mg y = some cv ∧ RelV v cv) ∨ (mg y = none ∧ bootBuiltins y = some cv ∧ RelV v cv)) ∧ ∀ e ∈ es, ExcC K (fa.c e.x.c) ∧ PySem.W.kitOne K (.ref (fa.c e.x.c)) cv = some (ns.contains e.x.c)
/-- what is known of the whole table -/
structure TabK (T : Tb) (fa : Ad) (cl : Nat → List A → Store → Rz A) (k : Nat) (P : Program) (w : World) (K : PySem.W.Frag) (mg : Str → Option Value) (base : Heap) : Prop where
  fn : ∀ fi I, T.fns[fi]? = some I → I.kind ≠ .star → ∃ fd, FnOk P w K mg base (L2.CX P w) (4 * k + 8) (fa.f fi) fd I.ps (spX ⟨K, fa, w⟩ I.ps.length (cl fi)) ∧ (I.kind = .glob → mg I.name = some (.ref (fa.f fi))) ∧ PySem.W.keepIn K (.ref (fa.f fi)) = true ∧
    (∀ n ds, (n, ds) ∈ I.dfl → ∃ dsV dvs, Binds K fd I.ps dsV ∧ Vals dvs dsV ∧ (∀ z, DatL ⟨K, fa, w⟩ z ds dvs) ∧ n + ds.length = I.ps.length) ∧
    (∀ n ks asm, (n, ks, asm) ∈ I.kwl → KBA ⟨K, fa, w⟩ fd I.ps n ks asm) ∧ (posB I = true → Binds K fd I.ps []) ∧ ∀ xs S z S', cl fi xs S = .ok z S' → xs.length = I.ps.length
  star : ∀ fi I, T.fns[fi]? = some I → I.kind = .star → FnR P w K mg base (L2.CX P w) (4 * k + 8) (fa.f fi) (spStar ⟨K, fa, w⟩ (cl fi)) ∧ ∀ xs S z S', cl fi xs S = .ok z S' → xs.length = 2
  blt : ∀ x ∈ T.blts, mg x = none
  cst : ∀ x d, (x, d) ∈ T.csts → ∃ u v, mg x = some u ∧ RelV v u ∧ ∀ z, Dat ⟨K, fa, w⟩ z d v
  cls : ∀ ci c, T.cls[ci]? = some c → ClK fa w K mg ci c
  exc : ∀ e ∈ T.excs, ExK fa P w K mg base e
  why : ∀ x, T.why = some x → WhyK fa K mg x
  kts : ∀ y ns, (y, ns) ∈ T.kts → KtK fa K mg T.excs y ns
structure CxOk (K : Cc) (fa : Ad) (cl : Nat → List A → Store → Rz A) (k : Nat) (X : Cx) : Prop where
  hN : X.N = K.N
  nd : X.N.Nodup
  sce : X.env.scope = K.sc
  kind : K.sc.kind = .function
  calm : X.calm = true
  room : Room (4 * k + 9) X.A
  fne : ∀ x, (match K.fs with
    | none => true
    | some s => (match s.names.lookup x with
      | some .cell => true
      | _ => false)) = true → X.fn x = true
  tb : TabK K.T fa cl k X.prog X.w X.K X.mg X.base
  lamk : K.lam = true → LamK fa X ∧ Room (4 * k + 11) X.A
theorem CxOk.room8 {K : Cc} {fa : Ad} {cl : Nat → List A → Store → Rz A} {k : Nat} {X : Cx} (h : CxOk K fa cl k X) : Room (4 * k + 8) X.A := h.room.mono (by omega)
theorem CxOk.tab {K : Cc} {fa : Ad} {cl : Nat → List A → Store → Rz A} {k : Nat} {X : Cx} (h : CxOk K fa cl k X) : ∀ fi I, K.T.fns[fi]? = some I → I.kind ≠ .star → ∃ fd, FnOk X.prog X.w X.K X.mg X.base (L2.CX X.prog X.w) (4 * k + 8) (fa.f fi) fd I.ps (spF (gx X fa) I.ps.length (cl fi)) ∧ (I.kind = .glob → X.mg I.name = some (.ref (fa.f fi))) ∧ PySem.W.keepIn X.K (.ref (fa.f fi)) = true ∧
    (∀ n ds, (n, ds) ∈ I.dfl → ∃ dsV dvs, Binds X.K fd I.ps dsV ∧ Vals dvs dsV ∧ (∀ z, DatL (gx X fa) z ds dvs) ∧ n + ds.length = I.ps.length) ∧
    (∀ n ks asm, (n, ks, asm) ∈ I.kwl → KBA (gx X fa) fd I.ps n ks asm) ∧ (posB I = true → Binds X.K fd I.ps []) ∧ ∀ xs S z S', cl fi xs S = .ok z S' → xs.length = I.ps.length := fun fi I hI hk => by
  obtain ⟨fd, F, r⟩ := h.tb.fn fi I hI hk
  exact ⟨fd, F.imp fun vs H Q E q => spX_of q, r⟩
section
variable {K : Cc} {fa : Ad} {cl : Nat → List A → Store → Rz A} {k wf : Nat} {X : Cx}
theorem CxOk.blk (h : CxOk K fa cl k X) (s : Shared) (H : Hp) (scope : Scope) (cls : List (Str × Addr)) (C : Addr) (fp : List Addr) (hk : scope.kind = .function) :
    CxOk ⟨K.T, K.N, relS scope K.sc, some scope, K.lam⟩ fa cl k (X.blk s H scope (compEnvC scope cls C X.env) fp) where
  hN := h.hN
  nd := h.nd
  sce := by
    show relabel scope X.env = relS scope K.sc
    rw [← h.sce]
    rfl
  kind := hk
  calm := h.calm
  room := h.room
  fne := fun x hx => by
    show (scope.names.lookup x == some NameKind.cell) = true
    dsimp only at hx
    split at hx
    · rename_i e
      rw [e]
      rfl
    · cases hx
  tb := h.tb
  lamk := fun hl => by
    obtain ⟨⟨h1⟩, h2⟩ := h.lamk hl
    exact ⟨⟨h1⟩, h2⟩
theorem kd_eq (h : CxOk K fa cl k X) (x : Str) : X.env.scope.names.lookup x = kd K x := by
  rw [h.sce]
  rfl
theorem vis_of (h : CxOk K fa cl k X) {x : Str} (hv : visB K x = true) : Vis X.env.scope x := by
  unfold Vis
  rw [kd_eq h]
  unfold visB at hv
  split at hv
  · rename_i e; exact .inl e
  · rename_i e; exact .inr (.inl e)
  · rename_i e; exact .inr (.inr e)
  · cases hv
theorem gl_of (h : CxOk K fa cl k X) {x : Str} (hv : glB K x = true) : Gl X x := by
  show X.env.scope.names.lookup x = _
  rw [kd_eq h]
  unfold glB at hv
  split at hv
  · rename_i e; exact e
  · cases hv
theorem own_of (h : CxOk K fa cl k X) {x : Str} (hv : ownB K x = true) : Loc X.env.scope x ∧ (X.fn x = true ∨ X.env.scope.names.lookup x = some .local) := by
  unfold L2.Loc
  rw [kd_eq h]
  unfold ownB at hv
  split at hv
  · rename_i e; exact ⟨.inl e, .inr e⟩
  · rename_i e; exact ⟨.inr e, .inl (h.fne x hv)⟩
  · cases hv
theorem slot_of (h : CxOk K fa cl k X) {x : Str} {i : Nat} (hs : slotB K i x = true) : X.N[i]? = some x := by
  rw [h.hN]
  exact of_decide_eq_true hs
theorem blt_of (h : CxOk K fa cl k X) {x : Str} (hv : bltB K x = true) : Gl X x ∧ X.mg x = none := by
  unfold bltB at hv
  rw [Bool.and_eq_true, List.any_eq_true] at hv
  obtain ⟨h1, y, hy, e⟩ := hv
  have e := of_decide_eq_true e
  subst e
  exact ⟨gl_of h h1, h.tb.blt y hy⟩
theorem nm_of {x : Str} (h : plainNm x = true) : (x == ("__debug__" : Str)) = false ∧ (x == ("__classdict__" : Str)) = false ∧ x ≠ "__name__" := by
  unfold plainNm at h
  rw [Bool.and_eq_true, Bool.and_eq_true] at h
  obtain ⟨⟨h1, h2⟩, h3⟩ := h
  have q : ∀ {y : Str}, (!decide (x = y)) = true → x ≠ y := fun {y} z e => by
    rw [decide_eq_true e] at z
    cases z
  exact ⟨by rw [beq_eq_false_iff_ne]; exact q h1, by rw [beq_eq_false_iff_ne]; exact q h2, q h3⟩
theorem star_cons {e : Expr} {es : List Expr} {env : PySem.Env} (h : (!starB e) = true) : starEach (e :: es) env = (false, eval e env) :: starEach es env := by
  cases e <;> first | rfl | (simp [starB] at h)
theorem star_any {pos : Pos} {env : PySem.Env} : ∀ {es : List Expr}, (∀ e ∈ es, (!starB e) = true) → (backTo pos (starEach es env)).any (·.1) = false
  | [], _ => rfl
  | e :: es, h => by
    rw [star_cons (h e (List.mem_cons_self ..))]
    show (false || (backTo pos (starEach es env)).any (·.1)) = false
    rw [star_any fun e he => h e (List.mem_cons_of_mem _ he)]
    rfl
theorem star_all {pos : Pos} {env : PySem.Env} : ∀ {es : List Expr}, (∀ e ∈ es, (!starB e) = true) → (backTo pos (starEach es env)).all (fun x => !x.1) = true
  | [], _ => rfl
  | e :: es, h => by
    rw [star_cons (h e (List.mem_cons_self ..))]
    show (!false && (backTo pos (starEach es env)).all (fun x => !x.1)) = true
    rw [star_all fun e he => h e (List.mem_cons_of_mem _ he)]
    rfl
theorem notset_of {e : Expr} (h : (!setB e) = true) : ∀ es k p, e ≠ .Set es k p := fun es k p z => by
  rw [z] at h
  simp [setB] at h
theorem folded_of {e : Expr} {env : PySem.Env} (h : (!setB e) = true) : ∀ x, foldedSetIterable e env x = pure x := fun x => by
  cases e <;> first | rfl | (simp [setB] at h)
theorem base_of {o : Expr} {nm : Str} {env : PySem.Env} (h : (!superB o) = true) : attributeBase o nm env (eval o env) = eval o env := by
  cases o with
  | Call f es ks p => cases f with
    | Name x q => cases es with
      | nil => cases ks with
        | nil => simp [superB] at h
        | cons _ _ => rfl
      | cons _ _ => rfl
    | _ => rfl
  | _ => rfl
theorem ix_of {b : Expr} (h : (!slcB' b) = true) : PlainIx b := fun o i => by
  cases b <;> first | rfl | (simp [slcB'] at h)
theorem swap_no {e : Expr} {t : Option Expr} {l : Nat} {env : PySem.Env} (h : (!compB e) = true) : swapsWith e t l env = pure false := by
  cases e <;> first | rfl | (simp [compB] at h)
theorem kw_of {pos : Pos} {env : PySem.Env} : ∀ {kws : List Keyword} {nm : List Str}, kwNames kws = some nm → (backToKw pos (keywordEach kws env)).all (·.1.isSome) = true ∧ (backToKw pos (keywordEach kws env)).filterMap (·.1) = nm ∧ (backToKw pos (keywordEach kws env)).any (·.1.isNone) = false ∧ kws.length = nm.length
  | [], nm, h => by
    cases h
    exact ⟨rfl, rfl, rfl, rfl⟩
  | ⟨some n, v, p⟩ :: r, nm, h => by
    rw [kwNames] at h
    cases q : kwNames r with
    | none => rw [q] at h; cases h
    | some ns =>
      rw [q] at h
      cases h
      obtain ⟨h1, h2, h3, h4⟩ := kw_of (pos := pos) (env := env) q
      refine ⟨?_, ?_, ?_, by rw [List.length_cons, List.length_cons, h4]⟩
      · show (true && (backToKw pos (keywordEach r env)).all (·.1.isSome)) = true
        rw [h1]
        rfl
      · show n :: (backToKw pos (keywordEach r env)).filterMap (·.1) = n :: ns
        rw [h2]
      · show (false || (backToKw pos (keywordEach r env)).any (·.1.isNone)) = false
        rw [h3]
        rfl
  | ⟨none, v, p⟩ :: r, nm, h => by cases h
theorem ownS_map : ∀ {own : List Nat} {ow : List (Str × Nat)}, ownS K own = some ow → ow.map (·.2) = own
  | [], ow, h => by
    cases h
    rfl
  | i :: r, ow, h => by
    rw [ownS] at h
    split at h
    · rename_i x l h1 h2
      cases h
      rw [List.map_cons, ownS_map h2]
    · cases h
theorem ty_pe (h : CxOk K fa cl k X) {e : Expr} {t : Ty} (hv : tyB K e t = true) : PE X e (tC (.ty t.nm)) := by
  unfold tyB at hv
  split at hv
  · rename_i x p
    rw [Bool.and_eq_true, Bool.and_eq_true] at hv
    obtain ⟨⟨h1, h2⟩, h3⟩ := hv
    have h1 := of_decide_eq_true h1
    subst h1
    obtain ⟨hg, hm⟩ := blt_of h h2
    have hb : bootBuiltins t.nmS = some (.type t.nm) := by cases t <;> first | (decide +kernel) | (simp at h3)
    have hn : t.nmS ≠ "__name__" := by cases t <;> decide +kernel
    have hd : (t.nmS == ("__debug__" : Str)) = false := by cases t <;> decide +kernel
    exact pe_bltn hg hm hb rfl hn hd
  · cases hv
theorem tys_pe (h : CxOk K fa cl k X) : ∀ {es : List Expr} {ts : List Ty}, tysB K es ts = true → TyNames X es ts
  | [], [], _ => .nil
  | e :: es, t :: ts, hv => by
    rw [tysB, Bool.and_eq_true] at hv
    refine .cons (ty_pe h hv.1) (star_cons ?_) (tys_pe h hv.2)
    have := hv.1
    unfold tyB at this
    split at this
    · rfl
    · cases this
  | [], _ :: _, hv => by cases hv
  | _ :: _, [], hv => by cases hv
theorem fi_of (h : CxOk K fa cl k X) {fi : Nat} {x : Str} {p : FI → Bool} (hv : fiB K fi x p = true) : ∃ I, K.T.fns[fi]? = some I ∧ I.name = x ∧ Gl X x ∧ plainNm x = true ∧ p I = true ∧ I.kind = .glob := by
  unfold fiB at hv
  split at hv
  · rename_i I hI
    rw [Bool.and_eq_true, Bool.and_eq_true, Bool.and_eq_true] at hv
    obtain ⟨⟨⟨h1, h2⟩, h3⟩, h4⟩ := hv
    rw [Bool.and_eq_true] at h4
    exact ⟨I, hI, of_decide_eq_true h1, gl_of h h2, h3, h4.2, of_decide_eq_true h4.1⟩
  · cases hv
theorem pass_of : Passes (L2.CX X.prog X.w) X E0 := passN
mutual
theorem sg_of (h : CxOk K fa cl k X) : ∀ (e : Expr) (t : Tg), chkG K e t = true → SG fa X e t
  | .Name x p, .nm i, hv => by
    rw [chkG, Bool.and_eq_true] at hv
    obtain ⟨h1, h2⟩ := own_of h hv.2
    exact sg_name h.nd (slot_of h hv.1) h1 h2
  | .Tuple es kk p, .tp ts, hv => by
    rw [chkG] at hv
    obtain ⟨h1, h2, h3⟩ := sgs_of h es ts hv
    exact sg_tup h.calm h1 h2 h3
  | .Name _ _, .tp _, hv => by simp [chkG] at hv
  | .Tuple _ _ _, .nm _, hv => by simp [chkG] at hv
  | .BoolOp .., t, hv => by simp [chkG] at hv
  | .NamedExpr .., t, hv => by simp [chkG] at hv
  | .BinOp .., t, hv => by simp [chkG] at hv
  | .UnaryOp .., t, hv => by simp [chkG] at hv
  | .Lambda .., t, hv => by simp [chkG] at hv
  | .IfExp .., t, hv => by simp [chkG] at hv
  | .Dict .., t, hv => by simp [chkG] at hv
  | .Set .., t, hv => by simp [chkG] at hv
  | .ListComp .., t, hv => by simp [chkG] at hv
  | .SetComp .., t, hv => by simp [chkG] at hv
  | .DictComp .., t, hv => by simp [chkG] at hv
  | .GeneratorExp .., t, hv => by simp [chkG] at hv
  | .Await .., t, hv => by simp [chkG] at hv
  | .Yield .., t, hv => by simp [chkG] at hv
  | .YieldFrom .., t, hv => by simp [chkG] at hv
  | .Compare .., t, hv => by simp [chkG] at hv
  | .Call .., t, hv => by simp [chkG] at hv
  | .FormattedValue .., t, hv => by simp [chkG] at hv
  | .JoinedStr .., t, hv => by simp [chkG] at hv
  | .Constant .., t, hv => by simp [chkG] at hv
  | .Attribute .., t, hv => by simp [chkG] at hv
  | .Subscript .., t, hv => by simp [chkG] at hv
  | .Starred .., t, hv => by simp [chkG] at hv
  | .List .., t, hv => by simp [chkG] at hv
  | .Slice .., t, hv => by simp [chkG] at hv
theorem sgs_of (h : CxOk K fa cl k X) : ∀ (es : List Expr) (ts : List Tg), chkGs K es ts = true → SGs fa X es ts ∧ (assignEach es X.env).length = ts.length ∧ (assignEach es X.env).findIdx? (·.1) = none
  | [], [], _ => ⟨sgs_nil, rfl, rfl⟩
  | e :: es, t :: ts, hv => by
    rw [chkGs, Bool.and_eq_true, Bool.and_eq_true] at hv
    obtain ⟨⟨h1, h2⟩, h3⟩ := hv
    obtain ⟨a, b, c⟩ := sgs_of h es ts h3
    have e1 : assignEach (e :: es) X.env = (false, assign e X.env) :: assignEach es X.env := by
      cases e <;> first | rfl | (simp [starB] at h1)
    refine ⟨sgs_cons (sg_of h e t h2) a (by rw [e1]; rfl), by rw [e1, List.length_cons, List.length_cons, b], ?_⟩
    rw [e1, List.findIdx?_cons]
    simp only [Bool.false_eq_true, if_false]
    rw [c]
    rfl
  | [], _ :: _, hv => by simp [chkGs] at hv
  | _ :: _, [], hv => by simp [chkGs] at hv
end
end
end Fw

/-! What is checked is sound: the expressions. -/
namespace Fw
open PySem PySem.Spec PyProof.Rows L2
/-- what the checker's answers are worth at n -/
structure Snd (fa : Ad) (cl : Nat → List A → Store → Rz A) (k n : Nat) : Prop where
  e : ∀ K X, CxOk K fa cl k X → ∀ e c, chkE n K e c = true → SE fa cl X e c
  t : ∀ K X, CxOk K fa cl k X → ∀ e c, chkT n K e c = true → ST fa cl X e c ∧ ∀ op vs p, e = .BoolOp op vs p → SW fa cl X e c
  es : ∀ K X, CxOk K fa cl k X → ∀ e c, chkEs n K e c = true → SA fa cl X e c ∧ e.length = c.length ∧ ∀ x ∈ e, (!starB x) = true
  st : ∀ K X, CxOk K fa cl k X → ∀ e fl c, chkSt n K e fl c = true → SAS fa cl X e fl c
  j : ∀ K X, CxOk K fa cl k X → ∀ e c, chkJ n K e c = true → SJ fa cl X e c
  ks : ∀ K X, CxOk K fa cl k X → ∀ e c, chkKs n K e c = true → SK fa cl X e c ∧ e.length = c.length
  c : ∀ K X, CxOk K fa cl k X → ∀ e c, chkC n K e c = true → SCond fa cl X e c
  i : ∀ K X, CxOk K fa cl k X → ∀ tg e kk its, chkI n K tg e kk its = true → SI fa cl X tg e kk its
  x : ∀ K X, CxOk K fa cl k X → ∀ E, Passes (L2.CX X.prog X.w) X E → ∀ e x, chkX n K e x = true → SX fa cl E X e x
theorem bt {a b : Bool} (h : (a && b) = true) : a = true ∧ b = true := by
  rw [Bool.and_eq_true] at h
  exact h
section
variable {K : Cc} {fa : Ad} {cl : Nat → List A → Store → Rz A} {k n : Nat} {X : Cx}
theorem cl_of {K : Cc} {ci : Nat} {p : CI → Bool} (h : clB K ci p = true) : ∃ c, K.T.cls[ci]? = some c ∧ p c = true := by
  unfold clB at h
  split at h
  · rename_i c hc
    exact ⟨c, hc, h⟩
  · cases h
theorem dfl_of {K : Cc} {fi m : Nat} {ds : List D} (h : dflB K fi m ds = true) : ∃ I, K.T.fns[fi]? = some I ∧ I.kind ≠ .star ∧ (m, ds) ∈ I.dfl := by
  unfold dflB at h
  split at h
  · rename_i I hI
    obtain ⟨h1, h2⟩ := bt h
    rw [List.any_eq_true] at h2
    obtain ⟨⟨m', ds'⟩, hm, hq⟩ := h2
    obtain ⟨q1, q2⟩ := bt hq
    have q1 : m' = m := of_decide_eq_true q1
    have q2 : ds' = ds := D.eqbL_eq q2
    refine ⟨I, hI, fun z => ?_, by rw [← q1, ← q2]; exact hm⟩
    rw [z] at h1
    cases h1
  · cases h
theorem kwl_of {K : Cc} {fi m : Nat} {nm : Option (List Str)} {asm : List (Nat ⊕ D)} (h : kwlB K fi m nm asm = true) : ∃ I ks, K.T.fns[fi]? = some I ∧ nm = some ks ∧ I.kind ≠ .star ∧ (m, ks, asm) ∈ I.kwl := by
  unfold kwlB at h
  split at h
  · rename_i I ks hI
    obtain ⟨h1, h2⟩ := bt h
    rw [List.any_eq_true] at h2
    obtain ⟨⟨m', ks', asm'⟩, hm, hq⟩ := h2
    obtain ⟨hq, q3⟩ := bt hq
    obtain ⟨q1, q2⟩ := bt hq
    have q1 : m' = m := of_decide_eq_true q1
    have q2 : ks' = ks := of_decide_eq_true q2
    have q3 : asm' = asm := asmEq_eq q3
    refine ⟨I, ks, hI, rfl, fun z => ?_, by rw [← q1, ← q2, ← q3]; exact hm⟩
    rw [z] at h1
    cases h1
  · cases h
theorem meth_htK {o : Expr} {m : Str} {apos pos : Pos} {kws : List Keyword} {env : PySem.Env} (hb : attributeBase o m env (eval o env) = eval o env) (hall : (backToKw pos (keywordEach kws env)).all (·.1.isSome) = true) (hlen : kws.length < 29) (hl : (apos.endLine == pos.line) = true) :
    eval (.Call (.Attribute o m apos) [] kws pos) env = (do
      let ov ← eval o env
      standAt apos.atName
      let (f, first) ← holding [ov] (getMethod ov m (do return (← importBound o env).getD true))
      callWith pos f first (backTo pos (starEach [] env)) (backToKw pos (keywordEach kws env))) := by
  have hf : methodCallForm (([] : List Expr).length + kws.length) (backTo pos (starEach [] env)) (backToKw pos (keywordEach kws env)) = true := by
    unfold methodCallForm
    rw [hall]
    show (true && true && decide (0 + kws.length + _ < 30)) = true
    rw [Bool.true_and, Bool.true_and, decide_eq_true_eq]
    split <;> omega
  rw [arm_eval_Call, hb]
  unfold methodCall calleeOf methodCallPos
  rw [hf, hl]
  rfl
theorem par_of {params : Arguments} (h : noPar params = true) : params = ⟨[], [], none, [], [], none, []⟩ := by
  unfold noPar at h
  split at h
  · rfl
  · cases h
theorem meth_ht {o : Expr} {m : Str} {apos pos : Pos} {es : List Expr} {env : PySem.Env} (hb : attributeBase o m env (eval o env) = eval o env) (hall : (backTo pos (starEach es env)).all (fun x => !x.1) = true) (hlen : es.length < 30) (hl : (apos.endLine == pos.line) = true) :
    eval (.Call (.Attribute o m apos) es [] pos) env = (do
      let ov ← eval o env
      standAt apos.atName
      let (f, first) ← holding [ov] (getMethod ov m (do return (← importBound o env).getD true))
      callWith pos f first (backTo pos (starEach es env)) (backToKw pos (keywordEach [] env))) := by
  have hf : methodCallForm (es.length + ([] : List Keyword).length) (backTo pos (starEach es env)) (backToKw pos (keywordEach [] env)) = true := by
    unfold methodCallForm
    rw [hall]
    show (true && true && decide (es.length + 0 + 0 < 30)) = true
    rw [Bool.true_and, Bool.true_and, decide_eq_true_eq]
    omega
  rw [arm_eval_Call, hb]
  unfold methodCall calleeOf methodCallPos
  rw [hf, hl]
  rfl
theorem lam_ok (h : CxOk K fa cl k X) {A : Around} {outer : List PySem.Env} {s : Shared} {H : Hp} {E : XK} {scope : Scope} {f c' : Addr} (L : LamX.LamS X.env.scope scope) (hr : Room (4 * k + 9) (A.deeper (LamX.lamEnv X scope s.heap.objs.size f c'))) :
    CxOk ⟨K.T, K.N, scope, some scope, false⟩ fa cl k (LamX.lamCx X A outer s H E scope f c') where
  hN := h.hN
  nd := h.nd
  sce := rfl
  kind := L.kind
  calm := rfl
  room := hr
  fne := fun x hx => by
    dsimp only at hx
    split at hx
    · rename_i e
      exact absurd rfl (L.own _ (PySem.mem_of_lookup e)).2
    · cases hx
  tb := h.tb
  lamk := fun z => by cases z
theorem why_of (S : Snd fa cl k n) (h : CxOk K fa cl k X) {x : Str} {p lpos pos : Pos} {params : Arguments} {body : Expr} {scope : Scope} {xc : XC} (hc : (K.lam && decide (K.T.why = some x) && glB K x && plainNm x && LamX.lamSB K.sc scope && noPar params && chkX n ⟨K.T, K.N, scope, some scope, false⟩ body xc) = true) :
    PE X (.Call (.Name x p) [.Lambda params body scope lpos] [] pos) (tE (gx X fa) fun ρ S => whyR (xcF cl xc ρ S)) := by
  obtain ⟨hc, h7⟩ := bt hc
  obtain ⟨hc, h6⟩ := bt hc
  obtain ⟨hc, h5⟩ := bt hc
  obtain ⟨hc, h4⟩ := bt hc
  obtain ⟨hc, h3⟩ := bt hc
  obtain ⟨h1, h2⟩ := bt hc
  obtain ⟨lk, hr⟩ := h.lamk h1
  have L : LamX.LamS X.env.scope scope := by
    rw [h.sce]
    exact LamX.lamS_by h5
  have hp := par_of h6
  subst hp
  refine pe_why (k := 4 * k + 7) (gl_of h h3) (h.tb.why _ (of_decide_eq_true h2)) lk hr L rfl (fun _ _ _ _ _ => rfl) (fun A outer s H E f c' hr' => ?_) (nm_of h4).1
  have tk : Takes (LamX.lamCx X A outer s H E scope f c') (fun cls d _ H => E cls d H) := takes_of rfl rfl rfl (E₁ := fun e' s'' => L2.CX X.prog X.w outer H s E e' s'') rfl
  exact S.x _ _ (lam_ok h L hr') E (passes_call tk fun _ _ _ _ q => q) _ _ h7
theorem passNox {X : Cx} : Passes (L2.CX X.prog X.w) X.nox E0 := fun _ _ _ _ _ _ _ z => (L2.CX.no z).elim
theorem nil_binds {g : G} {fd : FuncData} {ps : List Str} {dsV : List Value} {dvs : List V} {K0 : PySem.W.Frag} (hb : Binds K0 fd ps dsV) (hv : Vals dvs dsV) (hd : ∀ z, DatL g z [] dvs) : Binds K0 fd ps [] := by
  have e : dvs = [] := hd ⟨⟨[], []⟩, [], fun _ => none⟩
  subst e
  cases hv
  exact hb
theorem eqI_of (h : CxOk K fa cl k X) {neg : Bool} {ci fi : Nat} (hc : clB K ci (fun c => (c.meths.any fun q => decide (q.1 = "__eq__") && decide (q.2 = fi)) && (!neg || c.ne)) = true) (hd : dflB K fi 2 [] = true) :
    ∃ f fd ps, Meth X.K (fa.c ci) "__eq__" f ∧ (neg = true → PySem.W.findIn X.K (.ref (fa.c ci)) "__ne__" = some (some (.builtin "object.__ne__")) ∧ PySem.W.subIn X.K (.ref (fa.c ci)) (.type "object") = some true) ∧
      FnOk X.prog X.w X.K X.mg X.base (L2.CX X.prog X.w) (4 * k + 8) f fd ps (spX (gx X fa) 2 (cl fi)) ∧ Binds X.K fd ps [] := by
  obtain ⟨c0, hc0, hc⟩ := cl_of hc
  obtain ⟨h1, h2⟩ := bt hc
  rw [List.any_eq_true] at h1
  obtain ⟨⟨y, fi'⟩, hy, e⟩ := h1
  obtain ⟨q1, q2⟩ := bt e
  have r1 := of_decide_eq_true q1
  have r2 := of_decide_eq_true q2
  dsimp only at r1 r2
  subst r1
  subst r2
  have ck := h.tb.cls _ _ hc0
  obtain ⟨I, hI, hns, hm⟩ := dfl_of hd
  obtain ⟨fd, F, _, _, hdf, _⟩ := h.tb.fn _ I hI hns
  obtain ⟨dsV, dvs, hb, hv, hdd, hl⟩ := hdf _ _ hm
  refine ⟨_, fd, I.ps, ck.meths _ _ hy, fun hn => ⟨(ck.nes ?_).1, (ck.nes ?_).2.1⟩, ?_, nil_binds hb hv hdd⟩
  · subst hn
    simpa using h2
  · subst hn
    simpa using h2
  · have : I.ps.length = 2 := by rw [← hl]; rfl
    rw [this] at F
    exact F
theorem prp_of (h : CxOk K fa cl k X) {ci fi : Nat} {m : Str} (hc : clB K ci (fun c => c.prps.any fun q => decide (q.1 = m) && decide (q.2 = fi)) = true) (hd : dflB K fi 1 [] = true) :
    ∃ p f fd ps, Cls X.K (fa.c ci) ∧ PropOf X.K (fa.c ci) m p f ∧ FnOk X.prog X.w X.K X.mg X.base (L2.CX X.prog X.w) (4 * k + 8) f fd ps (spX (gx X fa) 1 (cl fi)) ∧ Binds X.K fd ps [] := by
  obtain ⟨c0, hc0, h1⟩ := cl_of hc
  rw [List.any_eq_true] at h1
  obtain ⟨⟨y, fi'⟩, hy, e⟩ := h1
  obtain ⟨q1, q2⟩ := bt e
  have r1 := of_decide_eq_true q1
  have r2 := of_decide_eq_true q2
  dsimp only at r1 r2
  subst r1
  subst r2
  have ck := h.tb.cls _ _ hc0
  obtain ⟨I, hI, hns, hm⟩ := dfl_of hd
  obtain ⟨fd, F, _, _, hdf, _⟩ := h.tb.fn _ I hI hns
  obtain ⟨dsV, dvs, hb, hv, hdd, hl⟩ := hdf _ _ hm
  obtain ⟨p, hp⟩ := ck.prps _ _ hy
  refine ⟨p, _, fd, I.ps, ck.cls, hp, ?_, nil_binds hb hv hdd⟩
  have : I.ps.length = 1 := by rw [← hl]; rfl
  rw [this] at F
  exact F
theorem sndX (S : Snd fa cl k n) (h : CxOk K fa cl k X) {E : XK} (hE : Passes (L2.CX X.prog X.w) X E) (e : Expr) (x : XC) (hc : chkX (n + 1) K e x = true) : SX fa cl E X e x := by
  rw [chkX.eq_def] at hc
  dsimp only at hc
  split at hc
  · -- fn
    rename_i fi ds cs
    split at hc
    · rename_i x p es pos
      obtain ⟨h1, h2⟩ := bt hc
      obtain ⟨I, hI, rfl, hg, hn, hp, hgl⟩ := fi_of h h1
      rw [List.any_eq_true] at hp
      obtain ⟨⟨n', ds'⟩, hm, hq⟩ := hp
      obtain ⟨q1, q2⟩ := bt hq
      have r1 : n' = cs.length := of_decide_eq_true q1
      have r2 : ds' = ds := D.eqbL_eq q2
      clear hq q1 q2
      subst r1
      subst r2
      obtain ⟨fd, F, hmg, hk, hd, _⟩ := h.tb.fn fi I hI (by rw [hgl]; decide)
      obtain ⟨dsV, dvs, hb, hv, hdd, hl⟩ := hd _ _ hm
      obtain ⟨a1, a2, a3⟩ := S.es K X h _ _ h2
      cases cs with
      | nil =>
        cases es with
        | nil => exact sx_fn0 F h.room8 hg (hmg hgl) hk hb hv hdd (by rw [← hl, List.length_nil, Nat.zero_add]) hE (nm_of hn).1
        | cons e es => simp at a2
      | cons c cs =>
        cases es with
        | nil => simp at a2
        | cons e es => exact sx_fn F h.room8 hg (hmg hgl) hk hb hv hdd (by rw [← hl, List.length_cons]; omega) hE a1 (nm_of hn).1 (star_cons (a3 _ (List.mem_cons_self ..))) (star_any fun x hx => a3 x (List.mem_cons_of_mem _ hx))
    · cases hc
  · -- appK
    rename_i fi cs ks asm
    split at hc
    · rename_i x p es kws pos
      split at hc
      · rename_i nm hnm
        obtain ⟨hc, h4⟩ := bt hc
        obtain ⟨hc, h3⟩ := bt hc
        obtain ⟨h1, h2⟩ := bt hc
        obtain ⟨I, hI, rfl, hg, hn, hp, hgl⟩ := fi_of h h1
        rw [List.any_eq_true] at hp
        obtain ⟨⟨n', nm', asm'⟩, hm, hq⟩ := hp
        obtain ⟨hq, q3⟩ := bt hq
        obtain ⟨q1, q2⟩ := bt hq
        have r1 : n' = cs.length := of_decide_eq_true q1
        have r2 : nm' = nm := of_decide_eq_true q2
        have r3 : asm' = asm := asmEq_eq q3
        clear hq q1 q2 q3
        subst r1
        subst r2
        subst r3
        obtain ⟨fd, F, hmg, hk, _, hkb, _⟩ := h.tb.fn fi I hI (by rw [hgl]; decide)
        have hmg := hmg hgl
        have hb := hkb _ _ _ hm
        obtain ⟨a1, a2, a3⟩ := S.es K X h _ _ h2
        obtain ⟨b1, b2⟩ := S.ks K X h _ _ h3
        obtain ⟨k1, k2, k3, k4⟩ := kw_of (pos := pos) (env := X.env) hnm
        have hlk : ks.length = nm'.length := by rw [← b2, k4]
        cases cs with
        | nil =>
          cases es with
          | nil => exact sx_fnK0 F h.room8 hg hmg hk hb hE b1 hlk k1 k2 (nm_of hn).1 (by rw [k3]; rfl)
          | cons e es => simp at a2
        | cons c cs =>
          cases es with
          | nil => simp at a2
          | cons e es => exact sx_fnK F h.room8 hg hmg hk hb hE a1 b1 hlk k1 k2 (nm_of hn).1 (star_cons (a3 _ (List.mem_cons_self ..))) (by rw [k3, star_any a3]; rfl)
      · cases hc
    · cases hc
  · -- make
    rename_i ci fi ds cs
    split at hc
    · rename_i x p es pos
      obtain ⟨hc, h6⟩ := bt hc
      obtain ⟨hc, h5⟩ := bt hc
      obtain ⟨hc, h4⟩ := bt hc
      obtain ⟨hc, h3⟩ := bt hc
      obtain ⟨h1, h2⟩ := bt hc
      obtain ⟨c0, hc0, h1⟩ := cl_of h1
      obtain ⟨e1, e2⟩ := bt h1
      have e1 := of_decide_eq_true e1
      have e2 := of_decide_eq_true e2
      subst e1
      have ck := h.tb.cls _ _ hc0
      obtain ⟨I, hI, hns, hm⟩ := dfl_of h5
      obtain ⟨fd, F, _, hk, hd, _⟩ := h.tb.fn fi I hI hns
      obtain ⟨dsV, dvs, hb, hv, hdd, hl⟩ := hd _ _ hm
      obtain ⟨a1, a2, a3⟩ := S.es K X h _ _ h6
      cases cs with
      | nil => simp at h4
      | cons c cs =>
        cases es with
        | nil => simp at a2
        | cons e es => exact sx_make (ck.init _ e2) F h.room (gl_of h h2) ck.mgC hb hv hdd (by rw [← hl, List.length_cons]; omega) hE a1 (nm_of h3).1 (star_cons (a3 _ (List.mem_cons_self ..))) (star_any fun x hx => a3 x (List.mem_cons_of_mem _ hx))
    · cases hc
  · -- makeM
    rename_i ci fi ds cs
    split at hc
    · rename_i x p es pos
      obtain ⟨hc, h6⟩ := bt hc
      obtain ⟨hc, h5⟩ := bt hc
      obtain ⟨hc, h4⟩ := bt hc
      obtain ⟨hc, h3⟩ := bt hc
      obtain ⟨h1, h2⟩ := bt hc
      obtain ⟨c0, hc0, h1⟩ := cl_of h1
      obtain ⟨e1, e2⟩ := bt h1
      have e1 := of_decide_eq_true e1
      have e2 := of_decide_eq_true e2
      subst e1
      have ck := h.tb.cls _ _ hc0
      obtain ⟨I, hI, hns, hm⟩ := dfl_of h5
      obtain ⟨fd, F, _, hk, hd, _⟩ := h.tb.fn fi I hI hns
      obtain ⟨dsV, dvs, hb, hv, hdd, hl⟩ := hd _ _ hm
      obtain ⟨a1, a2, a3⟩ := S.es K X h _ _ h6
      cases cs with
      | nil => simp at h4
      | cons c cs =>
        cases es with
        | nil => simp at a2
        | cons e es => exact sx_makeM (ck.init _ e2) F h.room (gl_of h h2) ck.mgC hb hv hdd (by rw [← hl, List.length_cons]; omega) hE a1 (nm_of h3).1 (star_cons (a3 _ (List.mem_cons_self ..))) (star_any fun x hx => a3 x (List.mem_cons_of_mem _ hx))
    · cases hc
  · -- makeR
    rename_i ci fi kk ds cs
    split at hc
    · rename_i x p es pos
      obtain ⟨hc, h6⟩ := bt hc
      obtain ⟨hc, h5⟩ := bt hc
      obtain ⟨hc, h4⟩ := bt hc
      obtain ⟨hc, h3⟩ := bt hc
      obtain ⟨h1, h2⟩ := bt hc
      obtain ⟨c0, hc0, h1⟩ := cl_of h1
      obtain ⟨e1, e2⟩ := bt h1
      have e1 := of_decide_eq_true e1
      have e2 := of_decide_eq_true e2
      subst e1
      have ck := h.tb.cls _ _ hc0
      obtain ⟨I, hI, hns, hm⟩ := dfl_of h5
      obtain ⟨fd, F, _, hk, hd, _⟩ := h.tb.fn fi I hI hns
      obtain ⟨dsV, dvs, hb, hv, hdd, hl⟩ := hd _ _ hm
      obtain ⟨a1, a2, a3⟩ := S.es K X h _ _ h6
      cases cs with
      | nil => simp at h4
      | cons c cs =>
        cases es with
        | nil => simp at a2
        | cons e es => exact sx_makeR (ck.init _ e2) F h.room (gl_of h h2) ck.mgC hb hv hdd (by rw [← hl, List.length_cons]; omega) hE a1 (nm_of h3).1 (star_cons (a3 _ (List.mem_cons_self ..))) (star_any fun x hx => a3 x (List.mem_cons_of_mem _ hx))
    · cases hc
  · -- makeL
    rename_i i ci fi cs
    split at hc
    · rename_i x p es pos
      obtain ⟨hc, h7⟩ := bt hc
      obtain ⟨hc, h6⟩ := bt hc
      obtain ⟨hc, h5⟩ := bt hc
      obtain ⟨hc, h4⟩ := bt hc
      obtain ⟨hc, h3⟩ := bt hc
      obtain ⟨h1, h2⟩ := bt hc
      obtain ⟨c0, hc0, h1⟩ := cl_of h1
      have e2 := of_decide_eq_true h1
      have ck := h.tb.cls _ _ hc0
      obtain ⟨I, hI, hns, hm⟩ := dfl_of h6
      obtain ⟨fd, F, _, hk, hd, _, hb, _⟩ := h.tb.fn fi I hI hns
      obtain ⟨_, _, _, _, _, hl⟩ := hd _ _ hm
      have hb := hb (List.any_eq_true.mpr ⟨_, hm, by rw [← hl]; simp⟩)
      obtain ⟨a1, a2, a3⟩ := S.es K X h _ _ h7
      cases cs with
      | nil => simp at h5
      | cons c cs =>
        cases es with
        | nil => simp at a2
        | cons e es => exact sx_makeL (ck.init _ e2) F h.room (slot_of h h2) (vis_of h h3) hb (by rw [← hl, List.length_cons, List.length_nil]) hE a1 (nm_of h4).1 (nm_of h4).2.1 (star_cons (a3 _ (List.mem_cons_self ..))) (star_any fun x hx => a3 x (List.mem_cons_of_mem _ hx))
    · cases hc
  · -- cmeth
    rename_i ci fi m cs
    split at hc
    · rename_i x xp m' ap es pos
      obtain ⟨hc, h8⟩ := bt hc
      obtain ⟨hc, h7⟩ := bt hc
      obtain ⟨hc, h6⟩ := bt hc
      obtain ⟨hc, h5⟩ := bt hc
      obtain ⟨hc, h4⟩ := bt hc
      obtain ⟨hc, h3⟩ := bt hc
      obtain ⟨h1, h2⟩ := bt hc
      have h1 := of_decide_eq_true h1
      subst h1
      obtain ⟨c0, hc0, h3⟩ := cl_of h3
      obtain ⟨e1, e2⟩ := bt h3
      have e1 := of_decide_eq_true e1
      subst e1
      rw [List.any_eq_true] at e2
      obtain ⟨⟨y, fi'⟩, hy, e⟩ := e2
      obtain ⟨q1, q2⟩ := bt e
      have q1 := of_decide_eq_true q1
      have q2 := of_decide_eq_true q2
      dsimp only at q1 q2
      subst q1
      subst q2
      have ck := h.tb.cls _ _ hc0
      obtain ⟨mc, pp, r1, r2⟩ := ck.cms _ _ hy
      split at h7
      · rename_i I hI
        obtain ⟨F, _⟩ := h.tb.star _ I hI (of_decide_eq_true h7)
        obtain ⟨a1, a2, a3⟩ := S.es K X h _ _ h8
        have ht := meth_ht (o := .Name c0.name xp) (m := y) (apos := ap) (pos := pos) (es := es) (env := X.env) rfl (star_all fun x hx => a3 x hx) (of_decide_eq_true h6) h2
        cases cs with
        | nil =>
          cases es with
          | nil => exact sx_cmeth0 (gl_of h h4) ck.mgC (nm_of h5).1 r1 r2 F h.room8 hE ht
          | cons e es => simp at a2
        | cons c cs =>
          cases es with
          | nil => simp at a2
          | cons e es => exact sx_cmeth (gl_of h h4) ck.mgC (nm_of h5).1 r1 r2 F h.room8 hE a1 (star_cons (a3 _ (List.mem_cons_self ..))) (star_any fun x hx => a3 x (List.mem_cons_of_mem _ hx)) ht
      · cases h7
    · cases hc
  · -- meth
    rename_i ci fi m co cs ds
    split at hc
    · rename_i o m' ap es pos
      obtain ⟨hc, h8⟩ := bt hc
      obtain ⟨hc, h7⟩ := bt hc
      obtain ⟨hc, h6⟩ := bt hc
      obtain ⟨hc, h5⟩ := bt hc
      obtain ⟨hc, h4⟩ := bt hc
      obtain ⟨hc, h3⟩ := bt hc
      obtain ⟨h1, h2⟩ := bt hc
      have h1 := of_decide_eq_true h1
      subst h1
      obtain ⟨c0, hc0, h4⟩ := cl_of h4
      rw [List.any_eq_true] at h4
      obtain ⟨⟨y, fi'⟩, hy, e⟩ := h4
      obtain ⟨q1, q2⟩ := bt e
      have q1 := of_decide_eq_true q1
      have q2 := of_decide_eq_true q2
      dsimp only at q1 q2
      subst q1
      subst q2
      have ck := h.tb.cls _ _ hc0
      obtain ⟨I, hI, hns, hm⟩ := dfl_of h5
      obtain ⟨fd, F, _, hk, hd, _⟩ := h.tb.fn _ I hI hns
      obtain ⟨dsV, dvs, hb, hv, hdd, hl⟩ := hd _ _ hm
      obtain ⟨a1, a2, a3⟩ := S.es K X h _ _ h8
      have ht := meth_ht (o := o) (m := y) (apos := ap) (pos := pos) (es := es) (env := X.env) (base_of h3) (star_all fun x hx => a3 x hx) (of_decide_eq_true h6) h2
      have so := S.e K X h _ _ h7
      cases cs with
      | nil =>
        cases es with
        | nil => exact sx_meth0 so ck.cls (ck.meths _ _ hy) F h.room8 hb hv hdd (by rw [← hl, List.length_nil]; omega) hE ht
        | cons e es => simp at a2
      | cons c cs =>
        cases es with
        | nil => simp at a2
        | cons e es => exact sx_meth so ck.cls (ck.meths _ _ hy) F h.room8 hb hv hdd (by rw [← hl, List.length_cons]; omega) hE a1 (star_cons (a3 _ (List.mem_cons_self ..))) (star_any fun x hx => a3 x (List.mem_cons_of_mem _ hx)) ht
    · cases hc
  · -- methK
    rename_i ci fi m co ks asm
    split at hc
    · rename_i o m' ap kws pos
      obtain ⟨hc, h8⟩ := bt hc
      obtain ⟨hc, h7⟩ := bt hc
      obtain ⟨hc, h6⟩ := bt hc
      obtain ⟨hc, h5⟩ := bt hc
      obtain ⟨hc, h4⟩ := bt hc
      obtain ⟨hc, h3⟩ := bt hc
      obtain ⟨h1, h2⟩ := bt hc
      have h1 := of_decide_eq_true h1
      subst h1
      obtain ⟨c0, hc0, h4⟩ := cl_of h4
      rw [List.any_eq_true] at h4
      obtain ⟨⟨y, fi'⟩, hy, e⟩ := h4
      obtain ⟨q1, q2⟩ := bt e
      have q1 := of_decide_eq_true q1
      have q2 := of_decide_eq_true q2
      dsimp only at q1 q2
      subst q1
      subst q2
      have ck := h.tb.cls _ _ hc0
      obtain ⟨I, nms, hI, hnm, hns, hm⟩ := kwl_of h5
      obtain ⟨fd, F, _, hk, _, hkb, _⟩ := h.tb.fn _ I hI hns
      obtain ⟨b1, b2⟩ := S.ks K X h _ _ h8
      obtain ⟨k1, k2, k3, k4⟩ := kw_of (pos := pos) (env := X.env) hnm
      have ht := meth_htK (o := o) (m := y) (apos := ap) (pos := pos) (kws := kws) (env := X.env) (base_of h3) k1 (of_decide_eq_true h6) h2
      exact sx_methK (S.e K X h _ _ h7) ck.cls (ck.meths _ _ hy) F h.room8 (hkb _ _ _ hm) hE b1 (by rw [← b2, k4]) k1 k2 (by rw [k3]; rfl) ht
    · cases hc
theorem exc_of {K : Cc} {x : Str} {xi : Xi} (h : (K.T.excs.any fun q => decide (q.name = x) && xiEq q.x xi) = true) : ∃ ei, ei ∈ K.T.excs ∧ ei.name = x ∧ ei.x = xi := by
  rw [List.any_eq_true] at h
  obtain ⟨ei, hei, hq⟩ := h
  obtain ⟨q1, q2⟩ := bt hq
  unfold xiEq at q2
  obtain ⟨q2, q5⟩ := bt q2
  obtain ⟨q3, q4⟩ := bt q2
  refine ⟨ei, hei, of_decide_eq_true q1, ?_⟩
  have q3 := of_decide_eq_true q3
  have q4 := of_decide_eq_true q4
  have q5 := of_decide_eq_true q5
  cases hx : ei.x
  cases xi
  rw [hx] at q3 q4 q5
  dsimp only at q3 q4 q5
  rw [q3, q4, q5]
theorem se_nope {e : Expr} : SE fa cl X e .nope := ⟨fun pins s σ H Q I q => by
  obtain ⟨B, S, ρ, z, S', eo, so, hm, k⟩ := q
  rw [ev] at hm
  cases hm⟩
theorem sndE (S : Snd fa cl k n) (h : CxOk K fa cl k X) (e : Expr) (c : C) (hc : chkE (n + 1) K e c = true) : SE fa cl X e c := by
  rw [chkE.eq_def] at hc
  dsimp only at hc
  split at hc
  · -- var
    split at hc
    · obtain ⟨hc, h3⟩ := bt hc
      obtain ⟨h1, h2⟩ := bt hc
      exact se_var (slot_of h h1) (vis_of h h2) (nm_of h3).1 (nm_of h3).2.1
    · cases hc
  · -- cst
    split at hc
    · rw [D.eqb_eq hc]
      exact se_cst pe_int fun _ => rfl
    · rw [D.eqb_eq hc]
      exact se_cst pe_str fun _ => rfl
    · rw [D.eqb_eq hc]
      exact se_cst pe_bl fun _ => rfl
    · rw [D.eqb_eq hc]
      exact se_cst pe_non fun _ => rfl
    · split at hc
      · exact se_cst (ty_pe h hc) fun _ => rfl
      · unfold fiB at hc
        split at hc
        · rename_i fi I hI
          obtain ⟨hc, h4⟩ := bt hc
          obtain ⟨hc, h3⟩ := bt hc
          obtain ⟨h1, h2⟩ := bt hc
          have h1 := of_decide_eq_true h1
          subst h1
          have h4 := of_decide_eq_true (bt h4).1
          obtain ⟨fd, _, hmg, _⟩ := h.tab _ I hI (by rw [h4]; decide)
          exact se_cst (pe_glob (v := .ref (fa.f _)) (gl_of h h2) (hmg h4) rfl (nm_of h3).1) fun _ => rfl
        · cases hc
      · obtain ⟨hc, h3⟩ := bt hc
        obtain ⟨h1, h2⟩ := bt hc
        rw [List.any_eq_true] at h3
        obtain ⟨⟨x', d'⟩, hm, hq⟩ := h3
        obtain ⟨q1, q2⟩ := bt hq
        have q1 := of_decide_eq_true q1
        dsimp only at q1 q2
        subst q1
        have q2 := D.eqb_eq q2
        subst q2
        obtain ⟨u, v, hu, hv, hd⟩ := h.tb.cst _ _ hm
        exact se_cst (pe_glob (gl_of h h1) hu hv (nm_of h2).1) hd
    · cases hc
  · -- bin
    split at hc
    · obtain ⟨hc, h3⟩ := bt hc
      obtain ⟨h1, h2⟩ := bt hc
      have h1 := of_decide_eq_true h1
      subst h1
      exact se_bin (S.e K X h _ _ h2) (S.e K X h _ _ h3)
    · cases hc
  · -- neg
    split at hc
    · exact se_neg (S.e K X h _ _ hc)
    · cases hc
  · -- cmp
    split at hc
    · obtain ⟨hc, h4⟩ := bt hc
      obtain ⟨hc, h3⟩ := bt hc
      obtain ⟨h1, h2⟩ := bt hc
      have h1 := of_decide_eq_true h1
      subst h1
      exact se_cmp h.room8 (S.e K X h _ _ h3) (S.e K X h _ _ h4) (notset_of h2)
    · cases hc
  · -- chain
    split at hc
    · obtain ⟨hc, h6⟩ := bt hc
      obtain ⟨hc, h5⟩ := bt hc
      obtain ⟨hc, h4⟩ := bt hc
      obtain ⟨hc, h3⟩ := bt hc
      obtain ⟨h1, h2⟩ := bt hc
      have h1 := of_decide_eq_true h1
      have h2 := of_decide_eq_true h2
      subst h1
      subst h2
      exact se_chain h.room8 (S.e K X h _ _ h4) (S.e K X h _ _ h5) (S.e K X h _ _ h6) (notset_of h3)
    · cases hc
  · -- and
    split at hc
    · obtain ⟨h1, h2⟩ := bt hc
      exact se_andC (S.e K X h _ _ h1) (se_one (S.e K X h _ _ h2))
    · obtain ⟨h1, h2⟩ := bt hc
      exact se_andC (S.e K X h _ _ h1) (S.e K X h _ _ h2)
    · cases hc
  · -- or
    split at hc
    · obtain ⟨h1, h2⟩ := bt hc
      exact se_orC (S.e K X h _ _ h1) (se_one (S.e K X h _ _ h2))
    · obtain ⟨h1, h2⟩ := bt hc
      exact se_orC (S.e K X h _ _ h1) (S.e K X h _ _ h2)
    · cases hc
  · -- not
    split at hc
    · exact se_not (S.e K X h _ _ hc)
    · cases hc
  · -- ite
    split at hc
    · obtain ⟨hc, h3⟩ := bt hc
      obtain ⟨h1, h2⟩ := bt hc
      exact se_ite (S.t K X h _ _ h1).1 (S.e K X h _ _ h2) (S.e K X h _ _ h3)
    · cases hc
  · -- tup
    split at hc
    · exact se_tup (S.es K X h _ _ hc).1
    · cases hc
  · -- lst
    split at hc
    · exact se_lst (S.es K X h _ _ hc).1
    · cases hc
  · -- lstM
    split at hc
    · exact se_lstM (S.es K X h _ _ hc).1
    · cases hc
  · -- listM
    split at hc
    · rename_i x p es pos
      obtain ⟨hc, h4⟩ := bt hc
      obtain ⟨h1, h2⟩ := bt hc
      have h1 := of_decide_eq_true h1
      subst h1
      obtain ⟨hg, hmg⟩ := blt_of h h2
      obtain ⟨a1, a2, a3⟩ := S.es K X h _ _ h4
      cases es with
      | nil => simp at a2
      | cons e es =>
        cases es with
        | nil => exact se_listM hg hmg a1 (star_cons (a3 _ (List.mem_cons_self ..))) (star_any fun x hx => a3 x (List.mem_cons_of_mem _ hx))
        | cons e2 es => simp at a2
    · cases hc
  · -- tupS
    split at hc
    · exact se_tupS (S.st K X h _ _ _ hc)
    · cases hc
  · -- lstS
    split at hc
    · exact se_lstS (S.st K X h _ _ _ hc)
    · cases hc
  · -- dctP
    split at hc
    · obtain ⟨hc, h3⟩ := bt hc
      obtain ⟨h1, h2⟩ := bt hc
      have h1 := of_decide_eq_true h1
      subst h1
      obtain ⟨hg, hmg⟩ := blt_of h h2
      obtain ⟨a1, a2, a3⟩ := S.es K X h _ _ h3
      exact se_dctP h.calm h.room8 hg hmg (star_cons (a3 _ (List.mem_cons_self ..))) a1
    · cases hc
  · -- dctN
    split at hc
    · exact se_dctN
    · cases hc
  · -- getD
    split at hc
    · obtain ⟨hc, h3⟩ := bt hc
      obtain ⟨h1, h2⟩ := bt hc
      exact se_getD h.room8 (S.e K X h _ _ h2) (S.e K X h _ _ h3) (ix_of h1)
    · cases hc
  · -- inD
    split at hc
    · obtain ⟨hc, h4⟩ := bt hc
      obtain ⟨hc, h3⟩ := bt hc
      obtain ⟨h1, h2⟩ := bt hc
      have h1 := of_decide_eq_true h1
      subst h1
      exact se_inD h.room8 (S.e K X h _ _ h3) (S.e K X h _ _ h4) (notset_of h2)
    · cases hc
  · -- getO
    split at hc
    · obtain ⟨hc, h8⟩ := bt hc
      obtain ⟨hc, h7⟩ := bt hc
      obtain ⟨hc, h6⟩ := bt hc
      obtain ⟨hc, h5⟩ := bt hc
      obtain ⟨hc, h4⟩ := bt hc
      obtain ⟨hc, h3⟩ := bt hc
      obtain ⟨h1, h2⟩ := bt hc
      have h1 := of_decide_eq_true h1
      subst h1
      have hst2 := star_cons (es := []) (env := X.env) h5
      have hst := (star_cons (env := X.env) h4).trans (congrArg _ hst2)
      refine se_getO h.room8 (S.e K X h _ _ h6) (S.e K X h _ _ h7) (S.e K X h _ _ h8) ⟨base_of h3, ?_, h2, ?_⟩
      · rw [hst]
        rfl
      · rw [hst]
        rfl
    · cases hc
  · -- sub
    split at hc
    · obtain ⟨hc, h3⟩ := bt hc
      obtain ⟨h1, h2⟩ := bt hc
      exact se_sub (S.e K X h _ _ h2) (S.e K X h _ _ h3) (ix_of h1)
    · cases hc
  · -- slcL
    split at hc
    · obtain ⟨h1, h2⟩ := bt hc
      exact se_slcL (S.e K X h _ _ h1) (S.e K X h _ _ h2)
    · cases hc
  · -- slcH
    split at hc
    · obtain ⟨h1, h2⟩ := bt hc
      exact se_slcH (S.e K X h _ _ h1) (S.e K X h _ _ h2)
    · cases hc
  · -- slcB
    split at hc
    · obtain ⟨hc, h3⟩ := bt hc
      obtain ⟨h1, h2⟩ := bt hc
      exact se_slcB (S.e K X h _ _ h1) (S.e K X h _ _ h2) (S.e K X h _ _ h3)
    · cases hc
  · -- call
    rename_i fi cs ds
    split at hc
    · rename_i x p es pos
      obtain ⟨h1, h2⟩ := bt hc
      obtain ⟨I, hI, rfl, hg, hn, hp, hgl⟩ := fi_of h h1
      rw [List.any_eq_true] at hp
      obtain ⟨⟨n', ds'⟩, hm, hq⟩ := hp
      obtain ⟨q1, q2⟩ := bt hq
      have r1 : n' = cs.length := of_decide_eq_true q1
      have r2 : ds' = ds := D.eqbL_eq q2
      clear hq q1 q2
      subst r1
      subst r2
      obtain ⟨fd, F, hmg, hk, hd, _⟩ := h.tab fi I hI (by rw [hgl]; decide)
      have hmg := hmg hgl
      obtain ⟨dsV, dvs, hb, hv, hdd, hl⟩ := hd _ _ hm
      obtain ⟨a1, a2, a3⟩ := S.es K X h _ _ h2
      cases cs with
      | nil =>
        cases es with
        | nil => exact se_call0 F h.room8 hg hmg hk hb hv hdd (by rw [← hl, List.length_nil, Nat.zero_add]) pass_of (nm_of hn).1
        | cons e es => simp at a2
      | cons c cs =>
        cases es with
        | nil => simp at a2
        | cons e es => exact se_call F h.room8 hg hmg hk hb hv hdd (by rw [← hl, List.length_cons]; omega) pass_of a1 (nm_of hn).1 (star_cons (a3 _ (List.mem_cons_self ..))) (star_any fun x hx => a3 x (List.mem_cons_of_mem _ hx))
    · cases hc
  · -- callK
    rename_i fi cs ks asm
    split at hc
    · rename_i x p es kws pos
      split at hc
      · rename_i nm hnm
        obtain ⟨hc, h4⟩ := bt hc
        obtain ⟨hc, h3⟩ := bt hc
        obtain ⟨h1, h2⟩ := bt hc
        obtain ⟨I, hI, rfl, hg, hn, hp, hgl⟩ := fi_of h h1
        rw [List.any_eq_true] at hp
        obtain ⟨⟨n', nm', asm'⟩, hm, hq⟩ := hp
        obtain ⟨hq, q3⟩ := bt hq
        obtain ⟨q1, q2⟩ := bt hq
        have r1 : n' = cs.length := of_decide_eq_true q1
        have r2 : nm' = nm := of_decide_eq_true q2
        have r3 : asm' = asm := asmEq_eq q3
        clear hq q1 q2 q3
        subst r1
        subst r2
        subst r3
        obtain ⟨fd, F, hmg, hk, _, hkb, _⟩ := h.tab fi I hI (by rw [hgl]; decide)
        have hmg := hmg hgl
        have hb := hkb _ _ _ hm
        obtain ⟨a1, a2, a3⟩ := S.es K X h _ _ h2
        obtain ⟨b1, b2⟩ := S.ks K X h _ _ h3
        obtain ⟨k1, k2, k3, k4⟩ := kw_of (pos := pos) (env := X.env) hnm
        have hlk : ks.length = nm'.length := by rw [← b2, k4]
        cases cs with
        | nil =>
          cases es with
          | nil => exact se_callK0 F h.room8 hg hmg hk hb pass_of b1 hlk k1 k2 (nm_of hn).1 (by rw [k3]; rfl)
          | cons e es => simp at a2
        | cons c cs =>
          cases es with
          | nil => simp at a2
          | cons e es => exact se_callK F h.room8 hg hmg hk hb pass_of a1 b1 hlk k1 k2 (nm_of hn).1 (star_cons (a3 _ (List.mem_cons_self ..))) (by rw [k3, star_any a3]; rfl)
      · cases hc
    · cases hc
  · -- blt
    rename_i b cs
    split at hc
    · rename_i x p es pos
      obtain ⟨hc, h4⟩ := bt hc
      obtain ⟨hc, h3⟩ := bt hc
      obtain ⟨h1, h2⟩ := bt hc
      have h1 := of_decide_eq_true h1
      subst h1
      obtain ⟨hg, hmg⟩ := blt_of h h2
      obtain ⟨a1, a2, a3⟩ := S.es K X h _ _ h4
      cases cs with
      | nil => simp at h3
      | cons c cs =>
        cases es with
        | nil => simp at a2
        | cons e es => exact se_blt h.calm h.room8 hg hmg a1 (star_cons (a3 _ (List.mem_cons_self ..))) (star_any fun x hx => a3 x (List.mem_cons_of_mem _ hx))
    · cases hc
  · -- append
    split at hc
    · obtain ⟨hc, h6⟩ := bt hc
      obtain ⟨hc, h5⟩ := bt hc
      obtain ⟨hc, h4⟩ := bt hc
      obtain ⟨hc, h3⟩ := bt hc
      obtain ⟨h1, h2⟩ := bt hc
      have h1 := of_decide_eq_true h1
      subst h1
      have hst := star_cons (es := []) (env := X.env) h4
      refine se_append (S.e K X h _ _ h5) (sa_cons (S.e K X h _ _ h6) sa_nil hst) (base_of h3) ?_ h2 hst rfl
      rw [star_all (by intro x hx; rw [List.mem_singleton.mp hx]; exact h4)]
      rfl
    · cases hc
  · -- join
    split at hc
    · obtain ⟨hc, h6⟩ := bt hc
      obtain ⟨hc, h5⟩ := bt hc
      obtain ⟨hc, h4⟩ := bt hc
      obtain ⟨hc, h3⟩ := bt hc
      obtain ⟨h1, h2⟩ := bt hc
      have h1 := of_decide_eq_true h1
      subst h1
      exact se_join (S.e K X h _ _ h5) (S.e K X h _ _ h6) (star_cons (es := []) h4) (base_of h3) h2
    · cases hc
  · -- insert
    split at hc
    · obtain ⟨hc, h5⟩ := bt hc
      obtain ⟨hc, h4⟩ := bt hc
      obtain ⟨hc, h3⟩ := bt hc
      obtain ⟨h1, h2⟩ := bt hc
      have h1 := of_decide_eq_true h1
      subst h1
      obtain ⟨a1, a2, a3⟩ := S.es K X h _ _ h5
      refine se_insert (S.e K X h _ _ h4) a1 (base_of h3) ?_ h2 (star_cons (a3 _ (List.mem_cons_self ..))) (star_any fun x hx => a3 x (List.mem_cons_of_mem _ hx))
      rw [star_all a3]
      rfl
    · cases hc
  · -- comp
    rename_i kk its t own cond ce
    split at hc
    · rename_i elt tg iter ifs scope pos
      split at hc
      · rename_i ow how
        obtain ⟨hc, h7⟩ := bt hc
        obtain ⟨hc, h6⟩ := bt hc
        obtain ⟨hc, h5⟩ := bt hc
        obtain ⟨hc, h4⟩ := bt hc
        obtain ⟨hc, h3⟩ := bt hc
        obtain ⟨h1, h2⟩ := bt hc
        have em := ownS_map how
        have ok : BlkOk X.N X.env.scope scope ow := by
          rw [h.hN, h.sce]
          exact blkOk_by h1
        rw [← em]
        rw [List.all_eq_true] at h4
        refine se_comp h.calm h.nd (S.i K X h _ _ _ _ h2) ok (fun s H C cls fp => sg_of (h.blk s H scope cls C fp ok.kind) _ _ h3) (fun s H C cls fp => S.c _ _ (h.blk s H scope cls C fp ok.kind) _ _ h6) (fun s H C cls fp => S.e _ _ (h.blk s H scope cls C fp ok.kind) _ _ h7) (fun i hi => ?_) (folded_of h5)
        rw [em]
        exact of_decide_eq_true (h4 i hi)
      · cases hc
    · cases hc
  · -- eqI
    split at hc
    · obtain ⟨hc, h6⟩ := bt hc
      obtain ⟨hc, h5⟩ := bt hc
      obtain ⟨hc, h4⟩ := bt hc
      obtain ⟨hc, h3⟩ := bt hc
      obtain ⟨h1, h2⟩ := bt hc
      have h1 := of_decide_eq_true h1
      subst h1
      obtain ⟨f, fd, ps, hm, hne, F, hbn⟩ := eqI_of h h3 h4
      exact se_eqI (S.e K X h _ _ h5) (S.e K X h _ _ h6) hm hne F h.room hbn passN (notset_of h2)
    · cases hc
  · -- isI
    split at hc
    · obtain ⟨hc, h7⟩ := bt hc
      obtain ⟨hc, h6⟩ := bt hc
      obtain ⟨hc, h5⟩ := bt hc
      obtain ⟨hc, h4⟩ := bt hc
      obtain ⟨hc, h3⟩ := bt hc
      obtain ⟨h1, h2⟩ := bt hc
      have h1 := of_decide_eq_true h1
      subst h1
      obtain ⟨hg, hmg⟩ := blt_of h h2
      obtain ⟨c0, hc0, h6⟩ := cl_of h6
      obtain ⟨r1, r2⟩ := bt h6
      have r1 := of_decide_eq_true r1
      subst r1
      have ck := h.tb.cls _ _ hc0
      exact se_isI hg hmg (gl_of h h4) (nm_of h5).1 ck.mgC ck.cls (ck.nes r2).2.2 (S.e K X h _ _ h7) (star_cons h3)
    · cases hc
  · -- eqD
    split at hc
    · obtain ⟨hc, h4⟩ := bt hc
      obtain ⟨hc, h3⟩ := bt hc
      obtain ⟨h1, h2⟩ := bt hc
      have h1 := of_decide_eq_true h1
      subst h1
      exact se_eqD (room9 h.room8) (S.e K X h _ _ h3) (S.e K X h _ _ h4) (notset_of h2)
    · cases hc
  · -- compM
    rename_i i0 t own cond ce
    split at hc
    · rename_i elt tg iter ifs scope pos
      split at hc
      · rename_i ow how
        obtain ⟨hc, h7⟩ := bt hc
        obtain ⟨hc, h6⟩ := bt hc
        obtain ⟨hc, h5⟩ := bt hc
        obtain ⟨hc, h4⟩ := bt hc
        obtain ⟨hc, h3⟩ := bt hc
        obtain ⟨h1, h2⟩ := bt hc
        have em := ownS_map how
        have ok : BlkOk X.N X.env.scope scope ow := by
          rw [h.hN, h.sce]
          exact blkOk_by h1
        rw [← em]
        rw [List.all_eq_true] at h4
        refine se_compM h.calm h.nd (S.e K X h _ _ h2) ok (fun s H C cls fp => sg_of (h.blk s H scope cls C fp ok.kind) _ _ h3) (fun s H C cls fp => S.c _ _ (h.blk s H scope cls C fp ok.kind) _ _ h6) (fun s H C cls fp => S.e _ _ (h.blk s H scope cls C fp ok.kind) _ _ h7) (fun i hi => ?_) (folded_of h5)
        rw [em]
        exact of_decide_eq_true (h4 i hi)
      · cases hc
    · cases hc
  · -- fstr
    split at hc
    · exact se_fstr (S.j K X h _ _ hc)
    · cases hc
  · -- fmt
    split at hc
    · obtain ⟨h1, h2⟩ := bt hc
      have h1 := of_decide_eq_true h1
      subst h1
      exact se_fmt (S.e K X h _ _ h2)
    · obtain ⟨h1, h2⟩ := bt hc
      have h1 := of_decide_eq_true h1
      subst h1
      exact pe_joined1 (se_fmt (S.e K X h _ _ h2))
    · cases hc
  · -- isiT
    split at hc
    · obtain ⟨hc, h6⟩ := bt hc
      obtain ⟨hc, h5⟩ := bt hc
      obtain ⟨hc, h4⟩ := bt hc
      obtain ⟨hc, h3⟩ := bt hc
      obtain ⟨h1, h2⟩ := bt hc
      have h1 := of_decide_eq_true h1
      subst h1
      obtain ⟨hg, hmg⟩ := blt_of h h2
      exact se_isiT hg hmg (S.e K X h _ _ h4) (tys_pe h h5) (of_decide_eq_true h6) (star_cons h3)
    · cases hc
  · -- maxD
    split at hc
    · obtain ⟨hc, h5⟩ := bt hc
      obtain ⟨hc, h4⟩ := bt hc
      obtain ⟨hc, h3⟩ := bt hc
      obtain ⟨h1, h2⟩ := bt hc
      have h1 := of_decide_eq_true h1
      subst h1
      have h2 := of_decide_eq_true h2
      subst h2
      obtain ⟨hg, hmg⟩ := blt_of h h3
      obtain ⟨a1, a2, a3⟩ := S.es K X h _ _ h4
      exact se_maxD h.calm h.room8 hg hmg (star_cons (a3 _ (List.mem_cons_self ..))) a1 (S.e K X h _ _ h5)
    · cases hc
  · -- fld
    split at hc
    · rename_i o m' pos
      obtain ⟨hc, h4⟩ := bt hc
      obtain ⟨hc, h3⟩ := bt hc
      obtain ⟨h1, h2⟩ := bt hc
      have h1 := of_decide_eq_true h1
      subst h1
      obtain ⟨c, hcc, h3⟩ := cl_of h3
      rw [List.any_eq_true] at h3
      obtain ⟨y, hy, e⟩ := h3
      have e := of_decide_eq_true e
      subst e
      have ck := h.tb.cls _ c hcc
      exact se_fld (S.e K X h _ _ h4) ck.cls (ck.flds _ hy) (base_of h2)
    · cases hc
  · -- ccst
    split at hc
    · rename_i x p m' pos
      obtain ⟨hc, h4⟩ := bt hc
      obtain ⟨hc, h3⟩ := bt hc
      obtain ⟨h1, h2⟩ := bt hc
      have h1 := of_decide_eq_true h1
      subst h1
      obtain ⟨c, hcc, h4⟩ := cl_of h4
      obtain ⟨h4, h5⟩ := bt h4
      have h4 := of_decide_eq_true h4
      subst h4
      rw [List.any_eq_true] at h5
      obtain ⟨⟨y, d'⟩, hy, e⟩ := h5
      obtain ⟨e1, e2⟩ := bt e
      have e1 := of_decide_eq_true e1
      have e2 := D.eqb_eq e2
      dsimp only at e1 e2
      subst e1
      subst e2
      have ck := h.tb.cls _ c hcc
      obtain ⟨mc, v, u, r1, r2, r3⟩ := ck.csts _ _ hy
      exact se_ccst (gl_of h h2) ck.mgC (nm_of h3).1 r1 r2 r3
    · cases hc
  · -- app
    exact SX.se (S.x K X h E0 passN _ _ hc)
  · -- meth
    rename_i ci fi m co cs ds
    rcases Bool.or_eq_true_iff.mp hc with hc | hc
    · exact SX.sem (S.x K X h E0 passN _ _ hc)
    · split at hc
      · obtain ⟨hc, h7⟩ := bt hc
        obtain ⟨hc, h6⟩ := bt hc
        obtain ⟨hc, h5⟩ := bt hc
        obtain ⟨hc, h4⟩ := bt hc
        obtain ⟨hc, h3⟩ := bt hc
        obtain ⟨h1, h2⟩ := bt hc
        have h1 := of_decide_eq_true h1
        subst h1
        have e5 := List.eq_nil_of_length_eq_zero (of_decide_eq_true h5)
        have e6 := List.eq_nil_of_length_eq_zero (of_decide_eq_true h6)
        subst e5
        subst e6
        obtain ⟨p, f, fd, ps, hcl, hp, F, hbn⟩ := prp_of h h3 h4
        exact se_prop (S.e K X h _ _ h7) hcl hp F h.room hbn passNox (base_of h2)
      · cases hc
  · -- whyAK
    split at hc
    · exact se_whyAK (why_of S h hc)
    · cases hc
  · -- whyA
    split at hc
    · exact se_whyA (why_of S h hc)
    · cases hc
  · -- whyS
    split at hc
    · exact se_whyS (why_of S h hc)
    · cases hc
  · -- methK
    exact SX.semK (S.x K X h E0 passN _ _ hc)
  · -- whyK
    split at hc
    · exact se_whyK (why_of S h hc)
    · cases hc
  · -- nope
    exact se_nope
  · -- dctK
    split at hc
    · exact se_dctK
    · cases hc
  · -- getK
    split at hc
    · obtain ⟨hc, h3⟩ := bt hc
      obtain ⟨h1, h2⟩ := bt hc
      exact se_getK h.room8 (S.e K X h _ _ h2) (S.e K X h _ _ h3) (ix_of h1)
    · cases hc
  · -- inK
    split at hc
    · obtain ⟨hc, h4⟩ := bt hc
      obtain ⟨hc, h3⟩ := bt hc
      obtain ⟨h1, h2⟩ := bt hc
      have h1 := of_decide_eq_true h1
      subst h1
      exact se_inK h.room8 (S.e K X h _ _ h3) (S.e K X h _ _ h4) (notset_of h2)
    · cases hc
  · -- keysK
    split at hc
    · obtain ⟨hc, h3⟩ := bt hc
      obtain ⟨h1, h2⟩ := bt hc
      have h1 := of_decide_eq_true h1
      subst h1
      obtain ⟨hg, hmg⟩ := blt_of h h2
      obtain ⟨a1, a2, a3⟩ := S.es K X h _ _ h3
      exact se_keysK h.calm hg hmg a1 (star_cons (a3 _ (List.mem_cons_self ..))) rfl
    · cases hc
  · -- mkx
    rename_i xi cs
    split at hc
    · rename_i x p a pos ca
      obtain ⟨hc, h6⟩ := bt hc
      obtain ⟨hc, h5⟩ := bt hc
      obtain ⟨hc, h4⟩ := bt hc
      obtain ⟨hc, h3⟩ := bt hc
      obtain ⟨h1, h2⟩ := bt hc
      obtain ⟨ei, hei, e1, e2⟩ := exc_of h4
      subst e1
      subst e2
      have ek := h.tb.exc _ hei
      obtain ⟨attr, hat⟩ := Option.isSome_iff_exists.mp h5
      obtain ⟨f, fd, ps, f1, f2, f3, f4⟩ := ek.fn attr hat
      have hst := star_cons (es := []) (env := X.env) h3
      exact se_mkx ek.oex f1 f2 f3 (h.room.mono (by omega)) f4 (gl_of h h1) ek.mgE hat (sa_cons (S.e K X h _ _ h6) sa_nil hst) (nm_of h2).1 hst
    · rename_i x p pos
      obtain ⟨hc, h4⟩ := bt hc
      obtain ⟨hc, h3⟩ := bt hc
      obtain ⟨h1, h2⟩ := bt hc
      obtain ⟨ei, hei, e1, e2⟩ := exc_of h3
      subst e1
      subst e2
      have ek := h.tb.exc _ hei
      have hat : ei.x.attr = none := by
        cases q : ei.x.attr with
        | none => rfl
        | some _ => rw [q] at h4; cases h4
      obtain ⟨f, fd, ps, f1, f2, f3, f4⟩ := ek.fn0 hat
      exact se_mkx0 ek.oex f1 f2 f3 (h.room.mono (by omega)) f4 (gl_of h h1) ek.mgE hat (nm_of h2).1
    · cases hc
  · -- fldX
    rename_i co nm al
    split at hc
    · rename_i o m' pos
      obtain ⟨hc, h5⟩ := bt hc
      obtain ⟨hc, h4⟩ := bt hc
      obtain ⟨hc, h3⟩ := bt hc
      obtain ⟨h1, h2⟩ := bt hc
      have h1 := of_decide_eq_true h1
      subst h1
      have h4 := of_decide_eq_true h4
      subst h4
      refine se_fldX (S.e K X h _ _ h5) (fun c hc => ?_) (base_of h2)
      obtain ⟨ei, hei, rfl⟩ := List.mem_map.mp hc
      have ek := h.tb.exc _ hei
      refine ⟨ek.xf, ?_⟩
      rcases Bool.or_eq_true_iff.mp h3 with h3 | h3
      · rw [of_decide_eq_true h3]
        exact ek.code
      · exact ek.fld _ (of_decide_eq_true h3)
    · cases hc
  · -- isX
    rename_i co q ns al
    split at hc
    · rename_i x p o y p2 pos
      obtain ⟨hc, h9⟩ := bt hc
      obtain ⟨hc, h8⟩ := bt hc
      obtain ⟨hc, h7⟩ := bt hc
      obtain ⟨hc, h6⟩ := bt hc
      obtain ⟨hc, h5⟩ := bt hc
      obtain ⟨hc, h4⟩ := bt hc
      obtain ⟨hc, h3⟩ := bt hc
      obtain ⟨h1, h2⟩ := bt hc
      have h1 := of_decide_eq_true h1
      subst h1
      have h6 := of_decide_eq_true h6
      subst h6
      have h8 := of_decide_eq_true h8
      subst h8
      obtain ⟨hg, hmg⟩ := blt_of h h2
      rw [List.any_eq_true] at h7
      obtain ⟨⟨y', ns'⟩, hm, hq⟩ := h7
      obtain ⟨q1, q2⟩ := bt hq
      have q1 := of_decide_eq_true q1
      have q2 := of_decide_eq_true q2
      dsimp only at q1 q2
      subst q1
      subst q2
      obtain ⟨v, cv, hv, hn, ha⟩ := h.tb.kts _ _ hm
      have hy : PE X (.Name y' p2) (tC v) := by
        rcases hn with ⟨m1, m2⟩ | ⟨m1, m2, m3⟩
        · exact pe_glob (gl_of h h4) m1 m2 (nm_of h5).1
        · exact pe_bltn (gl_of h h4) m1 m2 m3 (nm_of h5).2.2 (nm_of h5).1
      refine se_isX hg hmg hy hv (fun c hc => ?_) (S.e K X h _ _ h9) (star_cons h3)
      obtain ⟨ei, hei, rfl⟩ := List.mem_map.mp hc
      exact ha _ hei
    · cases hc
  · -- callV
    rename_i i nf cs
    split at hc
    · rename_i x p es pos
      obtain ⟨hc, h6⟩ := bt hc
      obtain ⟨hc, h5⟩ := bt hc
      obtain ⟨hc, h7⟩ := bt hc
      obtain ⟨hc, h4⟩ := bt hc
      obtain ⟨hc, h3⟩ := bt hc
      obtain ⟨h1, h2⟩ := bt hc
      have h4 := of_decide_eq_true h4
      obtain ⟨a1, a2, a3⟩ := S.es K X h _ _ h6
      cases cs with
      | nil => simp at h5
      | cons c cs =>
        cases es with
        | nil => simp at a2
        | cons e es =>
          refine se_callV (fun f hf => ?_) h.room8 (slot_of h h1) (vis_of h h2) pass_of a1 (nm_of h3).1 (nm_of h3).2.1 (star_cons (a3 _ (List.mem_cons_self ..))) (star_any fun x hx => a3 x (List.mem_cons_of_mem _ hx))
          have hk0 : (K.T.fns[f]).kind ≠ .star := by
            have := List.all_eq_true.mp h7 _ (List.getElem_mem (show f < (K.T.fns.take nf).length by rw [List.length_take]; omega))
            rw [List.getElem_take] at this
            intro z
            rw [z] at this
            cases this
          have hp0 : posB K.T.fns[f] = true := by
            have := List.all_eq_true.mp h7 _ (List.getElem_mem (show f < (K.T.fns.take nf).length by rw [List.length_take]; omega))
            rw [List.getElem_take, Bool.and_eq_true] at this
            exact this.2
          obtain ⟨fd, F, _, hk, _, _, hb, hl⟩ := h.tab f _ (List.getElem?_eq_getElem (by omega)) hk0
          exact ⟨fd, _, F, hk, hb hp0, hl⟩
    · cases hc
theorem sndT (S : Snd fa cl k n) (h : CxOk K fa cl k X) (e : Expr) (c : C) (hc : chkT (n + 1) K e c = true) : ST fa cl X e c ∧ ∀ op vs p, e = .BoolOp op vs p → SW fa cl X e c := by
  cases e with
  | UnaryOp op a p =>
    cases op with
    | Not =>
      rw [chkT.eq_def] at hc
      dsimp only at hc
      split at hc
      · exact ⟨st_not (S.t K X h _ _ hc).1, fun _ _ _ z => by cases z⟩
      · cases hc
    | _ => simp [chkT] at hc
  | BoolOp op vs p =>
    cases op with
    | And =>
      rw [chkT.eq_def] at hc
      dsimp only at hc
      split at hc
      · obtain ⟨h1, h2⟩ := bt hc
        have := sw_andC (pos := p) (S.t K X h _ _ h1).1 (sw_and1 (S.t K X h _ _ h2).1)
        exact ⟨this.pt, fun _ _ _ _ => this⟩
      · obtain ⟨h1, h2⟩ := bt hc
        have := sw_andC (S.t K X h _ _ h1).1 ((S.t K X h _ _ h2).2 _ _ _ rfl)
        exact ⟨this.pt, fun _ _ _ _ => this⟩
      · cases hc
    | Or =>
      rw [chkT.eq_def] at hc
      dsimp only at hc
      split at hc
      · obtain ⟨h1, h2⟩ := bt hc
        have := sw_orC (pos := p) (S.t K X h _ _ h1).1 (sw_or1 (S.t K X h _ _ h2).1)
        exact ⟨this.pt, fun _ _ _ _ => this⟩
      · obtain ⟨h1, h2⟩ := bt hc
        have := sw_orC (S.t K X h _ _ h1).1 ((S.t K X h _ _ h2).2 _ _ _ rfl)
        exact ⟨this.pt, fun _ _ _ _ => this⟩
      · cases hc
  | Compare a ops bs p =>
    rw [chkT.eq_def] at hc
    dsimp only at hc
    split at hc
    · obtain ⟨hc, h4⟩ := bt hc
      obtain ⟨hc, h3⟩ := bt hc
      obtain ⟨h1, h2⟩ := bt hc
      have h1 := of_decide_eq_true h1
      subst h1
      exact ⟨st_cmp h.room8 (S.e K X h _ _ h3) (S.e K X h _ _ h4) (notset_of h2), fun _ _ _ z => by cases z⟩
    · obtain ⟨hc, h4⟩ := bt hc
      obtain ⟨hc, h3⟩ := bt hc
      obtain ⟨h1, h2⟩ := bt hc
      have h1 := of_decide_eq_true h1
      subst h1
      exact ⟨st_inK h.room8 (S.e K X h _ _ h3) (S.e K X h _ _ h4) (notset_of h2), fun _ _ _ z => by cases z⟩
    · obtain ⟨hc, h4⟩ := bt hc
      obtain ⟨hc, h3⟩ := bt hc
      obtain ⟨h1, h2⟩ := bt hc
      have h1 := of_decide_eq_true h1
      subst h1
      exact ⟨st_inD h.room8 (S.e K X h _ _ h3) (S.e K X h _ _ h4) (notset_of h2), fun _ _ _ z => by cases z⟩
    · obtain ⟨hc, h6⟩ := bt hc
      obtain ⟨hc, h5⟩ := bt hc
      obtain ⟨hc, h4⟩ := bt hc
      obtain ⟨hc, h3⟩ := bt hc
      obtain ⟨h1, h2⟩ := bt hc
      have h1 := of_decide_eq_true h1
      subst h1
      obtain ⟨f, fd, ps, hm, hne, F, hbn⟩ := eqI_of h h3 h4
      exact ⟨st_eqI (S.e K X h _ _ h5) (S.e K X h _ _ h6) hm hne F h.room hbn passN (notset_of h2), fun _ _ _ z => by cases z⟩
    · obtain ⟨hc, h6⟩ := bt hc
      obtain ⟨hc, h5⟩ := bt hc
      obtain ⟨hc, h4⟩ := bt hc
      obtain ⟨hc, h3⟩ := bt hc
      obtain ⟨h1, h2⟩ := bt hc
      have h1 := of_decide_eq_true h1
      have h2 := of_decide_eq_true h2
      subst h1
      subst h2
      exact ⟨st_chain h.room8 (S.e K X h _ _ h4) (S.e K X h _ _ h5) (S.e K X h _ _ h6) (notset_of h3), fun _ _ _ z => by cases z⟩
    · cases hc
  | IfExp _ _ _ _ => simp [chkT] at hc
  | _ =>
    rw [chkT.eq_def] at hc
    dsimp only at hc
    exact ⟨st_of (S.e K X h _ _ hc) (ev_tst c) fun _ => rfl, fun _ _ _ z => by cases z⟩
theorem sndI (S : Snd fa cl k n) (h : CxOk K fa cl k X) (tg e : Expr) (kk : ItK) (its : List C) (hc : chkI (n + 1) K tg e kk its = true) : SI fa cl X tg e kk its := by
  rw [chkI.eq_def] at hc
  dsimp only at hc
  split at hc
  · split at hc
    · exact si_seq (S.e K X h _ _ hc)
    · cases hc
  · split at hc
    · obtain ⟨hc, h3⟩ := bt hc
      obtain ⟨h1, h2⟩ := bt hc
      have h1 := of_decide_eq_true h1
      subst h1
      obtain ⟨hg, hmg⟩ := blt_of h h2
      obtain ⟨a1, a2, a3⟩ := S.es K X h _ _ h3
      exact si_range1 hg hmg a1 (star_cons (a3 _ (List.mem_cons_self ..)))
    · cases hc
  · split at hc
    · obtain ⟨hc, h3⟩ := bt hc
      obtain ⟨h1, h2⟩ := bt hc
      have h1 := of_decide_eq_true h1
      subst h1
      obtain ⟨hg, hmg⟩ := blt_of h h2
      obtain ⟨a1, a2, a3⟩ := S.es K X h _ _ h3
      have e2 := star_cons (es := []) (env := X.env) (a3 _ (List.mem_cons_of_mem _ (List.mem_singleton.mpr rfl)))
      exact si_range2 hg hmg a1 (by rw [star_cons (a3 _ (List.mem_cons_self ..)), e2]; rfl) e2
    · cases hc
  · split at hc
    · obtain ⟨hc, h3⟩ := bt hc
      obtain ⟨h1, h2⟩ := bt hc
      have h1 := of_decide_eq_true h1
      subst h1
      obtain ⟨hg, hmg⟩ := blt_of h h2
      obtain ⟨a1, a2, a3⟩ := S.es K X h _ _ h3
      exact si_zip hg hmg a1 (star_cons (a3 _ (List.mem_cons_self ..))) (star_any fun x hx => a3 x (List.mem_cons_of_mem _ hx))
    · cases hc
  · split at hc
    · obtain ⟨hc, h3⟩ := bt hc
      obtain ⟨h1, h2⟩ := bt hc
      have h1 := of_decide_eq_true h1
      subst h1
      obtain ⟨hg, hmg⟩ := blt_of h h2
      obtain ⟨a1, a2, a3⟩ := S.es K X h _ _ h3
      exact si_enum hg hmg a1 (star_cons (a3 _ (List.mem_cons_self ..)))
    · cases hc
  · split at hc
    · exact si_keys (S.e K X h _ _ hc)
    · cases hc
end
theorem snd_all {fa : Ad} {cl : Nat → List A → Store → Rz A} {k : Nat} : ∀ n, Snd fa cl k n
  | 0 => ⟨fun _ _ _ _ _ h => by simp [chkE] at h, fun _ _ _ _ _ h => by simp [chkT] at h, fun _ _ _ _ _ h => by simp [chkEs] at h, fun _ _ _ _ _ _ h => by simp [chkSt] at h, fun _ _ _ _ _ h => by simp [chkJ] at h, fun _ _ _ _ _ h => by simp [chkKs] at h, fun _ _ _ _ _ h => by simp [chkC] at h, fun _ _ _ _ _ _ _ h => by simp [chkI] at h, fun _ _ _ _ _ _ _ h => by simp [chkX] at h⟩
  | n + 1 => by
    have S : Snd fa cl k n := snd_all n
    refine ⟨fun K X h e c hc => sndE S h e c hc, fun K X h e c hc => sndT S h e c hc, fun K X h e c hc => ?_, fun K X h e fl c hc => ?_, fun K X h e c hc => ?_, fun K X h e c hc => ?_, fun K X h e c hc => ?_, fun K X h tg e kk its hc => sndI S h tg e kk its hc, fun K X h E hE e x hc => sndX S h hE e x hc⟩
    · cases e with
      | nil =>
        cases c with
        | nil => exact ⟨sa_nil, rfl, fun x hx => by cases hx⟩
        | cons c cs => simp [chkEs] at hc
      | cons e es =>
        cases c with
        | nil => simp [chkEs] at hc
        | cons c cs =>
          rw [chkEs] at hc
          obtain ⟨hc, h3⟩ := bt hc
          obtain ⟨h1, h2⟩ := bt hc
          obtain ⟨a1, a2, a3⟩ := S.es K X h _ _ h3
          refine ⟨sa_cons (S.e K X h _ _ h2) a1 (star_cons h1), by rw [List.length_cons, List.length_cons, a2], fun x hx => ?_⟩
          rcases List.mem_cons.mp hx with rfl | hx
          · exact h1
          · exact a3 x hx
    · cases e with
      | nil =>
        cases fl with
        | nil =>
          cases c with
          | nil => exact sas_nil
          | cons c cs => simp [chkSt] at hc
        | cons f fl => simp [chkSt] at hc
      | cons e es =>
        cases fl with
        | nil => simp [chkSt] at hc
        | cons f fl =>
          cases c with
          | nil => simp [chkSt] at hc
          | cons c cs =>
            rw [chkSt.eq_def] at hc
            dsimp only at hc
            obtain ⟨h1, h2⟩ := bt hc
            have a1 := S.st K X h _ _ _ h2
            cases f with
            | true =>
              simp only [if_true] at h1
              split at h1
              · exact sas_star (S.e K X h _ _ h1) a1 rfl
              · cases h1
            | false =>
              simp only [Bool.false_eq_true, if_false] at h1
              obtain ⟨h1, h3⟩ := bt h1
              exact sas_cons (S.e K X h _ _ h3) a1 (star_cons h1)
    · cases e with
      | nil =>
        cases c with
        | nil => exact .nil
        | cons c cs => simp [chkJ] at hc
      | cons e es =>
        cases c with
        | nil => simp [chkJ] at hc
        | cons c cs =>
          rw [chkJ] at hc
          obtain ⟨h1, h2⟩ := bt hc
          exact .cons (S.e K X h _ _ h1) (S.j K X h _ _ h2)
    · cases e with
      | nil =>
        cases c with
        | nil => exact ⟨.nil, rfl⟩
        | cons c cs => simp [chkKs] at hc
      | cons e es =>
        cases c with
        | nil => simp [chkKs] at hc
        | cons c cs =>
          obtain ⟨nm, v, p⟩ := e
          rw [chkKs] at hc
          obtain ⟨h1, h2⟩ := bt hc
          obtain ⟨b1, b2⟩ := S.ks K X h _ _ h2
          exact ⟨.cons (S.e K X h _ _ h1) b1, by rw [List.length_cons, List.length_cons, b2]⟩
    · cases e with
      | nil =>
        cases c with
        | none => exact sc_none
        | some c => simp [chkC] at hc
      | cons e es =>
        cases es with
        | nil =>
          cases c with
          | none => simp [chkC] at hc
          | some c =>
            rw [chkC] at hc
            exact sc_some (S.t K X h _ _ hc).1
        | cons e2 es => simp [chkC] at hc
section
variable {K : Cc} {fa : Ad} {cl : Nat → List A → Store → Rz A} {k : Nat} {X : Cx} {E : XK}
/-- the expressions in which a call may raise -/
theorem snd_cx (h : CxOk K fa cl k X) (hE : Passes (L2.CX X.prog X.w) X E) : ∀ n, (∀ e x, chkCX n K e x = true → SXE fa cl E X e x) ∧ ∀ es xs, chkCXs n K es xs = true → SXA fa cl E X es xs
  | 0 => ⟨fun e x hc => by simp [chkCX] at hc, fun es xs hc => by simp [chkCXs] at hc⟩
  | n + 1 => by
    obtain ⟨ih, ihs⟩ := snd_cx h hE n
    have S : Snd fa cl k n := snd_all n
    refine ⟨fun e x hc => ?_, fun es xs hc => ?_⟩
    · rw [chkCX.eq_def] at hc
      dsimp only at hc
      split at hc
      · exact sxe_p (S.e K X h _ _ hc)
      · exact sxe_x (S.x K X h E hE _ _ hc)
      · split at hc
        · exact sxe_tup (ihs _ _ hc)
        · cases hc
      · split at hc
        · exact sxe_lst (ihs _ _ hc)
        · cases hc
      · split at hc
        · exact sxe_lstM (ihs _ _ hc)
        · cases hc
      · split at hc
        · exact sxe_neg (ih _ _ hc)
        · cases hc
      · split at hc
        · obtain ⟨hc, h4⟩ := bt hc
          obtain ⟨hc, h3⟩ := bt hc
          obtain ⟨h1, h2⟩ := bt hc
          have h1 := of_decide_eq_true h1
          subst h1
          obtain ⟨hg, hmg⟩ := blt_of h h2
          have hst := star_cons (es := []) (env := X.env) h3
          exact sxe_int h.calm h.room8 hg hmg (sxs_cons (ih _ _ h4) sxs_nil hst) hst rfl
        · cases hc
      · split at hc
        · obtain ⟨hc, h6⟩ := bt hc
          obtain ⟨hc, h5⟩ := bt hc
          obtain ⟨hc, h4⟩ := bt hc
          obtain ⟨hc, h3⟩ := bt hc
          obtain ⟨h1, h2⟩ := bt hc
          have h1 := of_decide_eq_true h1
          subst h1
          have hst := star_cons (es := []) (env := X.env) h4
          refine sxe_app (S.e K X h _ _ h5) (sxs_cons (ih _ _ h6) sxs_nil hst) (base_of h3) ?_ h2 hst rfl
          rw [star_all (by intro x hx; rw [List.mem_singleton.mp hx]; exact h4)]
          rfl
        · cases hc
      · -- getO
        split at hc
        · obtain ⟨hc, h8⟩ := bt hc
          obtain ⟨hc, h7⟩ := bt hc
          obtain ⟨hc, h6⟩ := bt hc
          obtain ⟨hc, h5⟩ := bt hc
          obtain ⟨hc, h4⟩ := bt hc
          obtain ⟨hc, h3⟩ := bt hc
          obtain ⟨h1, h2⟩ := bt hc
          have h1 := of_decide_eq_true h1
          subst h1
          have hst2 := star_cons (es := []) (env := X.env) h5
          have hst := (star_cons (env := X.env) h4).trans (congrArg _ hst2)
          refine sxe_getO h.room8 (S.e K X h _ _ h6) (ih _ _ h7) (S.e K X h _ _ h8) ⟨base_of h3, ?_, h2, ?_⟩
          · rw [hst]
            rfl
          · rw [hst]
            rfl
        · cases hc
    · cases es with
      | nil =>
        cases xs with
        | nil => exact sxs_nil
        | cons c cs => simp [chkCXs] at hc
      | cons e es =>
        cases xs with
        | nil => simp [chkCXs] at hc
        | cons c cs =>
          rw [chkCXs] at hc
          obtain ⟨hc, h3⟩ := bt hc
          obtain ⟨h1, h2⟩ := bt hc
          exact sxs_cons (ih _ _ h2) (ihs _ _ h3) (star_cons h1)
end
end Fw

/-! What is checked is sound: statements, defs, the whole table. -/
namespace Fw
open PySem PySem.Spec PyProof.Rows L2
section
variable {K : Cc} {fa : Ad} {cl : Nat → List A → Store → Rz A} {k n wf : Nat} {X : Cx} {E : XK}
theorem blk_fn (h : CxOk K fa cl k X) : X.env.blockKind = .function := by
  unfold Env.blockKind
  rw [h.sce, h.kind]
  rfl
theorem swap_lc (h : CxOk K fa cl k X) {tg elt : Expr} {gs : List Comprehension} {scope : Scope} {pos : Pos} {l : Nat} (hs : swB K tg (.ListComp elt gs scope pos) = false) : swapsWith (.ListComp elt gs scope pos) (some tg) l X.env = pure false := by
  cases tg with
  | Name t p =>
    have kk : X.env.kindOf t = kd K t := kd_eq h t
    unfold swapsWith
    dsimp only
    rw [blk_fn h, kk]
    unfold swB at hs
    dsimp only at hs
    cases hk : kd K t with
    | none => rfl
    | some q =>
      rw [hk] at hs
      cases q with
      | «local» =>
        simp only [Bool.true_and] at hs
        have : (ScopeKind.function == ScopeKind.function && some NameKind.local == some NameKind.local && p.line == (Expr.ListComp elt gs scope pos).pos.line && !(scope.names.any fun (n, k) => n == t && (k == NameKind.local || k == NameKind.cell))) = false := by
          show (true && true && p.line == pos.line && !(scope.names.any fun (n, k) => n == t && (k == NameKind.local || k == NameKind.cell))) = false
          simp only [Bool.true_and]
          exact hs
        rw [this]
      | _ => rfl
  | _ => rfl
def locF (env : PySem.Env) (l : Nat) : Expr → Option Str := fun
  | .Name id pos => if env.kindOf id == some .local && pos.line == l then some id else none
  | _ => none
theorem loc_some (h : CxOk K fa cl k X) {l : Nat} {t : Expr} {x : Str} (hx : locF X.env l t = some x) : locNm K l t = true := by
  cases t with
  | Name id pos =>
    unfold locF at hx
    dsimp only at hx
    split at hx
    · rename_i hc
      obtain ⟨h1, h2⟩ := bt hc
      have e : kd K id = some .local := by
        rw [← kd_eq h id]
        exact eq_of_beq h1
      unfold locNm
      dsimp only
      rw [e, h2]
      rfl
    · cases hx
  | _ => simp [locF] at hx
theorem loc_all (h : CxOk K fa cl k X) (l : Nat) : ∀ (ts : List Expr), ((ts.filterMap (locF X.env l)).length = ts.length) → ∀ t ∈ ts, locNm K l t = true
  | [], _, t, ht => by cases ht
  | a :: as, hl, t, ht => by
    rw [List.filterMap_cons] at hl
    split at hl
    · have := List.length_filterMap_le (locF X.env l) as
      rw [List.length_cons] at hl
      omega
    · rename_i x hx
      rw [List.length_cons, List.length_cons] at hl
      rcases List.mem_cons.mp ht with rfl | ht
      · exact loc_some h hx
      · exact loc_all h l as (by omega) t ht
theorem noswap_ok (h : CxOk K fa cl k X) {tg e : Expr} (hs : noSwap K tg e = true) : swappedStores [tg] e X.env = pure none := by
  cases tg with
  | Tuple ts kt pt =>
    cases e with
    | Tuple vs kv pv =>
      unfold noSwap at hs
      dsimp only at hs
      rw [List.any_eq_true] at hs
      obtain ⟨t, ht, hn⟩ := hs
      unfold swappedStores
      dsimp only
      split
      · rfl
      · split
        · rfl
        · split
          · rfl
          · exfalso
            rename_i h3
            apply h3
            rw [Bool.or_eq_true]
            left
            rw [bne_iff_ne]
            intro hl
            have key := loc_all h
            have := key _ _ hl t ht
            rw [this] at hn
            cases hn
    | _ => rfl
  | List _ _ => simp [noSwap] at hs
  | _ => cases e <;> rfl
theorem loc_name (h : CxOk K fa cl k X) {l : Nat} {x : Str} {p : Pos} (hx : locNm K l (.Name x p) = true) : X.env.scope.names.lookup x = some .local ∧ (X.env.kindOf x == some .local) = true ∧ (p.line == l) = true := by
  unfold locNm at hx
  dsimp only at hx
  obtain ⟨h1, h2⟩ := bt hx
  have e : kd K x = some .local := by
    split at h1
    · rename_i e; exact e
    · cases h1
  have e2 : X.env.scope.names.lookup x = some .local := (kd_eq h x).trans e
  refine ⟨e2, ?_, h2⟩
  show (X.env.scope.names.lookup x == some .local) = true
  rw [e2]
  rfl
theorem swap_par (h : CxOk K fa cl k X) {x y : Str} {px py pt pt2 : Pos} {kt k2 : Nat} {a b : Expr} (hx : locNm K px.line (.Name x px) = true) (hy : locNm K px.line (.Name y py) = true) (hxy : x ≠ y)
    (hf : ([a, b].all (foldedForSure 8)) = false) (hc : ([a, b].all (constantsAlone 8)) = false) (sa : (!starB a) = true) (sb : (!starB b) = true) :
    swappedStores [.Tuple [.Name x px, .Name y py] kt pt] (.Tuple [a, b] k2 pt2) X.env = pure (some [x, y]) := by
  obtain ⟨_, x1, x2⟩ := loc_name h hx
  obtain ⟨_, y1, y2⟩ := loc_name h hy
  have nms : ([Expr.Name x px, .Name y py].filterMap (locF X.env px.line)) = [x, y] := by
    have e1 : locF X.env px.line (.Name x px) = some x := by
      unfold locF
      dsimp only
      rw [x1, x2]
      rfl
    have e2 : locF X.env px.line (.Name y py) = some y := by
      unfold locF
      dsimp only
      rw [y1, y2]
      rfl
    rw [List.filterMap_cons, e1]
    dsimp only
    rw [List.filterMap_cons, e2]
    rfl
  have dup : ([x, y].eraseDups.length != [x, y].length) = false := by
    have hb : (y == x) = false := by
      rw [beq_eq_false_iff_ne]
      exact fun z => hxy z.symm
    have hb2 : (x == y) = false := by
      rw [beq_eq_false_iff_ne]
      exact hxy
    simp [List.eraseDups_cons, hb, hb2]
  unfold swappedStores
  dsimp only
  split
  · rename_i hb
    exfalso
    rw [blk_fn h] at hb
    simp at hb
  · split
    · rename_i hb
      exfalso
      rw [List.any_eq_true] at hb
      obtain ⟨e, he, hs⟩ := hb
      have hse : (!starB e) = true := by
        rcases List.mem_cons.mp he with rfl | he
        · exact sa
        · rw [List.mem_singleton.mp he]
          exact sb
      cases e <;> first | (simp [starB] at hse; done) | (cases hs)
    · split
      · rename_i hb
        exfalso
        have hb' : (([Expr.Name x px, .Name y py].filterMap (locF X.env px.line)).length != 2 || ([Expr.Name x px, .Name y py].filterMap (locF X.env px.line)).eraseDups.length != ([Expr.Name x px, .Name y py].filterMap (locF X.env px.line)).length) = true := hb
        rw [nms] at hb'
        rw [dup] at hb'
        cases hb'
      · split
        · rename_i hb
          rw [hf] at hb
          cases hb
        · split
          · rename_i hb
            rw [hc] at hb
            cases hb
          · exact congrArg (fun l => (pure (some l) : Sem (Option (List Str)))) nms
theorem comp_inv {elt : Expr} {gs : List Comprehension} {scope : Scope} {pos : Pos} {c : C} (hlv : (!liveB c) = true) (hc : chkE n K (.ListComp elt gs scope pos) c = true) : ∃ m kk its t own cond ce tg iter ifs ow, n = m + 1 ∧ gs = [⟨tg, iter, ifs, 0⟩] ∧ c = .comp kk its t own cond ce ∧ ownS K own = some ow ∧
    blkC K.N K.sc scope ow = true ∧ chkI m K tg iter kk its = true ∧ chkG ⟨K.T, K.N, relS scope K.sc, some scope, K.lam⟩ tg t = true ∧ (t.slots.all fun i => decide (i ∈ own)) = true ∧ (!setB iter) = true ∧
    chkC m ⟨K.T, K.N, relS scope K.sc, some scope, K.lam⟩ ifs cond = true ∧ chkE m ⟨K.T, K.N, relS scope K.sc, some scope, K.lam⟩ elt ce = true := by
  cases n with
  | zero => simp [chkE] at hc
  | succ m =>
    cases c with
    | comp kk its t own cond ce =>
      rw [chkE.eq_def] at hc
      dsimp only at hc
      split at hc
      · rename_i elt' tg iter ifs scope' pos' heq
        cases heq
        split at hc
        · rename_i ow how
          obtain ⟨hc, h7⟩ := bt hc
          obtain ⟨hc, h6⟩ := bt hc
          obtain ⟨hc, h5⟩ := bt hc
          obtain ⟨hc, h4⟩ := bt hc
          obtain ⟨hc, h3⟩ := bt hc
          obtain ⟨h1, h2⟩ := bt hc
          exact ⟨m, kk, its, t, own, cond, ce, tg, iter, ifs, ow, rfl, rfl, rfl, how, h1, h2, h3, h4, h5, h6, h7⟩
        · cases hc
      · cases hc
    | compM _ _ _ _ _ => cases hlv
    | nope => cases hlv
    | mth m o cs => cases m <;> simp [chkE] at hc
    | app h cs =>
      rw [chkE.eq_def] at hc
      cases m with
      | zero => simp [chkX] at hc
      | succ m => cases h <;> simp [chkX] at hc
    | meth ci fi nm o cs ds =>
      rw [chkE.eq_def] at hc
      cases m with
      | zero => simp [chkX] at hc
      | succ m => simp [chkX] at hc
    | methK ci fi nm o cs ds =>
      rw [chkE.eq_def] at hc
      cases m with
      | zero => simp [chkX] at hc
      | succ m => simp [chkX] at hc
    | _ => simp [chkE] at hc
/-- what becomes of an exception -/
structure StK (E : XK) (X : Cx) : Prop where
  tk : Takes X (fun cls d _ H => E cls d H)
  po : PassesOwn (model X.prog X.w) X.A X.env X.xe
theorem StK.pass {E : XK} (s : StK E X) : Passes (L2.CX X.prog X.w) X E := passes_call s.tk fun _ _ _ _ q => q
theorem assign_one {tg : Expr} {env : PySem.Env} (h : (!starB tg) = true) : (assignEach [tg] env).map (·.2) = [assign tg env] := by
  cases tg <;> first | rfl | (simp [starB] at h)
theorem swap_sole {t e : Expr} {l : Nat} {env : PySem.Env} (h : (!compB e) = true) : swapsWithSole [t] e l env = pure false := by
  show swapsWith e (some t) l env = pure false
  exact swap_no h
theorem sub_noswap (o i v : Expr) (env : PySem.Env) {p : Pos} : swappedStores [.Subscript o i p] v env = pure none := by cases v <;> rfl
theorem sub_assign {o i : Expr} {p : Pos} {env : PySem.Env} (h : (!slcB' i) = true) : ∀ v, assign (.Subscript o i p) env v = (do
    let ov ← holding [v] (eval o env)
    let iv ← holding [v, ov] (eval i env)
    standAt p
    holding [v, ov, iv] (setItem ov iv v)
    release [v, ov, iv] []) := fun v => by
  cases i <;> first | rfl | (simp [slcB'] at h)
theorem aft_bad {g : G} {z : Z} {E : XK} {D : Ends} (h : Aft g z E D .bad) : False := h
theorem ss_nope {s : Stmt} : SS fa cl wf E X s .nope := ⟨fun pins s σ H D I q => by
  obtain ⟨B, S, ρ, eo, so, h⟩ := q
  rw [run1] at h
  exact (aft_bad h).elim⟩
theorem sss_nope {ss : List Stmt} : SSs fa cl wf E X ss [.nope] := ⟨fun pins s σ H D I q => by
  obtain ⟨B, S, ρ, eo, so, h⟩ := q
  rw [Fw.run, run1] at h
  exact (aft_bad h).elim⟩
theorem sndS (hcx : CxOk K fa cl k X) (stk : StK E X) (IH : ∀ ss cs, chkSs n K ss cs = true → SSs fa cl wf E X ss cs) (s : Stmt) (c : Sc) (hc : chkS (n + 1) K s c = true) : SS fa cl wf E X s c := by
  have S : Snd fa cl k n := snd_all n
  rw [chkS.eq_def] at hc
  dsimp only at hc
  split at hc
  · -- asg
    rename_i t ce
    split at hc
    · rename_i tg e pos
      obtain ⟨hc, h3⟩ := bt hc
      obtain ⟨h1, h2⟩ := bt hc
      split at h3
      · rename_i hsw
        split at h3
        · rename_i i
          -- tg is a name, e a list comprehension
          cases tg with
          | Name y py =>
            cases e with
            | ListComp elt gs scope lpos =>
              obtain ⟨m, kk, its, t, own, cond, ce', tg', iter, ifs, ow, rfl, rfl, rfl, how, b1, b2, b3, b4, b5, b6, b7⟩ := comp_inv h3 h1
              have em := ownS_map how
              have ok : BlkOk X.N X.env.scope scope ow := by
                rw [hcx.hN, hcx.sce]
                exact blkOk_by b1
              rw [← em]
              rw [List.all_eq_true] at b4
              have Sm : Snd fa cl k m := snd_all m
              unfold swB at hsw
              dsimp only at hsw
              obtain ⟨hsw, s3⟩ := bt hsw
              obtain ⟨s1, s2⟩ := bt hsw
              have hl : X.env.scope.names.lookup y = some .local := by
                rw [kd_eq hcx]
                split at s1
                · rename_i e; exact e
                · cases s1
              rw [chkG] at h2
              obtain ⟨g1, g2⟩ := bt h2
              refine ss_asgLc (ss_setLc hcx.calm hcx.nd (slot_of hcx g1) hl (sw_true (by rw [hcx.sce]; exact hcx.kind) hl s2 ?_) (Sm.i K X hcx _ _ _ _ b2) ok (fun s H C cls fp => sg_of (hcx.blk s H scope cls C fp ok.kind) _ _ b3)
                (fun s H C cls fp => Sm.c _ _ (hcx.blk s H scope cls C fp ok.kind) _ _ b6) (fun s H C cls fp => Sm.e _ _ (hcx.blk s H scope cls C fp ok.kind) _ _ b7) (fun i hi => ?_) (folded_of b5))
              · cases hq : (scope.names.any fun (n, k) => n == y && (k == NameKind.local || k == NameKind.cell)) with
                | false => rfl
                | true => rw [hq] at s3; cases s3
              · rw [em]
                exact of_decide_eq_true (b4 i hi)
            | _ => simp [swB] at hsw
          | _ => simp [swB] at hsw
        · cases h3
      · rename_i hsw
        have hsw : swB K tg e = false := by
          cases q : swB K tg e with
          | false => rfl
          | true => exact absurd q hsw
        obtain ⟨h3, h5⟩ := bt h3
        obtain ⟨h3, h4⟩ := bt h3
        refine ss_asg (S.e K X hcx _ _ h1) (sg_of hcx _ _ h2) ?_ (noswap_ok hcx h3) (assign_one h4)
        show swapsWith e (some tg) pos.line X.env = pure false
        cases e with
        | ListComp elt gs scope lpos => exact swap_lc hcx hsw
        | SetComp _ _ _ _ => cases h5
        | DictComp _ _ _ _ _ => cases h5
        | _ => rfl
    · cases hc
  · -- par
    rename_i i j ca cb
    split at hc
    · rename_i x px y py kt pt a b k2 pt2 pos
      obtain ⟨hc, h9⟩ := bt hc
      obtain ⟨hc, h8⟩ := bt hc
      obtain ⟨hc, h7⟩ := bt hc
      obtain ⟨hc, h6⟩ := bt hc
      obtain ⟨hc, h5⟩ := bt hc
      obtain ⟨hc, h4⟩ := bt hc
      obtain ⟨hc, h3⟩ := bt hc
      obtain ⟨h1, h2⟩ := bt hc
      have nq : ∀ {p : Prop} [Decidable p], (!decide p) = true → ¬ p := fun {p} _ z q => by
        rw [decide_eq_true q] at z
        cases z
      have nb : ∀ {p : Bool}, (!p) = true → p = false := fun {p} z => by cases p <;> first | rfl | cases z
      obtain ⟨a1, a2, a3⟩ := S.es K X hcx _ _ h9
      have sa := a3 a (List.mem_cons_self ..)
      have sb := a3 b (List.mem_cons_of_mem _ (List.mem_singleton.mpr rfl))
      exact ss_par (fun ta ha => ps_par hcx.calm hcx.nd (slot_of hcx h1) (slot_of hcx h2) (nq h3) (loc_name hcx h5).1 (loc_name hcx h6).1 ha (swap_par hcx h5 h6 (nq h4) (nb h7) (nb h8) sa sb) rfl) a1
    · cases hc
  · -- parT
    split at hc
    · obtain ⟨hc, h6⟩ := bt hc
      obtain ⟨hc, h5⟩ := bt hc
      obtain ⟨hc, h4⟩ := bt hc
      obtain ⟨hc, h3⟩ := bt hc
      obtain ⟨h1, h2⟩ := bt hc
      obtain ⟨l1, f1⟩ := own_of hcx h3
      obtain ⟨l2, f2⟩ := own_of hcx h4
      exact ss_parT hcx.calm hcx.nd (slot_of hcx h1) (slot_of hcx h2) l1 l2 f1 f2 (S.es K X hcx _ _ h6).1 (noswap_ok hcx h5)
    · cases hc
  · -- setI
    split at hc
    · obtain ⟨hc, h5⟩ := bt hc
      obtain ⟨hc, h4⟩ := bt hc
      obtain ⟨hc, h3⟩ := bt hc
      obtain ⟨h1, h2⟩ := bt hc
      refine ss_setI (tp := ⟨0, 0, 0, 0⟩) (S.e K X hcx _ _ h2) (S.e K X hcx _ _ h3) (S.e K X hcx _ _ h4) fun te to ti hv ho hi => ps_asg hv (pg_sub ho hi set_list (sub_assign h5)) (swap_sole h1) (sub_noswap _ _ _ _) rfl
    · cases hc
  · -- setD
    split at hc
    · obtain ⟨hc, h5⟩ := bt hc
      obtain ⟨hc, h4⟩ := bt hc
      obtain ⟨hc, h3⟩ := bt hc
      obtain ⟨h1, h2⟩ := bt hc
      exact ss_setD hcx.room8 (S.e K X hcx _ _ h2) (S.e K X hcx _ _ h3) (S.e K X hcx _ _ h4) (swap_no h1)
    · cases hc
  · -- exp
    split at hc
    · obtain ⟨h1, h2⟩ := bt hc
      exact ss_exp (S.e K X hcx _ _ h2) (swap_no h1)
    · cases hc
  · -- ret
    split at hc
    · exact ss_ret (S.e K X hcx _ _ hc)
    · cases hc
  · -- retN
    split at hc
    · exact ss_retN
    · cases hc
  · -- ite
    split at hc
    · obtain ⟨hc, h3⟩ := bt hc
      obtain ⟨h1, h2⟩ := bt hc
      exact ss_ite (S.t K X hcx _ _ h1).1 (IH _ _ h2) (IH _ _ h3)
    · cases hc
  · -- for
    split at hc
    · obtain ⟨hc, h4⟩ := bt hc
      obtain ⟨hc, h3⟩ := bt hc
      obtain ⟨h1, h2⟩ := bt hc
      exact ss_for stk.po hcx.calm (S.i K X hcx _ _ _ _ h1) (sg_of hcx _ _ h2) (IH _ _ h4) (folded_of h3)
    · cases hc
  · -- while
    split at hc
    · obtain ⟨h1, h2⟩ := bt hc
      exact ss_while stk.po (S.t K X hcx _ _ h1).1 (IH _ _ h2)
    · cases hc
  · cases hc
  · -- asgX
    split at hc
    · obtain ⟨hc, h5⟩ := bt hc
      obtain ⟨hc, h4⟩ := bt hc
      obtain ⟨hc, h3⟩ := bt hc
      obtain ⟨h1, h2⟩ := bt hc
      exact ss_asgX (S.x K X hcx E stk.pass _ _ h1) (sg_of hcx _ _ h2) (swap_sole h5) (noswap_ok hcx h3) (assign_one h4)
    · cases hc
  · -- expX
    split at hc
    · obtain ⟨h1, h2⟩ := bt hc
      exact ss_expX (S.x K X hcx E stk.pass _ _ h2) (swap_no h1)
    · cases hc
  · -- retX
    split at hc
    · exact ss_retX (S.x K X hcx E stk.pass _ _ hc)
    · cases hc
  · -- raise
    rename_i xi cs
    split at hc
    · rename_i x p a pos' pos c
      obtain ⟨hc, h7⟩ := bt hc
      obtain ⟨hc, h8⟩ := bt hc
      obtain ⟨hc, h6⟩ := bt hc
      obtain ⟨hc, h5⟩ := bt hc
      obtain ⟨hc, h4⟩ := bt hc
      obtain ⟨hc, h3⟩ := bt hc
      obtain ⟨h1, h2⟩ := bt hc
      rw [List.any_eq_true] at h4
      obtain ⟨ei, hei, hq⟩ := h4
      obtain ⟨q1, q2⟩ := bt hq
      have q1 := of_decide_eq_true q1
      subst q1
      unfold xiEq at q2
      obtain ⟨q2, q5'⟩ := bt q2
      obtain ⟨q3', q4'⟩ := bt q2
      obtain ⟨xc, xcode, xattr⟩ := xi
      have q3 : ei.x.c = xc := of_decide_eq_true q3'
      have q4 : ei.x.code = xcode := of_decide_eq_true q4'
      have q5 : ei.x.attr = xattr := of_decide_eq_true q5'
      clear q2 q3' q4' q5'
      subst q3
      subst q4
      subst q5
      have ek := hcx.tb.exc _ hei
      obtain ⟨attr, hat⟩ := Option.isSome_iff_exists.mp h5
      have hat : ei.x.attr = some attr := hat
      obtain ⟨f, fd, ps, f1, f2, f3, f4⟩ := ek.fn attr hat
      have hst := star_cons (es := []) (env := X.env) h3
      refine ss_raise (k := 5) (f := f) hcx.calm stk.tk ek.oex f1 f2 f3 (hcx.room.mono (by omega)) f4 (gl_of hcx h1) ek.mgE hat (fun z => ?_) ⟨ek.few (fun z => ?_), ek.xf, ek.code, ek.fld⟩ (sa_cons (S.e K X hcx _ _ h7) sa_nil hst) (nm_of h2).1 hst
      · have h6 : (!decide (ei.x.attr = some ("code" : Str))) = true := h6
        rw [hat, z, decide_eq_true rfl] at h6
        cases h6
      · have h8 : (!decide (ei.x.code = "NothingLeft")) = true := h8
        rw [decide_eq_true z] at h8
        cases h8
    · cases hc
  · -- setF
    split at hc
    · rename_i o m' pos' v pos
      obtain ⟨hc, h5⟩ := bt hc
      obtain ⟨hc, h4⟩ := bt hc
      obtain ⟨hc, h3⟩ := bt hc
      obtain ⟨h1, h2⟩ := bt hc
      have h1 := of_decide_eq_true h1
      subst h1
      obtain ⟨c, hcc, h3⟩ := cl_of h3
      rw [List.any_eq_true] at h3
      obtain ⟨y, hy, e⟩ := h3
      have e := of_decide_eq_true e
      subst e
      have ck := hcx.tb.cls _ c hcc
      refine ss_setF (S.e K X hcx _ _ h4) (S.e K X hcx _ _ h5) ck.cls (ck.flds _ hy) ?_
      cases v with
      | ListComp elt gs scope lpos => exact swap_lc hcx rfl
      | SetComp _ _ _ _ => cases h2
      | DictComp _ _ _ _ _ => cases h2
      | _ => rfl
    · cases hc
  · -- asgE
    split at hc
    · obtain ⟨hc, h5⟩ := bt hc
      obtain ⟨hc, h4⟩ := bt hc
      obtain ⟨hc, h3⟩ := bt hc
      obtain ⟨h1, h2⟩ := bt hc
      exact ss_asgE ((snd_cx hcx stk.pass n).1 _ _ h1) (sg_of hcx _ _ h2) (swap_sole h5) (noswap_ok hcx h3) (assign_one h4)
    · cases hc
  · -- asgS
    split at hc
    · obtain ⟨hc, h7⟩ := bt hc
      obtain ⟨hc, h6⟩ := bt hc
      obtain ⟨hc, h5⟩ := bt hc
      obtain ⟨hc, h4⟩ := bt hc
      obtain ⟨hc, h3⟩ := bt hc
      obtain ⟨h1, h2⟩ := bt hc
      obtain ⟨x1, x2⟩ := own_of hcx h3
      obtain ⟨y1, y2⟩ := own_of hcx h4
      exact ss_asgS (S.e K X hcx _ _ h7) (pg_star hcx.calm hcx.nd (slot_of hcx h1) (slot_of hcx h2) x1 y1 x2 y2) (swap_sole h6) (noswap_ok hcx h5) rfl
    · cases hc
  · -- expE
    split at hc
    · obtain ⟨h1, h2⟩ := bt hc
      exact ss_expE ((snd_cx hcx stk.pass n).1 _ _ h2) (swap_no h1)
    · cases hc
  · -- retE
    split at hc
    · exact ss_retE ((snd_cx hcx stk.pass n).1 _ _ hc)
    · cases hc
  · -- augF
    split at hc
    · rename_i o m' pos' op v pos
      obtain ⟨hc, h5⟩ := bt hc
      obtain ⟨hc, h4⟩ := bt hc
      obtain ⟨hc, h3⟩ := bt hc
      obtain ⟨h1, h2⟩ := bt hc
      have h1 := of_decide_eq_true h1
      have h2 := of_decide_eq_true h2
      subst h1
      subst h2
      obtain ⟨c, hcc, h3⟩ := cl_of h3
      rw [List.any_eq_true] at h3
      obtain ⟨y, hy, e⟩ := h3
      have e := of_decide_eq_true e
      subst e
      have ck := hcx.tb.cls _ c hcc
      exact ss_augF (S.e K X hcx _ _ h4) (S.e K X hcx _ _ h5) ck.cls (ck.flds _ hy)
    · cases hc
  · exact ss_nope
  · -- setK
    split at hc
    · obtain ⟨hc, h5⟩ := bt hc
      obtain ⟨hc, h4⟩ := bt hc
      obtain ⟨hc, h3⟩ := bt hc
      obtain ⟨h1, h2⟩ := bt hc
      exact ss_setK hcx.room8 (S.e K X hcx _ _ h2) (S.e K X hcx _ _ h3) (S.e K X hcx _ _ h4) (swap_no h1)
    · cases hc
  · -- setR
    split at hc
    · rename_i x px m' pos' v pos
      obtain ⟨hc, h6⟩ := bt hc
      obtain ⟨hc, h5⟩ := bt hc
      obtain ⟨hc, h4⟩ := bt hc
      obtain ⟨hc, h3⟩ := bt hc
      obtain ⟨h1, h2⟩ := bt hc
      have h1 := of_decide_eq_true h1
      subst h1
      obtain ⟨c, hcc, h3⟩ := cl_of h3
      rw [List.any_eq_true] at h3
      obtain ⟨y, hy, e⟩ := h3
      have e := of_decide_eq_true e
      subst e
      have ck := hcx.tb.cls _ c hcc
      have hv := pe_var (slot_of hcx h4) (vis_of hcx h5) (nm_of h6).1 (nm_of h6).2.1 (pos := px)
      split at h2
      · exact ss_setR (dk := true) hv pe_dnewK ck.cls (ck.flds _ hy) rfl
      · refine ss_setR (dk := false) hv ((pe_lst pa_nil).imp fun σ H Q q => ?_) ck.cls (ck.flds _ hy) rfl
        exact ⟨by decide, fun p hp => q p hp⟩
      · cases h2
    · cases hc
  · split at hc
    · exact ss_pass
    · cases hc
  · split at hc
    · exact ss_brk
    · cases hc
  · split at hc
    · exact ss_cnt
    · cases hc
theorem sndSs (hcx : CxOk K fa cl k X) (stk : StK E X) : ∀ (n : Nat) (ss : List Stmt) (cs : List Sc), chkSs n K ss cs = true → SSs fa cl wf E X ss cs ∧ ∀ s c, chkS n K s c = true → SS fa cl wf E X s c := by
  intro n
  have main : ∀ n, (∀ ss cs, chkSs n K ss cs = true → SSs fa cl wf E X ss cs) ∧ ∀ s c, chkS n K s c = true → SS fa cl wf E X s c := by
    intro n
    induction n with
    | zero => exact ⟨fun ss cs h => by simp [chkSs] at h, fun s c h => by simp [chkS] at h⟩
    | succ n ih =>
      refine ⟨fun ss cs h => ?_, fun s c h => sndS hcx stk ih.1 s c h⟩
      cases cs with
      | nil =>
        cases ss with
        | nil => exact sss_nil
        | cons s ss => simp [chkSs] at h
      | cons c cs =>
        cases c with
        | frz i =>
          rw [chkSs.eq_def] at h
          exact sss_frz (ih.1 _ _ h)
        | nope =>
          cases cs with
          | nil => exact sss_nope
          | cons c2 cs =>
            cases ss with
            | nil => simp [chkSs] at h
            | cons s ss =>
              rw [chkSs.eq_def] at h
              dsimp only at h
              obtain ⟨h1, h2⟩ := bt h
              exact sss_cons (ih.2 _ _ h1) (ih.1 _ _ h2)
        | _ =>
          cases ss with
          | nil => simp [chkSs] at h
          | cons s ss =>
            rw [chkSs.eq_def] at h
            dsimp only at h
            obtain ⟨h1, h2⟩ := bt h
            exact sss_cons (ih.2 _ _ h1) (ih.1 _ _ h2)
  exact fun ss cs h => ⟨(main n).1 ss cs h, (main n).2⟩
theorem body_ok (hcx : CxOk K fa cl k X) (stk : StK E X) {ss : List Stmt} {cs : List Sc} (h : chkSs n K ss cs = true) : SSs fa cl wf E X ss cs := (sndSs hcx stk n ss cs h).1
end
end Fw

/-! The whole table of defs, and the law. -/
namespace Fw
open PySem PySem.Spec PyProof.Rows L2
/-- what is known of a def of the text -/
structure Fact (w : World) (T : Tb) (ft : List Fn) (fa : Ad) (K : PySem.W.Frag) (mg : Str → Option Value) (lam : Bool) (fi : Nat) (I : FI) (fd : FuncData) (st : Stmt) (N : List Str) (i : Fn) : Prop where
  fun_ : ∃ dvs kws, FunD K I.name I.qual (defArgs st) (defBody st) (defScope st) dvs kws (fa.f fi) fd
  sc : FnScope N I.ps (defScope st)
  hi : ft[fi]? = some i
  np : i.np = I.ps.length
  nn : i.nn = N.length
  chk : chkSs 200 ⟨T, N, defScope st, none, lam⟩ (defBody st) i.code = true
  mg : I.kind = .glob → mg I.name = some (.ref (fa.f fi))
  dfl : I.kind ≠ .star → ∀ n ds, (n, ds) ∈ I.dfl → ∃ dsV dvs, Binds K fd I.ps dsV ∧ Vals dvs dsV ∧ (∀ z, DatL ⟨K, fa, w⟩ z ds dvs) ∧ n + ds.length = I.ps.length
  kwl : ∀ n ks asm, (n, ks, asm) ∈ I.kwl → KBA ⟨K, fa, w⟩ fd I.ps n ks asm
  pos : posB I = true → Binds K fd I.ps []
  star : I.kind = .star → ∃ p1 pv, I.ps = [p1, pv] ∧ FunD K I.name I.qual (defArgs st) (defBody st) (defScope st) [] [] (fa.f fi) fd ∧ ∀ us rest : List Value, us.length = [p1].length → bindArgs fd ⟨us ++ rest, []⟩ = (newTuple rest >>= fun t => pure ([p1].zip us ++ [(pv, t)]))
/-- what is known of an own exception, from the text -/
structure ExF (fa : Ad) (K : PySem.W.Frag) (mg : Str → Option Value) (e : EI) : Prop where
  mgE : mg e.name = some (.ref (fa.c e.x.c))
  oex : OexG K (fa.c e.x.c)
  few : e.x.code ≠ "NothingLeft" → PySem.W.exmAny K (.ref (fa.c e.x.c)) [.ref fa.few, .ref fa.mis] = some true
  xf : XfC K (fa.c e.x.c)
  code : PySem.W.findIn K (.ref (fa.c e.x.c)) "code" = some none
  fld : ∀ y ∈ fldNames, PySem.W.findIn K (.ref (fa.c e.x.c)) y = some none
  fn : ∀ attr, e.x.attr = some attr → ∃ f fd st me par x qual, PySem.W.findIn K (.ref (fa.c e.x.c)) "__init__" = some (some (.ref f)) ∧ PySem.W.typeIn K (.ref f) = some (.type "function") ∧ FunD K x qual (defArgs st) (defBody st) (defScope st) [] [] f fd ∧ FnScope [me, par] [me, par] (defScope st) ∧
    ExcBody me par e.x.code attr (defBody st) ∧ PySem.W.findIn K (.ref (fa.c e.x.c)) attr = some none ∧ Binds K fd [me, par] [] ∧ ∀ y ∈ [me, par], (y == ("__debug__" : Str)) = false ∧ (y == ("__classdict__" : Str)) = false
  fn0 : e.x.attr = none → ∃ f fd st me x qual, PySem.W.findIn K (.ref (fa.c e.x.c)) "__init__" = some (some (.ref f)) ∧ PySem.W.typeIn K (.ref f) = some (.type "function") ∧ FunD K x qual (defArgs st) (defBody st) (defScope st) [] [] f fd ∧ FnScope [me] [me] (defScope st) ∧ ExcBody0 me e.x.code (defBody st) ∧ Binds K fd [me] [] ∧ (me == ("__debug__" : Str)) = false ∧ (me == ("__classdict__" : Str)) = false
/-- lam: the def that holds lambdas, if there is one -/
structure Facts (w : World) (T : Tb) (ft : List Fn) (fa : Ad) (K : PySem.W.Frag) (mg : Str → Option Value) (li : Nat) : Prop where
  fns : ∀ fi I, T.fns[fi]? = some I → ∃ fd st N i, Fact w T ft fa K mg (decide (fi = li)) fi I fd st N i
  blt : ∀ x ∈ T.blts, mg x = none
  cst : ∀ x d, (x, d) ∈ T.csts → ∃ u v, mg x = some u ∧ RelV v u ∧ ∀ z, Dat ⟨K, fa, w⟩ z d v
  cls : ∀ ci c, T.cls[ci]? = some c → ClK fa w K mg ci c
  exc : ∀ e ∈ T.excs, ExF fa K mg e
  why : ∀ x, T.why = some x → WhyK fa K mg x
  kts : ∀ y ns, (y, ns) ∈ T.kts → KtK fa K mg T.excs y ns
/-- what the def that holds lambdas wants of the base -/
def LamB (fa : Ad) (K : PySem.W.Frag) (mg : Str → Option Value) (base : Heap) (li : Nat) (qual : Str) : Prop := ∀ (oc : Value) (od : Option Addr) (fd : FuncData) (osl : Array (Option Value)), K.lookup (fa.f li) = some ⟨oc, od, .func fd, osl⟩ →
  ∃ c P, fd.code = .ref c ∧ LamX.TabB base mg c P ∧ fa.T = [(P, (qual ++ ".<locals>." : Str) ++ "<lambda>")]
theorem ExF.exk {fa : Ad} {P : Program} {w : World} {K : PySem.W.Frag} {mg : Str → Option Value} {base : Heap} {e : EI} (h : ExF fa K mg e) : ExK fa P w K mg base e := by
  refine ⟨h.mgE, h.oex, h.few, h.xf, h.code, h.fld, fun attr ha => ?_, fun ha => ?_⟩
  · obtain ⟨f, fd, st, me, par, x, qual, h1, h2, h3, h4, h5, h6, h7, h8⟩ := h.fn attr ha
    exact ⟨f, fd, [me, par], h1, h2, exc_fn h3 h4 h5 h.oex h.code h6 (h8 me (by simp)).1 (h8 me (by simp)).2 (h8 par (by simp)).1 (h8 par (by simp)).2, h7⟩
  · obtain ⟨f, fd, st, me, x, qual, h1, h2, h3, h4, h5, h6, h7, h8⟩ := h.fn0 ha
    exact ⟨f, fd, [me], h1, h2, exc_fn0 h3 h4 h5 h.oex h.code h7 h8, h6⟩
theorem fact_body {T : Tb} {ft : List Fn} {wf k li fi : Nat} {fa : Ad} {P : Program} {w : World} {K : PySem.W.Frag} {mg : Str → Option Value} {base : Heap} {I I' : FI} {fd : FuncData} {st : Stmt} {N : List Str} {i : Fn} (f : Fact w T ft fa K mg (decide (fi = li)) fi I fd st N i)
    (hL : T.fns[li]? = some I') (hI : T.fns[fi]? = some I) (LB : LamB fa K mg base li I'.qual) (tb : TabK T fa (callI ft wf k) k P w K mg base) (cdv : Value) (A : Around) (outer : List PySem.Env) (s : Shared) (H : Hp) (E : XK)
    (hcd : ∃ oc od osl, K.lookup (fa.f fi) = some ⟨oc, od, .func fd, osl⟩ ∧ fd.code = cdv) (hr : Room (4 * k + 11) (A.deeper (envOfC I.qual (defScope st) s.heap.objs.size (fa.f fi) cdv))) :
    SSs fa (callI ft wf k) wf E (cxOf (L2.CX P w) P w K mg base N I.qual (defScope st) (fa.f fi) cdv A outer s H E) (defBody st) i.code := by
  refine body_ok (K := ⟨T, N, defScope st, none, decide (fi = li)⟩) (k := k) ⟨rfl, f.sc.nd, rfl, f.sc.kind, rfl, hr.mono (by omega), fun _ _ => rfl, tb, fun hl => ⟨?_, hr⟩⟩ ⟨takes_of rfl rfl rfl (E₁ := fun e' s'' => L2.CX P w outer H s E e' s'') rfl, L2.passes_of (E₁ := fun e' s'' => L2.CX P w outer H s E e' s'') rfl⟩ f.chk
  have hl : fi = li := of_decide_eq_true hl
  subst hl
  rw [hI] at hL
  cases hL
  obtain ⟨oc, od, osl, lk, rfl⟩ := hcd
  obtain ⟨c, Pt, h1, h2, h3⟩ := LB _ _ _ _ lk
  refine ⟨c, Pt, h2, h1, ?_, ?_⟩
  · rw [h3]
    exact List.mem_singleton.mpr rfl
  · intro p hp _
    rw [h3] at hp
    rw [List.mem_singleton.mp hp]
    rfl
theorem table {T : Tb} {ft : List Fn} {wf li : Nat} {fa : Ad} {P : Program} {w : World} {K : PySem.W.Frag} {mg : Str → Option Value} {base : Heap} {I' : FI} (F : Facts w T ft fa K mg li) (hL : T.fns[li]? = some I') (LB : LamB fa K mg base li I'.qual) : ∀ k, TabK T fa (callI ft wf k) k P w K mg base
  | 0 => by
    refine ⟨fun fi I h hk => ?_, fun fi I h hk => ⟨fun A outer s H us vs Q E _ _ _ q => ?_, fun xs S z S' hm => by rw [callI] at hm; cases hm⟩, F.blt, F.cst, F.cls, fun e he => (F.exc e he).exk, F.why, F.kts⟩
    · obtain ⟨fd, st, N, i, f⟩ := F.fns fi I h
      obtain ⟨dvs, kws, fu⟩ := f.fun_
      refine ⟨fd, ⟨fun vs H Q E q => ?_, fun A outer s H args us vs Q E _ _ _ _ q => ?_⟩, f.mg, fu.kp, f.dfl hk, f.kwl, f.pos, fun xs S z S' hm => by rw [callI] at hm; cases hm⟩
      · obtain ⟨_, _, _, _, _, _, hm⟩ := q
        rw [callI] at hm
        exact False.elim hm
      · obtain ⟨_, _, _, _, _, _, hm⟩ := q
        rw [callI] at hm
        exact False.elim hm
    · obtain ⟨ws, rest, _, _, _, hq⟩ := q
      have e0 := ‹Env0 P w K mg base A outer s H›
      obtain ⟨_, _, _, _, _, _, hm⟩ := hq s.heap.objs.size (e0.hok.fresh (Nat.le_refl _))
      rw [callI] at hm
      exact False.elim hm
  | k + 1 => by
    have tb := table (P := P) (w := w) (wf := wf) F hL LB k
    have ar : ∀ fi I, T.fns[fi]? = some I → ∀ xs S z S', callI ft wf (k + 1) fi xs S = .ok z S' → xs.length = I.ps.length := fun fi I h xs S z S' hm => by
      obtain ⟨fd, st, N, i, f⟩ := F.fns fi I h
      rw [callI, f.hi] at hm
      dsimp only at hm
      split at hm
      · rename_i hl
        rw [hl, f.np]
      · cases hm
    refine ⟨fun fi I h hk => ?_, fun fi I h hk => ?_, F.blt, F.cst, F.cls, fun e he => (F.exc e he).exk, F.why, F.kts⟩
    · obtain ⟨fd, st, N, i, f⟩ := F.fns fi I h
      obtain ⟨dvs, kws, fu⟩ := f.fun_
      exact ⟨fd, fn_ok fu f.sc f.hi f.np f.nn fun cdv A outer s H E _ hcd hr => fact_body f hL h LB tb cdv A outer s H E hcd hr, f.mg, fu.kp, f.dfl hk, f.kwl, f.pos, ar fi I h⟩
    · obtain ⟨fd, st, N, i, f⟩ := F.fns fi I h
      obtain ⟨p1, pv, hps, fu, hb⟩ := f.star hk
      have sc := f.sc
      rw [hps] at sc
      have np := f.np
      rw [hps] at np
      refine ⟨fn_okS fu sc f.hi np f.nn hb fun cdv A outer s H E _ hcd hr => fact_body f hL h LB tb cdv A outer s H E hcd hr, fun xs S z S' hm => ?_⟩
      rw [ar fi I h xs S z S' hm, hps]
      rfl
/-- the law's promise -/
def spLaw (K : PySem.W.Frag) (fa : Ad) : Sp := fun vs H Q _ => ∃ (a : Addr) (ns : List Int), vs = [.ref a] ∧ ns.length ≤ 63 ∧ fa.iv H ∧ SqL K H a (ns.map V.int) ∧ ∀ H', Q (.bl true) H'
theorem law_fn {T : Tb} {ft : List Fn} {wf : Nat} {fa : Ad} {P : Program} {w : World} {K : PySem.W.Frag} {mg : Str → Option Value} {base : Heap} {k li : Nat} {I : FI} {fd : FuncData} {st : Stmt} {N : List Str} {i : Fn} (F : Facts w T ft fa K mg li) (f : Fact w T ft fa K mg (decide (li = li)) li I fd st N i) (hI : T.fns[li]? = some I) (LB : LamB fa K mg base li I.qual) (hp : I.ps.length = 1)
    (hlaw : ∀ ns : List Int, ns.length ≤ 63 → ∃ S', callI ft wf (k + 1) li [.p (.scr ns)] [] = .ok (.p (.bl true)) S') : FnOk P w K mg base (L2.CX P w) (4 * k + 11 + 1) (fa.f li) fd I.ps (spLaw K fa) := by
  obtain ⟨dvs, kws, fu⟩ := f.fun_
  have G := fn_ok (P := P) (w := w) (mg := mg) (base := base) (wf := wf) (k := k) fu f.sc f.hi f.np f.nn fun cdv A outer s H E _ hcd hr => fact_body f hI hI LB (table F hI LB k) cdv A outer s H E hcd hr
  refine G.imp fun vs H Q E h => ?_
  obtain ⟨a, ns, rfl, hl, hiv, hs, q⟩ := h
  obtain ⟨S', hc⟩ := hlaw ns hl
  refine ⟨⟨[], []⟩, [], [.p (.scr ns)], ⟨rfl, fun i j a h => by simp at h, fun i a xs h _ => by simp at h, fun a h => by simp at h, hiv, fun i c ns xs h => by simp at h⟩, ⟨.ref a, [], rfl, ⟨a, rfl, ?_⟩, rfl⟩, by rw [hp]; rfl, ?_⟩
  · rcases hs with (h | ⟨o, h⟩) | h
    · exact .inr (.inr ⟨h, fun z => by
        rcases z with ⟨j, _, z, _⟩ | z
        · simp at z
        · cases z⟩)
    · exact .inl ⟨o, h⟩
    · exact .inr (.inl h)
  rw [hc]
  intro v B' H' _ _ d
  rw [show v = V.bl true from d]
  exact q H'
/-- what is known of the def that holds the lambdas, from the text: its code object at c, the table at P -/
structure LamF (fa : Ad) (K : PySem.W.Frag) (li : Nat) (qual : Str) (c P : Addr) : Prop where
  code : ∃ oc od fd osl e dd vs sl, K.lookup (fa.f li) = some ⟨oc, od, .func fd, osl⟩ ∧ fd.code = .ref c ∧ K.lookup c = some ⟨e, dd, .fields vs, sl⟩ ∧ vs[11]? = some (.ref P)
  hd : PySem.W.codeHdIn K c P = true
  no : K.lookup P = none
  tab : fa.T = [(P, (qual ++ ".<locals>." : Str) ++ "<lambda>")]
/-- the goal that the head leaves -/
theorem walk {l : PySem.W.OpenLaw} {q : Program} {loose : List Str} {XP : (Str → Option Value) → Heap → Prop} {YP : World → Heap → Prop} {d : DefRec} {K : Params → PySem.W.Frag} {x : Str} {T : Tb} {ft : List Fn} {wf k li : Nat} {I : FI} (hn : l.most = some 63) (hdf : d.params.defaults = []) (hr : Room (4 * k + 11 + 1) callerA) (hrec : ((recsOf q).any fun e => e.name == d.name) = true)
    (hY : ∀ (w : World) (h : Heap), YP w h → (K w.params).In h) (hI : T.fns[li]? = some I) (hp : I.ps = [x]) (hdn : d.name = I.name) (hgl : I.kind = .glob)
    (hlaw : ∀ ns : List Int, ns.length ≤ 63 → ∃ S', callI ft wf (k + 1) li [.p (.scr ns)] [] = .ok (.p (.bl true)) S')
    (F : ∀ (w : World) (mg : Str → Option Value) (h : Heap), (K w.params).In h → h.Ns mainGlobals mg → ∃ fa c P, Facts w T ft fa (K w.params) mg li ∧ LamF fa (K w.params) li I.qual c P ∧ ∀ fd st N i, Fact w T ft fa (K w.params) mg (decide (li = li)) li I fd st N i → ∀ (s : Shared) (u : Value), BindsTo s fd ⟨[u], []⟩ [(x, u)]) :
    PySem.W.WalkO q loose XP YP l.row.toRowW d [] (fun f vs => PySem.call f vs) := by
  refine LamX.walk_ofOwn (n := 63) (k := 4 * k + 11 + 1) (x := x) (CX := fun w => L2.CX l.prog w) hn (by decide) hdf hr hrec hY (fun w mg fa' h Y KX G hmg own => ?_) fun w H s e s' z => L2.CX.no z
  obtain ⟨fa, c, P, Fa, L, bd⟩ := F w mg h KX G
  obtain ⟨fd, st, N, i, f⟩ := Fa.fns li I hI
  have e : fa' = fa.f li := by
    have := f.mg hgl
    rw [← hdn, hmg] at this
    cases this
    rfl
  subst e
  obtain ⟨oc, od, fd', osl, e, dd, vs, sl, l1, l2, l3, l4⟩ := L.code
  have hT := own c P _ fd' e dd vs sl l1 rfl l2 l3 l4
  have hCd := PySem.W.codeHd_of_K KX L.hd
  have one : ∀ {p : Addr × Addr}, p ∈ [(c, P)] → p = (c, P) := fun hp => List.mem_singleton.mp hp
  refine ⟨fd, [(c, P)], spLaw (K w.params) fa, fun p hp => ?_, fun p hp => ?_, fun p hp => ?_, bd fd st N i f, fun H a ns hl _ hH hS => ?_, fun base KB GB TB => ?_⟩
  · rw [one hp]
    exact hT
  · rw [one hp]
    exact L.no
  · rw [one hp]
    exact hCd
  · refine ⟨a, ns, rfl, hl, fun p hp => ?_, hS, fun _ => rfl⟩
    rw [L.tab] at hp
    rw [List.mem_singleton.mp hp]
    exact LamX.TabS.nil (hH (c, P) (List.mem_singleton.mpr rfl))
  · have LB : LamB fa (K w.params) mg base li I.qual := fun oc2 od2 fd2 osl2 lk => by
      rw [l1] at lk
      cases lk
      exact ⟨c, P, l2, TB (c, P) (List.mem_singleton.mpr rfl), L.tab⟩
    rw [← hp]
    exact law_fn (k := k) Fa f hI LB (by rw [hp]; rfl) hlaw
end Fw

/-! What the head's facts say of the table. -/
namespace Fw
open PySem PySem.Spec PyProof.Rows L2
section
variable {K : PySem.W.Frag} {x qual : Str} {st : Stmt} {f : Addr} {oc kV doc pm cdv ct : Value} {od an : Option Addr} {osl : Array (Option Value)}
theorem fd_mk (l : K.lookup f = some ⟨oc, od, .func (PySem.W.fnOf x qual (defArgs st) (defBody st) (defScope st) .none kV doc pm an cdv ct), osl⟩) (c : PySem.W.codeIn K cdv qual = true) (k : PySem.W.keepIn K (.ref f) = true) :
    FunD K x qual (defArgs st) (defBody st) (defScope st) [] [] f (PySem.W.fnOf x qual (defArgs st) (defBody st) (defScope st) .none kV doc pm an cdv ct) :=
  ⟨⟨oc, od, .none, kV, doc, pm, an, cdv, ct, osl, rfl, l, c, .inl ⟨rfl, rfl⟩, .inl rfl⟩, k⟩
theorem fd_mkD {D : Addr} {oD : Value} {dD : Option Addr} {its : List Value} {n : Nat} {sD : Array (Option Value)} {dvs : List V} (l : K.lookup f = some ⟨oc, od, .func (PySem.W.fnOf x qual (defArgs st) (defBody st) (defScope st) (.ref D) kV doc pm an cdv ct), osl⟩) (c : PySem.W.codeIn K cdv qual = true) (k : PySem.W.keepIn K (.ref f) = true)
    (lD : K.lookup D = some ⟨oD, dD, .seq its.toArray n, sD⟩) (hd : dvs ≠ []) (r : Vals dvs its) :
    FunD K x qual (defArgs st) (defBody st) (defScope st) dvs [] f (PySem.W.fnOf x qual (defArgs st) (defBody st) (defScope st) (.ref D) kV doc pm an cdv ct) :=
  ⟨⟨oc, od, .ref D, kV, doc, pm, an, cdv, ct, osl, rfl, l, c, .inr ⟨hd, D, _, its, n, rfl, lD, rfl, r⟩, .inl rfl⟩, k⟩
end
/-- the values at these places -/
def pick {α : Type} : List Nat → List α → Option (List α)
  | [], _ => some []
  | i :: is, xs => match xs[i]?, pick is xs with
    | some x, some ys => some (x :: ys)
    | _, _ => none
theorem pick_rel {g : G} {z : Z} {xs : List A} {vs : List V} {us : List Value} (d : DatAL g z xs vs) (r : Vals vs us) : ∀ (is : List Nat) (qs : List A) (os : List Value), asmF (is.map .inl) xs = some qs → pick is us = some os → ∃ rs, Vals rs os ∧ DatAL g z qs rs ∧ rs.length = is.length
  | [], qs, os, h, h' => by
    cases h
    cases h'
    exact ⟨[], .nil, rfl, rfl⟩
  | i :: is, qs, os, h, h' => by
    rw [List.map_cons, asmF] at h
    rw [pick] at h'
    split at h
    · rename_i x ys hx hy
      cases h
      obtain ⟨v, hv, dv⟩ := d.get hx
      obtain ⟨u, hu, rv⟩ := r.get hv
      rw [hu] at h'
      cases hp : pick is us with
      | none => rw [hp] at h'; cases h'
      | some os' =>
        rw [hp] at h'
        cases h'
        obtain ⟨rs, r1, r2, r3⟩ := pick_rel d r is ys os' hy hp
        exact ⟨v :: rs, .cons rv r1, ⟨v, rs, rfl, dv, r2⟩, by rw [List.length_cons, List.length_cons, r3]⟩
    · cases h
theorem kba_in {g : G} {fd : FuncData} {ps : List Str} {n : Nat} {ks : List Str} (is : List Nat) (hl : is.length = ps.length) (hb : ∀ (s : Shared) (us ws : List Value), g.K.In s.heap → us.length = n → ws.length = ks.length → ∃ os, pick is (us ++ ws) = some os ∧ BindsTo s fd ⟨us, ks.zip ws⟩ (ps.zip os)) :
    KBA g fd ps n ks (is.map .inl) := by
  intro s us ws vs zs xs ys qs z X d1 d2 r1 r2 ha l1 l2
  obtain ⟨os, h1, h2⟩ := hb s us ws X l1 l2
  obtain ⟨rs, q1, q2, q3⟩ := pick_rel (d1.app d2) (r1.append r2) is qs os ha h1
  exact ⟨os, rs, h2, q1, q2, by rw [q3, hl]⟩
section
variable {K : PySem.W.Frag} {x qual : Str} {params : Arguments} {body : List Stmt} {scope : Scope} {dvs : List V} {kws : List (Str × V)} {f : Addr} {fd : FuncData} {ps ks : List Str} {n : Nat}
/-- keywords, the defaults' tuple is looked at -/
theorem kb_dfl (F : FunD K x qual params body scope dvs kws f fd) (hd : dvs ≠ []) (is : List Nat)
    (h : ∀ (T : Addr) (kV doc pm : Value) (an : Option Addr) (cdv ct : Value) (us ws its : List Value), us.length = n → ws.length = ks.length → its.length = dvs.length →
      ∃ os, pick is (us ++ ws) = some os ∧ ∃ k, bindArgs (PySem.W.fnOf x qual params body scope (.ref T) kV doc pm an cdv ct) ⟨us, ks.zip ws⟩ = seqItems? (.ref T) >>= k ∧ k (some its.toArray) = pure (ps.zip os)) :
    ∀ (s : Shared) (us ws : List Value), K.In s.heap → us.length = n → ws.length = ks.length → ∃ os, pick is (us ++ ws) = some os ∧ BindsTo s fd ⟨us, ks.zip ws⟩ (ps.zip os) := by
  obtain ⟨oc, od, dV, kV, doc, pm, an, cdv, ct, osl, rfl, lk, hcd, hD, hK⟩ := F.ex
  rcases hD with ⟨e, _⟩ | ⟨_, T, o, its, m, rfl, lT, oT, rT⟩
  · exact absurd e hd
  · intro s us ws X l1 l2
    obtain ⟨os, e0, k, e1, e2⟩ := h T kV doc pm an cdv ct us ws its l1 l2 rT.length.symm
    refine ⟨os, e0, BindsTo.of_looks fun M => ?_⟩
    rw [e1]
    exact looks_items X lT oT (.of_pure e2)
/-- keywords, no defaults -/
theorem kb_none (F : FunD K x qual params body scope [] kws f fd) (is : List Nat)
    (h : ∀ (kV doc pm : Value) (an : Option Addr) (cdv ct : Value) (us ws : List Value), us.length = n → ws.length = ks.length →
      ∃ os, pick is (us ++ ws) = some os ∧ bindArgs (PySem.W.fnOf x qual params body scope .none kV doc pm an cdv ct) ⟨us, ks.zip ws⟩ = pure (ps.zip os)) :
    ∀ (s : Shared) (us ws : List Value), K.In s.heap → us.length = n → ws.length = ks.length → ∃ os, pick is (us ++ ws) = some os ∧ BindsTo s fd ⟨us, ks.zip ws⟩ (ps.zip os) := by
  obtain ⟨oc, od, dV, kV, doc, pm, an, cdv, ct, osl, rfl, lk, hcd, hD, hK⟩ := F.ex
  rcases hD with ⟨_, rfl⟩ | ⟨e, _⟩
  · intro s us ws X l1 l2
    obtain ⟨os, e0, e1⟩ := h kV doc pm an cdv ct us ws l1 l2
    exact ⟨os, e0, .of_eq e1⟩
  · exact absurd rfl e
end
/-- every parameter by its place -/
theorem dfl0 {K : PySem.W.Frag} {w : World} {fa : Ad} {fd : FuncData} {ps : List Str} (hb : Binds K fd ps []) : ∃ dsV dvs, Binds K fd ps dsV ∧ Vals dvs dsV ∧ (∀ z, DatL ⟨K, fa, w⟩ z [] dvs) ∧ ps.length + ([] : List D).length = ps.length := ⟨[], [], hb, .nil, fun _ => rfl, rfl⟩
/-- the law's own def is bound so in every heap -/
theorem bd_of {T : Tb} {ft : List Fn} {K : PySem.W.Frag} {mg : Str → Option Value} {h : Heap} {I : FI} {li : Nat} {f : Addr} {st : Stmt} {oc kV doc pm cdv ct : Value} {od an : Option Addr} {osl : Array (Option Value)} {x : Str} (X : K.In h) (G : h.Ns mainGlobals mg) (a : PySem.W.nsIn K mainGlobals I.name = some (some (.ref f)))
    (l : K.lookup f = some ⟨oc, od, .func (PySem.W.fnOf I.name I.qual (defArgs st) (defBody st) (defScope st) .none kV doc pm an cdv ct), osl⟩)
    (hb : ∀ v : Value, bindArgs (PySem.W.fnOf I.name I.qual (defArgs st) (defBody st) (defScope st) .none kV doc pm an cdv ct) ⟨[v], []⟩ = pure [(x, v)]) (fa : Ad) (fd : FuncData) (hk : I.kind = .glob) (F : ∃ st N i, Fact w T ft fa K mg (decide (li = li)) li I fd st N i) (s : Shared) (u : Value) : BindsTo s fd ⟨[u], []⟩ [(x, u)] := by
  obtain ⟨st', N, i, F⟩ := F
  obtain ⟨dvs, kws, Fu⟩ := F.fun_
  have e := (F.mg hk).symm.trans (PySem.W.mg_of X G a)
  obtain ⟨_, _, _, _, _, _, _, _, _, _, e1, lk, _, _, _⟩ := Fu.ex
  have e2 : fa.f li = f := by
    injection e with e
    injection e
  rw [e2, l] at lk
  injection lk with lk
  injection lk with _ _ lk _
  injection lk with lk
  rw [← lk]
  exact .of_eq (hb u)
section
variable {K : PySem.W.Frag} {x qual : Str} {st : Stmt} {f : Addr} {oc doc pm cdv ct : Value} {od an : Option Addr} {osl : Array (Option Value)} {D : Addr}
/-- a def with keyword-only parameters that have defaults -/
theorem fd_mkK (kws : List (Str × V)) (l : K.lookup f = some ⟨oc, od, .func (PySem.W.fnOf x qual (defArgs st) (defBody st) (defScope st) .none (.ref D) doc pm an cdv ct), osl⟩) (c : PySem.W.codeIn K cdv qual = true) (k : PySem.W.keepIn K (.ref f) = true)
    (hq : ∀ q ∈ kws, ∃ u, PySem.W.nsIn K D q.1 = some (some u) ∧ RelV q.2 u) : FunD K x qual (defArgs st) (defBody st) (defScope st) [] kws f (PySem.W.fnOf x qual (defArgs st) (defBody st) (defScope st) .none (.ref D) doc pm an cdv ct) :=
  ⟨⟨oc, od, .none, .ref D, doc, pm, an, cdv, ct, osl, rfl, l, c, .inl ⟨rfl, rfl⟩, .inr ⟨D, rfl, hq⟩⟩, k⟩
/-- one keyword-only default fills up -/
theorem dflK {params : Arguments} {body : List Stmt} {scope : Scope} {wd : World} {fa : Ad} {fd : FuncData} {ps : List Str} {w : Str} {v : V} {d : Fw.D} (F : FunD K x qual params body scope [] [(w, v)] f fd) (n : Nat) (hn : n + 1 = ps.length)
    (h : ∀ (D : Addr) (doc pm : Value) (an : Option Addr) (cdv ct : Value) (us ks : List Value), us.length = n → ks.length = 1 → KwChain D ([w].zip ks) (bindArgs (PySem.W.fnOf x qual params body scope .none (.ref D) doc pm an cdv ct) ⟨us, []⟩) (ps.zip (us ++ ks)))
    (hd : ∀ z, Dat ⟨K, fa, wd⟩ z d v) : ∃ dsV dvs, Binds K fd ps dsV ∧ Vals dvs dsV ∧ (∀ z, DatL ⟨K, fa, wd⟩ z [d] dvs) ∧ n + [d].length = ps.length := by
  obtain ⟨ds, r, B⟩ := F.binds0 n (by simp) hn h
  exact ⟨ds, [v], B, r, fun z => ⟨v, [], rfl, hd z, rfl⟩, hn⟩
end
/-- an exception's class may be asked for by isinstance -/
def excB (K : PySem.W.Frag) (C : Addr) : Bool := xfB K C && (decide (PySem.W.findIn K (.ref C) "__class__" = some (some (.builtin "object.__class__"))) && (decide (PySem.W.specialIn K (.builtin "object.__class__") "__get__" = some (some (.builtin "getset_descriptor.__get__"))) && (decide (PySem.W.takesIn K (.builtin "object.__class__") = some true) && decide (PySem.W.mroIn K C (.type "object") = some true))))
theorem excB_ok {K : PySem.W.Frag} {C : Addr} (h : excB K C = true) : ExcC K C := by
  unfold excB at h
  obtain ⟨h1, h⟩ := bt h
  obtain ⟨h2, h⟩ := bt h
  obtain ⟨h3, h⟩ := bt h
  obtain ⟨h4, h5⟩ := bt h
  unfold xfB at h1
  obtain ⟨g1, h1⟩ := bt h1
  obtain ⟨g2, h1⟩ := bt h1
  obtain ⟨g3, g4⟩ := bt h1
  exact ⟨of_decide_eq_true g1, of_decide_eq_true g2, of_decide_eq_true g3, g4, of_decide_eq_true h2, of_decide_eq_true h3, of_decide_eq_true h4, of_decide_eq_true h5⟩
end Fw

/-! Plain lemmas about the evaluator. -/
namespace Fw
open PySem PySem.Spec PyProof.Rows L2
theorem call_eq {ft : List Fn} {wf k f : Nat} {xs : List A} {S : Store} {i : Fn} (h : ft[f]? = some i) (hl : xs.length = i.np) : callI ft wf (k + 1) f xs S =
    match Fw.run (callI ft wf k) wf i.code (xs.map some ++ List.replicate (i.nn - i.np) none) S with
      | .rt x S' => fin S.length x S'
      | .nx _ S' => fin S.length (.p .non) S'
      | .ex e S' => .ex e (S'.take S.length)
      | _ => .bad := by
  rw [callI, h]
  dsimp only
  rw [if_pos hl] <;>
    (generalize Fw.run (callI ft wf k) wf i.code (xs.map some ++ List.replicate (i.nn - i.np) none) S = r
     cases r <;> rfl)
/-- a def that returns -/
theorem call_rt {ft : List Fn} {wf k f : Nat} {xs : List A} {S S' : Store} {x : A} {i : Fn} (h : ft[f]? = some i) (hl : xs.length = i.np) (hr : Fw.run (callI ft wf k) wf i.code (xs.map some ++ List.replicate (i.nn - i.np) none) S = .rt x S') (hs : S'.length = S.length) :
    callI ft wf (k + 1) f xs S = .ok x S' := by
  rw [call_eq h hl, hr]
  dsimp only
  unfold fin
  rw [if_pos hs]
theorem shaped_int {i : Int} : SeqAt.shaped (.int i) = true := by simp [SeqAt.shaped, PyData.canLay0, PyData.depth]
theorem shaped_bl {i : Bool} : SeqAt.shaped (.bool i) = true := by simp [SeqAt.shaped, PyData.canLay0, PyData.depth]
theorem shaped_non : SeqAt.shaped .none = true := by simp [SeqAt.shaped, PyData.canLay0, PyData.depth]
theorem shaped_str {x : Str} (h : PyData.strOk x = true) : SeqAt.shaped (.str x) = true := by simp [SeqAt.shaped, PyData.canLay0, PyData.depth, h]
@[simp] theorem eqF_int {i j : Int} : eqF (.int i) (.int j) = some (i == j) := by simp [eqF, D.py, shaped_int, PyData.eqv]
@[simp] theorem eqF_bl {i j : Bool} : eqF (.bl i) (.bl j) = some (i == j) := by simp [eqF, D.py, shaped_bl, PyData.eqv]
theorem eqF_str {x y : Str} (h : PyData.strOk x = true) (h' : PyData.strOk y = true) : eqF (.str x) (.str y) = some (x == y) := by simp [eqF, D.py, shaped_str h, shaped_str h', PyData.eqv]
theorem mul_ok {i j : Int} {a b : Nat} (ha : i.natAbs < 2 ^ a) (hb : j.natAbs < 2 ^ b) (h : a + b ≤ 1000000) (h0 : 0 < a) (h1 : 0 < b) : mulOk i j = true := by
  have := wide_mul ha hb h0 h1 h
  unfold CMulW at this
  exact decide_eq_true (.inr (.inr this))
theorem div_ok {j : Int} {b : Nat} (h : j ≠ 0) (hb : j.natAbs < 2 ^ b) (h0 : 0 < b) (h9 : b ≤ 9000) : divOk j = true :=
  decide_eq_true ⟨h, Nat.lt_of_lt_of_le (PySem.Flt.log2_lt_of h0 hb) h9⟩

/-! ### evaluation by simp: a value first, then what follows -/
@[simp] theorem Rz.bind_s {α β : Type} (a : α) (S : Store) (f : α → Store → Rz β) : (Rz.ok a S).bind f = f a S := rfl
@[simp] theorem Rz.bind_b {α β : Type} (f : α → Store → Rz β) : (Rz.bad : Rz α).bind f = .bad := rfl
@[simp] theorem Rz.then_s {α : Type} (a : α) (S : Store) (f : α → Store → Rs) : (Rz.ok a S).then f = f a S := rfl
@[simp] theorem Rz.then_b {α : Type} (f : α → Store → Rs) : (Rz.bad : Rz α).then f = .bad := rfl
@[simp] theorem Rs.then_n (ρ : Env) (S : Store) (f : Env → Store → Rs) : (Rs.nx ρ S).then f = f ρ S := rfl
@[simp] theorem Rs.then_r (x : A) (S : Store) (f : Env → Store → Rs) : (Rs.rt x S).then f = .rt x S := rfl
@[simp] theorem Rs.then_b (f : Env → Store → Rs) : Rs.bad.then f = .bad := rfl
@[simp] theorem tst_fS {x : A} {S : Store} : tst false x S = .ok x S := rfl
@[simp] theorem tst_blS {b : Bool} {S : Store} : tst true (.p (.bl b)) S = .ok (.p (.bl b)) S := rfl
@[simp] theorem bin_add {i j : Int} : binF .Add (.int i) (.int j) = some (.int (i + j)) := rfl
@[simp] theorem bin_sub {i j : Int} : binF .Sub (.int i) (.int j) = some (.int (i - j)) := rfl
theorem bin_mul {i j : Int} (h : mulOk i j = true) : binF .Mult (.int i) (.int j) = some (.int (i * j)) := by simp [binF, h]
theorem bin_div {i j : Int} (h : divOk j = true) : binF .FloorDiv (.int i) (.int j) = some (.int (i.fdiv j)) := by simp [binF, h]
theorem bin_mod {i j : Int} (h : j ≠ 0) : binF .Mod (.int i) (.int j) = some (.int (i.fmod j)) := by simp [binF, h]
theorem mul_small {i j : Int} (h : -(2 ^ 64) < j ∧ j < 2 ^ 64) : mulOk i j = true := decide_eq_true (.inr (.inl h))
theorem mul_smallL {i j : Int} (h : -(2 ^ 64) < i ∧ i < 2 ^ 64) : mulOk i j = true := decide_eq_true (.inl h)
@[simp] theorem cmp_lt {i j : Int} : cmpF .Lt (.int i) (.int j) = some (decide (i < j)) := rfl
@[simp] theorem cmp_le {i j : Int} : cmpF .LtE (.int i) (.int j) = some (decide (i ≤ j)) := rfl
@[simp] theorem cmp_gt {i j : Int} : cmpF .Gt (.int i) (.int j) = some (decide (j < i)) := rfl
@[simp] theorem cmp_ge {i j : Int} : cmpF .GtE (.int i) (.int j) = some (decide (j ≤ i)) := rfl
@[simp] theorem cmp_eq {x y : D} : cmpF .Eq x y = eqF x y := rfl
@[simp] theorem cmp_ne {x y : D} : cmpF .NotEq x y = (eqF x y).map (! ·) := rfl
@[simp] theorem at0 {α : Type} {a : α} {l : List α} : atI (a :: l) 0 = some a := atI_nat (j := 0) rfl
@[simp] theorem at1 {α : Type} {a b : α} {l : List α} : atI (a :: b :: l) 1 = some b := atI_nat (j := 1) rfl
@[simp] theorem at2 {α : Type} {a b c : α} {l : List α} : atI (a :: b :: c :: l) 2 = some c := atI_nat (j := 2) rfl
@[simp] theorem at3 {α : Type} {a b c d : α} {l : List α} : atI (a :: b :: c :: d :: l) 3 = some d := atI_nat (j := 3) rfl
@[simp] theorem at4 {α : Type} {a b c d e : α} {l : List α} : atI (a :: b :: c :: d :: e :: l) 4 = some e := atI_nat (j := 4) rfl
/-! ### what an end must satisfy -/
def Rz.sat {α : Type} (r : Rz α) (P : α → Store → Prop) : Prop := ∃ a S, r = .ok a S ∧ P a S
theorem Rz.sat_ok {α : Type} {a : α} {S : Store} {P : α → Store → Prop} (h : P a S) : (Rz.ok a S).sat P := ⟨a, S, rfl, h⟩
theorem Rz.sat_eq {α : Type} {r : Rz α} {a : α} {S : Store} {P : α → Store → Prop} (e : r = .ok a S) (h : P a S) : r.sat P := ⟨a, S, e, h⟩
theorem Rz.sat_bind {α β : Type} {r : Rz α} {f : α → Store → Rz β} {P : β → Store → Prop} (h : r.sat fun a S => (f a S).sat P) : (r.bind f).sat P := by
  obtain ⟨a, S, rfl, h⟩ := h
  exact h
theorem Rz.sat_mono {α : Type} {r : Rz α} {P Q : α → Store → Prop} (h : r.sat P) (k : ∀ a S, P a S → Q a S) : r.sat Q := by
  obtain ⟨a, S, e, h⟩ := h
  exact ⟨a, S, e, k a S h⟩
/-- the end of statements: what follows, or what is returned -/
def Rs.sat (r : Rs) (P : Env → Store → Prop) (R : A → Store → Prop) : Prop := match r with
  | .nx ρ S => P ρ S
  | .rt x S => R x S
  | _ => False
theorem Rs.sat_mono {r : Rs} {P P' : Env → Store → Prop} {R R' : A → Store → Prop} (h : r.sat P R) (k : ∀ ρ S, P ρ S → P' ρ S) (k' : ∀ x S, R x S → R' x S) : r.sat P' R' := by
  cases r with
  | nx ρ S => exact k _ _ h
  | rt x S => exact k' _ _ h
  | bk ρ S => exact h
  | ct ρ S => exact h
  | ex e S => exact h
  | bad => exact h
theorem Rz.sat_then {α : Type} {r : Rz α} {f : α → Store → Rs} {P : Env → Store → Prop} {R : A → Store → Prop} (h : r.sat fun a S => (f a S).sat P R) : (r.then f).sat P R := by
  obtain ⟨a, S, rfl, h⟩ := h
  exact h
theorem Rs.sat_then {r : Rs} {f : Env → Store → Rs} {P : Env → Store → Prop} {R : A → Store → Prop} (h : r.sat (fun ρ S => (f ρ S).sat P R) R) : (r.then f).sat P R := by
  cases r with
  | nx ρ S => exact h
  | rt x S => exact h
  | bk ρ S => exact h
  | ct ρ S => exact h
  | ex e S => exact h
  | bad => exact h
theorem sat_cons {cl : Nat → List A → Store → Rz A} {wf : Nat} {c : Sc} {cs : List Sc} {ρ : Env} {S : Store} {P : Env → Store → Prop} {R : A → Store → Prop} (h : (run1 cl wf c ρ S).sat (fun ρ1 S1 => (Fw.run cl wf cs ρ1 S1).sat P R) R) : (Fw.run cl wf (c :: cs) ρ S).sat P R := by
  rw [Fw.run]
  exact Rs.sat_then h
theorem sat_nil {cl : Nat → List A → Store → Rz A} {wf : Nat} {ρ : Env} {S : Store} {P : Env → Store → Prop} {R : A → Store → Prop} (h : P ρ S) : (Fw.run cl wf [] ρ S).sat P R := by
  rw [Fw.run]
  exact h
/-- a for by an invariant -/
theorem sat_for {bnd : A → Env → Option Env} {body : Env → Store → Rs} {R : A → Store → Prop} (I : Nat → Env → Store → Prop) : ∀ (items : List A) (i : Nat) (ρ : Env) (S : Store), I i ρ S →
    (∀ j x ρ S, items[j]? = some x → I (i + j) ρ S → ∃ ρ1, bnd x ρ = some ρ1 ∧ (body ρ1 S).sat (fun ρ2 S2 => I (i + j + 1) ρ2 S2) R) → (forL bnd body items ρ S).sat (fun ρ' S' => I (i + items.length) ρ' S') R
  | [], i, ρ, S, h, _ => h
  | x :: xs, i, ρ, S, h, hs => by
    obtain ⟨ρ1, h1, h2⟩ := hs 0 x ρ S rfl h
    rw [forL, h1]
    dsimp only
    cases hb : body ρ1 S with
    | nx ρ2 S2 =>
      rw [hb] at h2
      have ih := sat_for (R := R) (bnd := bnd) (body := body) I xs (i + 1) ρ2 S2 h2 fun j x ρ S hx hI => by
        have := hs (j + 1) x ρ S hx (by rw [show i + (j + 1) = i + 1 + j by omega]; exact hI)
        rw [show i + (j + 1) + 1 = i + 1 + j + 1 by omega] at this
        exact this
      rw [show i + 1 + xs.length = i + (x :: xs).length by rw [List.length_cons]; omega] at ih
      exact ih
    | rt y S2 => rw [hb] at h2; exact h2
    | bk ρ2 S2 => rw [hb] at h2; exact False.elim h2
    | ct ρ2 S2 => rw [hb] at h2; exact False.elim h2
    | ex e S2 => rw [hb] at h2; exact False.elim h2
    | bad => rw [hb] at h2; exact False.elim h2
/-- a def that returns, by what is to hold -/
theorem sat_call {ft : List Fn} {wf k f : Nat} {xs : List A} {S : Store} {i : Fn} {P : A → Store → Prop} (h : ft[f]? = some i) (hl : xs.length = i.np) (hr : (Fw.run (callI ft wf k) wf i.code (xs.map some ++ List.replicate (i.nn - i.np) none) S).sat (fun _ _ => False) fun x S' => S'.length = S.length ∧ P x S') :
    (callI ft wf (k + 1) f xs S).sat P := by
  rw [call_eq h hl]
  cases hq : Fw.run (callI ft wf k) wf i.code (xs.map some ++ List.replicate (i.nn - i.np) none) S with
  | nx ρ2 S2 => rw [hq] at hr; exact False.elim hr
  | rt y S2 =>
    rw [hq] at hr
    obtain ⟨h1, h2⟩ := hr
    refine ⟨y, S2, ?_, h2⟩
    dsimp only
    unfold fin
    rw [if_pos h1]
  | bk ρ2 S2 => rw [hq] at hr; exact False.elim hr
  | ct ρ2 S2 => rw [hq] at hr; exact False.elim hr
  | ex e S2 => rw [hq] at hr; exact False.elim hr
  | bad => rw [hq] at hr; exact False.elim hr
/-- a def that returns, its store as it ends -/
theorem sat_callG {ft : List Fn} {wf k f : Nat} {xs : List A} {S : Store} {i : Fn} {P : A → Store → Prop} (h : ft[f]? = some i) (hl : xs.length = i.np) (hr : (Fw.run (callI ft wf k) wf i.code (xs.map some ++ List.replicate (i.nn - i.np) none) S).sat (fun _ _ => False) fun x S' => isP x = false ∧ P x S') :
    (callI ft wf (k + 1) f xs S).sat P := by
  rw [call_eq h hl]
  cases hq : Fw.run (callI ft wf k) wf i.code (xs.map some ++ List.replicate (i.nn - i.np) none) S with
  | nx ρ2 S2 => rw [hq] at hr; exact False.elim hr
  | rt y S2 =>
    rw [hq] at hr
    obtain ⟨h1, h2⟩ := hr
    refine ⟨y, S2, ?_, h2⟩
    dsimp only
    unfold fin
    rw [h1]
    split <;> rfl
  | bk ρ2 S2 => rw [hq] at hr; exact False.elim hr
  | ct ρ2 S2 => rw [hq] at hr; exact False.elim hr
  | ex e S2 => rw [hq] at hr; exact False.elim hr
  | bad => rw [hq] at hr; exact False.elim hr
/-- a def that returns data: what it made besides is gone -/
theorem sat_callP {ft : List Fn} {wf k f : Nat} {xs : List A} {S : Store} {i : Fn} {P : A → Store → Prop} (h : ft[f]? = some i) (hl : xs.length = i.np) (hr : (Fw.run (callI ft wf k) wf i.code (xs.map some ++ List.replicate (i.nn - i.np) none) S).sat (fun _ _ => False) fun x S' => isP x = true ∧ S.length ≤ S'.length ∧ P x (S'.take S.length)) :
    (callI ft wf (k + 1) f xs S).sat P := by
  rw [call_eq h hl]
  cases hq : Fw.run (callI ft wf k) wf i.code (xs.map some ++ List.replicate (i.nn - i.np) none) S with
  | nx ρ2 S2 => rw [hq] at hr; exact False.elim hr
  | rt y S2 =>
    rw [hq] at hr
    obtain ⟨h1, h3, h2⟩ := hr
    refine ⟨y, S2.take S.length, ?_, h2⟩
    dsimp only
    unfold fin
    split
    · rename_i hlen
      rw [List.take_of_length_le (by omega)]
    · first | rfl | (rw [if_pos h1])
  | bk ρ2 S2 => rw [hq] at hr; exact False.elim hr
  | ct ρ2 S2 => rw [hq] at hr; exact False.elim hr
  | ex e S2 => rw [hq] at hr; exact False.elim hr
  | bad => rw [hq] at hr; exact False.elim hr
theorem ofStr_ok (s : String) : PyData.strOk (Str.ofString s) = true := by
  unfold PyData.strOk
  rw [Str.ofString_eq_toList, Array.all_eq_true_iff_forall_mem]
  intro x hx
  rw [List.mem_toArray, List.mem_map] at hx
  obtain ⟨c, _, rfl⟩ := hx
  refine decide_eq_true ?_
  have := c.valid
  unfold Char.toNat
  rcases this with h | ⟨_, h⟩
  · omega
  · exact h
end Fw

/-! What is to be shown of a code's end, piece by piece. -/
namespace Fw
open PySem PySem.Spec PyProof.Rows L2
section
variable {cl : Nat → List A → Store → Rz A} {wf : Nat} {t : Bool} {a b c : C} {ρ : Env} {S : Store} {P : A → Store → Prop} {cs : List C}
theorem v_var {i : Nat} {x : A} (h : ρ[i]? = some (some x)) (k : P x S) : (ev cl false (.var i) ρ S).sat P := by
  rw [ev, h]
  exact Rz.sat_ok k
theorem v_cst {d : D} (k : P (.p d) S) : (ev cl false (.cst d) ρ S).sat P := by
  rw [ev]
  exact Rz.sat_ok k
def SubV (x y : A) (S : Store) (P : A → Store → Prop) : Prop := ∃ z, subF x y S = some z ∧ P z S
def SlcV (x : A) (lo hi : Option A) (S : Store) (P : A → Store → Prop) : Prop := ∃ u l h z, x = .p u ∧ (lo = l.map fun i => .p (.int i)) ∧ (hi = h.map fun i => .p (.int i)) ∧ slcF u l h = some z ∧ P (.p z) S
def BltV (f : Blt) (xs : List A) (S : Store) (P : A → Store → Prop) : Prop := ∃ z, bltF f xs S = some z ∧ P z S
def DspV (xs : List A) (S : Store) (P : List D → Store → Prop) : Prop := ∃ ds, datas xs = some ds ∧ ds.length ≤ LIM ∧ P ds S
def NotV (x : A) (S : Store) (P : A → Store → Prop) : Prop := ∃ b, x = .p (.bl b) ∧ P (.p (.bl (!b))) S
def NegV (x : A) (S : Store) (P : A → Store → Prop) : Prop := ∃ i, x = .p (.int i) ∧ P (.p (.int (-i))) S
def TstV (x : A) (S : Store) (P : A → Store → Prop) : Prop := ∃ d b, x = .p d ∧ truF d = some b ∧ P (.p (.bl b)) S
def IsiV (x : A) (ts : List Ty) (S : Store) (P : A → Store → Prop) : Prop := ∃ ty, tyF x S = some ty ∧ P (.p (.bl (ts.any fun c => isaF ty c))) S
def CatV (xs : List A) (S : Store) (P : A → Store → Prop) : Prop := ∃ z, catF Str.empty xs = some z ∧ P (.p (.str z)) S
def FmtV (x : A) (S : Store) (P : A → Store → Prop) : Prop := ∃ z, fmtF x = some z ∧ P z S
def WlkV (kk : ItK) (xs : List A) (P : List A → Prop) : Prop := ∃ items, walkF kk xs = some items ∧ P items
def AsmV (asm : List (Nat ⊕ D)) (xs : List A) (P : List A → Prop) : Prop := ∃ zs, asmF asm xs = some zs ∧ P zs
def SetV (x y z : A) (S : Store) (P : Store → Prop) : Prop := ∃ d j n ys m, x = .p d ∧ y = .m j ∧ z = .p (.int n) ∧ S[j]? = some (.lst ys) ∧ ixN ys.length n = some m ∧ P (S.set j (.lst (ys.set m d)))
def BndV (tg : Tg) (x : A) (ρ : Env) (P : Env → Prop) : Prop := ∃ ρ1, bindT tg x ρ = some ρ1 ∧ P ρ1
theorem s_sub {x y z : A} {S : Store} {P : A → Store → Prop} (h : subF x y S = some z) (k : P z S) : SubV x y S P := ⟨z, h, k⟩
theorem s_t0 {a : D} {l : List D} {S : Store} {P : A → Store → Prop} (k : P (.p a) S) : SubV (.p (.tup (a :: l))) (.p (.int 0)) S P := ⟨_, by show (atI _ 0).map A.p = _; rw [at0]; rfl, k⟩
theorem s_t1 {a b : D} {l : List D} {S : Store} {P : A → Store → Prop} (k : P (.p b) S) : SubV (.p (.tup (a :: b :: l))) (.p (.int 1)) S P := ⟨_, by show (atI _ 1).map A.p = _; rw [at1]; rfl, k⟩
theorem s_t2 {a b c : D} {l : List D} {S : Store} {P : A → Store → Prop} (k : P (.p c) S) : SubV (.p (.tup (a :: b :: c :: l))) (.p (.int 2)) S P := ⟨_, by show (atI _ 2).map A.p = _; rw [at2]; rfl, k⟩
theorem s_l0 {a : D} {l : List D} {S : Store} {P : A → Store → Prop} (k : P (.p a) S) : SubV (.p (.lst (a :: l))) (.p (.int 0)) S P := ⟨_, by show (atI _ 0).map A.p = _; rw [at0]; rfl, k⟩
theorem s_l1 {a b : D} {l : List D} {S : Store} {P : A → Store → Prop} (k : P (.p b) S) : SubV (.p (.lst (a :: b :: l))) (.p (.int 1)) S P := ⟨_, by show (atI _ 1).map A.p = _; rw [at1]; rfl, k⟩
theorem s_l2 {a b c : D} {l : List D} {S : Store} {P : A → Store → Prop} (k : P (.p c) S) : SubV (.p (.lst (a :: b :: c :: l))) (.p (.int 2)) S P := ⟨_, by show (atI _ 2).map A.p = _; rw [at2]; rfl, k⟩
theorem s_slcH {u : D} {l : Int} {z : D} {S : Store} {P : A → Store → Prop} (h : slcF u none (some l) = some z) (k : P (.p z) S) : SlcV (.p u) none (some (.p (.int l))) S P := ⟨u, none, some l, z, rfl, rfl, rfl, h, k⟩
theorem s_slcL {u : D} {l : Int} {z : D} {S : Store} {P : A → Store → Prop} (h : slcF u (some l) none = some z) (k : P (.p z) S) : SlcV (.p u) (some (.p (.int l))) none S P := ⟨u, some l, none, z, rfl, rfl, rfl, h, k⟩
theorem s_blt {f : Blt} {xs : List A} {z : A} {S : Store} {P : A → Store → Prop} (h : bltF f xs S = some z) (k : P z S) : BltV f xs S P := ⟨z, h, k⟩
theorem s_dsp {xs : List A} {ds : List D} {S : Store} {P : List D → Store → Prop} (h : datas xs = some ds) (hl : Nat.ble ds.length LIM = true) (k : P ds S) : DspV xs S P := ⟨ds, h, Nat.le_of_ble_eq_true hl, k⟩
theorem s_not {b : Bool} {S : Store} {P : A → Store → Prop} (k : P (.p (.bl (!b))) S) : NotV (.p (.bl b)) S P := ⟨b, rfl, k⟩
theorem s_neg {i : Int} {S : Store} {P : A → Store → Prop} (k : P (.p (.int (-i))) S) : NegV (.p (.int i)) S P := ⟨i, rfl, k⟩
theorem s_tst {d : D} {b : Bool} {S : Store} {P : A → Store → Prop} (h : truF d = some b) (k : P (.p (.bl b)) S) : TstV (.p d) S P := ⟨d, b, rfl, h, k⟩
theorem s_isi {x : A} {ts : List Ty} {ty : Ty} {S : Store} {P : A → Store → Prop} (h : tyF x S = some ty) (k : P (.p (.bl (ts.any fun c => isaF ty c))) S) : IsiV x ts S P := ⟨ty, h, k⟩
theorem s_cat {xs : List A} {z : Str} {S : Store} {P : A → Store → Prop} (h : catF Str.empty xs = some z) (k : P (.p (.str z)) S) : CatV xs S P := ⟨z, h, k⟩
theorem s_fmt {x z : A} {S : Store} {P : A → Store → Prop} (h : fmtF x = some z) (k : P z S) : FmtV x S P := ⟨z, h, k⟩
theorem s_wlk {kk : ItK} {xs items : List A} {P : List A → Prop} (h : walkF kk xs = some items) (k : P items) : WlkV kk xs P := ⟨items, h, k⟩
theorem s_asm {asm : List (Nat ⊕ D)} {xs zs : List A} {P : List A → Prop} (h : asmF asm xs = some zs) (k : P zs) : AsmV asm xs P := ⟨zs, h, k⟩
theorem s_set {d : D} {j : Nat} {n : Int} {ys : List D} {m : Nat} {S : Store} {P : Store → Prop} (h1 : S[j]? = some (.lst ys)) (h2 : ixN ys.length n = some m) (k : P (S.set j (.lst (ys.set m d)))) : SetV (.p d) (.m j) (.p (.int n)) S P := ⟨d, j, n, ys, m, rfl, rfl, rfl, h1, h2, k⟩
theorem s_bnd {tg : Tg} {x : A} {ρ ρ1 : Env} {P : Env → Prop} (h : bindT tg x ρ = some ρ1) (k : P ρ1) : BndV tg x ρ P := ⟨ρ1, h, k⟩
/-- an operator on two values -/
def OpV (op : Operator) (x y : A) (S : Store) (P : A → Store → Prop) : Prop := ∃ u v z, x = .p u ∧ y = .p v ∧ binF op u v = some z ∧ P (.p z) S
theorem v_bin {op : Operator} (k : (ev cl false a ρ S).sat fun x S1 => (ev cl false b ρ S1).sat fun y S2 => OpV op x y S2 P) : (ev cl false (.bin op a b) ρ S).sat P := by
  rw [ev]
  refine Rz.sat_bind (Rz.sat_mono k fun x S1 h => Rz.sat_bind (Rz.sat_mono h fun y S2 h => ?_))
  obtain ⟨u, v, z, rfl, rfl, e, h⟩ := h
  dsimp only
  rw [e]
  exact Rz.sat_ok h
theorem o_add {i j : Int} (k : P (.p (.int (i + j))) S) : OpV .Add (.p (.int i)) (.p (.int j)) S P := ⟨_, _, _, rfl, rfl, rfl, k⟩
theorem o_sub {i j : Int} (k : P (.p (.int (i - j))) S) : OpV .Sub (.p (.int i)) (.p (.int j)) S P := ⟨_, _, _, rfl, rfl, rfl, k⟩
theorem p64 : (2 : Int) ^ 64 = 18446744073709551616 := by decide
theorem mul_c {i j : Int} (h1 : -18446744073709551616 < j) (h2 : j < 18446744073709551616) : mulOk i j = true := mul_small (by rw [p64]; exact ⟨h1, h2⟩)
theorem mul_cL {i j : Int} (h1 : -18446744073709551616 < i) (h2 : i < 18446744073709551616) : mulOk i j = true := mul_smallL (by rw [p64]; exact ⟨h1, h2⟩)
theorem o_mul {i j : Int} (h : mulOk i j = true) (k : P (.p (.int (i * j))) S) : OpV .Mult (.p (.int i)) (.p (.int j)) S P := ⟨_, _, _, rfl, rfl, bin_mul h, k⟩
theorem o_div {i j : Int} (h : divOk j = true) (k : P (.p (.int (i.fdiv j))) S) : OpV .FloorDiv (.p (.int i)) (.p (.int j)) S P := ⟨_, _, _, rfl, rfl, bin_div h, k⟩
theorem o_mod {i j : Int} (h : j ≠ 0) (k : P (.p (.int (i.fmod j))) S) : OpV .Mod (.p (.int i)) (.p (.int j)) S P := ⟨_, _, _, rfl, rfl, bin_mod h, k⟩
theorem o_pow {i j : Int} (h : powOk i j = true) (k : P (.p (.int (i ^ j.toNat))) S) : OpV .Pow (.p (.int i)) (.p (.int j)) S P := ⟨_, _, _, rfl, rfl, by simp [binF, h], k⟩
theorem o_str {x y : Str} (h : x.length + y.length ≤ LIM) (k : P (.p (.str (x ++ y))) S) : OpV .Add (.p (.str x)) (.p (.str y)) S P := ⟨_, _, _, rfl, rfl, by simp [binF, h], k⟩
theorem o_tup {x y : List D} (h : x.length + y.length ≤ LIM) (k : P (.p (.tup (x ++ y))) S) : OpV .Add (.p (.tup x)) (.p (.tup y)) S P := ⟨_, _, _, rfl, rfl, by simp [binF, h], k⟩
theorem o_lst {x y : List D} (h : x.length + y.length ≤ LIM) (k : P (.p (.lst (x ++ y))) S) : OpV .Add (.p (.lst x)) (.p (.lst y)) S P := ⟨_, _, _, rfl, rfl, by simp [binF, h], k⟩
theorem v_neg (k : (ev cl false a ρ S).sat fun x S1 => NegV x S1 P) : (ev cl false (.neg a) ρ S).sat P := by
  rw [ev]
  refine Rz.sat_bind (Rz.sat_mono k fun x S1 h => ?_)
  obtain ⟨i, rfl, h⟩ := h
  exact Rz.sat_ok h
/-- a comparison -/
def CmpV (op : CmpOp) (x y : A) (S : Store) (P : A → Store → Prop) : Prop := ∃ b, cmpA op (dig x S) (dig y S) = some b ∧ P (.p (.bl b)) S
theorem v_cmp {op : CmpOp} (k : (ev cl false a ρ S).sat fun x S1 => (ev cl false b ρ S1).sat fun y S2 => CmpV op x y S2 P) : (ev cl t (.cmp op a b) ρ S).sat P := by
  rw [ev]
  refine Rz.sat_bind (Rz.sat_mono k fun x S1 h => Rz.sat_bind (Rz.sat_mono h fun y S2 h => ?_))
  obtain ⟨z, e, h⟩ := h
  rw [e]
  exact Rz.sat_ok h
theorem v_chain {op op' : CmpOp} (k : (ev cl false a ρ S).sat fun x S1 => (ev cl false b ρ S1).sat fun y S2 => ∃ z, cmpA op x y = some z ∧ if z = true then (ev cl false c ρ S2).sat (fun w S3 => CmpV op' y w S3 P) else P (.p (.bl false)) S2) : (ev cl t (.chain op op' a b c) ρ S).sat P := by
  rw [ev]
  refine Rz.sat_bind (Rz.sat_mono k fun x S1 h => Rz.sat_bind (Rz.sat_mono h fun y S2 h => ?_))
  obtain ⟨z, e, h⟩ := h
  rw [e]
  dsimp only [Rz.of, Rz.bind]
  cases z with
  | true =>
    simp only [if_true] at h ⊢
    refine Rz.sat_bind (Rz.sat_mono h fun w S3 h => ?_)
    obtain ⟨z, e, h⟩ := h
    rw [e]
    exact Rz.sat_ok h
  | false =>
    simp only [Bool.false_eq_true, if_false] at h ⊢
    exact Rz.sat_ok h
theorem q_lt {i j : Int} (k : P (.p (.bl (decide (i < j)))) S) : CmpV .Lt (.p (.int i)) (.p (.int j)) S P := ⟨_, rfl, k⟩
theorem q_le {i j : Int} (k : P (.p (.bl (decide (i ≤ j)))) S) : CmpV .LtE (.p (.int i)) (.p (.int j)) S P := ⟨_, rfl, k⟩
theorem q_gt {i j : Int} (k : P (.p (.bl (decide (j < i)))) S) : CmpV .Gt (.p (.int i)) (.p (.int j)) S P := ⟨_, rfl, k⟩
theorem q_ge {i j : Int} (k : P (.p (.bl (decide (j ≤ i)))) S) : CmpV .GtE (.p (.int i)) (.p (.int j)) S P := ⟨_, rfl, k⟩
theorem q_eq {i j : Int} (k : P (.p (.bl (decide (i = j)))) S) : CmpV .Eq (.p (.int i)) (.p (.int j)) S P := ⟨_, eqF_int, by rw [Bool.beq_eq_decide_eq]; exact k⟩
theorem q_ne {i j : Int} (k : P (.p (.bl (!decide (i = j)))) S) : CmpV .NotEq (.p (.int i)) (.p (.int j)) S P := ⟨!decide (i = j), by show cmpF .NotEq (.int i) (.int j) = _; rw [cmp_ne, eqF_int, Bool.beq_eq_decide_eq]; rfl, k⟩
theorem q_eqB {i j : Bool} (k : P (.p (.bl (i == j))) S) : CmpV .Eq (.p (.bl i)) (.p (.bl j)) S P := ⟨_, eqF_bl, k⟩
theorem q_neB {i j : Bool} (k : P (.p (.bl (!(i == j)))) S) : CmpV .NotEq (.p (.bl i)) (.p (.bl j)) S P := ⟨!(i == j), by show cmpF .NotEq (.bl i) (.bl j) = _; rw [cmp_ne, eqF_bl]; rfl, k⟩
theorem isF_dig {x : A} {S : Store} : isF (dig x S) = isF x := by
  cases x with
  | p d => rfl
  | m j =>
    unfold dig
    dsimp only
    split <;> rfl
theorem q_isN {x : A} (k : P (.p (.bl (isF x))) S) : CmpV .Is x (.p .non) S P := ⟨_, rfl, by rw [isF_dig]; exact k⟩
theorem q_notN {x : A} (k : P (.p (.bl (!isF x))) S) : CmpV .IsNot x (.p .non) S P := ⟨_, rfl, by rw [isF_dig]; exact k⟩
/-- two ways -/
def Br (x : A) (S : Store) (Y N : Store → Prop) : Prop := ∃ b, x = .p (.bl b) ∧ if b = true then Y S else N S
theorem br {b : Bool} {Y N : Store → Prop} (h1 : b = true → Y S) (h2 : b = false → N S) : Br (.p (.bl b)) S Y N := by
  refine ⟨b, rfl, ?_⟩
  cases b with
  | true => exact h1 rfl
  | false => exact h2 rfl
theorem ft_no : ¬ (false = true) := Bool.false_ne_true
theorem tf_no : ¬ (true = false) := fun z => Bool.noConfusion z
theorem v_andT (k : (ev cl true a ρ S).sat fun x S1 => Br x S1 (fun S => (ev cl true b ρ S).sat P) fun S => P (.p (.bl false)) S) : (ev cl true (.and a b) ρ S).sat P := by
  rw [ev]
  simp only [if_true]
  refine Rz.sat_bind (Rz.sat_mono k fun x S1 h => ?_)
  obtain ⟨z, rfl, h⟩ := h
  cases z with
  | true => exact h
  | false => exact Rz.sat_ok h
theorem v_orT (k : (ev cl true a ρ S).sat fun x S1 => Br x S1 (fun S => P (.p (.bl true)) S) fun S => (ev cl true b ρ S).sat P) : (ev cl true (.or a b) ρ S).sat P := by
  rw [ev]
  simp only [if_true]
  refine Rz.sat_bind (Rz.sat_mono k fun x S1 h => ?_)
  obtain ⟨z, rfl, h⟩ := h
  cases z with
  | true => exact Rz.sat_ok h
  | false => exact h
/-- as values, of truth values -/
theorem v_and (k : (ev cl false a ρ S).sat fun x S1 => Br x S1 (fun S => (ev cl false b ρ S).sat P) fun S => P (.p (.bl false)) S) : (ev cl false (.and a b) ρ S).sat P := by
  rw [ev]
  simp only [Bool.false_eq_true, if_false]
  refine Rz.sat_bind (Rz.sat_mono k fun x S1 h => ?_)
  obtain ⟨z, rfl, h⟩ := h
  cases z with
  | true => exact h
  | false => exact Rz.sat_ok h
theorem v_or (k : (ev cl false a ρ S).sat fun x S1 => Br x S1 (fun S => P (.p (.bl true)) S) fun S => (ev cl false b ρ S).sat P) : (ev cl false (.or a b) ρ S).sat P := by
  rw [ev]
  simp only [Bool.false_eq_true, if_false]
  refine Rz.sat_bind (Rz.sat_mono k fun x S1 h => ?_)
  obtain ⟨z, rfl, h⟩ := h
  cases z with
  | true => exact Rz.sat_ok h
  | false => exact h
theorem v_not (k : (ev cl true a ρ S).sat fun x S1 => NotV x S1 P) : (ev cl t (.not a) ρ S).sat P := by
  rw [ev]
  refine Rz.sat_bind (Rz.sat_mono k fun x S1 h => ?_)
  obtain ⟨z, rfl, h⟩ := h
  exact Rz.sat_ok h
theorem v_ite {ct : C} (k : (ev cl true ct ρ S).sat fun x S1 => Br x S1 (fun S => (ev cl t a ρ S).sat P) fun S => (ev cl t b ρ S).sat P) : (ev cl t (.ite ct a b) ρ S).sat P := by
  rw [ev]
  refine Rz.sat_bind (Rz.sat_mono k fun x S1 h => ?_)
  obtain ⟨z, rfl, h⟩ := h
  cases z with
  | true => exact h
  | false => exact h
/-- a test that is the truth of a value -/
theorem v_tst (k : (ev cl false c ρ S).sat fun x S1 => TstV x S1 P) : (ev cl true c ρ S).sat P := by
  rw [ev_tst]
  refine Rz.sat_bind (Rz.sat_mono k fun x S1 h => ?_)
  obtain ⟨d, z, rfl, e, h⟩ := h
  unfold tst
  simp only [if_true]
  rw [e]
  exact Rz.sat_ok h
variable {PL : List A → Store → Prop}
theorem v_nil (k : PL [] S) : (evs cl [] ρ S).sat PL := by
  rw [evs]
  exact Rz.sat_ok k
theorem v_cons (k : (ev cl false c ρ S).sat fun x S1 => (evs cl cs ρ S1).sat fun xs S2 => PL (x :: xs) S2) : (evs cl (c :: cs) ρ S).sat PL := by
  rw [evs]
  exact Rz.sat_bind (Rz.sat_mono k fun x S1 h => Rz.sat_bind (Rz.sat_mono h fun xs S2 h => Rz.sat_ok h))
theorem v_tup (k : (evs cl cs ρ S).sat fun xs S1 => DspV xs S1 fun ds S => P (.p (.tup ds)) S) : (ev cl false (.tup cs) ρ S).sat P := by
  rw [ev]
  refine Rz.sat_bind (Rz.sat_mono k fun xs S1 h => ?_)
  obtain ⟨ds, e, hl, h⟩ := h
  rw [e]
  dsimp only
  rw [if_pos hl]
  exact Rz.sat_ok h
theorem v_lst (k : (evs cl cs ρ S).sat fun xs S1 => DspV xs S1 fun ds S => P (.p (.lst ds)) S) : (ev cl false (.lst cs) ρ S).sat P := by
  rw [ev]
  refine Rz.sat_bind (Rz.sat_mono k fun xs S1 h => ?_)
  obtain ⟨ds, e, hl, h⟩ := h
  rw [e]
  dsimp only
  rw [if_pos hl]
  exact Rz.sat_ok h
theorem v_lstM (k : (evs cl cs ρ S).sat fun xs S1 => DspV xs S1 fun ds S => P (.m S.length) (S ++ [.lst ds])) : (ev cl false (.lstM cs) ρ S).sat P := by
  rw [ev]
  refine Rz.sat_bind (Rz.sat_mono k fun xs S1 h => ?_)
  obtain ⟨ds, e, hl, h⟩ := h
  rw [e]
  dsimp only
  rw [decide_eq_true hl]
  exact Rz.sat_ok h
/-- list(x), to be changed -/
def LsmV (x : A) (S : Store) (P : A → Store → Prop) : Prop := ∃ ds, (x = .p (.lst ds) ∨ x = .p (.tup ds)) ∧ P (.m S.length) (S ++ [.lst ds])
theorem s_lsmT {ds : List D} {S : Store} {P : A → Store → Prop} (k : P (.m S.length) (S ++ [.lst ds])) : LsmV (.p (.tup ds)) S P := ⟨ds, .inr rfl, k⟩
theorem s_lsmL {ds : List D} {S : Store} {P : A → Store → Prop} (k : P (.m S.length) (S ++ [.lst ds])) : LsmV (.p (.lst ds)) S P := ⟨ds, .inl rfl, k⟩
theorem v_listM (k : (ev cl false c ρ S).sat fun x S1 => LsmV x S1 P) : (ev cl false (.listM c) ρ S).sat P := by
  rw [ev]
  refine Rz.sat_bind (Rz.sat_mono k fun x S1 h => ?_)
  obtain ⟨ds, e, h⟩ := h
  rcases e with rfl | rfl
  · exact Rz.sat_ok h
  · exact Rz.sat_ok h
theorem v_sub (k : (ev cl false a ρ S).sat fun x S1 => (ev cl false b ρ S1).sat fun y S2 => SubV x y S2 P) : (ev cl false (.sub a b) ρ S).sat P := by
  rw [ev]
  refine Rz.sat_bind (Rz.sat_mono k fun x S1 h => Rz.sat_bind (Rz.sat_mono h fun y S2 h => ?_))
  obtain ⟨z, e, h⟩ := h
  rw [e]
  exact Rz.sat_ok h
theorem v_slcH (k : (ev cl false a ρ S).sat fun x S1 => (ev cl false b ρ S1).sat fun y S2 => SlcV x none (some y) S2 P) : (ev cl false (.slcH a b) ρ S).sat P := by
  rw [ev]
  refine Rz.sat_bind (Rz.sat_mono k fun x S1 h => Rz.sat_bind (Rz.sat_mono h fun y S2 h => ?_))
  obtain ⟨u, l, h', z, rfl, e1, e2, e, h⟩ := h
  cases l <;> cases h' <;> first | (cases e1; done) | (cases e2; done) | (cases e1; cases e2; dsimp only; rw [e]; exact Rz.sat_ok h)
theorem v_slcL (k : (ev cl false a ρ S).sat fun x S1 => (ev cl false b ρ S1).sat fun y S2 => SlcV x (some y) none S2 P) : (ev cl false (.slcL a b) ρ S).sat P := by
  rw [ev]
  refine Rz.sat_bind (Rz.sat_mono k fun x S1 h => Rz.sat_bind (Rz.sat_mono h fun y S2 h => ?_))
  obtain ⟨u, l, h', z, rfl, e1, e2, e, h⟩ := h
  cases l <;> cases h' <;> first | (cases e1; done) | (cases e2; done) | (cases e1; cases e2; dsimp only; rw [e]; exact Rz.sat_ok h)
theorem v_call {f : Nat} {ds : List D} (k : (evs cl cs ρ S).sat fun xs S1 => (cl f (xs ++ ds.map .p) S1).sat P) : (ev cl false (.call f cs ds) ρ S).sat P := by
  rw [ev]
  exact Rz.sat_bind (Rz.sat_mono k fun xs S1 h => Rz.sat_bind (Rz.sat_mono h fun z S2 h => Rz.sat_ok h))
theorem v_callK {f : Nat} {ks : List C} {asm : List (Nat ⊕ D)} (k : (evs cl cs ρ S).sat fun xs S1 => (evs cl ks ρ S1).sat fun ys S2 => AsmV asm (xs ++ ys) fun zs => (cl f zs S2).sat P) : (ev cl false (.callK f cs ks asm) ρ S).sat P := by
  rw [ev]
  refine Rz.sat_bind (Rz.sat_mono k fun xs S1 h => Rz.sat_bind (Rz.sat_mono h fun ys S2 h => ?_))
  obtain ⟨zs, e, h⟩ := h
  rw [e]
  exact Rz.sat_bind (Rz.sat_ok (Rz.sat_bind (Rz.sat_mono h fun z S2 h => Rz.sat_ok h)))
theorem v_blt {f : Blt} (k : (evs cl cs ρ S).sat fun xs S1 => BltV f xs S1 P) : (ev cl false (.blt f cs) ρ S).sat P := by
  rw [ev]
  refine Rz.sat_bind (Rz.sat_mono k fun xs S1 h => ?_)
  obtain ⟨z, e, h⟩ := h
  rw [e]
  exact Rz.sat_ok h
theorem v_isiT {ts : List Ty} (k : (ev cl false a ρ S).sat fun x S1 => IsiV x ts S1 P) : (ev cl t (.isiT a ts) ρ S).sat P := by
  rw [ev]
  refine Rz.sat_bind (Rz.sat_mono k fun x S1 h => ?_)
  obtain ⟨z, e, h⟩ := h
  rw [e]
  exact Rz.sat_ok h
theorem v_fstr (k : (evs cl cs ρ S).sat fun xs S1 => CatV xs S1 P) : (ev cl false (.fstr cs) ρ S).sat P := by
  rw [ev]
  refine Rz.sat_bind (Rz.sat_mono k fun xs S1 h => ?_)
  obtain ⟨z, e, h⟩ := h
  rw [e]
  exact Rz.sat_ok h
theorem v_fmt (k : (ev cl false a ρ S).sat fun x S1 => FmtV x S1 P) : (ev cl false (.fmt a) ρ S).sat P := by
  rw [ev]
  refine Rz.sat_bind (Rz.sat_mono k fun xs S1 h => ?_)
  obtain ⟨z, e, h⟩ := h
  rw [e]
  exact Rz.sat_ok h
def MaxV (x y : A) (S : Store) (P : A → Store → Prop) : Prop := ∃ z, maxF x y = some z ∧ P z S
theorem v_maxD (k : (ev cl false a ρ S).sat fun x S1 => (ev cl false b ρ S1).sat fun y S2 => MaxV x y S2 P) : (ev cl false (.maxD a b) ρ S).sat P := by
  rw [ev]
  refine Rz.sat_bind (Rz.sat_mono k fun x S1 h => Rz.sat_bind (Rz.sat_mono h fun y S2 h => ?_))
  obtain ⟨z, e, h⟩ := h
  rw [e]
  exact Rz.sat_ok h
theorem s_max {x y z : A} {S : Store} {P : A → Store → Prop} (h : maxF x y = some z) (k : P z S) : MaxV x y S P := ⟨z, h, k⟩
def MthV (m : Mth) (o : A) (xs : List A) (S : Store) (P : A → Store → Prop) : Prop := mthTy m o S = true ∧ (mthF m o xs S).sat P
theorem v_mth {m : Mth} {o : C} (k : (ev cl false o ρ S).sat fun x S1 => mthTy m x S1 = true ∧ (evs cl cs ρ S1).sat fun xs S2 => (mthF m x xs S2).sat P) : (ev cl false (.mth m o cs) ρ S).sat P := by
  rw [ev]
  refine Rz.sat_bind (Rz.sat_mono k fun x S1 h => ?_)
  rw [if_pos h.1]
  exact Rz.sat_bind (Rz.sat_mono h.2 fun xs S2 h => Rz.sat_bind (Rz.sat_mono h fun z S3 h => Rz.sat_ok h))
theorem q_eqS {x y : Str} {P : A → Store → Prop} {S : Store} (h1 : PyData.strOk x = true) (h2 : PyData.strOk y = true) (k : P (.p (.bl (x == y))) S) : CmpV .Eq (.p (.str x)) (.p (.str y)) S P := ⟨_, eqF_str h1 h2, k⟩
theorem q_neS {x y : Str} {P : A → Store → Prop} {S : Store} (h1 : PyData.strOk x = true) (h2 : PyData.strOk y = true) (k : P (.p (.bl (!(x == y)))) S) : CmpV .NotEq (.p (.str x)) (.p (.str y)) S P := ⟨!(x == y), by show cmpF .NotEq (.str x) (.str y) = _; rw [cmp_ne, eqF_str h1 h2]; rfl, k⟩
theorem q_inT {x : Str} {ds : List D} {ys : List Str} {P : A → Store → Prop} {S : Store} (h : D.strs ds = some ys) (k : P (.p (.bl (ys.any fun z => z == x))) S) : CmpV .In (.p (.str x)) (.p (.tup ds)) S P := ⟨ys.any fun z => z == x, by show (D.strs ds).map _ = _; rw [h]; rfl, k⟩
theorem q_inI {x : Int} {ds : List D} {ys : List Int} {P : A → Store → Prop} {S : Store} (h : D.ints ds = some ys) (k : P (.p (.bl (ys.any fun z => z == x))) S) : CmpV .In (.p (.int x)) (.p (.tup ds)) S P := ⟨ys.any fun z => z == x, by show (D.ints ds).map _ = _; rw [h]; rfl, k⟩
/-- a comprehension without tests -/
theorem v_comp0 {kk : ItK} {its : List C} {tg : Tg} {own : List Nat} (k : (evs cl its ρ S).sat fun xs S1 => WlkV kk xs fun items => (compL (fun x => bindT tg x (wipeE ρ own)) (fun _ S => .ok (.p (.bl true)) S) (ev cl false c) items S1).sat fun ds S2 => ds.length < LIM ∧ P (.p (.lst ds)) S2) :
    (ev cl false (.comp kk its tg own none c) ρ S).sat P := by
  rw [ev]
  refine Rz.sat_bind (Rz.sat_mono k fun xs S1 h => ?_)
  obtain ⟨items, e, h⟩ := h
  rw [e]
  refine Rz.sat_bind (Rz.sat_ok (Rz.sat_bind (Rz.sat_mono h fun ds S2 h => ?_)))
  rw [if_pos h.1]
  exact Rz.sat_ok h.2
theorem v_comp1 {kk : ItK} {its : List C} {tg : Tg} {own : List Nat} (k : (evs cl its ρ S).sat fun xs S1 => WlkV kk xs fun items => (compL (fun x => bindT tg x (wipeE ρ own)) (ev cl true b) (ev cl false c) items S1).sat fun ds S2 => ds.length < LIM ∧ P (.p (.lst ds)) S2) :
    (ev cl false (.comp kk its tg own (some b) c) ρ S).sat P := by
  rw [ev]
  refine Rz.sat_bind (Rz.sat_mono k fun xs S1 h => ?_)
  obtain ⟨items, e, h⟩ := h
  rw [e]
  refine Rz.sat_bind (Rz.sat_ok (Rz.sat_bind (Rz.sat_mono h fun ds S2 h => ?_)))
  rw [if_pos h.1]
  exact Rz.sat_ok h.2
/-- the turns: R what the made items satisfy, I what holds of the store -/
theorem v_compMx {o : C} {tg : Tg} {own : List Nat} {cond : Option C} (k : (ev cl false o ρ S).sat fun x S1 => ∃ j xs, x = .m j ∧ S1[j]? = some (.lst xs) ∧ (compL (fun x => bindT tg x (wipeE (boxE ρ) own)) (match cond with
        | none => fun _ S => .ok (.p (.bl true)) S
        | some c => ev cl true c) (ev cl false c) (xs.map .p) []).sat fun ds S2 => ds.length < LIM ∧ S2 = [] ∧ P (.p (.lst ds)) S1) :
    (ev cl false (.compM o tg own cond c) ρ S).sat P := by
  cases cond with
  | none =>
    rw [ev]
    refine Rz.sat_bind (Rz.sat_mono k fun x S1 h => ?_)
    obtain ⟨j, xs, rfl, hs, ds, S2, e, hl, rfl, h⟩ := h
    dsimp only
    rw [hs]
    dsimp only
    dsimp only at e
    rw [e]
    show ((if (decide (ds.length < LIM) && List.isEmpty ([] : Store)) = true then tst false (.p (.lst ds)) S1 else .bad) : Rz A).sat P
    rw [decide_eq_true hl, if_pos (show (true && List.isEmpty ([] : Store)) = true from rfl)]
    exact Rz.sat_ok h
  | some c =>
    rw [ev]
    refine Rz.sat_bind (Rz.sat_mono k fun x S1 h => ?_)
    obtain ⟨j, xs, rfl, hs, ds, S2, e, hl, rfl, h⟩ := h
    dsimp only
    rw [hs]
    dsimp only
    dsimp only at e
    rw [e]
    show ((if (decide (ds.length < LIM) && List.isEmpty ([] : Store)) = true then tst false (.p (.lst ds)) S1 else .bad) : Rz A).sat P
    rw [decide_eq_true hl, if_pos (show (true && List.isEmpty ([] : Store)) = true from rfl)]
    exact Rz.sat_ok h
theorem v_compM0 {i j : Nat} {xs : List D} {tg : Tg} {own : List Nat} (hi : ρ[i]? = some (some (.m j))) (hs : S[j]? = some (.lst xs)) (k : (compL (fun x => bindT tg x (wipeE (boxE ρ) own)) (fun _ S => .ok (.p (.bl true)) S) (ev cl false c) (xs.map .p) []).sat fun ds S2 => ds.length < LIM ∧ S2 = [] ∧ P (.p (.lst ds)) S) :
    (ev cl false (.compM (.var i) tg own none c) ρ S).sat P := v_compMx (v_var hi ⟨j, xs, rfl, hs, k⟩)
theorem comp_sat {bnd : A → Option Env} {elt : Env → Store → Rz A} (I : Store → Prop) (R : Nat → D → Prop) : ∀ (items : List A) (i : Nat) (S : Store), I S →
    (∀ j x S, items[j]? = some x → I S → ∃ ρ1, bnd x = some ρ1 ∧ (elt ρ1 S).sat fun y S' => I S' ∧ ∃ d, y = .p d ∧ R (i + j) d) →
    (compL bnd (fun _ S => .ok (.p (.bl true)) S) elt items S).sat fun ds S' => I S' ∧ ds.length = items.length ∧ ∀ j d, ds[j]? = some d → R (i + j) d
  | [], i, S, h, _ => by
    rw [compL]
    exact Rz.sat_ok ⟨h, rfl, fun j d hd => by simp at hd⟩
  | x :: xs, i, S, h, hs => by
    obtain ⟨ρ1, h1, h2⟩ := hs 0 x S rfl h
    rw [compL, h1]
    refine Rz.sat_bind (Rz.sat_ok ?_)
    dsimp only
    refine Rz.sat_bind (Rz.sat_mono h2 fun y S' h => ?_)
    obtain ⟨hI, d, rfl, hR⟩ := h
    dsimp only
    refine Rz.sat_bind (Rz.sat_mono (comp_sat I R xs (i + 1) S' hI fun j x S hx hI => ?_) fun ds S'' h => Rz.sat_ok ?_)
    · have := hs (j + 1) x S hx hI
      rw [show i + (j + 1) = i + 1 + j by omega] at this
      exact this
    · obtain ⟨a, b, c⟩ := h
      refine ⟨a, by rw [List.length_cons, List.length_cons, b], fun j d' hd => ?_⟩
      cases j with
      | zero =>
        simp at hd
        subst hd
        exact hR
      | succ j =>
        rw [show i + (j + 1) = i + 1 + j by omega]
        exact c j d' (by simpa using hd)
/-- a comprehension whose elements are values f x, the store as it is -/
theorem comp_map {bnd : A → Option Env} {elt : Env → Store → Rz A} {S : Store} (f : A → D) : ∀ (items : List A), (∀ x ∈ items, ∃ ρ1, bnd x = some ρ1 ∧ elt ρ1 S = .ok (.p (f x)) S) → compL bnd (fun _ S => .ok (.p (.bl true)) S) elt items S = .ok (items.map f) S
  | [], _ => by
    rw [compL]
    rfl
  | x :: xs, h => by
    obtain ⟨ρ1, h1, h2⟩ := h x (List.mem_cons_self ..)
    rw [compL, h1]
    show ((elt ρ1 S).bind _) = _
    rw [h2]
    show ((compL bnd _ elt xs S).bind _) = _
    rw [comp_map f xs fun x hx => h x (List.mem_cons_of_mem _ hx)]
    rfl
/-! ### statements -/
variable {PE : Env → Store → Prop} {PR : A → Store → Prop}
theorem w_asg {tg : Tg} (k : (ev cl false c ρ S).sat fun x S1 => BndV tg x ρ fun ρ1 => PE ρ1 S1) : (run1 cl wf (.asg tg c) ρ S).sat PE PR := by
  rw [run1]
  refine Rz.sat_then (Rz.sat_mono k fun x S1 h => ?_)
  obtain ⟨ρ1, e, h⟩ := h
  rw [e]
  exact h
theorem w_par {i j : Nat} (k : (ev cl false a ρ S).sat fun x S1 => (ev cl false b ρ S1).sat fun y S2 => PE ((ρ.set i (some x)).set j (some y)) S2) : (run1 cl wf (.par i j a b) ρ S).sat PE PR := by
  rw [run1]
  exact Rz.sat_then (Rz.sat_mono k fun x S1 h => Rz.sat_then (Rz.sat_mono h fun y S2 h => h))
theorem w_parT {i j : Nat} (k : (ev cl false a ρ S).sat fun x S1 => (ev cl false b ρ S1).sat fun y S2 => PE ((ρ.set i (some x)).set j (some y)) S2) : (run1 cl wf (.parT i j a b) ρ S).sat PE PR := by
  rw [run1]
  exact Rz.sat_then (Rz.sat_mono k fun x S1 h => Rz.sat_then (Rz.sat_mono h fun y S2 h => h))
theorem w_setI {o i v : C} (k : (ev cl false v ρ S).sat fun x S1 => (ev cl false o ρ S1).sat fun y S2 => (ev cl false i ρ S2).sat fun z S3 => SetV x y z S3 fun S => PE ρ S) : (run1 cl wf (.setI o i v) ρ S).sat PE PR := by
  rw [run1]
  refine Rz.sat_then (Rz.sat_mono k fun x S1 h => Rz.sat_then (Rz.sat_mono h fun y S2 h => Rz.sat_then (Rz.sat_mono h fun z S3 h => ?_)))
  obtain ⟨d, j, n, ys, m, rfl, rfl, rfl, e1, e2, h⟩ := h
  dsimp only
  rw [e1]
  dsimp only
  rw [e2]
  exact h
theorem w_exp (k : (ev cl false c ρ S).sat fun _ S1 => PE ρ S1) : (run1 cl wf (.exp c) ρ S).sat PE PR := by
  rw [run1]
  exact Rz.sat_then (Rz.sat_mono k fun x S1 h => h)
theorem w_ret (k : (ev cl false c ρ S).sat PR) : (run1 cl wf (.ret c) ρ S).sat PE PR := by
  rw [run1]
  exact Rz.sat_then (Rz.sat_mono k fun x S1 h => h)
theorem w_ite {xa xb : List Sc} (k : (ev cl true c ρ S).sat fun x S1 => Br x S1 (fun S => (Fw.run cl wf xa ρ S).sat PE PR) fun S => (Fw.run cl wf xb ρ S).sat PE PR) : (run1 cl wf (.ite c xa xb) ρ S).sat PE PR := by
  rw [run1]
  refine Rz.sat_then (Rz.sat_mono k fun x S1 h => ?_)
  obtain ⟨z, rfl, h⟩ := h
  cases z with
  | true => exact h
  | false => exact h
theorem w_for {kk : ItK} {its : List C} {tg : Tg} {xs : List Sc} (k : (evs cl its ρ S).sat fun vs S1 => WlkV kk vs fun items => (forL (bindT tg) (Fw.run cl wf xs) items ρ S1).sat PE PR) : (run1 cl wf (.for kk its tg xs) ρ S).sat PE PR := by
  rw [run1]
  refine Rz.sat_then (Rz.sat_mono k fun vs S1 h => ?_)
  obtain ⟨items, e, h⟩ := h
  rw [e]
  exact h
theorem w_while {xs : List Sc} (k : (whileL (ev cl true c) (Fw.run cl wf xs) wf ρ S).sat PE PR) : (run1 cl wf (.while c xs) ρ S).sat PE PR := by
  rw [run1]
  exact k
/-- a while by an invariant and a number that falls -/
theorem while_sat {cond : Env → Store → Rz A} {body : Env → Store → Rs} (I : Nat → Env → Store → Prop) (Q : Env → Store → Prop) : ∀ (n m : Nat) (ρ : Env) (S : Store), m < n → I m ρ S →
    (∀ m ρ S, I m ρ S → (cond ρ S).sat fun x S1 => Br x S1 (fun S => (body ρ S).sat (fun ρ2 S2 => ∃ m', m' < m ∧ I m' ρ2 S2) PR) fun S => Q ρ S) → (whileL cond body n ρ S).sat Q PR
  | 0, m, ρ, S, h, _, _ => by omega
  | n + 1, m, ρ, S, h, hI, hs => by
    rw [whileL]
    refine Rz.sat_then (Rz.sat_mono (hs m ρ S hI) fun x S1 h1 => ?_)
    obtain ⟨z, rfl, h1⟩ := h1
    cases z with
    | false => exact h1
    | true =>
      dsimp only
      simp only [if_true] at h1
      cases hb : body ρ S1 with
      | nx ρ2 S2 =>
        rw [hb] at h1
        obtain ⟨m', hm, hI'⟩ := h1
        exact while_sat I Q n m' ρ2 S2 (by omega) hI' hs
      | rt y S2 => rw [hb] at h1; exact h1
      | bk ρ2 S2 => rw [hb] at h1; exact False.elim h1
      | ct ρ2 S2 => rw [hb] at h1; exact False.elim h1
      | ex e S2 => rw [hb] at h1; exact False.elim h1
      | bad => rw [hb] at h1; exact False.elim h1
end
end Fw

/-! The same for defs as values, instances, exceptions. -/
namespace Fw
open PySem PySem.Spec PyProof.Rows L2
section
variable {cl : Nat → List A → Store → Rz A} {wf : Nat} {t : Bool} {a b c : C} {ρ : Env} {S : Store} {P : A → Store → Prop} {cs : List C} {PE : Env → Store → Prop} {PR : A → Store → Prop}
theorem v_callV {i nf f : Nat} (h : ρ[i]? = some (some (.p (.fn f)))) (hf : f < nf) (k : (evs cl cs ρ S).sat fun xs S1 => (cl f xs S1).sat P) : (ev cl false (.callV i nf cs) ρ S).sat P := by
  rw [ev, h]
  dsimp only
  rw [if_pos hf]
  exact Rz.sat_bind (Rz.sat_mono k fun xs S1 h => Rz.sat_bind (Rz.sat_mono h fun z S2 h => Rz.sat_ok h))
theorem v_ccst {ci : Nat} {n : Str} {d : D} (k : P (.p d) S) : (ev cl false (.ccst ci n d) ρ S).sat P := by
  rw [ev]
  exact Rz.sat_ok k
theorem Rz.sat_np {α β : Type} {r : Rz α} {f : α → Store → Rz β} {P : β → Store → Prop} (h : r.sat fun a S => (f a S).sat P) : (r.np.bind f).sat P := by
  obtain ⟨a, S, rfl, h⟩ := h
  exact h
theorem v_app {h : Hd} (k : (evs cl cs ρ S).sat fun xs S1 => (appF cl h ρ xs S1).sat P) : (ev cl false (.app h cs) ρ S).sat P := by
  rw [ev]
  exact Rz.sat_bind (Rz.sat_mono (Rz.sat_np k) fun z S2 h => Rz.sat_ok h)
theorem v_whyAK {fi : Nat} {ks : List C} {asm : List (Nat ⊕ D)} (k : (evs cl cs ρ S).sat fun xs S1 => (evs cl ks ρ S1).sat fun ys S2 => AsmV asm (xs ++ ys) fun zs => (whyR (cl fi zs S2)).sat P) : (ev cl false (.whyAK fi cs ks asm) ρ S).sat P := by
  rw [ev]
  obtain ⟨xs, S1, e, k⟩ := k
  obtain ⟨ys, S2, e2, k⟩ := k
  obtain ⟨zs, e3, k⟩ := k
  rw [e]
  dsimp only [Rz.np, Rz.bind]
  rw [e2]
  dsimp only [Rz.np, Rz.bind]
  rw [e3]
  exact Rz.sat_bind (Rz.sat_mono k fun z S2 h => Rz.sat_ok h)
theorem v_whyA {h : Hd} (k : (evs cl cs ρ S).sat fun xs S1 => (whyR (appF cl h ρ xs S1)).sat P) : (ev cl false (.whyA h cs) ρ S).sat P := by
  rw [ev]
  obtain ⟨xs, S1, e, k⟩ := k
  rw [e]
  exact Rz.sat_bind (Rz.sat_mono k fun z S2 h => Rz.sat_ok h)
theorem insG_of {x : A} {S : Store} {c : Nat} {ns : List Str} {ds : List D} (h : insF x S = some (c, ns, ds)) : insG x S = some (c, ns, ds.map .p) := by
  unfold insF at h
  unfold insG
  split at h
  · cases h
    rfl
  · split at h
    · rename_i hs
      cases h
      rw [hs]
    · cases h
  · cases h
theorem getN_map {n : Str} : ∀ {ns : List Str} {ds : List D} {d : D}, getN n ns ds = some d → getN n ns (ds.map A.p) = some (.p d)
  | [], ds, d, h => by
    unfold getN at h
    cases ds <;> simp at h
  | m :: ns, [], d, h => by
    unfold getN at h
    simp at h
  | m :: ns, x :: ds, d, h => by
    unfold getN at h ⊢
    rw [List.map_cons, List.zip_cons_cons, List.lookup_cons]
    rw [List.zip_cons_cons, List.lookup_cons] at h
    split at h
    · cases h
      rfl
    · exact getN_map h
def FldV (ci : Nat) (x : A) (n : Str) (S : Store) (P : A → Store → Prop) : Prop := ∃ ns ds d, insF x S = some (ci, ns, ds) ∧ getN n ns ds = some d ∧ P (.p d) S
theorem v_fld {ci : Nat} {n : Str} (k : (ev cl false a ρ S).sat fun x S1 => FldV ci x n S1 P) : (ev cl false (.fld ci a n) ρ S).sat P := by
  rw [ev]
  refine Rz.sat_bind (Rz.sat_mono k fun x S1 h => ?_)
  obtain ⟨ns, ds, d, e1, e2, h⟩ := h
  rw [insG_of e1]
  dsimp only
  rw [if_pos rfl, getN_map e2]
  exact Rz.sat_ok h
def FldG (ci : Nat) (x : A) (n : Str) (S : Store) (P : A → Store → Prop) : Prop := ∃ ns xs d, insG x S = some (ci, ns, xs) ∧ getN n ns xs = some d ∧ P d S
theorem v_fldG {ci : Nat} {n : Str} (k : (ev cl false a ρ S).sat fun x S1 => FldG ci x n S1 P) : (ev cl false (.fld ci a n) ρ S).sat P := by
  rw [ev]
  refine Rz.sat_bind (Rz.sat_mono k fun x S1 h => ?_)
  obtain ⟨ns, ds, d, e1, e2, h⟩ := h
  rw [e1]
  dsimp only
  rw [if_pos rfl, e2]
  exact Rz.sat_ok h
def MetG (ci : Nat) (m : Str) (x : A) (S : Store) : Prop := ∃ ns xs, insG x S = some (ci, ns, xs) ∧ (ns.any fun n => n == m) = false
def MetV (ci : Nat) (m : Str) (x : A) (S : Store) : Prop := ∃ ns ds, insF x S = some (ci, ns, ds) ∧ (ns.any fun n => n == m) = false
theorem v_meth {ci fi : Nat} {m : Str} {ds : List D} (k : (ev cl false a ρ S).sat fun x S1 => MetV ci m x S1 ∧ (evs cl cs ρ S1).sat fun xs S2 => (cl fi (x :: (xs ++ ds.map .p)) S2).sat P) : (ev cl false (.meth ci fi m a cs ds) ρ S).sat P := by
  rw [ev]
  refine Rz.sat_bind (Rz.sat_mono (Rz.sat_np (Rz.sat_mono k fun x S1 h => ?_)) fun z S2 h => Rz.sat_ok h)
  obtain ⟨⟨ns, ds', e1, e2⟩, h⟩ := h
  rw [insG_of e1]
  dsimp only
  rw [e2, decide_eq_true rfl]
  exact Rz.sat_np h
theorem v_methG {ci fi : Nat} {m : Str} {ds : List D} (k : (ev cl false a ρ S).sat fun x S1 => MetG ci m x S1 ∧ (evs cl cs ρ S1).sat fun xs S2 => (cl fi (x :: (xs ++ ds.map .p)) S2).sat P) : (ev cl false (.meth ci fi m a cs ds) ρ S).sat P := by
  rw [ev]
  refine Rz.sat_bind (Rz.sat_mono (Rz.sat_np (Rz.sat_mono k fun x S1 h => ?_)) fun z S2 h => Rz.sat_ok h)
  obtain ⟨⟨ns, ds', e1, e2⟩, h⟩ := h
  rw [e1]
  dsimp only
  rw [e2, decide_eq_true rfl]
  exact Rz.sat_np h
theorem w_frz {i j : Nat} {ds : List D} (h1 : ρ[i]? = some (some (.m j))) (h2 : S[j]? = some (.lst ds)) (k : PE (ρ.set i (some (.p (.lst ds)))) (S.set j .dead)) : (run1 cl wf (.frz i) ρ S).sat PE PR := by
  rw [run1, h1]
  dsimp only
  rw [h2]
  exact k
/-- a comprehension with a test that keeps the store -/
theorem comp_filter {bnd : A → Option Env} {cond elt : Env → Store → Rz A} {S : Store} (p : A → Bool) (f : A → D) : ∀ (items : List A), (∀ x ∈ items, ∃ ρ1, bnd x = some ρ1 ∧ cond ρ1 S = .ok (.p (.bl (p x))) S ∧ elt ρ1 S = .ok (.p (f x)) S) → compL bnd cond elt items S = .ok ((items.filter p).map f) S
  | [], _ => by
    rw [compL]
    rfl
  | x :: xs, h => by
    obtain ⟨ρ1, h1, h2, h3⟩ := h x (List.mem_cons_self ..)
    rw [compL, h1]
    show ((cond ρ1 S).bind _) = _
    rw [h2]
    have ih := comp_filter p f xs fun x hx => h x (List.mem_cons_of_mem _ hx)
    cases hp : p x with
    | true =>
      show ((elt ρ1 S).bind _) = _
      rw [h3]
      show ((compL bnd cond elt xs S).bind _) = _
      rw [ih, List.filter_cons, if_pos hp]
      rfl
    | false =>
      show compL bnd cond elt xs S = _
      rw [ih, List.filter_cons, if_neg (by rw [hp]; decide)]
theorem lays_strs : ∀ {ys : List Str}, (∀ y ∈ ys, PyData.strOk y = true) → PyData.canLayAll0 (ys.map PyData.str) = true
  | [], _ => rfl
  | y :: ys, h => by
    rw [List.map_cons, PyData.canLayAll0, lays_strs fun z hz => h z (List.mem_cons_of_mem _ hz), Bool.and_true, PyData.canLay0]
    exact h y (List.mem_cons_self ..)
theorem pyL_strs : ∀ ys : List Str, D.pyL (ys.map D.str) = some (ys.map PyData.str)
  | [] => rfl
  | y :: ys => by
    rw [List.map_cons, D.pyL, pyL_strs ys]
    rfl
theorem depth_strs : ∀ ys : List Str, PyData.depth (.list (ys.map PyData.str)) ≤ 64 := by
  intro ys
  have : ∀ ys : List Str, PyData.depthAll (ys.map PyData.str) ≤ 1 := by
    intro ys
    induction ys with
    | nil => simp [PyData.depthAll]
    | cons y ys ih =>
      rw [List.map_cons, PyData.depthAll, PyData.depth]
      omega
  have h := this ys
  rw [PyData.depth]
  omega
theorem in_strs {x : Str} {ys : List Str} (hx : PyData.strOk x = true) (hy : ∀ y ∈ ys, PyData.strOk y = true) : cmpF.inF (.str x) (ys.map D.str) = some (decide (x ∈ ys)) := by
  unfold cmpF.inF
  rw [pyL_strs]
  dsimp only [D.py]
  have s1 : SeqAt.shaped (.str x) = true := shaped_str hx
  have s2 : SeqAt.shaped (.list (ys.map PyData.str)) = true := by
    unfold SeqAt.shaped
    rw [PyData.canLay0, lays_strs hy, decide_eq_true (depth_strs ys)]
    rfl
  rw [s1, s2]
  simp only [Bool.and_self, if_true, Option.some.injEq]
  induction ys with
  | nil => rfl
  | cons y ys ih =>
    rw [List.map_cons, List.any_cons]
    have := ih (fun z hz => hy z (List.mem_cons_of_mem _ hz)) (by
      unfold SeqAt.shaped
      rw [PyData.canLay0, lays_strs fun z hz => hy z (List.mem_cons_of_mem _ hz), decide_eq_true (depth_strs ys)]
      rfl)
    rw [this]
    have e : PyData.eqv (.str y) (.str x) = decide (y = x) := by
      simp [PyData.eqv]
      exact Bool.beq_eq_decide_eq y x
    rw [e]
    by_cases h : y = x
    · subst h
      simp
    · by_cases h2 : x ∈ ys
      · simp [h2]
      · simp [h, h2, Ne.symm h]
theorem q_inS {x : Str} {ys : List Str} (hx : PyData.strOk x = true) (hy : ∀ y ∈ ys, PyData.strOk y = true) (k : P (.p (.bl (decide (x ∈ ys)))) S) : CmpV .In (.p (.str x)) (.p (.lst (ys.map D.str))) S P := ⟨_, in_strs hx hy, k⟩
theorem q_inM {x : Str} {ys : List Str} {j : Nat} (hx : PyData.strOk x = true) (hy : ∀ y ∈ ys, PyData.strOk y = true) (hs : S[j]? = some (.lst (ys.map D.str))) (k : P (.p (.bl (decide (x ∈ ys)))) S) : CmpV .In (.p (.str x)) (.m j) S P :=
  ⟨decide (x ∈ ys), by unfold dig; dsimp only; rw [hs]; exact in_strs hx hy, k⟩
theorem q_notInM {x : Str} {ys : List Str} {j : Nat} (hx : PyData.strOk x = true) (hy : ∀ y ∈ ys, PyData.strOk y = true) (hs : S[j]? = some (.lst (ys.map D.str))) (k : P (.p (.bl (!decide (x ∈ ys)))) S) : CmpV .NotIn (.p (.str x)) (.m j) S P :=
  ⟨!decide (x ∈ ys), by unfold dig; dsimp only; rw [hs]; show (cmpF.inF (.str x) (ys.map D.str)).map _ = _; rw [in_strs hx hy]; rfl, k⟩
end
theorem sat_val {α : Type} {r : Rz α} {v : α} {S : Store} (h : r.sat fun x S' => x = v ∧ S' = S) : r = .ok v S := by
  obtain ⟨a, S', rfl, rfl, rfl⟩ := h
  rfl
/-- a def that gives v and leaves the store -/
theorem call_val {ft : List Fn} {wf k f : Nat} {xs : List A} {S : Store} {i : Fn} {v : A} (h : ft[f]? = some i) (hl : xs.length = i.np) (hr : (Fw.run (callI ft wf k) wf i.code (xs.map some ++ List.replicate (i.nn - i.np) none) S).sat (fun _ _ => False) fun x S' => x = v ∧ S' = S) :
    callI ft wf (k + 1) f xs S = .ok v S :=
  sat_val (sat_call h hl (Rs.sat_mono hr (fun _ _ z => z) fun x S' z => ⟨by rw [z.2], z⟩))
end Fw

/-! More rules for walking plain codes: methods. -/
namespace Fw
open PySem PySem.Spec PyProof.Rows L2
section
variable {cl : Nat → List A → Store → Rz A} {ρ : Env} {S : Store} {P : A → Store → Prop} {cs : List C} {wf : Nat} {R : Store}
theorem ins_p {ci : Nat} {ns : List Str} {ds : List D} : insF (.p (.ins ci ns ds)) S = some (ci, ns, ds) := rfl
theorem v_methV {i ci fi : Nat} {m : Str} {ds : List D} {ns : List Str} {es : List D} (h : ρ[i]? = some (some (.p (.ins ci ns es)))) (hn : (ns.any fun n => n == m) = false) (k : (evs cl cs ρ S).sat fun xs S2 => (cl fi (.p (.ins ci ns es) :: (xs ++ ds.map .p)) S2).sat P) : (ev cl false (.meth ci fi m (.var i) cs ds) ρ S).sat P :=
  v_meth (v_var h ⟨⟨ns, es, rfl, hn⟩, k⟩)
theorem xc_meth {i ci fi : Nat} {m : Str} {ds : List D} {ns : List Str} {es : List D} {xs : List A} {S2 : Store} (h : ρ[i]? = some (some (.p (.ins ci ns es)))) (hn : (ns.any fun n => n == m) = false) (k : evs cl cs ρ S = .ok xs S2) : xcF cl (.meth ci fi m (.var i) cs ds) ρ S = cl fi (.p (.ins ci ns es) :: (xs ++ ds.map .p)) S2 := by
  have e0 : ev cl false (.var i) ρ S = .ok (.p (.ins ci ns es)) S := sat_val (v_var h ⟨rfl, rfl⟩)
  rw [xcF, e0]
  show (if (decide (ci = ci) && !(ns.any fun n => n == m)) = true then _ else _) = _
  rw [hn, decide_eq_true rfl, if_pos (show (true && !false) = true from rfl), k]
  rfl
theorem v_whySV {i ci fi : Nat} {m : Str} {ds : List D} {ns : List Str} {es : List D} (h : ρ[i]? = some (some (.p (.ins ci ns es)))) (hn : (ns.any fun n => n == m) = false) (k : (evs cl cs ρ S).sat fun xs S2 => (whyR (cl fi (.p (.ins ci ns es) :: (xs ++ ds.map .p)) S2)).sat P) : (ev cl false (.whyS ci fi m (.var i) cs ds) ρ S).sat P := by
  obtain ⟨xs, S2, hx, y, S3, hy, p⟩ := k
  refine ⟨y, S3, ?_, p⟩
  have := xc_meth (ds := ds) (fi := fi) h hn hx
  rw [ev]
  show (whyR (xcF cl (.meth ci fi m (.var i) cs ds) ρ S)).bind _ = _
  rw [this, hy]
  rfl
theorem v_methKV {i ci fi : Nat} {m : Str} {asm : List (Nat ⊕ D)} {ns : List Str} {es : List D} (h : ρ[i]? = some (some (.p (.ins ci ns es)))) (hn : (ns.any fun n => n == m) = false) (k : (evs cl cs ρ S).sat fun ys S2 => ∃ zs, asmF asm (.p (.ins ci ns es) :: ys) = some zs ∧ (cl fi zs S2).sat P) : (ev cl false (.methK ci fi m (.var i) cs asm) ρ S).sat P := by
  obtain ⟨xs, S2, hx, zs, hz, y, S3, hy, p⟩ := k
  refine ⟨y, S3, ?_, p⟩
  have e0 : ev cl false (.var i) ρ S = .ok (.p (.ins ci ns es)) S := sat_val (v_var h ⟨rfl, rfl⟩)
  rw [ev, e0]
  show (if (decide (ci = ci) && !(ns.any fun n => n == m)) = true then _ else _ : Rz A).bind _ = _
  rw [hn, decide_eq_true rfl, if_pos (show (true && !false) = true from rfl), hx]
  show (match asmF asm (.p (.ins ci ns es) :: xs) with
    | some zs => cl fi zs S2
    | none => .bad : Rz A).bind _ = _
  rw [hz]
  dsimp only
  rw [hy]
  rfl
theorem fld_V {i ci : Nat} {n : Str} {ns : List Str} {es : List D} {d : D} (h : ρ[i]? = some (some (.p (.ins ci ns es)))) (hn : getN n ns es = some d) (k : P (.p d) S) : (ev cl false (.fld ci (.var i) n) ρ S).sat P :=
  v_fld (v_var h ⟨ns, es, d, rfl, hn, k⟩)
/-- a call that ends well: the assignment goes on -/
theorem asgX_nx {i : Nat} {x : XC} {y : A} {S1 : Store} (h : xcF cl x ρ S = .ok y S1) : run1 cl wf (.asgX (.nm i) x) ρ S = .nx (ρ.set i (some y)) S1 := by
  rw [run1, h]
  rfl
theorem asgX_ex {i : Nat} {x : XC} {e : Exn} {S1 : Store} (h : xcF cl x ρ S = .ex e S1) : run1 cl wf (.asgX (.nm i) x) ρ S = .ex e S1 := by
  rw [run1, h]
  rfl
theorem run_nx {sc : Sc} {cs : List Sc} {ρ1 : Env} {S1 : Store} (h : run1 cl wf sc ρ S = .nx ρ1 S1) : Fw.run cl wf (sc :: cs) ρ S = Fw.run cl wf cs ρ1 S1 := by
  rw [Fw.run, h]
  rfl
theorem run_ex {sc : Sc} {cs : List Sc} {e : Exn} {S1 : Store} (h : run1 cl wf sc ρ S = .ex e S1) : Fw.run cl wf (sc :: cs) ρ S = .ex e S1 := by
  rw [Fw.run, h]
  rfl
theorem run_rt {sc : Sc} {cs : List Sc} {x : A} {S1 : Store} (h : run1 cl wf sc ρ S = .rt x S1) : Fw.run cl wf (sc :: cs) ρ S = .rt x S1 := by
  rw [Fw.run, h]
  rfl
/-- raise X(c) -/
theorem raise_1 {x : Xi} {c : C} {attr : Str} {d : D} (ha : x.attr = some attr) (h : ev cl false c ρ S = .ok (.p d) S) : run1 cl wf (.raise x [c]) ρ S = .ex ⟨x.c, ["code", attr], [.str x.code, d]⟩ S := by
  have e2 : evs cl [c] ρ S = .ok [.p d] S := by
    rw [evs, h]
    rfl
  rw [run1, e2]
  show (match exnF x [.p d] with
    | some e => Rs.ex e S
    | none => .bad) = _
  unfold exnF
  rw [ha]
theorem ite_y {c : C} {a b : List Sc} (h : ev cl true c ρ S = .ok (.p (.bl true)) S) : run1 cl wf (.ite c a b) ρ S = Fw.run cl wf a ρ S := by
  rw [run1, h]
  rfl
theorem ite_n {c : C} {a b : List Sc} (h : ev cl true c ρ S = .ok (.p (.bl false)) S) : run1 cl wf (.ite c a b) ρ S = Fw.run cl wf b ρ S := by
  rw [run1, h]
  rfl
theorem ret_rt {c : C} {x : A} {S1 : Store} (h : ev cl false c ρ S = .ok x S1) : run1 cl wf (.ret c) ρ S = .rt x S1 := by
  rw [run1, h]
  rfl
theorem call_ex {ft : List Fn} {k f : Nat} {xs : List A} {S' : Store} {e : Exn} {i : Fn} (h : ft[f]? = some i) (hl : xs.length = i.np) (hr : Fw.run (callI ft wf k) wf i.code (xs.map some ++ List.replicate (i.nn - i.np) none) S = .ex e S') : callI ft wf (k + 1) f xs S = .ex e (S'.take S.length) := by
  rw [call_eq h hl, hr]
theorem call_rtS {ft : List Fn} {k f : Nat} {xs : List A} {x : A} {i : Fn} (h : ft[f]? = some i) (hl : xs.length = i.np) (hr : Fw.run (callI ft wf k) wf i.code (xs.map some ++ List.replicate (i.nn - i.np) none) S = .rt x S) : callI ft wf (k + 1) f xs S = .ok x S := by
  rw [call_eq h hl, hr]
  dsimp only
  unfold fin
  rw [if_pos rfl]
theorem call_exS {ft : List Fn} {k f : Nat} {xs : List A} {e : Exn} {i : Fn} (h : ft[f]? = some i) (hl : xs.length = i.np) (hr : Fw.run (callI ft wf k) wf i.code (xs.map some ++ List.replicate (i.nn - i.np) none) S = .ex e S) : callI ft wf (k + 1) f xs S = .ex e S := by
  rw [call_ex h hl hr, List.take_length]
end
end Fw

/-! What is to be shown of a code's end where it may raise. -/
namespace Fw
open PySem PySem.Spec PyProof.Rows L2
def Rz.sx {α : Type} (r : Rz α) (P : α → Store → Prop) (X : Exn → Store → Prop) : Prop := match r with
  | .ok a S => P a S
  | .ex e S => X e S
  | .bad => False
def Rs.sx (r : Rs) (PE : Env → Store → Prop) (PR : A → Store → Prop) (X : Exn → Store → Prop) : Prop := match r with
  | .nx ρ S => PE ρ S
  | .rt x S => PR x S
  | .ex e S => X e S
  | _ => False
section
variable {cl : Nat → List A → Store → Rz A} {wf : Nat} {t : Bool} {a b c : C} {ρ : Env} {S : Store} {P : A → Store → Prop} {cs : List C} {PE : Env → Store → Prop} {PR : A → Store → Prop} {X : Exn → Store → Prop}
theorem Rz.sx_mono {α : Type} {r : Rz α} {P P' : α → Store → Prop} {X X' : Exn → Store → Prop} (h : r.sx P X) (k : ∀ a S, P a S → P' a S) (k' : ∀ e S, X e S → X' e S) : r.sx P' X' := by
  cases r with
  | ok a S => exact k a S h
  | ex e S => exact k' e S h
  | bad => exact h
theorem Rz.sx_sat {α : Type} {r : Rz α} {P : α → Store → Prop} {X : Exn → Store → Prop} (h : r.sat P) : r.sx P X := by
  obtain ⟨a, S, rfl, h⟩ := h
  exact h
theorem Rz.sx_eq {α : Type} {r : Rz α} {a : α} {S : Store} {P : α → Store → Prop} {X : Exn → Store → Prop} (h : r = .ok a S) (k : P a S) : r.sx P X := by
  rw [h]
  exact k
theorem Rz.sx_ex {α : Type} {r : Rz α} {e : Exn} {S : Store} {P : α → Store → Prop} {X : Exn → Store → Prop} (h : r = .ex e S) (k : X e S) : r.sx P X := by
  rw [h]
  exact k
theorem eq_of_sx {r r' : Rz A} (h : r.sx (fun x S' => r' = .ok x S') fun e S' => r' = .ex e S') : r = r' := by
  cases r with
  | ok a S => exact h.symm
  | ex e S => exact h.symm
  | bad => exact h.elim
theorem Rs.sx_sat {r : Rs} (h : r.sat PE PR) : r.sx PE PR X := by
  cases r with
  | nx ρ S => exact h
  | rt x S => exact h
  | bk ρ S => exact h
  | ct ρ S => exact h
  | ex e S => exact h.elim
  | bad => exact h
theorem Rs.sx_mono {r : Rs} {PE' : Env → Store → Prop} {PR' : A → Store → Prop} {X' : Exn → Store → Prop} (h : r.sx PE PR X) (k : ∀ ρ S, PE ρ S → PE' ρ S) (k1 : ∀ x S, PR x S → PR' x S) (k2 : ∀ e S, X e S → X' e S) : r.sx PE' PR' X' := by
  cases r with
  | nx ρ S => exact k _ _ h
  | rt x S => exact k1 _ _ h
  | ex e S => exact k2 _ _ h
  | bk ρ S => exact h
  | ct ρ S => exact h
  | bad => exact h
/-! ### statements -/
theorem x_nil (k : PE ρ S) : (Fw.run cl wf [] ρ S).sx PE PR X := by
  rw [Fw.run]
  exact k
theorem x_cons {sc : Sc} {scs : List Sc} (k : (run1 cl wf sc ρ S).sx (fun ρ1 S1 => (Fw.run cl wf scs ρ1 S1).sx PE PR X) PR X) : (Fw.run cl wf (sc :: scs) ρ S).sx PE PR X := by
  rw [Fw.run]
  cases h : run1 cl wf sc ρ S with
  | nx ρ1 S1 => rw [h] at k; exact k
  | rt x S1 => rw [h] at k; exact k
  | bk ρ1 S1 => rw [h] at k; exact k
  | ct ρ1 S1 => rw [h] at k; exact k
  | ex e S1 => rw [h] at k; exact k
  | bad => rw [h] at k; exact k
theorem x_asg {tg : Tg} (k : (ev cl false c ρ S).sat fun x S1 => BndV tg x ρ fun ρ1 => PE ρ1 S1) : (run1 cl wf (.asg tg c) ρ S).sx PE PR X := Rs.sx_sat (w_asg k)
theorem x_exp (k : (ev cl false c ρ S).sat fun _ S1 => PE ρ S1) : (run1 cl wf (.exp c) ρ S).sx PE PR X := Rs.sx_sat (w_exp k)
theorem x_ret (k : (ev cl false c ρ S).sat PR) : (run1 cl wf (.ret c) ρ S).sx PE PR X := Rs.sx_sat (w_ret k)
theorem x_ite {xa xb : List Sc} (k : (ev cl true c ρ S).sat fun x S1 => Br x S1 (fun S => (Fw.run cl wf xa ρ S).sx PE PR X) fun S => (Fw.run cl wf xb ρ S).sx PE PR X) : (run1 cl wf (.ite c xa xb) ρ S).sx PE PR X := by
  obtain ⟨x, S1, e, z, rfl, h⟩ := k
  rw [run1, e]
  cases z with
  | true => exact h
  | false => exact h
theorem thenX_sx {r : Rz A} {f : A → Store → Rs} (k : r.sx (fun x S1 => (f x S1).sx PE PR X) X) : (r.thenX f).sx PE PR X := by
  cases r with
  | ok a S => exact k
  | ex e S => exact k
  | bad => exact k
theorem x_asgX {tg : Tg} {x : XC} (k : (xcF cl x ρ S).sx (fun x S1 => BndV tg x ρ fun ρ1 => PE ρ1 S1) X) : (run1 cl wf (.asgX tg x) ρ S).sx PE PR X := by
  rw [run1]
  refine thenX_sx (Rz.sx_mono k (fun y S1 h => ?_) fun _ _ h => h)
  obtain ⟨ρ1, e, h⟩ := h
  rw [e]
  exact h
theorem x_expX {x : XC} (k : (xcF cl x ρ S).sx (fun _ S1 => PE ρ S1) X) : (run1 cl wf (.expX x) ρ S).sx PE PR X := by
  rw [run1]
  exact thenX_sx k
theorem x_retX {x : XC} (k : (xcF cl x ρ S).sx PR X) : (run1 cl wf (.retX x) ρ S).sx PE PR X := by
  rw [run1]
  exact thenX_sx k
theorem x_asgE {tg : Tg} {x : CXx} (k : (evX cl x ρ S).sx (fun x S1 => BndV tg x ρ fun ρ1 => PE ρ1 S1) X) : (run1 cl wf (.asgE tg x) ρ S).sx PE PR X := by
  rw [run1]
  refine thenX_sx (Rz.sx_mono k (fun y S1 h => ?_) fun _ _ h => h)
  obtain ⟨ρ1, e, h⟩ := h
  rw [e]
  exact h
theorem x_expE {x : CXx} (k : (evX cl x ρ S).sx (fun _ S1 => PE ρ S1) X) : (run1 cl wf (.expE x) ρ S).sx PE PR X := by
  rw [run1]
  exact thenX_sx k
theorem x_retE {x : CXx} (k : (evX cl x ρ S).sx PR X) : (run1 cl wf (.retE x) ρ S).sx PE PR X := by
  rw [run1]
  exact thenX_sx k
theorem x_raise1 {x : Xi} {c : C} {attr : Str} (ha : x.attr = some attr) (k : (ev cl false c ρ S).sat fun y S1 => ∃ d, y = .p d ∧ X ⟨x.c, ["code", attr], [.str x.code, d]⟩ S1) : (run1 cl wf (.raise x [c]) ρ S).sx PE PR X := by
  obtain ⟨y, S1, e, d, rfl, h⟩ := k
  have e2 : evs cl [c] ρ S = .ok [.p d] S1 := by
    rw [evs, e]
    rfl
  rw [run1, e2]
  show ((match exnF x [.p d] with
    | some e => Rs.ex e S1
    | none => .bad) : Rs).sx PE PR X
  unfold exnF
  rw [ha]
  exact h
theorem x_for {kk : ItK} {its : List C} {tg : Tg} {xs : List Sc} (k : (evs cl its ρ S).sat fun vs S1 => WlkV kk vs fun items => (forL (bindT tg) (Fw.run cl wf xs) items ρ S1).sx PE PR X) : (run1 cl wf (.for kk its tg xs) ρ S).sx PE PR X := by
  obtain ⟨vs, S1, e, items, e2, h⟩ := k
  rw [run1, e]
  show ((Rz.of (walkF kk vs) S1).then _).sx PE PR X
  rw [e2]
  exact h
theorem x_while {xs : List Sc} (k : (whileL (ev cl true c) (Fw.run cl wf xs) wf ρ S).sx PE PR X) : (run1 cl wf (.while c xs) ρ S).sx PE PR X := by
  rw [run1]
  exact k
theorem x_forNil {bnd : A → Env → Option Env} {body : Env → Store → Rs} (k : PE ρ S) : (forL bnd body [] ρ S).sx PE PR X := by
  rw [forL]
  exact k
theorem x_forCons {bnd : A → Env → Option Env} {body : Env → Store → Rs} {x : A} {xs : List A} {ρ1 : Env} (h : bnd x ρ = some ρ1) (k : (body ρ1 S).sx (fun ρ2 S2 => (forL bnd body xs ρ2 S2).sx PE PR X) PR X) : (forL bnd body (x :: xs) ρ S).sx PE PR X := by
  rw [forL, h]
  dsimp only
  cases hb : body ρ1 S with
  | nx ρ2 S2 => rw [hb] at k; exact k
  | rt y S2 => rw [hb] at k; exact k
  | bk ρ2 S2 => rw [hb] at k; exact k.elim
  | ct ρ2 S2 => rw [hb] at k; exact k.elim
  | ex e S2 => rw [hb] at k; exact k
  | bad => rw [hb] at k; exact k
/-- a while by an invariant and a number that falls -/
theorem while_sx {cond : Env → Store → Rz A} {body : Env → Store → Rs} (I : Nat → Env → Store → Prop) : ∀ (n m : Nat) (ρ : Env) (S : Store), m < n → I m ρ S →
    (∀ m ρ S, I m ρ S → (cond ρ S).sat fun x S1 => Br x S1 (fun S => (body ρ S).sx (fun ρ2 S2 => ∃ m', m' < m ∧ I m' ρ2 S2) PR X) fun S => PE ρ S) → (whileL cond body n ρ S).sx PE PR X
  | 0, m, ρ, S, h, _, _ => by omega
  | n + 1, m, ρ, S, h, hI, hs => by
    rw [whileL]
    obtain ⟨x, S1, e, z, rfl, h1⟩ := hs m ρ S hI
    rw [e]
    cases z with
    | false => exact h1
    | true =>
      show ((match body ρ S1 with
        | .nx ρ2 S2 => whileL cond body n ρ2 S2
        | .ct ρ2 S2 => whileL cond body n ρ2 S2
        | .bk ρ2 S2 => .nx ρ2 S2
        | r => r) : Rs).sx PE PR X
      simp only [if_true] at h1
      cases hb : body ρ S1 with
      | nx ρ2 S2 =>
        rw [hb] at h1
        obtain ⟨m', hm, hI'⟩ := h1
        exact while_sx I n m' ρ2 S2 (by omega) hI' hs
      | rt y S2 => rw [hb] at h1; exact h1
      | bk ρ2 S2 => rw [hb] at h1; exact h1.elim
      | ct ρ2 S2 => rw [hb] at h1; exact h1.elim
      | ex e S2 => rw [hb] at h1; exact h1
      | bad => rw [hb] at h1; exact h1.elim
/-! ### expressions in which a call may raise -/
theorem bind_sx {α β : Type} {r : Rz α} {f : α → Store → Rz β} {P : β → Store → Prop} (k : r.sx (fun x S1 => (f x S1).sx P X) X) : (r.bind f).sx P X := by
  cases r with
  | ok a S => exact k
  | ex e S => exact k
  | bad => exact k
theorem y_p (k : (ev cl false c ρ S).sat P) : (evX cl (.p c) ρ S).sx P X := by
  obtain ⟨y, S1, e, h⟩ := k
  rw [evX, e]
  exact h
theorem y_x {xc : XC} (k : (xcF cl xc ρ S).sx P X) : (evX cl (.x xc) ρ S).sx P X := by
  rw [evX]
  exact k
theorem y_neg {x : CXx} (k : (evX cl x ρ S).sx (fun y S1 => NegV y S1 P) X) : (evX cl (.neg x) ρ S).sx P X := by
  rw [evX]
  refine bind_sx (Rz.sx_mono k (fun y S1 h => ?_) fun _ _ h => h)
  obtain ⟨i, rfl, h⟩ := h
  exact h
theorem y_int {x : CXx} (k : (evX cl x ρ S).sx (fun y S1 => BltV .int [y] S1 P) X) : (evX cl (.int x) ρ S).sx P X := by
  rw [evX]
  refine bind_sx (Rz.sx_mono k (fun y S1 h => ?_) fun _ _ h => h)
  obtain ⟨z, e, h⟩ := h
  rw [e]
  exact h
variable {PL : List A → Store → Prop} {xs : List CXx}
theorem y_nil (k : PL [] S) : (evXs cl [] ρ S).sx PL X := by
  rw [evXs]
  exact k
theorem y_cons {x : CXx} (k : (evX cl x ρ S).sx (fun y S1 => (evXs cl xs ρ S1).sx (fun ys S2 => PL (y :: ys) S2) X) X) : (evXs cl (x :: xs) ρ S).sx PL X := by
  rw [evXs]
  exact bind_sx (Rz.sx_mono k (fun y S1 h => bind_sx h) fun _ _ h => h)
theorem y_tup (k : (evXs cl xs ρ S).sx (fun ys S1 => DspV ys S1 fun ds S => P (.p (.tup ds)) S) X) : (evX cl (.tup xs) ρ S).sx P X := by
  rw [evX]
  refine bind_sx (Rz.sx_mono k (fun y S1 h => ?_) fun _ _ h => h)
  obtain ⟨ds, e, hl, h⟩ := h
  rw [e]
  dsimp only
  rw [if_pos hl]
  exact h
theorem y_lstM (k : (evXs cl xs ρ S).sx (fun ys S1 => DspV ys S1 fun ds S => P (.m S.length) (S ++ [.lst ds])) X) : (evX cl (.lstM xs) ρ S).sx P X := by
  rw [evX]
  refine bind_sx (Rz.sx_mono k (fun y S1 h => ?_) fun _ _ h => h)
  obtain ⟨ds, e, hl, h⟩ := h
  rw [e]
  dsimp only
  rw [if_pos hl]
  exact h
/-- o.append(..) -/
theorem y_app {i j : Nat} {x : CXx} {ys0 : List D} (hi : ρ[i]? = some (some (.m j))) (hs : S[j]? = some (.lst ys0)) (k : (evX cl x ρ S).sx (fun y S1 => ∃ d ys, y = .p d ∧ S1[j]? = some (.lst ys) ∧ ys.length < LIM ∧ P (.p .non) (S1.set j (.lst (ys ++ [d])))) X) : (evX cl (.app (.var i) x) ρ S).sx P X := by
  have e0 : ev cl false (.var i) ρ S = .ok (.m j) S := sat_val (v_var hi ⟨rfl, rfl⟩)
  rw [evX, e0]
  show (if mthTy .append (.m j) S = true then (evX cl x ρ S).bind fun y S2 => mthF .append (.m j) [y] S2 else .bad : Rz A).sx P X
  rw [if_pos (by unfold mthTy; dsimp only; rw [hs])]
  refine bind_sx (Rz.sx_mono k (fun y S1 h => ?_) fun _ _ h => h)
  obtain ⟨d, ys, rfl, e, hl, h⟩ := h
  unfold mthF
  dsimp only
  rw [e]
  dsimp only
  rw [if_pos hl]
  exact h
/-! ### calls -/
theorem z_meth {i j ci fi : Nat} {m : Str} {ds : List D} {ns : List Str} {es : List D} (h : ρ[i]? = some (some (.m j))) (hs : S[j]? = some (.ins ci ns es)) (hn : (ns.any fun n => n == m) = false) (k : (evs cl cs ρ S).sat fun xs S2 => (cl fi (.m j :: (xs ++ ds.map .p)) S2).sx P X) : (xcF cl (.meth ci fi m (.var i) cs ds) ρ S).sx P X := by
  obtain ⟨xs, S2, e, k⟩ := k
  have e0 : ev cl false (.var i) ρ S = .ok (.m j) S := sat_val (v_var h ⟨rfl, rfl⟩)
  rw [xcF, e0]
  show ((match insG (.m j) S with
    | some (c, ns, _) => if (decide (c = ci) && !(ns.any fun n => n == m)) = true then (evs cl cs ρ S).np.bind fun xs S2 => cl fi (.m j :: (xs ++ ds.map .p)) S2 else .bad
    | none => .bad) : Rz A).sx P X
  have ei : insG (.m j) S = some (ci, ns, es.map .p) := by
    unfold insG
    dsimp only
    rw [hs]
  rw [ei]
  dsimp only
  rw [hn, decide_eq_true rfl, if_pos (show (true && !false) = true from rfl), e]
  exact k
theorem z_fn {f : Nat} {ds : List D} (k : (evs cl cs ρ S).sat fun xs S1 => (cl f (xs ++ ds.map .p) S1).sx P X) : (xcF cl (.app (.fn f ds) cs) ρ S).sx P X := by
  obtain ⟨xs, S2, e, k⟩ := k
  rw [xcF, e]
  exact k
/-- a method that does not raise, of an instance of the store -/
theorem v_methM {i j ci fi : Nat} {m : Str} {ds : List D} {ns : List Str} {es : List D} (h : ρ[i]? = some (some (.m j))) (hs : S[j]? = some (.ins ci ns es)) (hn : (ns.any fun n => n == m) = false) (k : (evs cl cs ρ S).sat fun xs S2 => (cl fi (.m j :: (xs ++ ds.map .p)) S2).sat P) : (ev cl false (.meth ci fi m (.var i) cs ds) ρ S).sat P :=
  v_meth (v_var h ⟨⟨ns, es, by unfold insF; dsimp only; rw [hs], hn⟩, k⟩)
theorem fin_p {n : Nat} {d : D} {S' : Store} : fin n (.p d) S' = .ok (.p d) (S'.take n) := by
  unfold fin
  split
  · rename_i h
    rw [← h, List.take_length]
  · rfl
/-- a def that gives data or raises -/
theorem sx_call {ft : List Fn} {k f : Nat} {xs : List A} {i : Fn} (h : ft[f]? = some i) (hl : xs.length = i.np) (hr : (Fw.run (callI ft wf k) wf i.code (xs.map some ++ List.replicate (i.nn - i.np) none) S).sx (fun _ S' => P (.p .non) (S'.take S.length)) (fun x S' => isP x = true ∧ P x (S'.take S.length)) fun e S' => X e (S'.take S.length)) :
    (callI ft wf (k + 1) f xs S).sx P X := by
  rw [call_eq h hl]
  cases hq : Fw.run (callI ft wf k) wf i.code (xs.map some ++ List.replicate (i.nn - i.np) none) S with
  | nx ρ2 S2 =>
    rw [hq] at hr
    dsimp only
    rw [fin_p]
    exact hr
  | rt x S2 =>
    rw [hq] at hr
    obtain ⟨h1, h2⟩ := hr
    cases x with
    | p d =>
      dsimp only
      rw [fin_p]
      exact h2
    | m j => cases h1
  | ex e S2 => rw [hq] at hr; exact hr
  | bk ρ2 S2 => rw [hq] at hr; exact hr.elim
  | ct ρ2 S2 => rw [hq] at hr; exact hr.elim
  | bad => rw [hq] at hr; exact hr.elim
theorem v_tupS {fl : List Bool} (k : (evsS cl fl cs ρ S).sat fun xs S1 => DspV xs S1 fun ds S => P (.p (.tup ds)) S) : (ev cl false (.tupS fl cs) ρ S).sat P := by
  rw [ev]
  refine Rz.sat_bind (Rz.sat_mono k fun xs S1 h => ?_)
  obtain ⟨ds, e, hl, h⟩ := h
  rw [e]
  dsimp only
  rw [if_pos hl]
  exact Rz.sat_ok h
theorem v_lstS {fl : List Bool} (k : (evsS cl fl cs ρ S).sat fun xs S1 => DspV xs S1 fun ds S => P (.p (.lst ds)) S) : (ev cl false (.lstS fl cs) ρ S).sat P := by
  rw [ev]
  refine Rz.sat_bind (Rz.sat_mono k fun xs S1 h => ?_)
  obtain ⟨ds, e, hl, h⟩ := h
  rw [e]
  dsimp only
  rw [if_pos hl]
  exact Rz.sat_ok h
theorem v_snil (k : PL [] S) : (evsS cl [] [] ρ S).sat PL := by
  rw [evsS]
  exact Rz.sat_ok k
theorem v_scons {fl : List Bool} (k : (ev cl false c ρ S).sat fun x S1 => (evsS cl fl cs ρ S1).sat fun xs S2 => PL (x :: xs) S2) : (evsS cl (false :: fl) (c :: cs) ρ S).sat PL := by
  rw [evsS]
  exact Rz.sat_bind (Rz.sat_mono k fun x S1 h => Rz.sat_bind (Rz.sat_mono h fun xs S2 h => Rz.sat_ok h))
theorem v_sstar {fl : List Bool} (k : (ev cl false c ρ S).sat fun x S1 => ∃ ds, sqF x S1 = some ds ∧ (evsS cl fl cs ρ S1).sat fun xs S2 => PL (ds.map .p ++ xs) S2) : (evsS cl (true :: fl) (c :: cs) ρ S).sat PL := by
  rw [evsS]
  refine Rz.sat_bind (Rz.sat_mono k fun x S1 h => ?_)
  obtain ⟨ds, e, h⟩ := h
  rw [e]
  exact Rz.sat_bind (Rz.sat_mono h fun xs S2 h => Rz.sat_ok h)
theorem v_slcB {lo hi : C} (k : (ev cl false a ρ S).sat fun x S1 => (ev cl false lo ρ S1).sat fun l S2 => (ev cl false hi ρ S2).sat fun h S3 => SlcV x (some l) (some h) S3 P) : (ev cl false (.slcB a lo hi) ρ S).sat P := by
  rw [ev]
  refine Rz.sat_bind (Rz.sat_mono k fun x S1 h => Rz.sat_bind (Rz.sat_mono h fun l S2 h => Rz.sat_bind (Rz.sat_mono h fun h S3 hh => ?_)))
  obtain ⟨u, l', h', z, rfl, e1, e2, e3, p⟩ := hh
  cases l' with
  | none => cases e1
  | some l' =>
    cases h' with
    | none => cases e2
    | some h' =>
      cases e1
      cases e2
      dsimp only
      rw [e3]
      exact Rz.sat_ok p
theorem s_slcB {u : D} {l h : Int} {z : D} {S : Store} {P : A → Store → Prop} (e : slcF u (some l) (some h) = some z) (k : P (.p z) S) : SlcV (.p u) (some (.p (.int l))) (some (.p (.int h))) S P := ⟨u, some l, some h, z, rfl, rfl, rfl, e, k⟩
end
end Fw

/-! What is to be shown of codes that make and ask dicts. -/
namespace Fw
open PySem PySem.Spec PyProof.Rows L2
section
variable {cl : Nat → List A → Store → Rz A} {wf : Nat} {a b c : C} {ρ : Env} {S : Store} {P : A → Store → Prop} {PE : Env → Store → Prop} {PR : A → Store → Prop} {X : Exn → Store → Prop}
theorem v_dctN (k : P (.m S.length) (S ++ [.dct [] []])) : (ev cl false .dctN ρ S).sat P := by
  rw [ev]
  exact Rz.sat_ok k
theorem v_getD (k : (ev cl false a ρ S).sat fun x S1 => (ev cl false b ρ S1).sat fun y S2 => ∃ ks vs d nk w, dictAt x S2 = some (ks, vs) ∧ y = .p d ∧ dKey d = some nk ∧ dFind nk ks vs = some w ∧ P (.p w) S2) : (ev cl false (.getD a b) ρ S).sat P := by
  rw [ev]
  refine Rz.sat_bind (Rz.sat_mono k fun x S1 h => Rz.sat_bind (Rz.sat_mono h fun y S2 h => ?_))
  obtain ⟨ks, vs, d, nk, w, e1, rfl, e2, e3, h⟩ := h
  rw [e1]
  dsimp only
  rw [e2]
  dsimp only
  rw [e3]
  exact Rz.sat_ok h
theorem v_inD {neg : Bool} {t : Bool} (k : (ev cl false a ρ S).sat fun y S1 => (ev cl false b ρ S1).sat fun x S2 => ∃ ks vs d nk, dictAt x S2 = some (ks, vs) ∧ y = .p d ∧ dKey d = some nk ∧ P (.p (.bl (if neg then !dHas nk ks else dHas nk ks))) S2) : (ev cl t (.inD neg a b) ρ S).sat P := by
  rw [ev]
  refine Rz.sat_bind (Rz.sat_mono k fun x S1 h => Rz.sat_bind (Rz.sat_mono h fun y S2 h => ?_))
  obtain ⟨ks, vs, d, nk, e1, rfl, e2, h⟩ := h
  rw [e1]
  dsimp only
  rw [e2]
  exact Rz.sat_ok h
theorem v_dctP (k : (ev cl false a ρ S).sat fun x S1 => ∃ d, dctF x = some d ∧ P (.p d) S1) : (ev cl false (.dctP a) ρ S).sat P := by
  rw [ev]
  refine Rz.sat_bind (Rz.sat_mono k fun x S1 h => ?_)
  obtain ⟨d, e, h⟩ := h
  rw [e]
  exact Rz.sat_ok h
theorem x_setD {o i v : C} (k : (ev cl false v ρ S).sat fun w S1 => (ev cl false o ρ S1).sat fun x S2 => (ev cl false i ρ S2).sat fun y S3 => ∃ j d dv ks vs nk, x = .m j ∧ y = .p d ∧ w = .p dv ∧ S3[j]? = some (.dct ks vs) ∧ dKey d = some nk ∧ vs.length ≤ LIM ∧ PE ρ (S3.set j (.dct (dPutK d nk ks) (dPutV nk dv ks vs)))) :
    (run1 cl wf (.setD o i v) ρ S).sx PE PR X := by
  obtain ⟨w, S1, e1, x, S2, e2, y, S3, e3, j, d, dv, ks, vs, nk, rfl, rfl, rfl, e4, e5, hl, h⟩ := k
  rw [run1, e1]
  show (Rz.then (ev cl false o ρ S1) _).sx PE PR X
  rw [e2]
  show (Rz.then (ev cl false i ρ S2) _).sx PE PR X
  rw [e3]
  show Rs.sx (match S3[j]?, dKey d with
      | some (.dct ks vs), some k => if vs.length ≤ LIM then .nx ρ (S3.set j (.dct (dPutK d k ks) (dPutV k dv ks vs))) else .bad
      | _, _ => .bad) PE PR X
  rw [e4, e5]
  dsimp only
  rw [if_pos hl]
  exact h
theorem y_getO {o : C} {x : CXx} {d : C} (k : (ev cl false o ρ S).sat fun xv S1 => (dictAt xv S1).isSome = true ∧ (evX cl x ρ S1).sx (fun y S2 => (ev cl false d ρ S2).sat fun z S3 => ∃ ks vs dy dz nk, dictAt xv S3 = some (ks, vs) ∧ y = .p dy ∧ z = .p dz ∧ dKey dy = some nk ∧ P (.p ((dFind nk ks vs).getD dz)) S3) X) :
    (evX cl (.getO o x d) ρ S).sx P X := by
  obtain ⟨xv, S1, e1, hs, k⟩ := k
  rw [evX, e1]
  show (if (dictAt xv S1).isSome = true then (evX cl x ρ S1).bind fun y S2 => (ev cl false d ρ S2).np.bind fun z S3 => getF xv y z S3 else .bad : Rz A).sx P X
  rw [if_pos hs]
  refine bind_sx (Rz.sx_mono k (fun y S2 h => ?_) fun _ _ h => h)
  obtain ⟨z, S3, e2, ks, vs, dy, dz, nk, e3, rfl, rfl, e4, h⟩ := h
  rw [e2]
  show (getF xv (.p dy) (.p dz) S3).sx P X
  unfold getF
  rw [e3]
  dsimp only
  rw [e4]
  exact h
theorem x_frzD {i j : Nat} {ks vs : List D} (h1 : ρ[i]? = some (some (.m j))) (h2 : S[j]? = some (.dct ks vs)) (k : PE (ρ.set i (some (.p (.dct ks vs)))) (S.set j .dead)) : (run1 cl wf (.frz i) ρ S).sx PE PR X := by
  rw [run1, h1]
  dsimp only
  rw [h2]
  exact k
theorem v_eqI {neg t : Bool} {ci fi : Nat} (k : (ev cl false a ρ S).sat fun x S1 => (ev cl false b ρ S1).sat fun y S2 => ∃ ns ds ns' ds', insF x S2 = some (ci, ns, ds) ∧ insF y S2 = some (ci, ns', ds') ∧ (cl fi [x, y] S2).sat fun z S3 => ∃ r : Bool, z = .p (.bl r) ∧ P (.p (.bl (if neg then !r else r))) S3) : (ev cl t (.eqI neg ci fi a b) ρ S).sat P := by
  rw [ev]
  refine Rz.sat_bind (Rz.sat_mono k fun x S1 h => Rz.sat_bind (Rz.sat_mono h fun y S2 h => ?_))
  obtain ⟨ns, ds, ns', ds', e1, e2, h⟩ := h
  rw [e1, e2]
  dsimp only
  rw [if_pos ⟨rfl, rfl⟩]
  refine Rz.sat_np (Rz.sat_mono h fun z S3 h => ?_)
  obtain ⟨r, rfl, h⟩ := h
  exact Rz.sat_ok h
theorem v_eqD {t : Bool} (k : (ev cl false a ρ S).sat fun x S1 => (ev cl false b ρ S1).sat fun y S2 => ∃ r, dEqF x y S2 = some r ∧ P (.p (.bl r)) S2) : (ev cl t (.eqD a b) ρ S).sat P := by
  rw [ev]
  refine Rz.sat_bind (Rz.sat_mono k fun x S1 h => Rz.sat_bind (Rz.sat_mono h fun y S2 h => ?_))
  obtain ⟨r, e, h⟩ := h
  rw [e]
  exact Rz.sat_ok h
theorem v_isI {t : Bool} {ci : Nat} (k : (ev cl false a ρ S).sat fun x S1 => ∃ ns ds, insF x S1 = some (ci, ns, ds) ∧ P (.p (.bl true)) S1) : (ev cl t (.isI ci a) ρ S).sat P := by
  rw [ev]
  refine Rz.sat_bind (Rz.sat_mono k fun x S1 h => ?_)
  obtain ⟨ns, ds, e, h⟩ := h
  rw [e]
  dsimp only
  rw [if_pos rfl]
  exact Rz.sat_ok h
end
end Fw

/-! What is to be shown of codes with exceptions as values. -/
namespace Fw
open PySem PySem.Spec PyProof.Rows L2
section
variable {cl : Nat → List A → Store → Rz A} {wf : Nat} {a b c : C} {ρ : Env} {S : Store} {P : A → Store → Prop} {cs : List C}
def MkxV (x : Xi) (xs : List A) (S : Store) (P : A → Store → Prop) : Prop := ∃ d, exvF x xs = some d ∧ P (.p d) S
theorem s_mkx {x : Xi} {xs : List A} {d : D} (h : exvF x xs = some d) (k : P (.p d) S) : MkxV x xs S P := ⟨d, h, k⟩
theorem v_mkx {x : Xi} (k : (evs cl cs ρ S).sat fun xs S1 => MkxV x xs S1 P) : (ev cl false (.mkx x cs) ρ S).sat P := by
  rw [ev]
  refine Rz.sat_bind (Rz.sat_mono k fun xs S1 h => ?_)
  obtain ⟨d, e, h⟩ := h
  rw [e]
  exact Rz.sat_ok h
theorem v_fldXV {i c : Nat} {n : Str} {al : List Nat} {ns : List Str} {ds : List D} {d : D} (h : ρ[i]? = some (some (.p (.exv c ns ds)))) (ha : al.contains c = true) (hd : getN n ns ds = some d) (k : P (.p d) S) : (ev cl false (.fldX (.var i) n al) ρ S).sat P := by
  have e0 : ev cl false (.var i) ρ S = .ok (.p (.exv c ns ds)) S := by
    rw [ev, h]
    rfl
  rw [ev, e0]
  show (if al.contains c = true then (Rz.of (getN n ns ds) S).bind fun d S2 => tst false (.p d) S2 else .bad : Rz A).sat P
  rw [if_pos ha, hd]
  exact Rz.sat_ok k
theorem v_isXV {i c : Nat} {y : Str} {al ms : List Nat} {ns : List Str} {ds : List D} {t : Bool} (h : ρ[i]? = some (some (.p (.exv c ns ds)))) (ha : al.contains c = true) (k : P (.p (.bl (ms.contains c))) S) : (ev cl t (.isX (.var i) y ms al) ρ S).sat P := by
  have e0 : ev cl false (.var i) ρ S = .ok (.p (.exv c ns ds)) S := by
    rw [ev, h]
    rfl
  rw [ev, e0]
  show (if al.contains c = true then .ok (.p (.bl (ms.contains c))) S else .bad : Rz A).sat P
  rw [if_pos ha]
  exact Rz.sat_ok k
end
end Fw

/-! What is to be shown of codes with dicts whose keys are texts, and of attributes that hold lists while __init__ runs. -/
namespace Fw
open PySem PySem.Spec PyProof.Rows L2
section
variable {cl : Nat → List A → Store → Rz A} {wf : Nat} {a b c : C} {ρ : Env} {S : Store} {P : A → Store → Prop} {PE : Env → Store → Prop} {PR : A → Store → Prop} {X : Exn → Store → Prop}
theorem v_dctK (k : P (.m S.length) (S ++ [.dks [] []])) : (ev cl false .dctK ρ S).sat P := by
  rw [ev]
  exact Rz.sat_ok k
def GetV (x y : A) (S : Store) (P : A → Store → Prop) : Prop := ∃ ks vs k d, kAt x S = some (ks, vs) ∧ y = .p (.str k) ∧ getN k ks vs = some d ∧ P (.p d) S
theorem v_getK (k : (ev cl false a ρ S).sat fun x S1 => (ev cl false b ρ S1).sat fun y S2 => GetV x y S2 P) : (ev cl false (.getK a b) ρ S).sat P := by
  rw [ev]
  refine Rz.sat_bind (Rz.sat_mono k fun x S1 h => Rz.sat_bind (Rz.sat_mono h fun y S2 h => ?_))
  obtain ⟨ks, vs, s, d, e1, rfl, e2, h⟩ := h
  rw [e1]
  dsimp only
  rw [e2]
  exact Rz.sat_ok h
def InKV (neg : Bool) (y x : A) (S : Store) (P : A → Store → Prop) : Prop := ∃ ks vs k, kAt x S = some (ks, vs) ∧ y = .p (.str k) ∧ P (.p (.bl (if neg then !decide (k ∈ ks) else decide (k ∈ ks)))) S
theorem v_inK {neg : Bool} {t : Bool} (k : (ev cl false a ρ S).sat fun y S1 => (ev cl false b ρ S1).sat fun x S2 => InKV neg y x S2 P) : (ev cl t (.inK neg a b) ρ S).sat P := by
  rw [ev]
  refine Rz.sat_bind (Rz.sat_mono k fun x S1 h => Rz.sat_bind (Rz.sat_mono h fun y S2 h2 => ?_))
  obtain ⟨ks, vs, s, e1, rfl, h3⟩ := h2
  rw [e1]
  dsimp only
  exact Rz.sat_ok h3
def KeysV (x : A) (S : Store) (P : A → Store → Prop) : Prop := ∃ ks vs, kAt x S = some (ks, vs) ∧ ks.length ≤ LIM ∧ P (.p (.lst (ks.map .str))) S
theorem v_keysK (k : (ev cl false a ρ S).sat fun x S1 => KeysV x S1 P) : (ev cl false (.keysK a) ρ S).sat P := by
  rw [ev]
  refine Rz.sat_bind (Rz.sat_mono k fun x S1 h => ?_)
  obtain ⟨ks, vs, e1, hl, h⟩ := h
  rw [e1]
  dsimp only
  rw [if_pos hl]
  exact Rz.sat_ok h
def SetKV (w x y : A) (S : Store) (P : Store → Prop) : Prop := ∃ j k v ks vs, x = .m j ∧ y = .p (.str k) ∧ w = .p v ∧ S[j]? = some (.dks ks vs) ∧ vs.length ≤ LIM ∧ P (S.set j (.dks (kPutN k ks) (kPutV k v ks vs)))
theorem w_setK {o i v : C} (k : (ev cl false v ρ S).sat fun w S1 => (ev cl false o ρ S1).sat fun x S2 => (ev cl false i ρ S2).sat fun y S3 => SetKV w x y S3 (PE ρ)) : (run1 cl wf (.setK o i v) ρ S).sat PE PR := by
  obtain ⟨w, S1, e1, x, S2, e2, y, S3, e3, j, s, d, ks, vs, rfl, rfl, rfl, e4, hl, h⟩ := k
  rw [run1, e1]
  show (Rz.then (ev cl false o ρ S1) _).sat PE PR
  rw [e2]
  show (Rz.then (ev cl false i ρ S2) _).sat PE PR
  rw [e3]
  show Rs.sat (match S3[j]? with
      | some (.dks ks vs) => if vs.length ≤ LIM then .nx ρ (S3.set j (.dks (kPutN s ks) (kPutV s d ks vs))) else .bad
      | _ => .bad) PE PR
  rw [e4]
  dsimp only
  rw [if_pos hl]
  exact h
theorem x_setK {o i v : C} (k : (ev cl false v ρ S).sat fun w S1 => (ev cl false o ρ S1).sat fun x S2 => (ev cl false i ρ S2).sat fun y S3 => SetKV w x y S3 (PE ρ)) : (run1 cl wf (.setK o i v) ρ S).sx PE PR X := Rs.sx_sat (w_setK k)
theorem w_setR {ci o r i : Nat} {n : Str} {dk : Bool} {ns : List Str} {xs : List A} (h1 : ρ[o]? = some (some (.m i))) (h2 : S[i]? = some (.inm ci ns xs)) (h3 : ns.length < 900) (h4 : r < i) (h5 : S[i - (r + 1)]? = some .resv)
    (k : PE ρ ((S.set (i - (r + 1)) (if dk then .dks [] [] else .lst [])).set i (.inm ci (putN n (.m (i - (r + 1))) ns xs).1 (putN n (.m (i - (r + 1))) ns xs).2))) : (run1 cl wf (.setR ci o n r dk) ρ S).sat PE PR := by
  rw [run1, h1]
  dsimp only
  rw [h2]
  dsimp only
  rw [if_pos ⟨rfl, h3, h4⟩, h5]
  exact k
theorem x_setR {ci o r i : Nat} {n : Str} {dk : Bool} {ns : List Str} {xs : List A} (h1 : ρ[o]? = some (some (.m i))) (h2 : S[i]? = some (.inm ci ns xs)) (h3 : ns.length < 900) (h4 : r < i) (h5 : S[i - (r + 1)]? = some .resv)
    (k : PE ρ ((S.set (i - (r + 1)) (if dk then .dks [] [] else .lst [])).set i (.inm ci (putN n (.m (i - (r + 1))) ns xs).1 (putN n (.m (i - (r + 1))) ns xs).2))) : (run1 cl wf (.setR ci o n r dk) ρ S).sx PE PR X := Rs.sx_sat (w_setR h1 h2 h3 h4 h5 k)
def SetMV (ci : Nat) (n : Str) (w x : A) (S : Store) (P : Store → Prop) : Prop := ∃ j d ns xs, x = .m j ∧ w = .p d ∧ S[j]? = some (.inm ci ns xs) ∧ ns.length < 900 ∧ P (S.set j (.inm ci (putN n (.p d) ns xs).1 (putN n (.p d) ns xs).2))
theorem w_setFm {ci : Nat} {o v : C} {n : Str} (k : (ev cl false v ρ S).sat fun w S1 => (ev cl false o ρ S1).sat fun x S2 => SetMV ci n w x S2 (PE ρ)) : (run1 cl wf (.setF ci o n v) ρ S).sat PE PR := by
  obtain ⟨w, S1, e1, x, S2, e2, j, d, ns, xs, rfl, rfl, e4, hl, h⟩ := k
  rw [run1, e1]
  show (Rz.then (ev cl false o ρ S1) _).sat PE PR
  rw [e2]
  show Rs.sat (match S2[j]? with
      | some (.ins c ns ds) => if c = ci ∧ ns.length < 900 then .nx ρ (S2.set j (.ins c (putN n d ns ds).1 (putN n d ns ds).2)) else .bad
      | some (.inm c ns xs) => if c = ci ∧ ns.length < 900 then .nx ρ (S2.set j (.inm c (putN n (.p d) ns xs).1 (putN n (.p d) ns xs).2)) else .bad
      | _ => .bad) PE PR
  rw [e4]
  dsimp only
  rw [if_pos ⟨rfl, hl⟩]
  exact h
theorem x_setFm {ci : Nat} {o v : C} {n : Str} (k : (ev cl false v ρ S).sat fun w S1 => (ev cl false o ρ S1).sat fun x S2 => SetMV ci n w x S2 (PE ρ)) : (run1 cl wf (.setF ci o n v) ρ S).sx PE PR X := Rs.sx_sat (w_setFm k)
end
end Fw

namespace K34
open PySem PySem.Spec PyProof.Rows L2 Fw

def top (i : Nat) : Stmt := PySem.Challenge.pw_fewtell_k34_supplies_of_plans.main.body.getD i (.Pass ⟨0, 0, 0, 0⟩)
def mem (i j : Nat) : Stmt := match top i with
  | .ClassDef _ _ _ b _ _ _ _ _ _ _ => b.getD j (.Pass ⟨0, 0, 0, 0⟩)
  | _ => .Pass ⟨0, 0, 0, 0⟩
def x_InvalidPart : Xi := ⟨2, "InvalidPart", some ("index" : Str)⟩
def x_InvalidTrait : Xi := ⟨3, "InvalidTrait", some ("index" : Str)⟩
def x_InvalidWave : Xi := ⟨4, "InvalidWave", some ("index" : Str)⟩
def x_InvalidSight : Xi := ⟨5, "InvalidSight", some ("index" : Str)⟩
def c_g_is_number : List Sc := [.ret (.and (.blt .isi [(.var 0), (.cst (.ty .tInt))]) (.not (.blt .isi [(.var 0), (.cst (.ty .tBool))])))]
def c0 : List Sc := c_g_is_number
def n0 : List Str := ["value"]
def i0 : FI := ⟨"is_number", "is_number", .glob, ["value"], [(1, [])], []⟩
def c_g_gcd : List Sc := [.par 2 3 (.blt .abs [(.var 0)]) (.blt .abs [(.var 1)]), .while (.cmp .NotEq (.var 3) (.cst (.int 0))) [.par 2 3 (.var 3) (.bin .Mod (.var 2) (.var 3))], .ret (.var 2)]
def c1 : List Sc := c_g_gcd
def n1 : List Str := ["one", "other", "left", "right"]
def i1 : FI := ⟨"gcd", "gcd", .glob, ["one", "other"], [(2, [])], []⟩
def c_g_is_ratio (f_g_gcd : Nat) (f_g_is_number : Nat) : List Sc := [.ite (.or (.not (.blt .isi [(.var 0), (.cst (.ty .tTup))])) (.or (.cmp .NotEq (.blt .len [(.var 0)]) (.cst (.int 2))) (.not (.blt .all [(.comp .seq [(.var 0)] (.nm 1) [1] none (.call f_g_is_number [(.var 1)] []))])))) [.ret (.cst (.bl false))] [], .ret (.and (.cmp .Gt (.sub (.var 0) (.cst (.int 1))) (.cst (.int 0))) (.cmp .Eq (.call f_g_gcd [(.sub (.var 0) (.cst (.int 0))), (.sub (.var 0) (.cst (.int 1)))] []) (.cst (.int 1))))]
def c2 : List Sc := c_g_is_ratio 1 0
def n2 : List Str := ["value", "part"]
def i2 : FI := ⟨"is_ratio", "is_ratio", .glob, ["value"], [(1, [])], []⟩
def c_g_is_name : List Sc := [.ite (.or (.not (.blt .isi [(.var 0), (.cst (.ty .tStr))])) (.not (.chain .LtE .LtE (.cst (.int 1)) (.blt .len [(.var 0)]) (.cst (.int 8))))) [.ret (.cst (.bl false))] [], .ret (.blt .all [(.comp .seq [(.var 0)] (.nm 1) [1] none (.cmp .In (.var 1) (.cst (.str "abcdefghijklmnopqrstuvwxyz"))))])]
def c3 : List Sc := c_g_is_name
def n3 : List Str := ["value", "sign"]
def i3 : FI := ⟨"is_name", "is_name", .glob, ["value"], [(1, [])], []⟩
def c_g_is_part (f_g_is_name : Nat) (f_g_is_number : Nat) : List Sc := [.ite (.or (.not (.blt .isi [(.var 0), (.cst (.ty .tTup))])) (.or (.cmp .NotEq (.blt .len [(.var 0)]) (.cst (.int 2))) (.or (.not (.call f_g_is_name [(.sub (.var 0) (.cst (.int 0)))] [])) (.not (.blt .isi [(.sub (.var 0) (.cst (.int 1))), (.cst (.ty .tTup))]))))) [.ret (.cst (.bl false))] [], .asg (.nm 1) (.sub (.var 0) (.cst (.int 1))), .ret (.and (.chain .LtE .LtE (.cst (.int 1)) (.blt .len [(.var 1)]) (.cst (.int 3))) (.blt .all [(.comp .seq [(.var 1)] (.nm 2) [2] none (.and (.call f_g_is_number [(.var 2)] []) (.chain .LtE .LtE (.cst (.int 1)) (.var 2) (.cst (.int 1000000000000000000000000000000)))))]))]
def c4 : List Sc := c_g_is_part 3 0
def n4 : List Str := ["row", "sizes", "size"]
def i4 : FI := ⟨"is_part", "is_part", .glob, ["row"], [(1, [])], []⟩
def c_g_is_trait (f_g_is_name : Nat) (f_g_is_number : Nat) : List Sc := [.ite (.or (.not (.blt .isi [(.var 0), (.cst (.ty .tTup))])) (.or (.cmp .NotEq (.blt .len [(.var 0)]) (.cst (.int 4))) (.not (.call f_g_is_name [(.sub (.var 0) (.cst (.int 0)))] [])))) [.ret (.cst (.bl false))] [], .ite (.or (.not (.call f_g_is_number [(.sub (.var 0) (.cst (.int 1)))] [])) (.not (.chain .LtE .LtE (.cst (.int 1)) (.sub (.var 0) (.cst (.int 1))) (.cst (.int 3))))) [.ret (.cst (.bl false))] [], .ret (.and (.blt .isi [(.sub (.var 0) (.cst (.int 2))), (.cst (.ty .tBool))]) (.blt .isi [(.sub (.var 0) (.cst (.int 3))), (.cst (.ty .tBool))]))]
def c5 : List Sc := c_g_is_trait 3 0
def n5 : List Str := ["row"]
def i5 : FI := ⟨"is_trait", "is_trait", .glob, ["row"], [(1, [])], []⟩
def c_g_first_wrong : List Sc := [.ite (.cmp .Eq (.blt .len [(.var 0)]) (.cst (.int 0))) [.ret (.cst (.int 0))] [], .asg (.nm 3) (.lstM []), .for .enum [(.var 0)] (.tp [(.nm 4), (.nm 5)]) [.ite (.or (.cmp .Eq (.var 4) (.var 1)) (.or (.not (.callV 2 14 [(.var 5)])) (.cmp .In (.sub (.var 5) (.cst (.int 0))) (.var 3)))) [.ret (.var 4)] [], .exp (.mth .append (.var 3) [(.sub (.var 5) (.cst (.int 0)))])], .ret (.cst .non)]
def c6 : List Sc := c_g_first_wrong
def n6 : List Str := ["rows", "most", "is_row", "names", "index", "row"]
def i6 : FI := ⟨"first_wrong", "first_wrong", .glob, ["rows", "most", "is_row"], [(3, [])], []⟩
def c_g_is_how (f_g_is_number : Nat) (f_g_is_ratio : Nat) : List Sc := [.ite (.cmp .Is (.var 0) (.cst .non)) [.ret (.cst (.bl true))] [], .ite (.call f_g_is_number [(.var 0)] []) [.ret (.and (.cmp .IsNot (.var 1) (.cst .non)) (.chain .LtE .LtE (.cst (.int 0)) (.var 0) (.var 1)))] [], .ret (.and (.call f_g_is_ratio [(.var 0)] []) (.chain .Lt .Lt (.cst (.int 0)) (.sub (.var 0) (.cst (.int 0))) (.sub (.var 0) (.cst (.int 1)))))]
def c7 : List Sc := c_g_is_how 0 2
def n7 : List Str := ["value", "supply"]
def i7 : FI := ⟨"is_how", "is_how", .glob, ["value", "supply"], [(2, [])], []⟩
def c_g_are_hows (f_g_is_how : Nat) : List Sc := [.ite (.or (.not (.blt .isi [(.var 0), (.cst (.ty .tTup))])) (.cmp .NotEq (.blt .len [(.var 0)]) (.blt .len [(.var 1)]))) [.ret (.cst (.bl false))] [], .for .zip [(.var 0), (.var 1)] (.tp [(.nm 2), (.nm 3)]) [.ite (.or (.not (.blt .isi [(.var 2), (.cst (.ty .tTup))])) (.cmp .NotEq (.blt .len [(.var 2)]) (.blt .len [(.var 3)]))) [.ret (.cst (.bl false))] [], .ite (.not (.blt .all [(.comp .zip [(.var 2), (.var 3)] (.tp [(.nm 4), (.nm 5)]) [4, 5] none (.call f_g_is_how [(.var 4), (.var 5)] []))])) [.ret (.cst (.bl false))] []], .ret (.cst (.bl true))]
def c8 : List Sc := c_g_are_hows 7
def n8 : List Str := ["value", "supplies", "row", "supply", "how", "most"]
def i8 : FI := ⟨"are_hows", "are_hows", .glob, ["value", "supplies"], [(2, [])], []⟩
def c_g_later_supplies (f_g_is_number : Nat) : List Sc := [.asg (.nm 2) (.lstM []), .for .zip [(.var 0), (.var 1)] (.tp [(.nm 3), (.nm 4)]) [.asg (.nm 5) (.lstM []), .for .zip [(.var 3), (.var 4)] (.tp [(.nm 6), (.nm 7)]) [.ite (.cmp .Is (.var 6) (.cst .non)) [.exp (.mth .append (.var 5) [(.var 7)])] [.exp (.mth .append (.var 5) [(.ite (.call f_g_is_number [(.var 6)] []) (.var 6) (.cst .non))])]], .frz 5, .exp (.mth .append (.var 2) [(.var 5)])], .frz 2, .ret (.var 2)]
def c9 : List Sc := c_g_later_supplies 0
def n9 : List Str := ["hows", "supplies", "found", "row", "supply", "later", "how", "most"]
def i9 : FI := ⟨"later_supplies", "later_supplies", .glob, ["hows", "supplies"], [(2, [])], []⟩
def c_g_is_sight (f_m_World_traits : Nat) : List Sc := [.ite (.or (.not (.blt .isi [(.var 2), (.cst (.ty .tTup))])) (.cmp .NotEq (.blt .len [(.var 2)]) (.cst (.int 3)))) [.ret (.cst (.bl false))] [], .asg (.nm 3) (.comp .seq [(.meth 0 f_m_World_traits "traits" (.var 0) [] [])] (.nm 4) [4] (some (.cmp .Eq (.sub (.var 4) (.cst (.int 0))) (.sub (.var 2) (.cst (.int 0))))) (.var 4)), .ite (.or (.cmp .Eq (.var 3) (.lst [])) (.or (.cmp .NotIn (.sub (.var 2) (.cst (.int 1))) (.var 1)) (.cmp .NotIn (.sub (.var 2) (.cst (.int 2))) (.cst (.tup [(.str "all"), (.str "first"), (.str "any")]))))) [.ret (.cst (.bl false))] [], .ret (.or (.cmp .NotEq (.sub (.var 2) (.cst (.int 2))) (.cst (.str "first"))) (.not (.sub (.sub (.var 3) (.cst (.int 0))) (.cst (.int 3)))))]
def c10 : List Sc := c_g_is_sight 16
def n10 : List Str := ["world", "names", "value", "rows", "row"]
def i10 : FI := ⟨"is_sight", "is_sight", .glob, ["world", "names", "value"], [(3, [])], []⟩
def c_g__law_source : List Sc := [.ret (.lstM [(.blt .list [(.slcH (.var 0) (.cst (.int 63)))]), (.cst (.int 0)), (.cst (.int 0)), (.cst (.int 12023)), (.cst (.int 0))])]
def c11 : List Sc := c_g__law_source
def n11 : List Str := ["_law_script"]
def i11 : FI := ⟨"_law_source", "_law_source", .glob, ["_law_script"], [(1, [])], []⟩
def c_g__law_draw : List Sc := [.ite (.and (.cmp .Eq (.sub (.var 0) (.cst (.int 2))) (.cst (.int 0))) (.cmp .Lt (.sub (.var 0) (.cst (.int 1))) (.blt .len [(.sub (.var 0) (.cst (.int 0)))]))) [.asg (.nm 3) (.sub (.sub (.var 0) (.cst (.int 0))) (.sub (.var 0) (.cst (.int 1)))), .setI (.var 0) (.cst (.int 1)) (.bin .Add (.sub (.var 0) (.cst (.int 1))) (.cst (.int 1))), .ite (.cmp .GtE (.var 3) (.bin .Pow (.cst (.int 10)) (.cst (.int 18)))) [.setI (.var 0) (.cst (.int 2)) (.var 3)] [.setI (.var 0) (.cst (.int 3)) (.bin .Mod (.blt .int [(.bin .Add (.bin .Add (.bin .Mult (.sub (.var 0) (.cst (.int 3))) (.cst (.int 40487))) (.bin .Mult (.bin .Mod (.blt .int [(.var 3)]) (.cst (.int 2147483587))) (.cst (.int 6113)))) (.cst (.int 97)))]) (.cst (.int 2147483629)))]] [], .ite (.cmp .Gt (.sub (.var 0) (.cst (.int 2))) (.cst (.int 0))) [.asg (.nm 4) (.bin .Mod (.blt .int [(.sub (.var 0) (.cst (.int 2)))]) (.var 1)), .setI (.var 0) (.cst (.int 2)) (.bin .FloorDiv (.sub (.var 0) (.cst (.int 2))) (.var 1)), .ret (.var 4)] [], .setI (.var 0) (.cst (.int 4)) (.bin .Add (.sub (.var 0) (.cst (.int 4))) (.cst (.int 1))), .asg (.nm 2) (.sub (.var 0) (.cst (.int 3))), .setI (.var 0) (.cst (.int 3)) (.bin .Mod (.blt .int [(.bin .Add (.bin .Add (.bin .Add (.bin .Mult (.var 2) (.var 2)) (.bin .Mult (.var 2) (.cst (.int 26399)))) (.bin .Mult (.sub (.var 0) (.cst (.int 4))) (.cst (.int 1000931)))) (.cst (.int 80671)))]) (.cst (.int 2147483629))), .ret (.bin .Mod (.blt .int [(.bin .Add (.bin .FloorDiv (.sub (.var 0) (.cst (.int 3))) (.cst (.int 71))) (.bin .Mult (.bin .Mod (.blt .int [(.sub (.var 0) (.cst (.int 3)))]) (.cst (.int 7919))) (.cst (.int 43))))]) (.var 1))]
def c12 : List Sc := c_g__law_draw
def n12 : List Str := ["_law_src", "_law_many7", "_law_seed", "_law_cell7", "_law_digit"]
def i12 : FI := ⟨"_law_draw", "_law_draw", .glob, ["_law_src", "_law_many7"], [(2, [])], []⟩
def c_g__law_same (f_g__law_same : Nat) : List Sc := [.ite (.isiT (.var 1) [.tLst, .tTup]) [.ite (.or (.cmp .NotEq (.blt .isi [(.var 0), (.cst (.ty .tLst))]) (.blt .isi [(.var 1), (.cst (.ty .tLst))])) (.cmp .NotEq (.blt .isi [(.var 0), (.cst (.ty .tTup))]) (.blt .isi [(.var 1), (.cst (.ty .tTup))]))) [.ret (.cst (.bl false))] [], .ret (.and (.cmp .Eq (.blt .len [(.var 0)]) (.blt .len [(.var 1)])) (.blt .all [(.comp .zip [(.var 0), (.var 1)] (.tp [(.nm 2), (.nm 3)]) [2, 3] none (.call f_g__law_same [(.var 2), (.var 3)] []))]))] [], .ite (.or (.cmp .Is (.var 1) (.cst .non)) (.cmp .Is (.var 0) (.cst .non))) [.ret (.and (.cmp .Is (.var 1) (.cst .non)) (.cmp .Is (.var 0) (.cst .non)))] [], .ite (.or (.cmp .NotEq (.blt .isi [(.var 0), (.cst (.ty .tBool))]) (.blt .isi [(.var 1), (.cst (.ty .tBool))])) (.cmp .NotEq (.blt .isi [(.var 0), (.cst (.ty .tInt))]) (.blt .isi [(.var 1), (.cst (.ty .tInt))]))) [.ret (.cst (.bl false))] [], .ret (.and (.cmp .Eq (.blt .isi [(.var 0), (.cst (.ty .tStr))]) (.blt .isi [(.var 1), (.cst (.ty .tStr))])) (.cmp .Eq (.var 0) (.var 1)))]
def c13 : List Sc := c_g__law_same 13
def n13 : List Str := ["_law_found", "_law_due", "_law_part7", "_law_late7"]
def i13 : FI := ⟨"_law_same", "_law_same", .glob, ["_law_found", "_law_due"], [(2, [])], []⟩
def c_m_World___init__ (f_g_first_wrong : Nat) (f_g_is_part : Nat) (f_g_is_trait : Nat) : List Sc := [.asg (.nm 3) (.call f_g_first_wrong [(.var 1), (.ccst 0 "MOST_PARTS" (.int 3)), (.cst (.fn f_g_is_part))] []), .ite (.cmp .IsNot (.var 3) (.cst .non)) [.raise x_InvalidPart [(.var 3)]] [], .asg (.nm 3) (.call f_g_first_wrong [(.var 2), (.ccst 0 "MOST_TRAITS" (.int 6)), (.cst (.fn f_g_is_trait))] []), .ite (.cmp .IsNot (.var 3) (.cst .non)) [.raise x_InvalidTrait [(.var 3)]] [], .setF 0 (.var 0) "part_rows" (.comp .seq [(.var 1)] (.nm 4) [4] none (.blt .tuple [(.var 4)])), .setF 0 (.var 0) "trait_rows" (.comp .seq [(.var 2)] (.nm 4) [4] none (.blt .tuple [(.var 4)]))]
def c14 : List Sc := c_m_World___init__ 6 4 5
def n14 : List Str := ["self", "parts", "traits", "wrong", "row"]
def i14 : FI := ⟨"__init__", "World.__init__", .meth, ["self", "parts", "traits"], [(3, [])], []⟩
def c_m_World_parts : List Sc := [.ret (.blt .list [(.fld 0 (.var 0) "part_rows")])]
def c15 : List Sc := c_m_World_parts
def n15 : List Str := ["self"]
def i15 : FI := ⟨"parts", "World.parts", .meth, ["self"], [(1, [])], []⟩
def c_m_World_traits : List Sc := [.ret (.blt .list [(.fld 0 (.var 0) "trait_rows")])]
def c16 : List Sc := c_m_World_traits
def n16 : List Str := ["self"]
def i16 : FI := ⟨"traits", "World.traits", .meth, ["self"], [(1, [])], []⟩
def c_m_Plan___init__ (f_g_are_hows : Nat) (f_g_is_name : Nat) (f_g_is_sight : Nat) (f_g_later_supplies : Nat) (f_m_Plan_names : Nat) (f_m_World_parts : Nat) : List Sc := [.setF 1 (.var 0) "own_world" (.var 1), .setR 1 0 "wave_rows" 0 false, .setR 1 0 "supplies" 1 true, .setR 1 0 "later" 2 true, .asg (.nm 4) (.comp .seq [(.meth 0 f_m_World_parts "parts" (.var 1) [] [])] (.nm 6) [6] none (.blt .list [(.sub (.var 6) (.cst (.int 1)))])), .ite (.cmp .Eq (.blt .len [(.var 2)]) (.cst (.int 0))) [.raise x_InvalidWave [(.cst (.int 0))]] [], .for .enum [(.var 2)] (.tp [(.nm 5), (.nm 6)]) [.ite (.or (.cmp .Eq (.var 5) (.cst (.int 3))) (.or (.not (.blt .isi [(.var 6), (.cst (.ty .tTup))])) (.or (.cmp .NotEq (.blt .len [(.var 6)]) (.cst (.int 3))) (.not (.call f_g_is_name [(.sub (.var 6) (.cst (.int 0)))] []))))) [.raise x_InvalidWave [(.var 5)]] [], .asg (.tp [(.nm 8), (.nm 9), (.nm 10)]) (.var 6), .ite (.or (.inK false (.var 8) (.fld 1 (.var 0) "supplies")) (.not (.or (.cmp .Is (.var 9) (.cst .non)) (.cmp .In (.var 9) (.keysK (.fld 1 (.var 0) "supplies")))))) [.raise x_InvalidWave [(.var 5)]] [], .asg (.nm 7) (.ite (.cmp .Is (.var 9) (.cst .non)) (.var 4) (.getK (.fld 1 (.var 0) "later") (.var 9))), .ite (.not (.call f_g_are_hows [(.var 10), (.var 7)] [])) [.raise x_InvalidWave [(.var 5)]] [], .setK (.fld 1 (.var 0) "supplies") (.var 8) (.var 7), .setK (.fld 1 (.var 0) "later") (.var 8) (.call f_g_later_supplies [(.var 10), (.var 7)] []), .exp (.mth .append (.fld 1 (.var 0) "wave_rows") [(.var 6)])], .setR 1 0 "sight_rows" 3 false, .for .enum [(.var 3)] (.tp [(.nm 5), (.nm 6)]) [.ite (.or (.cmp .Eq (.var 5) (.cst (.int 8))) (.or (.not (.call f_g_is_sight [(.var 1), (.meth 1 f_m_Plan_names "names" (.var 0) [] []), (.var 6)] [])) (.cmp .In (.var 6) (.fld 1 (.var 0) "sight_rows")))) [.raise x_InvalidSight [(.var 5)]] [], .exp (.mth .append (.fld 1 (.var 0) "sight_rows") [(.var 6)])]]
def c17 : List Sc := c_m_Plan___init__ 8 3 10 9 18 15
def n17 : List Str := ["self", "world", "waves", "sights", "sizes", "index", "row", "supply", "name", "source", "hows"]
def i17 : FI := ⟨"__init__", "Plan.__init__", .meth, ["self", "world", "waves", "sights"], [(3, [(.tup [])]), (4, [])], []⟩
def c_m_Plan_names : List Sc := [.ret (.compM (.fld 1 (.var 0) "wave_rows") (.nm 1) [1] none (.sub (.var 1) (.cst (.int 0))))]
def c18 : List Sc := c_m_Plan_names
def n18 : List Str := ["self", "row"]
def i18 : FI := ⟨"names", "Plan.names", .meth, ["self"], [(1, [])], []⟩
def c_g_law (f_g__law_draw : Nat) (f_g__law_same : Nat) (f_g__law_source : Nat) (f_m_Plan___init__ : Nat) (f_m_World___init__ : Nat) : List Sc := [.asg (.nm 1) (.call f_g__law_source [(.var 0)] []), .asg (.nm 2) (.app (.make 0 f_m_World___init__ []) [(.lst [(.tup [(.cst (.str "x")), (.tup [(.cst (.int 5)), (.cst (.int 4))])])]), (.comp .seq [(.cst (.str "fgh"))] (.nm 10) [10] none (.tup [(.var 10), (.cst (.int 1)), (.cst (.bl false)), (.cst (.bl false))]))]), .asg (.nm 3) (.bin .Add (.cst (.int 1)) (.call f_g__law_draw [(.var 1), (.cst (.int 4))] [])), .asg (.nm 4) (.tup [(.cst (.str "a")), (.cst .non), (.tup [(.tup [(.var 3), (.cst (.int 2))])])]), .asg (.nm 5) (.lst [(.lst [(.var 4), (.tup [(.cst (.str "b")), (.cst (.str "a")), (.tup [(.tup [(.var 3), (.cst (.int 2))])])])]), (.lst [(.var 4), (.tup [(.cst (.str "b")), (.cst (.str "a")), (.tup [(.tup [(.bin .Add (.var 3) (.cst (.int 1))), (.cst (.int 2))])])])]), (.lst [(.var 4), (.tup [(.cst (.str "b")), (.cst (.str "a")), (.tup [(.tup [(.var 3), (.cst (.int 3))])])])]), (.lst [(.var 4), (.tup [(.cst (.str "b")), (.cst .non), (.tup [(.tup [(.cst (.int 5)), (.cst (.int 4))])])])]), (.lst [(.tup [(.cst (.str "a")), (.cst .non), (.tup [(.tup [(.tup [(.cst (.int 1)), (.cst (.int 2))]), (.cst (.int 2))])])]), (.tup [(.cst (.str "b")), (.cst (.str "a")), (.tup [(.tup [(.cst (.int 1)), (.cst (.int 2))])])])]), (.lst [(.tup [(.cst (.str "a")), (.cst .non), (.tup [(.tup [(.tup [(.cst (.int 1)), (.cst (.int 2))]), (.cst (.int 2))])])]), (.tup [(.cst (.str "b")), (.cst (.str "a")), (.tup [(.tup [(.cst .non), (.cst (.int 2))])])]), (.tup [(.cst (.str "c")), (.cst (.str "b")), (.tup [(.tup [(.cst (.int 1)), (.cst (.int 2))])])])]), (.lst [(.tup [(.cst (.str "a")), (.cst .non), (.tup [(.tup [(.tup [(.cst (.int 1)), (.cst (.int 2))]), (.cst (.int 2))])])]), (.tup [(.cst (.str "b")), (.cst (.str "a")), (.tup [(.tup [(.tup [(.cst (.int 1)), (.cst (.int 3))]), (.cst (.int 1))])])])]), (.lst [(.var 4), (.tup [(.cst (.str "b")), (.cst (.str "a")), (.tup [(.tup [(.cst (.int 1)), (.cst .non)])])]), (.tup [(.cst (.str "c")), (.cst (.str "b")), (.tup [(.tup [(.cst (.int 2)), (.cst (.int 2))])])])]), (.lst [(.var 4), (.tup [(.cst (.str "b")), (.cst (.str "c")), (.tup [(.tup [(.cst (.int 1)), (.cst (.int 1))])])])]), (.lst []), (.lst [(.var 4), (.tup [(.cst (.str "b")), (.cst .non), (.tup [(.tup [(.cst (.int 0)), (.cst (.int 0))])])]), (.tup [(.cst (.str "c")), (.cst (.str "b")), (.tup [(.tup [(.cst (.int 0)), (.cst (.int 0))])])]), (.tup [(.cst (.str "d")), (.cst .non), (.tup [(.tup [(.cst (.int 0)), (.cst (.int 0))])])])])]), .asg (.nm 6) (.comp .seq [(.var 5)] (.nm 9) [9] none (.whyA (.makeR 1 f_m_Plan___init__ 4 [(.tup [])]) [(.var 2), (.var 9)])), .asg (.nm 7) (.lst [(.tup [(.cst (.str "value")), (.cst .non)]), (.tup [(.cst (.str "InvalidWave")), (.cst (.int 1))]), (.tup [(.cst (.str "InvalidWave")), (.cst (.int 1))]), (.tup [(.cst (.str "value")), (.cst .non)]), (.tup [(.cst (.str "InvalidWave")), (.cst (.int 1))]), (.tup [(.cst (.str "InvalidWave")), (.cst (.int 2))]), (.tup [(.cst (.str "value")), (.cst .non)]), (.tup [(.cst (.str "InvalidWave")), (.cst (.int 2))]), (.tup [(.cst (.str "InvalidWave")), (.cst (.int 1))]), (.tup [(.cst (.str "InvalidWave")), (.cst (.int 0))]), (.tup [(.cst (.str "InvalidWave")), (.cst (.int 3))])]), .asg (.nm 8) (.bin .Add (.comp .seq [(.cst (.str "fgh"))] (.nm 10) [10] none (.tup [(.var 10), (.cst (.str "a")), (.cst (.str "all"))])) (.lst [(.tup [(.cst (.str "f")), (.cst (.str "a")), (.cst (.str "any"))]), (.tup [(.cst (.str "g")), (.cst (.str "a")), (.cst (.str "any"))]), (.tup [(.cst (.str "h")), (.cst (.str "a")), (.cst (.str "any"))]), (.tup [(.cst (.str "f")), (.cst (.str "a")), (.cst (.str "first"))]), (.tup [(.cst (.str "g")), (.cst (.str "a")), (.cst (.str "first"))]), (.tup [(.cst (.str "h")), (.cst (.str "a")), (.cst (.str "first"))])])), .ret (.and (.call f_g__law_same [(.var 6), (.var 7)] []) (.call f_g__law_same [(.lst [(.whyA (.makeR 1 f_m_Plan___init__ 4 []) [(.var 2), (.lst [(.var 4)]), (.var 8)]), (.whyA (.makeR 1 f_m_Plan___init__ 4 []) [(.var 2), (.lst [(.var 4)]), (.slcH (.var 8) (.cst (.int 8)))])]), (.lst [(.tup [(.cst (.str "InvalidSight")), (.cst (.int 8))]), (.tup [(.cst (.str "value")), (.cst .non)])])] []))]
def c19 : List Sc := c_g_law 12 13 11 17 14
def n19 : List Str := ["_law_script", "_law_src", "_law_made7", "_law_few", "_law_first", "_law_rows", "_law_told", "_law_due", "_law_nine", "_law_row", "_law_name"]
def i19 : FI := ⟨"law", "law", .glob, ["_law_script"], [(1, [])], []⟩
def y0 : CI := ⟨"World", some 14, [("parts", 15), ("traits", 16)], ["part_rows", "trait_rows"], [("MOST_PARTS", (.int 3)), ("MOST_TRAITS", (.int 6))], [], [], false⟩
def y1 : CI := ⟨"Plan", some 17, [("names", 18)], ["later", "own_world", "sight_rows", "supplies", "wave_rows"], [], [], [], false⟩
def T : Tb := ⟨[i0, i1, i2, i3, i4, i5, i6, i7, i8, i9, i10, i11, i12, i13, i14, i15, i16, i17, i18, i19], ["abs", "all", "bool", "enumerate", "int", "isinstance", "len", "list", "str", "tuple", "zip"], [("ENDS", (.tup [(.str "all"), (.str "first"), (.str "any")])), ("MOST_DEPTH", (.int 3)), ("MOST_SIGHTS", (.int 8)), ("MOST_SIZE", (.int 1000000000000000000000000000000)), ("MOST_WAVES", (.int 3))], [y0, y1], [⟨"InvalidPart", x_InvalidPart⟩, ⟨"InvalidTrait", x_InvalidTrait⟩, ⟨"InvalidWave", x_InvalidWave⟩, ⟨"InvalidSight", x_InvalidSight⟩], some ("_law_why" : Str), []⟩
def ft : List Fn := [⟨1, 1, c0⟩, ⟨2, 4, c1⟩, ⟨1, 2, c2⟩, ⟨1, 2, c3⟩, ⟨1, 3, c4⟩, ⟨1, 1, c5⟩, ⟨3, 6, c6⟩, ⟨2, 2, c7⟩, ⟨2, 6, c8⟩, ⟨2, 8, c9⟩, ⟨3, 5, c10⟩, ⟨1, 1, c11⟩, ⟨2, 5, c12⟩, ⟨2, 4, c13⟩, ⟨3, 5, c14⟩, ⟨1, 1, c15⟩, ⟨1, 1, c16⟩, ⟨4, 11, c17⟩, ⟨1, 2, c18⟩, ⟨1, 11, c19⟩]

abbrev F_g_is_number : Nat := 0
abbrev F_g_gcd : Nat := 1
abbrev F_g_is_ratio : Nat := 2
abbrev F_g_is_name : Nat := 3
abbrev F_g_is_part : Nat := 4
abbrev F_g_is_trait : Nat := 5
abbrev F_g_first_wrong : Nat := 6
abbrev F_g_is_how : Nat := 7
abbrev F_g_are_hows : Nat := 8
abbrev F_g_later_supplies : Nat := 9
abbrev F_g_is_sight : Nat := 10
abbrev F_g__law_source : Nat := 11
abbrev F_g__law_draw : Nat := 12
abbrev F_g__law_same : Nat := 13
abbrev F_m_World___init__ : Nat := 14
abbrev F_m_World_parts : Nat := 15
abbrev F_m_World_traits : Nat := 16
abbrev F_m_Plan___init__ : Nat := 17
abbrev F_m_Plan_names : Nat := 18
abbrev F_g_law : Nat := 19
theorem k0 : chkSs 200 ⟨T, n0, defScope (top 10), none, false⟩ (defBody (top 10)) c0 = true := by decide +kernel
theorem s0 : FnScope n0 ["value"] (defScope (top 10)) := ⟨rfl, rfl, rfl, by decide +kernel, rfl, by decide +kernel, by decide +kernel⟩
theorem k1 : chkSs 200 ⟨T, n1, defScope (top 11), none, false⟩ (defBody (top 11)) c1 = true := by decide +kernel
theorem s1 : FnScope n1 ["one", "other"] (defScope (top 11)) := ⟨rfl, rfl, rfl, by decide +kernel, rfl, by decide +kernel, by decide +kernel⟩
theorem k2 : chkSs 200 ⟨T, n2, defScope (top 12), none, false⟩ (defBody (top 12)) c2 = true := by decide +kernel
theorem s2 : FnScope n2 ["value"] (defScope (top 12)) := ⟨rfl, rfl, rfl, by decide +kernel, rfl, by decide +kernel, by decide +kernel⟩
theorem k3 : chkSs 200 ⟨T, n3, defScope (top 16), none, false⟩ (defBody (top 16)) c3 = true := by decide +kernel
theorem s3 : FnScope n3 ["value"] (defScope (top 16)) := ⟨rfl, rfl, rfl, by decide +kernel, rfl, by decide +kernel, by decide +kernel⟩
theorem k4 : chkSs 200 ⟨T, n4, defScope (top 17), none, false⟩ (defBody (top 17)) c4 = true := by decide +kernel
theorem s4 : FnScope n4 ["row"] (defScope (top 17)) := ⟨rfl, rfl, rfl, by decide +kernel, rfl, by decide +kernel, by decide +kernel⟩
theorem k5 : chkSs 200 ⟨T, n5, defScope (top 18), none, false⟩ (defBody (top 18)) c5 = true := by decide +kernel
theorem s5 : FnScope n5 ["row"] (defScope (top 18)) := ⟨rfl, rfl, rfl, by decide +kernel, rfl, by decide +kernel, by decide +kernel⟩
theorem k6 : chkSs 200 ⟨T, n6, defScope (top 19), none, false⟩ (defBody (top 19)) c6 = true := by decide +kernel
theorem s6 : FnScope n6 ["rows", "most", "is_row"] (defScope (top 19)) := ⟨rfl, rfl, rfl, by decide +kernel, rfl, by decide +kernel, by decide +kernel⟩
theorem k7 : chkSs 200 ⟨T, n7, defScope (top 25), none, false⟩ (defBody (top 25)) c7 = true := by decide +kernel
theorem s7 : FnScope n7 ["value", "supply"] (defScope (top 25)) := ⟨rfl, rfl, rfl, by decide +kernel, rfl, by decide +kernel, by decide +kernel⟩
theorem k8 : chkSs 200 ⟨T, n8, defScope (top 26), none, false⟩ (defBody (top 26)) c8 = true := by decide +kernel
theorem s8 : FnScope n8 ["value", "supplies"] (defScope (top 26)) := ⟨rfl, rfl, rfl, by decide +kernel, rfl, by decide +kernel, by decide +kernel⟩
theorem k9 : chkSs 200 ⟨T, n9, defScope (top 27), none, false⟩ (defBody (top 27)) c9 = true := by decide +kernel
theorem s9 : FnScope n9 ["hows", "supplies"] (defScope (top 27)) := ⟨rfl, rfl, rfl, by decide +kernel, rfl, by decide +kernel, by decide +kernel⟩
theorem k10 : chkSs 200 ⟨T, n10, defScope (top 28), none, false⟩ (defBody (top 28)) c10 = true := by decide +kernel
theorem s10 : FnScope n10 ["world", "names", "value"] (defScope (top 28)) := ⟨rfl, rfl, rfl, by decide +kernel, rfl, by decide +kernel, by decide +kernel⟩
theorem k11 : chkSs 200 ⟨T, n11, defScope (top 31), none, false⟩ (defBody (top 31)) c11 = true := by decide +kernel
theorem s11 : FnScope n11 ["_law_script"] (defScope (top 31)) := ⟨rfl, rfl, rfl, by decide +kernel, rfl, by decide +kernel, by decide +kernel⟩
theorem k12 : chkSs 200 ⟨T, n12, defScope (top 32), none, false⟩ (defBody (top 32)) c12 = true := by decide +kernel
theorem s12 : FnScope n12 ["_law_src", "_law_many7"] (defScope (top 32)) := ⟨rfl, rfl, rfl, by decide +kernel, rfl, by decide +kernel, by decide +kernel⟩
theorem k13 : chkSs 200 ⟨T, n13, defScope (top 33), none, false⟩ (defBody (top 33)) c13 = true := by decide +kernel
theorem s13 : FnScope n13 ["_law_found", "_law_due"] (defScope (top 33)) := ⟨rfl, rfl, rfl, by decide +kernel, rfl, by decide +kernel, by decide +kernel⟩
theorem k14 : chkSs 200 ⟨T, n14, defScope (mem 20 2), none, false⟩ (defBody (mem 20 2)) c14 = true := by decide +kernel
theorem s14 : FnScope n14 ["self", "parts", "traits"] (defScope (mem 20 2)) := ⟨rfl, rfl, rfl, by decide +kernel, rfl, by decide +kernel, by decide +kernel⟩
theorem k15 : chkSs 200 ⟨T, n15, defScope (mem 20 4), none, false⟩ (defBody (mem 20 4)) c15 = true := by decide +kernel
theorem s15 : FnScope n15 ["self"] (defScope (mem 20 4)) := ⟨rfl, rfl, rfl, by decide +kernel, rfl, by decide +kernel, by decide +kernel⟩
theorem k16 : chkSs 200 ⟨T, n16, defScope (mem 20 5), none, false⟩ (defBody (mem 20 5)) c16 = true := by decide +kernel
theorem s16 : FnScope n16 ["self"] (defScope (mem 20 5)) := ⟨rfl, rfl, rfl, by decide +kernel, rfl, by decide +kernel, by decide +kernel⟩
theorem k17 : chkSs 200 ⟨T, n17, defScope (mem 29 0), none, false⟩ (defBody (mem 29 0)) c17 = true := by decide +kernel
theorem s17 : FnScope n17 ["self", "world", "waves", "sights"] (defScope (mem 29 0)) := ⟨rfl, rfl, rfl, by decide +kernel, rfl, by decide +kernel, by decide +kernel⟩
theorem k18 : chkSs 200 ⟨T, n18, defScope (mem 29 4), none, false⟩ (defBody (mem 29 4)) c18 = true := by decide +kernel
theorem s18 : FnScope n18 ["self"] (defScope (mem 29 4)) := ⟨rfl, rfl, rfl, by decide +kernel, rfl, by decide +kernel, by decide +kernel⟩
theorem k19 : chkSs 200 ⟨T, n19, defScope (top 36), none, true⟩ (defBody (top 36)) c19 = true := by decide +kernel
theorem s19 : FnScope n19 ["_law_script"] (defScope (top 36)) := ⟨rfl, rfl, rfl, by decide +kernel, rfl, by decide +kernel, by decide +kernel⟩
end K34

namespace K34
open PySem PySem.Spec PyProof.Rows L2 Fw
local macro_rules | `(tactic| walk_at "v") => `(tactic| (repeat (first | ((with_reducible apply Fw.v_var); next => exact rfl) | with_reducible refine Fw.v_bin ?_ | with_reducible refine Fw.v_maxD ?_ | with_reducible refine Fw.v_sub ?_ | with_reducible refine Fw.v_cst ?_ | with_reducible refine Fw.v_cons ?_ | with_reducible refine Fw.v_nil ?_ | with_reducible refine Fw.v_cmp ?_ | with_reducible refine Fw.v_blt ?_ | with_reducible refine Fw.v_neg ?_ | with_reducible refine Fw.v_call ?_ | with_reducible refine Fw.v_callK ?_ | with_reducible refine Fw.v_not ?_ | with_reducible refine Fw.v_chain ?_ | with_reducible refine Fw.v_andT ?_ | with_reducible refine Fw.v_orT ?_ | with_reducible refine Fw.v_and ?_ | with_reducible refine Fw.v_or ?_ | with_reducible refine Fw.v_ite ?_ | with_reducible refine Fw.v_tup ?_ | with_reducible refine Fw.v_lst ?_ | with_reducible refine Fw.v_lstM ?_ | with_reducible refine Fw.v_listM ?_ | with_reducible refine Fw.s_lsmT ?_ | with_reducible refine Fw.s_lsmL ?_ | with_reducible refine Fw.v_whyAK ?_ | with_reducible refine Fw.v_slcH ?_ | with_reducible refine Fw.v_slcL ?_ | with_reducible refine Fw.v_isiT ?_ | with_reducible refine Fw.v_fstr ?_ | with_reducible refine Fw.v_fmt ?_ | with_reducible refine Fw.v_comp0 ?_ | with_reducible refine Fw.v_comp1 ?_ | with_reducible refine Fw.s_t0 ?_ | with_reducible refine Fw.s_t1 ?_ | with_reducible refine Fw.s_t2 ?_ | with_reducible refine Fw.s_l0 ?_ | with_reducible refine Fw.s_l1 ?_ | with_reducible refine Fw.s_l2 ?_ | with_reducible refine Fw.s_not ?_ | with_reducible refine Fw.s_neg ?_ | with_reducible refine Fw.o_add ?_ | with_reducible refine Fw.o_sub ?_ | with_reducible refine Fw.q_lt ?_ | with_reducible refine Fw.q_le ?_ | with_reducible refine Fw.q_gt ?_ | with_reducible refine Fw.q_ge ?_ | with_reducible refine Fw.q_eq ?_ | with_reducible refine Fw.q_ne ?_ | with_reducible refine Fw.q_eqB ?_ | with_reducible refine Fw.q_neB ?_ | with_reducible refine Fw.q_isN ?_ | with_reducible refine Fw.q_notN ?_ | with_reducible refine Fw.sat_cons ?_ | with_reducible refine Fw.w_asg ?_ | with_reducible refine Fw.w_par ?_ | with_reducible refine Fw.w_parT ?_ | with_reducible refine Fw.w_setI ?_ | with_reducible refine Fw.w_exp ?_ | with_reducible refine Fw.w_ret ?_ | with_reducible refine Fw.v_ccst ?_ | with_reducible refine Fw.v_app ?_ | with_reducible refine Fw.v_whyA ?_ | with_reducible refine Fw.v_fld ?_ | with_reducible refine Fw.w_ite ?_ | with_reducible refine Fw.w_for ?_ | with_reducible refine Fw.w_while ?_ | with_reducible refine Fw.v_tst ?_ | with_reducible refine Fw.x_cons ?_ | with_reducible refine Fw.x_asg ?_ | with_reducible refine Fw.x_exp ?_ | with_reducible refine Fw.x_ret ?_ | with_reducible refine Fw.x_ite ?_ | with_reducible refine Fw.x_asgX ?_ | with_reducible refine Fw.x_expX ?_ | with_reducible refine Fw.x_retX ?_ | with_reducible refine Fw.x_asgE ?_ | with_reducible refine Fw.x_expE ?_ | with_reducible refine Fw.x_retE ?_ | with_reducible refine Fw.x_for ?_ | with_reducible refine Fw.x_while ?_ | with_reducible refine Fw.y_p ?_ | with_reducible refine Fw.y_x ?_ | with_reducible refine Fw.y_neg ?_ | with_reducible refine Fw.y_int ?_ | with_reducible refine Fw.y_nil ?_ | with_reducible refine Fw.y_cons ?_ | with_reducible refine Fw.y_tup ?_ | with_reducible refine Fw.y_lstM ?_ | with_reducible refine Fw.v_tupS ?_ | with_reducible refine Fw.v_lstS ?_ | with_reducible refine Fw.v_snil ?_ | with_reducible refine Fw.v_scons ?_ | with_reducible refine Fw.v_slcB ?_ | ((with_reducible apply Fw.q_inT); next => exact rfl) | ((with_reducible apply Fw.s_sub); next => exact rfl) | ((with_reducible apply Fw.s_blt); next => exact rfl) | ((with_reducible apply Fw.s_tst); next => exact rfl) | ((with_reducible apply Fw.s_isi); next => exact rfl) | ((with_reducible apply Fw.s_asm); next => exact rfl) | ((with_reducible apply Fw.s_bnd); next => exact rfl) | ((with_reducible apply Fw.s_wlk); next => exact rfl) | ((with_reducible apply Fw.s_slcH); next => exact rfl) | ((with_reducible apply Fw.s_slcL); next => exact rfl) | ((with_reducible apply Fw.s_slcB); next => exact rfl) | ((with_reducible apply Fw.s_dsp); (next => exact rfl); (next => exact rfl)) | ((with_reducible apply Fw.s_set); (next => exact rfl); (next => exact rfl)) | ((with_reducible apply Fw.q_eqS); (next => first | exact ofStr_ok _ | assumption); (next => first | exact ofStr_ok _ | assumption)) | ((with_reducible refine Fw.o_mul ?_ ?_); next => first | assumption | exact mul_c (by omega) (by omega) | exact mul_cL (by omega) (by omega)) | ((with_reducible refine Fw.o_mod ?_ ?_); next => first | assumption | omega) | ((with_reducible refine Fw.o_div ?_ ?_); next => first | assumption | decide) | ((with_reducible refine Fw.o_pow ?_ ?_); next => decide))))
local macro_rules | `(tactic| walk_at "y") => `(tactic| (refine br (fun _ => ?_) (fun h => absurd h (by first | exact ft_no | exact tf_no | decide | simp)); walk_at "v"))
local macro_rules | `(tactic| walk_at "n") => `(tactic| (refine br (fun h => absurd h (by first | exact ft_no | exact tf_no | decide | simp)) (fun _ => ?_); (try refine sat_nil ?_); walk_at "v"))
/-- the source of draws as it stands in the store -/
def srcO (cs : List Int) (at_ : Nat) (big seed cnt : Int) : MO := .lst [.lst (cs.map D.int), .int at_, .int big, .int seed, .int cnt]
def Src (R S : Store) : Prop := ∃ (cs : List Int) (at_ : Nat) (big seed cnt : Int), S = srcO cs at_ big seed cnt :: R ∧ 0 ≤ big ∧ 0 ≤ seed ∧ seed < 2147483629 ∧ 0 ≤ cnt
theorem Src.len {R S : Store} (h : Src R S) : S.length = R.length + 1 := by
  obtain ⟨_, _, _, _, _, rfl, _⟩ := h
  rfl
section
variable {ft : List Fn} {wf k : Nat} {R S : Store}
theorem at_sub {cs : List Int} {i : Nat} {S : Store} (h : i < cs.length) : subF (.p (.lst (cs.map D.int))) (.p (.int (i : Int))) S = some (.p (.int cs[i])) := by
  show (atI (cs.map D.int) (i : Int)).map A.p = _
  rw [atI_nat (j := i) (v := D.int cs[i]) (by rw [List.getElem?_map, List.getElem?_eq_getElem h]; rfl)]
  rfl
theorem at_ints {cs : List Int} {i : Nat} (h : i < cs.length) : atI (cs.map D.int) (i : Int) = some (.int cs[i]) := by
  apply atI_nat
  rw [List.getElem?_map, List.getElem?_eq_getElem h]
  rfl
def MidD (R : Store) (m : Int) (ρ : Fw.Env) (S : Store) : Prop := ∃ y, ρ = [some (.m 0), some (.p (.int m)), none, y, none] ∧ Src R S
theorem draw_tail {cl : Nat → List A → Store → Rz A} {m : Int} (h0 : 0 < m) (h9 : divOk m = true) {ρ : Fw.Env} (h : MidD R m ρ S) : (Fw.run cl wf (c_g__law_draw.drop 1) ρ S).sat (fun _ _ => False) fun x S' => S'.length = R.length + 1 ∧ Src R S' ∧ ∃ d : Int, x = .p (.int d) ∧ 0 ≤ d ∧ d < m := by
  obtain ⟨y, rfl, cs, at_, big, seed, cnt, rfl, hb, hs, hs2, hc⟩ := h
  unfold c_g__law_draw srcO
  dsimp only [List.drop]
  have hm : m ≠ 0 := by omega
  walk_at "v"
  refine br (fun h => ?_) (fun h => ?_)
  · walk_at "v"
    exact ⟨rfl, ⟨cs, at_, _, seed, cnt, rfl, Int.fdiv_nonneg hb (by omega), hs, hs2, hc⟩, _, rfl, Int.fmod_nonneg_of_pos _ h0, Int.fmod_lt_of_pos _ h0⟩
  · refine sat_nil ?_
    walk_at "v"
    exact ⟨rfl, ⟨cs, at_, big, _, _, rfl, hb, Int.fmod_nonneg_of_pos _ (by decide), Int.fmod_lt_of_pos _ (by decide), by omega⟩, _, rfl, Int.fmod_nonneg_of_pos _ h0, Int.fmod_lt_of_pos _ h0⟩
theorem draw_ok {f : Nat} (hf : ft[f]? = some ⟨2, 5, c_g__law_draw⟩) (hS : Src R S) {m : Int} (h0 : 0 < m) (h9 : divOk m = true) : (callI ft wf (k + 1) f [.m 0, .p (.int m)] S).sat fun x S' => Src R S' ∧ ∃ d : Int, x = .p (.int d) ∧ 0 ≤ d ∧ d < m := by
  obtain ⟨cs, at_, big, seed, cnt, rfl, hb, hs, hs2, hc⟩ := hS
  refine sat_call hf rfl ?_
  show (Fw.run _ wf c_g__law_draw [some (.m 0), some (.p (.int m)), none, none, none] _).sat _ _
  unfold c_g__law_draw
  refine sat_cons (Rs.sat_mono (P := MidD R m) (R := fun _ _ => False) ?_ (fun ρ S h => draw_tail h0 h9 h) (fun _ _ h => h.elim))
  unfold srcO
  walk_at "v"
  refine br (fun h => ?_) (fun h => ?_)
  · walk_at "v"
    refine br (fun h => ?_) (fun h => ?_)
    · have hlt : at_ < cs.length := by
        have := of_decide_eq_true h
        rw [List.length_map] at this
        omega
      refine sat_cons (w_asg ?_)
      walk_at "v"
      refine s_sub (at_sub hlt) ?_
      walk_at "v"
      refine br (fun h => ?_) (fun h => ?_)
      · walk_at "v"
        refine sat_nil (sat_nil ⟨_, rfl, cs, at_ + 1, _, seed, cnt, rfl, ?_, hs, hs2, hc⟩)
        have := of_decide_eq_true h
        exact Int.le_trans (by decide) this
      · walk_at "v"
        exact sat_nil (sat_nil ⟨_, rfl, cs, at_ + 1, big, _, cnt, rfl, hb, Int.fmod_nonneg_of_pos _ (by decide), Int.fmod_lt_of_pos _ (by decide), hc⟩)
    · exact sat_nil ⟨_, rfl, cs, at_, big, seed, cnt, rfl, hb, hs, hs2, hc⟩
  · walk_at "v"
    exact br (fun h => by cases h) (fun h => sat_nil ⟨_, rfl, cs, at_, big, seed, cnt, rfl, hb, hs, hs2, hc⟩)
end
/-! ### _law_same -/
def Pl : Nat → D → Prop
  | 0, _ => False
  | _ + 1, .non => True
  | _ + 1, .bl _ => True
  | _ + 1, .int _ => True
  | _ + 1, .str x => PyData.strOk x = true
  | n + 1, .tup ds => ds.length < LIM ∧ ∀ d ∈ ds, Pl n d
  | n + 1, .lst ds => ds.length < LIM ∧ ∀ d ∈ ds, Pl n d
  | _ + 1, _ => False
theorem bls_true {α : Type} : ∀ l : List α, D.bls (l.map fun _ => D.bl true) = some (l.map fun _ => true)
  | [] => rfl
  | _ :: l => by
    rw [List.map_cons, D.bls, bls_true l]
    rfl
theorem zip_self {α : Type} {f : D → D → α} {P : α → Prop} : ∀ ds : List D, (∀ d ∈ ds, P (f d d)) → ∀ x ∈ List.zipWith f ds ds, P x
  | [], _, x, hx => by cases hx
  | d :: ds, h, x, hx => by
    rw [List.zipWith_cons_cons, List.mem_cons] at hx
    rcases hx with rfl | hx
    · exact h d (List.mem_cons_self ..)
    · exact zip_self ds (fun d hd => h d (List.mem_cons_of_mem _ hd)) x hx
section
variable {ft : List Fn} {wf : Nat} {S : Store}
theorem zip_comp {k f : Nat} {ds : List D} {ρ : Fw.Env} (hl : ds.length < LIM) (hρ : ρ.length = 4) (ih : ∀ d ∈ ds, callI ft wf k f [.p d, .p d] S = .ok (.p (.bl true)) S) :
    (compL (fun x => bindT (.tp [.nm 2, .nm 3]) x (wipeE ρ [2, 3])) (fun _ S => .ok (.p (.bl true)) S) (ev (callI ft wf k) false (.call f [.var 2, .var 3] [])) (List.zipWith (fun a b => A.p (.tup [a, b])) ds ds) S).sat fun es S2 => es.length < LIM ∧ BltV .all [.p (.lst es)] S2 fun x S' => S' = S ∧ x = .p (.bl true) := by
  rw [comp_map (fun _ => D.bl true) (S := S)]
  · refine Rz.sat_ok ⟨by rw [List.length_map, List.length_zipWith]; omega, ?_⟩
    refine s_blt (z := .p (.bl true)) ?_ ⟨rfl, rfl⟩
    show (D.bls _).map _ = _
    rw [bls_true]
    simp
  · refine zip_self ds fun d hd => ?_
    match ρ, hρ with
    | [a, b, c, e], _ =>
      refine ⟨[a, b, some (.p d), some (.p d)], rfl, ?_⟩
      refine sat_val ?_
      walk_at "v"
      exact Rz.sat_eq (ih d hd) ⟨rfl, rfl⟩
theorem same_ok {f : Nat} (hf : ft[f]? = some ⟨2, 4, c_g__law_same f⟩) : ∀ (n : Nat) (d : D), Pl n d → ∀ k, n ≤ k → callI ft wf k f [.p d, .p d] S = .ok (.p (.bl true)) S := by
  intro n
  induction n with
  | zero => exact fun d h => h.elim
  | succ n ih =>
    intro d hd k hk
    obtain ⟨k, rfl⟩ : ∃ j, k = j + 1 := ⟨k - 1, by omega⟩
    refine call_val hf rfl ?_
    show (Fw.run _ wf (c_g__law_same f) [some (.p d), some (.p d), none, none] _).sat _ _
    unfold c_g__law_same
    cases d with
    | non =>
      walk_at "v"
      walk_at "n"
      walk_at "y"
      walk_at "y"
      walk_at "y"
      exact ⟨rfl, rfl⟩
    | bl b =>
      walk_at "v"
      walk_at "n"
      walk_at "n"
      walk_at "n"
      walk_at "n"
      walk_at "n"
      walk_at "y"
      refine ⟨?_, rfl⟩; simp; done
    | int i =>
      walk_at "v"
      walk_at "n"
      walk_at "n"
      walk_at "n"
      walk_at "n"
      walk_at "n"
      walk_at "y"
      refine ⟨?_, rfl⟩; simp; done
    | str x =>
      walk_at "v"
      walk_at "n"
      walk_at "n"
      walk_at "n"
      walk_at "n"
      walk_at "n"
      walk_at "y"
      refine ⟨?_, rfl⟩
      simp
    | tup ds =>
      walk_at "v"
      walk_at "y"
      walk_at "n"
      walk_at "n"
      walk_at "y"
      exact Rz.sat_mono (zip_comp hd.1 rfl fun d h => ih d (hd.2 d h) k (by omega)) fun es S2 h => ⟨h.1, by
        refine v_nil ?_
        obtain ⟨z, e, h1, h2⟩ := h.2
        exact ⟨z, e, h2, h1⟩⟩
    | lst ds =>
      walk_at "v"
      walk_at "y"
      walk_at "n"
      walk_at "n"
      walk_at "y"
      exact Rz.sat_mono (zip_comp hd.1 rfl fun d h => ih d (hd.2 d h) k (by omega)) fun es S2 h => ⟨h.1, by
        refine v_nil ?_
        obtain ⟨z, e, h1, h2⟩ := h.2
        exact ⟨z, e, h2, h1⟩⟩
    | scr ns => exact hd.elim
    | fn i => exact hd.elim
    | ty t => exact hd.elim
    | ins c ns ds => exact hd.elim
    | kl c => exact hd.elim
    | dct ks vs => exact hd.elim
    | exv c ns ds => exact hd.elim
    | dks ks vs => exact hd.elim
end
section
variable {wf : Nat}
theorem source_ok {k : Nat} {ns : List Int} : (callI ft wf (k + 1) F_g__law_source [.p (.scr ns)] []).sat fun x S' => x = .m 0 ∧ Src [] S' := by
  refine sat_callG rfl rfl ?_
  show (Fw.run _ wf c_g__law_source [some (.p (.scr ns))] _).sat _ _
  unfold c_g__law_source
  walk_at "v"
  refine ⟨rfl, rfl, (ns.drop (HT.sIx (ns.map D.int).length 0 none)).take (HT.sIx (ns.map D.int).length (ns.map D.int).length (some 63) - HT.sIx (ns.map D.int).length 0 none), 0, 0, 12023, 0, ?_, by decide, by decide, by decide, by decide⟩
  unfold srcO Fw.cutD
  rw [List.map_take, List.map_drop]
  rfl
end
def lawC : List Sc := c_g_law F_g__law_draw F_g__law_same F_g__law_source F_m_Plan___init__ F_m_World___init__
def tailT : List Sc := lawC.drop 3
def mk2 : Sc := lawC.getD 1 .pass
def WD : D := .ins 0 ["part_rows", "trait_rows"] [.lst [.tup [.str "x", .tup [.int 5, .int 4]]], .lst [.tup [.str "f", .int 1, .bl false, .bl false], .tup [.str "g", .int 1, .bl false, .bl false], .tup [.str "h", .int 1, .bl false, .bl false]]]
abbrev E2 (s0 : Option A) : Fw.Env := [s0, some (.m 0), some (.p WD), none, none, none, none, none, none, none, none]
abbrev E3 (s0 : Option A) (few : Int) : Fw.Env := [s0, some (.m 0), some (.p WD), some (.p (.int few)), none, none, none, none, none, none, none]
section
variable {wf k : Nat} {s0 : Option A} {cs : List Int} {a : Nat} {big seed cnt : Int}
theorem made2 : Fw.run1 (callI ft 10000000000 (k + 30)) 10000000000 mk2 [s0, some (.m 0), none, none, none, none, none, none, none, none, none] [srcO cs a big seed cnt] = .nx (E2 s0) [srcO cs a big seed cnt] := by kernel_rfl
theorem tail1 : Fw.run (callI ft 10000000000 (k + 30)) 10000000000 tailT (E3 s0 1) [srcO cs a big seed cnt] = .rt (.p (.bl true)) [srcO cs a big seed cnt] := by kernel_rfl
theorem tail2 : Fw.run (callI ft 10000000000 (k + 30)) 10000000000 tailT (E3 s0 2) [srcO cs a big seed cnt] = .rt (.p (.bl true)) [srcO cs a big seed cnt] := by kernel_rfl
theorem tail3 : Fw.run (callI ft 10000000000 (k + 30)) 10000000000 tailT (E3 s0 3) [srcO cs a big seed cnt] = .rt (.p (.bl true)) [srcO cs a big seed cnt] := by kernel_rfl
theorem tail4 : Fw.run (callI ft 10000000000 (k + 30)) 10000000000 tailT (E3 s0 4) [srcO cs a big seed cnt] = .rt (.p (.bl true)) [srcO cs a big seed cnt] := by kernel_rfl
end
theorem tails {k : Nat} {s0 : Option A} {cs : List Int} {a : Nat} {big seed cnt d : Int} (h0 : 0 ≤ d) (h4 : d < 4) : Fw.run (callI ft 10000000000 (k + 30)) 10000000000 tailT (E3 s0 (1 + d)) [srcO cs a big seed cnt] = .rt (.p (.bl true)) [srcO cs a big seed cnt] := by
  have : d = 0 ∨ d = 1 ∨ d = 2 ∨ d = 3 := by omega
  rcases this with rfl | rfl | rfl | rfl
  · exact tail1
  · exact tail2
  · exact tail3
  · exact tail4
theorem law_true {k : Nat} (hk : 40 ≤ k) (ns : List Int) : ∃ S', callI ft 10000000000 (k + 1) F_g_law [.p (.scr ns)] [] = .ok (.p (.bl true)) S' := by
  obtain ⟨k, rfl⟩ : ∃ m, k = m + 30 := ⟨k - 30, by omega⟩
  have : (callI ft 10000000000 (k + 30 + 1) F_g_law [.p (.scr ns)] []).sat fun x _ => x = .p (.bl true) := by
    refine sat_callP rfl rfl ?_
    show (Fw.run _ 10000000000 lawC [some (.p (.scr ns)), none, none, none, none, none, none, none, none, none, none] _).sat _ _
    rw [show lawC = .asg (.nm 1) (.call F_g__law_source [(.var 0)] []) :: mk2 :: .asg (.nm 3) (.bin .Add (.cst (.int 1)) (.call F_g__law_draw [(.var 1), (.cst (.int 4))] [])) :: tailT from rfl]
    walk_at "v"
    refine Rz.sat_mono source_ok ?_
    rintro _ S ⟨rfl, hS⟩
    obtain ⟨cs, a, big, seed, cnt, rfl, hb⟩ := hS
    refine s_bnd rfl ?_
    refine sat_cons ?_
    show (Fw.run1 (callI ft 10000000000 (k + 30)) 10000000000 mk2 [some (.p (.scr ns)), some (.m 0), none, none, none, none, none, none, none, none, none] [srcO cs a big seed cnt]).sat _ _
    rw [made2]
    show (Fw.run _ _ _ (E2 _) _).sat _ _
    have hS : Src [] [srcO cs a big seed cnt] := ⟨cs, a, big, seed, cnt, rfl, hb⟩
    walk_at "v"
    refine Rz.sat_mono (draw_ok rfl hS (m := 4) (by decide) (div_ok (b := 10) (by decide) (by decide) (by decide) (by decide))) ?_
    rintro _ S ⟨hS, d, rfl, d0, d4⟩
    obtain ⟨cs, a, big, seed, cnt, rfl, hb⟩ := hS
    walk_at "v"
    show (Fw.run (callI ft 10000000000 (k + 30)) 10000000000 tailT (E3 (some (.p (.scr ns))) (1 + d)) [srcO cs a big seed cnt]).sat _ _
    rw [tails d0 d4]
    exact ⟨rfl, Nat.zero_le _, rfl⟩
  obtain ⟨a, S, e, rfl⟩ := this
  exact ⟨S, e⟩
end K34

namespace K34
open PySem PySem.Spec PyProof.Rows L2 Fw
theorem whyB : WhyB "_law_ask7" "_law_told" "_law_e" "FewError" "Missing" "_law_field" (defBody (top 35)) := ⟨_, _, _, _, _, _, _, _, _, _, _, _, _, _, _, _, _, _, _, _, _, _, _, _, _, _, _, _, _, rfl⟩
theorem whyS : FnScope ["_law_ask7", "_law_told", "_law_e"] ["_law_ask7"] (defScope (top 35)) := ⟨rfl, rfl, rfl, by decide +kernel, rfl, by decide +kernel, by decide +kernel⟩
theorem fldS : FnScope ["_law_e"] ["_law_e"] (defScope (top 34)) := ⟨rfl, rfl, rfl, by decide +kernel, rfl, by decide +kernel, by decide +kernel⟩
theorem fldB : FieldB "_law_e" (defBody (top 34)) fldM fldNames :=
  .inn (.cons (.cons (.cons .nil))) (by decide) (.inn (.cons (.cons (.cons (.cons (.cons (.cons .nil)))))) (by decide) (.inn (.cons (.cons (.cons (.cons (.cons .nil))))) (by decide) (.inn (.cons (.cons (.cons .nil))) (by decide) (.inn (.cons (.cons .nil)) (by decide) (.eq (.eq .last))))))
theorem xB0 : ExcBody "self" "index" "InvalidPart" "index" (defBody (mem 4 0)) := ⟨_, _, _, _, _, _, _, _, _, rfl⟩
theorem xS0 : FnScope ["self", "index"] ["self", "index"] (defScope (mem 4 0)) := ⟨rfl, rfl, rfl, by decide +kernel, rfl, by decide +kernel, by decide +kernel⟩
theorem xB1 : ExcBody "self" "index" "InvalidTrait" "index" (defBody (mem 5 0)) := ⟨_, _, _, _, _, _, _, _, _, rfl⟩
theorem xS1 : FnScope ["self", "index"] ["self", "index"] (defScope (mem 5 0)) := ⟨rfl, rfl, rfl, by decide +kernel, rfl, by decide +kernel, by decide +kernel⟩
theorem xB2 : ExcBody "self" "index" "InvalidWave" "index" (defBody (mem 6 0)) := ⟨_, _, _, _, _, _, _, _, _, rfl⟩
theorem xS2 : FnScope ["self", "index"] ["self", "index"] (defScope (mem 6 0)) := ⟨rfl, rfl, rfl, by decide +kernel, rfl, by decide +kernel, by decide +kernel⟩
theorem xB3 : ExcBody "self" "index" "InvalidSight" "index" (defBody (mem 7 0)) := ⟨_, _, _, _, _, _, _, _, _, rfl⟩
theorem xS3 : FnScope ["self", "index"] ["self", "index"] (defScope (mem 7 0)) := ⟨rfl, rfl, rfl, by decide +kernel, rfl, by decide +kernel, by decide +kernel⟩
theorem facts {w : World} {K : PySem.W.Frag} {h : Heap} {mg : Str → Option Value} {f0 f1 f2 f3 f4 f5 f6 f7 f8 f9 f10 f11 f12 f13 f14 f15 f16 f17 f18 f19 C0 C1 aFew aMis X0 e0 X1 e1 X2 e2 X3 e3 cL pL gW gF : Addr} (X : K.In h) (G : h.Ns mainGlobals mg)
    {od0 an0 : Option Addr} {sl0 : Array (Option Value)} {oc0 kV0 dc0 pm0 ct0 cd0 : Value} {od1 an1 : Option Addr} {sl1 : Array (Option Value)} {oc1 kV1 dc1 pm1 ct1 cd1 : Value} {od2 an2 : Option Addr} {sl2 : Array (Option Value)} {oc2 kV2 dc2 pm2 ct2 cd2 : Value} {od3 an3 : Option Addr} {sl3 : Array (Option Value)} {oc3 kV3 dc3 pm3 ct3 cd3 : Value} {od4 an4 : Option Addr} {sl4 : Array (Option Value)} {oc4 kV4 dc4 pm4 ct4 cd4 : Value} {od5 an5 : Option Addr} {sl5 : Array (Option Value)} {oc5 kV5 dc5 pm5 ct5 cd5 : Value} {od6 an6 : Option Addr} {sl6 : Array (Option Value)} {oc6 kV6 dc6 pm6 ct6 cd6 : Value} {od7 an7 : Option Addr} {sl7 : Array (Option Value)} {oc7 kV7 dc7 pm7 ct7 cd7 : Value} {od8 an8 : Option Addr} {sl8 : Array (Option Value)} {oc8 kV8 dc8 pm8 ct8 cd8 : Value} {od9 an9 : Option Addr} {sl9 : Array (Option Value)} {oc9 kV9 dc9 pm9 ct9 cd9 : Value} {od10 an10 : Option Addr} {sl10 : Array (Option Value)} {oc10 kV10 dc10 pm10 ct10 cd10 : Value} {od11 an11 : Option Addr} {sl11 : Array (Option Value)} {oc11 kV11 dc11 pm11 ct11 cd11 : Value} {od12 an12 : Option Addr} {sl12 : Array (Option Value)} {oc12 kV12 dc12 pm12 ct12 cd12 : Value} {od13 an13 : Option Addr} {sl13 : Array (Option Value)} {oc13 kV13 dc13 pm13 ct13 cd13 : Value} {od14 an14 : Option Addr} {sl14 : Array (Option Value)} {oc14 kV14 dc14 pm14 ct14 cd14 : Value} {od15 an15 : Option Addr} {sl15 : Array (Option Value)} {oc15 kV15 dc15 pm15 ct15 cd15 : Value} {od16 an16 : Option Addr} {sl16 : Array (Option Value)} {oc16 kV16 dc16 pm16 ct16 cd16 : Value} {od17 an17 : Option Addr} {sl17 : Array (Option Value)} {oc17 kV17 dc17 pm17 ct17 cd17 : Value} {D17 : Addr} {oD17 : Value} {dD17 : Option Addr} {nD17 : Nat} {sD17 : Array (Option Value)} {YD17_0 : Addr} {dYD17_0 : Option Addr} {nYD17_0 : Nat} {sYD17_0 : Array (Option Value)} {od18 an18 : Option Addr} {sl18 : Array (Option Value)} {oc18 kV18 dc18 pm18 ct18 cd18 : Value} {od19 an19 : Option Addr} {sl19 : Array (Option Value)} {oc19 kV19 dc19 pm19 ct19 : Value} {Y0 : Addr} {dY0 : Option Addr} {nY0 : Nat} {sY0 : Array (Option Value)} {xnm0 xq0 : Str} {xN0 : Addr} {xbs0 xbm0 xsb0 : List Value} {xsn0 : List Str} {xab0 : Bool} {xcl0 : Option Bool} {xdd0 : Option Addr} {x00 x10 x20 x30 x50 : Option Value} {odx0 anx0 : Option Addr} {slx0 : Array (Option Value)} {ocx0 kVx0 dcx0 pmx0 ctx0 cdx0 : Value} {xnm1 xq1 : Str} {xN1 : Addr} {xbs1 xbm1 xsb1 : List Value} {xsn1 : List Str} {xab1 : Bool} {xcl1 : Option Bool} {xdd1 : Option Addr} {x01 x11 x21 x31 x51 : Option Value} {odx1 anx1 : Option Addr} {slx1 : Array (Option Value)} {ocx1 kVx1 dcx1 pmx1 ctx1 cdx1 : Value} {xnm2 xq2 : Str} {xN2 : Addr} {xbs2 xbm2 xsb2 : List Value} {xsn2 : List Str} {xab2 : Bool} {xcl2 : Option Bool} {xdd2 : Option Addr} {x02 x12 x22 x32 x52 : Option Value} {odx2 anx2 : Option Addr} {slx2 : Array (Option Value)} {ocx2 kVx2 dcx2 pmx2 ctx2 cdx2 : Value} {xnm3 xq3 : Str} {xN3 : Addr} {xbs3 xbm3 xsb3 : List Value} {xsn3 : List Str} {xab3 : Bool} {xcl3 : Option Bool} {xdd3 : Option Addr} {x03 x13 x23 x33 x53 : Option Value} {odx3 anx3 : Option Addr} {slx3 : Array (Option Value)} {ocx3 kVx3 dcx3 pmx3 ctx3 cdx3 : Value} {eL : Value} {ddL : Option Addr} {vsL : Array Value} {slL : Array (Option Value)} {odW anW : Option Addr} {slW : Array (Option Value)} {ocW kVW dcW pmW ctW cdW : Value} {odF anF : Option Addr} {slF : Array (Option Value)} {ocF kVF dcF pmF ctF cdF : Value} {tk0 tk1 tk2 tk3 tk4 tk5 tk6 tk7 tk8 : Tok}
    (aC0 : PySem.W.nsIn K mainGlobals "World" = some (some (.ref C0))) (pg0 : PySem.W.plainGet K C0 Str.empty = true) (hd0 : PySem.W.hasDictIn K C0 = true) (po0 : PySem.W.plainOver K C0 = true) (sa0 : PySem.W.findIn K (.ref C0) "__setattr__" = some (some (.builtin "object.__setattr__"))) (mk0 : PySem.W.makesIn K C0 = true) (in0 : PySem.W.findIn K (.ref C0) "__init__" = some (some (.ref f14))) (fi0 : PySem.W.isFn K (.ref f14) = true) (kp0 : PySem.W.keepIn K (.ref C0) = true) (me0_0 : PySem.W.findIn K (.ref C0) "parts" = some (some (.ref f15))) (mf0_0 : PySem.W.isFn K (.ref f15) = true) (me0_1 : PySem.W.findIn K (.ref C0) "traits" = some (some (.ref f16))) (mf0_1 : PySem.W.isFn K (.ref f16) = true) (fl0_0 : PySem.W.findIn K (.ref C0) "part_rows" = some none) (fl0_1 : PySem.W.findIn K (.ref C0) "trait_rows" = some none) (rd0 : PySem.W.readsIn K C0 (.type "type") = true) (ga0 : PySem.W.specialIn K (.ref C0) "__getattribute__" = some (some (.builtin "type.__getattribute__"))) (cv0_0 : PySem.W.findCls K (.ref C0) (.type "type") "MOST_PARTS" = some (.val (.int 3 tk0))) (cv0_1 : PySem.W.findCls K (.ref C0) (.type "type") "MOST_TRAITS" = some (.val (.int 6 tk1))) (aC1 : PySem.W.nsIn K mainGlobals "Plan" = some (some (.ref C1))) (pg1 : PySem.W.plainGet K C1 Str.empty = true) (hd1 : PySem.W.hasDictIn K C1 = true) (po1 : PySem.W.plainOver K C1 = true) (sa1 : PySem.W.findIn K (.ref C1) "__setattr__" = some (some (.builtin "object.__setattr__"))) (mk1 : PySem.W.makesIn K C1 = true) (in1 : PySem.W.findIn K (.ref C1) "__init__" = some (some (.ref f17))) (fi1 : PySem.W.isFn K (.ref f17) = true) (kp1 : PySem.W.keepIn K (.ref C1) = true) (me1_0 : PySem.W.findIn K (.ref C1) "names" = some (some (.ref f18))) (mf1_0 : PySem.W.isFn K (.ref f18) = true) (fl1_0 : PySem.W.findIn K (.ref C1) "later" = some none) (fl1_1 : PySem.W.findIn K (.ref C1) "own_world" = some none) (fl1_2 : PySem.W.findIn K (.ref C1) "sight_rows" = some none) (fl1_3 : PySem.W.findIn K (.ref C1) "supplies" = some none) (fl1_4 : PySem.W.findIn K (.ref C1) "wave_rows" = some none) (a0 : PySem.W.nsIn K mainGlobals "is_number" = some (some (.ref f0))) (l0 : K.lookup f0 = some ⟨oc0, od0, .func (PySem.W.fnOf "is_number" "is_number" (defArgs (top 10)) (defBody (top 10)) (defScope (top 10)) .none kV0 dc0 pm0 an0 cd0 ct0), sl0⟩) (c0 : PySem.W.codeIn K cd0 "is_number" = true) (k0 : PySem.W.keepIn K (.ref f0) = true) (a1 : PySem.W.nsIn K mainGlobals "gcd" = some (some (.ref f1))) (l1 : K.lookup f1 = some ⟨oc1, od1, .func (PySem.W.fnOf "gcd" "gcd" (defArgs (top 11)) (defBody (top 11)) (defScope (top 11)) .none kV1 dc1 pm1 an1 cd1 ct1), sl1⟩) (c1 : PySem.W.codeIn K cd1 "gcd" = true) (k1 : PySem.W.keepIn K (.ref f1) = true) (a2 : PySem.W.nsIn K mainGlobals "is_ratio" = some (some (.ref f2))) (l2 : K.lookup f2 = some ⟨oc2, od2, .func (PySem.W.fnOf "is_ratio" "is_ratio" (defArgs (top 12)) (defBody (top 12)) (defScope (top 12)) .none kV2 dc2 pm2 an2 cd2 ct2), sl2⟩) (c2 : PySem.W.codeIn K cd2 "is_ratio" = true) (k2 : PySem.W.keepIn K (.ref f2) = true) (a3 : PySem.W.nsIn K mainGlobals "is_name" = some (some (.ref f3))) (l3 : K.lookup f3 = some ⟨oc3, od3, .func (PySem.W.fnOf "is_name" "is_name" (defArgs (top 16)) (defBody (top 16)) (defScope (top 16)) .none kV3 dc3 pm3 an3 cd3 ct3), sl3⟩) (c3 : PySem.W.codeIn K cd3 "is_name" = true) (k3 : PySem.W.keepIn K (.ref f3) = true) (a4 : PySem.W.nsIn K mainGlobals "is_part" = some (some (.ref f4))) (l4 : K.lookup f4 = some ⟨oc4, od4, .func (PySem.W.fnOf "is_part" "is_part" (defArgs (top 17)) (defBody (top 17)) (defScope (top 17)) .none kV4 dc4 pm4 an4 cd4 ct4), sl4⟩) (c4 : PySem.W.codeIn K cd4 "is_part" = true) (k4 : PySem.W.keepIn K (.ref f4) = true) (a5 : PySem.W.nsIn K mainGlobals "is_trait" = some (some (.ref f5))) (l5 : K.lookup f5 = some ⟨oc5, od5, .func (PySem.W.fnOf "is_trait" "is_trait" (defArgs (top 18)) (defBody (top 18)) (defScope (top 18)) .none kV5 dc5 pm5 an5 cd5 ct5), sl5⟩) (c5 : PySem.W.codeIn K cd5 "is_trait" = true) (k5 : PySem.W.keepIn K (.ref f5) = true) (a6 : PySem.W.nsIn K mainGlobals "first_wrong" = some (some (.ref f6))) (l6 : K.lookup f6 = some ⟨oc6, od6, .func (PySem.W.fnOf "first_wrong" "first_wrong" (defArgs (top 19)) (defBody (top 19)) (defScope (top 19)) .none kV6 dc6 pm6 an6 cd6 ct6), sl6⟩) (c6 : PySem.W.codeIn K cd6 "first_wrong" = true) (k6 : PySem.W.keepIn K (.ref f6) = true) (a7 : PySem.W.nsIn K mainGlobals "is_how" = some (some (.ref f7))) (l7 : K.lookup f7 = some ⟨oc7, od7, .func (PySem.W.fnOf "is_how" "is_how" (defArgs (top 25)) (defBody (top 25)) (defScope (top 25)) .none kV7 dc7 pm7 an7 cd7 ct7), sl7⟩) (c7 : PySem.W.codeIn K cd7 "is_how" = true) (k7 : PySem.W.keepIn K (.ref f7) = true) (a8 : PySem.W.nsIn K mainGlobals "are_hows" = some (some (.ref f8))) (l8 : K.lookup f8 = some ⟨oc8, od8, .func (PySem.W.fnOf "are_hows" "are_hows" (defArgs (top 26)) (defBody (top 26)) (defScope (top 26)) .none kV8 dc8 pm8 an8 cd8 ct8), sl8⟩) (c8 : PySem.W.codeIn K cd8 "are_hows" = true) (k8 : PySem.W.keepIn K (.ref f8) = true) (a9 : PySem.W.nsIn K mainGlobals "later_supplies" = some (some (.ref f9))) (l9 : K.lookup f9 = some ⟨oc9, od9, .func (PySem.W.fnOf "later_supplies" "later_supplies" (defArgs (top 27)) (defBody (top 27)) (defScope (top 27)) .none kV9 dc9 pm9 an9 cd9 ct9), sl9⟩) (c9 : PySem.W.codeIn K cd9 "later_supplies" = true) (k9 : PySem.W.keepIn K (.ref f9) = true) (a10 : PySem.W.nsIn K mainGlobals "is_sight" = some (some (.ref f10))) (l10 : K.lookup f10 = some ⟨oc10, od10, .func (PySem.W.fnOf "is_sight" "is_sight" (defArgs (top 28)) (defBody (top 28)) (defScope (top 28)) .none kV10 dc10 pm10 an10 cd10 ct10), sl10⟩) (c10 : PySem.W.codeIn K cd10 "is_sight" = true) (k10 : PySem.W.keepIn K (.ref f10) = true) (a11 : PySem.W.nsIn K mainGlobals "_law_source" = some (some (.ref f11))) (l11 : K.lookup f11 = some ⟨oc11, od11, .func (PySem.W.fnOf "_law_source" "_law_source" (defArgs (top 31)) (defBody (top 31)) (defScope (top 31)) .none kV11 dc11 pm11 an11 cd11 ct11), sl11⟩) (c11 : PySem.W.codeIn K cd11 "_law_source" = true) (k11 : PySem.W.keepIn K (.ref f11) = true) (a12 : PySem.W.nsIn K mainGlobals "_law_draw" = some (some (.ref f12))) (l12 : K.lookup f12 = some ⟨oc12, od12, .func (PySem.W.fnOf "_law_draw" "_law_draw" (defArgs (top 32)) (defBody (top 32)) (defScope (top 32)) .none kV12 dc12 pm12 an12 cd12 ct12), sl12⟩) (c12 : PySem.W.codeIn K cd12 "_law_draw" = true) (k12 : PySem.W.keepIn K (.ref f12) = true) (a13 : PySem.W.nsIn K mainGlobals "_law_same" = some (some (.ref f13))) (l13 : K.lookup f13 = some ⟨oc13, od13, .func (PySem.W.fnOf "_law_same" "_law_same" (defArgs (top 33)) (defBody (top 33)) (defScope (top 33)) .none kV13 dc13 pm13 an13 cd13 ct13), sl13⟩) (c13 : PySem.W.codeIn K cd13 "_law_same" = true) (k13 : PySem.W.keepIn K (.ref f13) = true) (l14 : K.lookup f14 = some ⟨oc14, od14, .func (PySem.W.fnOf "__init__" "World.__init__" (defArgs (mem 20 2)) (defBody (mem 20 2)) (defScope (mem 20 2)) .none kV14 dc14 pm14 an14 cd14 ct14), sl14⟩) (c14 : PySem.W.codeIn K cd14 "World.__init__" = true) (k14 : PySem.W.keepIn K (.ref f14) = true) (l15 : K.lookup f15 = some ⟨oc15, od15, .func (PySem.W.fnOf "parts" "World.parts" (defArgs (mem 20 4)) (defBody (mem 20 4)) (defScope (mem 20 4)) .none kV15 dc15 pm15 an15 cd15 ct15), sl15⟩) (c15 : PySem.W.codeIn K cd15 "World.parts" = true) (k15 : PySem.W.keepIn K (.ref f15) = true) (l16 : K.lookup f16 = some ⟨oc16, od16, .func (PySem.W.fnOf "traits" "World.traits" (defArgs (mem 20 5)) (defBody (mem 20 5)) (defScope (mem 20 5)) .none kV16 dc16 pm16 an16 cd16 ct16), sl16⟩) (c16 : PySem.W.codeIn K cd16 "World.traits" = true) (k16 : PySem.W.keepIn K (.ref f16) = true) (l17 : K.lookup f17 = some ⟨oc17, od17, .func (PySem.W.fnOf "__init__" "Plan.__init__" (defArgs (mem 29 0)) (defBody (mem 29 0)) (defScope (mem 29 0)) (.ref D17) kV17 dc17 pm17 an17 cd17 ct17), sl17⟩) (c17 : PySem.W.codeIn K cd17 "Plan.__init__" = true) (k17 : PySem.W.keepIn K (.ref f17) = true) (d17 : K.lookup D17 = some ⟨oD17, dD17, .seq #[(.ref YD17_0)] nD17, sD17⟩) (du17_0 : K.lookup YD17_0 = some ⟨.type "tuple", dYD17_0, .seq #[] nYD17_0, sYD17_0⟩) (l18 : K.lookup f18 = some ⟨oc18, od18, .func (PySem.W.fnOf "names" "Plan.names" (defArgs (mem 29 4)) (defBody (mem 29 4)) (defScope (mem 29 4)) .none kV18 dc18 pm18 an18 cd18 ct18), sl18⟩) (c18 : PySem.W.codeIn K cd18 "Plan.names" = true) (k18 : PySem.W.keepIn K (.ref f18) = true) (a19 : PySem.W.nsIn K mainGlobals "law" = some (some (.ref f19))) (l19 : K.lookup f19 = some ⟨oc19, od19, .func (PySem.W.fnOf "law" "law" (defArgs (top 36)) (defBody (top 36)) (defScope (top 36)) .none kV19 dc19 pm19 an19 (.ref cL) ct19), sl19⟩) (c19 : PySem.W.codeIn K (.ref cL) "law" = true) (k19 : PySem.W.keepIn K (.ref f19) = true) (z0 : PySem.W.nsIn K mainGlobals "abs" = some none) (z1 : PySem.W.nsIn K mainGlobals "all" = some none) (z2 : PySem.W.nsIn K mainGlobals "bool" = some none) (z3 : PySem.W.nsIn K mainGlobals "enumerate" = some none) (z4 : PySem.W.nsIn K mainGlobals "int" = some none) (z5 : PySem.W.nsIn K mainGlobals "isinstance" = some none) (z6 : PySem.W.nsIn K mainGlobals "len" = some none) (z7 : PySem.W.nsIn K mainGlobals "list" = some none) (z8 : PySem.W.nsIn K mainGlobals "str" = some none) (z9 : PySem.W.nsIn K mainGlobals "tuple" = some none) (z10 : PySem.W.nsIn K mainGlobals "zip" = some none) (yk0 : PySem.W.nsIn K mainGlobals "ENDS" = some (some (.ref Y0))) (w0 : K.lookup Y0 = some ⟨.type "tuple", dY0, .seq #[(.str "all" tk2), (.str "first" tk3), (.str "any" tk4)] nY0, sY0⟩) (yk1 : PySem.W.nsIn K mainGlobals "MOST_DEPTH" = some (some (.int 3 tk5))) (yk2 : PySem.W.nsIn K mainGlobals "MOST_SIGHTS" = some (some (.int 8 tk6))) (yk3 : PySem.W.nsIn K mainGlobals "MOST_SIZE" = some (some (.int 1000000000000000000000000000000 tk7))) (yk4 : PySem.W.nsIn K mainGlobals "MOST_WAVES" = some (some (.int 3 tk8))) (qFew : PySem.W.nsIn K mainGlobals "FewError" = some (some (.ref aFew))) (qMis : PySem.W.nsIn K mainGlobals "Missing" = some (some (.ref aMis))) (xa0 : PySem.W.nsIn K mainGlobals "InvalidPart" = some (some (.ref X0))) (xb0 : K.lookup X0 = some (excClassObj xnm0 xq0 X0 xN0 xbs0 xbm0 true xsn0 xsb0 xab0 xcl0 xdd0 x00 x10 x20 x30 x50 "ValueError.__new__")) (xr0 : PySem.W.excTail [.type "ValueError", .type "Exception", .type "BaseException", .type "object"] xbm0 = true) (xs0 : PySem.W.findIn K (.ref X0) "__setattr__" = some (some (.builtin "object.__setattr__"))) (xu0 : PySem.W.subIn K (.ref X0) (.type "BaseException") = some true) (xy0 : PySem.W.typeIn K (.ref X0) = some (.type "type")) (xz0 : PySem.W.keepIn K (.ref X0) = true) (xc0 : PySem.W.exmAny K (.ref X0) [.ref aFew, .ref aMis] = some true) (xd0 : xfB K X0 = true) (xe0 : ((("code" : Str) :: fldNames).all fun y => decide (PySem.W.findIn K (.ref X0) y = some none)) = true) (xi0 : PySem.W.findIn K (.ref X0) "__init__" = some (some (.ref e0))) (xt0 : PySem.W.typeIn K (.ref e0) = some (.type "function")) (xl0 : K.lookup e0 = some ⟨ocx0, odx0, .func (PySem.W.fnOf "__init__" "InvalidPart.__init__" (defArgs (mem 4 0)) (defBody (mem 4 0)) (defScope (mem 4 0)) .none kVx0 dcx0 pmx0 anx0 cdx0 ctx0), slx0⟩) (xo0 : PySem.W.codeIn K cdx0 "InvalidPart.__init__" = true) (xk0 : PySem.W.keepIn K (.ref e0) = true) (xa1 : PySem.W.nsIn K mainGlobals "InvalidTrait" = some (some (.ref X1))) (xb1 : K.lookup X1 = some (excClassObj xnm1 xq1 X1 xN1 xbs1 xbm1 true xsn1 xsb1 xab1 xcl1 xdd1 x01 x11 x21 x31 x51 "ValueError.__new__")) (xr1 : PySem.W.excTail [.type "ValueError", .type "Exception", .type "BaseException", .type "object"] xbm1 = true) (xs1 : PySem.W.findIn K (.ref X1) "__setattr__" = some (some (.builtin "object.__setattr__"))) (xu1 : PySem.W.subIn K (.ref X1) (.type "BaseException") = some true) (xy1 : PySem.W.typeIn K (.ref X1) = some (.type "type")) (xz1 : PySem.W.keepIn K (.ref X1) = true) (xc1 : PySem.W.exmAny K (.ref X1) [.ref aFew, .ref aMis] = some true) (xd1 : xfB K X1 = true) (xe1 : ((("code" : Str) :: fldNames).all fun y => decide (PySem.W.findIn K (.ref X1) y = some none)) = true) (xi1 : PySem.W.findIn K (.ref X1) "__init__" = some (some (.ref e1))) (xt1 : PySem.W.typeIn K (.ref e1) = some (.type "function")) (xl1 : K.lookup e1 = some ⟨ocx1, odx1, .func (PySem.W.fnOf "__init__" "InvalidTrait.__init__" (defArgs (mem 5 0)) (defBody (mem 5 0)) (defScope (mem 5 0)) .none kVx1 dcx1 pmx1 anx1 cdx1 ctx1), slx1⟩) (xo1 : PySem.W.codeIn K cdx1 "InvalidTrait.__init__" = true) (xk1 : PySem.W.keepIn K (.ref e1) = true) (xa2 : PySem.W.nsIn K mainGlobals "InvalidWave" = some (some (.ref X2))) (xb2 : K.lookup X2 = some (excClassObj xnm2 xq2 X2 xN2 xbs2 xbm2 true xsn2 xsb2 xab2 xcl2 xdd2 x02 x12 x22 x32 x52 "ValueError.__new__")) (xr2 : PySem.W.excTail [.type "ValueError", .type "Exception", .type "BaseException", .type "object"] xbm2 = true) (xs2 : PySem.W.findIn K (.ref X2) "__setattr__" = some (some (.builtin "object.__setattr__"))) (xu2 : PySem.W.subIn K (.ref X2) (.type "BaseException") = some true) (xy2 : PySem.W.typeIn K (.ref X2) = some (.type "type")) (xz2 : PySem.W.keepIn K (.ref X2) = true) (xc2 : PySem.W.exmAny K (.ref X2) [.ref aFew, .ref aMis] = some true) (xd2 : xfB K X2 = true) (xe2 : ((("code" : Str) :: fldNames).all fun y => decide (PySem.W.findIn K (.ref X2) y = some none)) = true) (xi2 : PySem.W.findIn K (.ref X2) "__init__" = some (some (.ref e2))) (xt2 : PySem.W.typeIn K (.ref e2) = some (.type "function")) (xl2 : K.lookup e2 = some ⟨ocx2, odx2, .func (PySem.W.fnOf "__init__" "InvalidWave.__init__" (defArgs (mem 6 0)) (defBody (mem 6 0)) (defScope (mem 6 0)) .none kVx2 dcx2 pmx2 anx2 cdx2 ctx2), slx2⟩) (xo2 : PySem.W.codeIn K cdx2 "InvalidWave.__init__" = true) (xk2 : PySem.W.keepIn K (.ref e2) = true) (xa3 : PySem.W.nsIn K mainGlobals "InvalidSight" = some (some (.ref X3))) (xb3 : K.lookup X3 = some (excClassObj xnm3 xq3 X3 xN3 xbs3 xbm3 true xsn3 xsb3 xab3 xcl3 xdd3 x03 x13 x23 x33 x53 "ValueError.__new__")) (xr3 : PySem.W.excTail [.type "ValueError", .type "Exception", .type "BaseException", .type "object"] xbm3 = true) (xs3 : PySem.W.findIn K (.ref X3) "__setattr__" = some (some (.builtin "object.__setattr__"))) (xu3 : PySem.W.subIn K (.ref X3) (.type "BaseException") = some true) (xy3 : PySem.W.typeIn K (.ref X3) = some (.type "type")) (xz3 : PySem.W.keepIn K (.ref X3) = true) (xc3 : PySem.W.exmAny K (.ref X3) [.ref aFew, .ref aMis] = some true) (xd3 : xfB K X3 = true) (xe3 : ((("code" : Str) :: fldNames).all fun y => decide (PySem.W.findIn K (.ref X3) y = some none)) = true) (xi3 : PySem.W.findIn K (.ref X3) "__init__" = some (some (.ref e3))) (xt3 : PySem.W.typeIn K (.ref e3) = some (.type "function")) (xl3 : K.lookup e3 = some ⟨ocx3, odx3, .func (PySem.W.fnOf "__init__" "InvalidSight.__init__" (defArgs (mem 7 0)) (defBody (mem 7 0)) (defScope (mem 7 0)) .none kVx3 dcx3 pmx3 anx3 cdx3 ctx3), slx3⟩) (xo3 : PySem.W.codeIn K cdx3 "InvalidSight.__init__" = true) (xk3 : PySem.W.keepIn K (.ref e3) = true) (lc : K.lookup cL = some ⟨eL, ddL, .fields vsL, slL⟩) (lv : vsL[11]? = some (.ref pL)) (lh : PySem.W.codeHdIn K cL pL = true) (ln : K.lookup pL = none) (aW : PySem.W.nsIn K mainGlobals "_law_why" = some (some (.ref gW))) (lW : K.lookup gW = some ⟨ocW, odW, .func (PySem.W.fnOf "_law_why" "_law_why" (defArgs (top 35)) (defBody (top 35)) (defScope (top 35)) .none kVW dcW pmW anW cdW ctW), slW⟩) (cW : PySem.W.codeIn K cdW "_law_why" = true) (kW : PySem.W.keepIn K (.ref gW) = true) (aF : PySem.W.nsIn K mainGlobals "_law_field" = some (some (.ref gF))) (lF : K.lookup gF = some ⟨ocF, odF, .func (PySem.W.fnOf "_law_field" "_law_field" (defArgs (top 34)) (defBody (top 34)) (defScope (top 34)) .none kVF dcF pmF anF cdF ctF), slF⟩) (cF : PySem.W.codeIn K cdF "_law_field" = true) (kF : PySem.W.keepIn K (.ref gF) = true) :
    ∃ fa c P, Facts w T ft fa K mg 19 ∧ LamF fa K 19 "law" c P ∧ ∀ fd st N i, Fact w T ft fa K mg (decide (19 = 19)) 19 i19 fd st N i → ∀ (s : Shared) (u : Value), BindsTo s fd ⟨[u], []⟩ [("_law_script", u)] := by
  refine ⟨⟨fun i => ([f0, f1, f2, f3, f4, f5, f6, f7, f8, f9, f10, f11, f12, f13, f14, f15, f16, f17, f18, f19] : List Addr).getD i f0, fun i => ([C0, C1, X0, X1, X2, X3, aFew] : List Addr).getD i aFew, aFew, aMis, [(pL, (("law" : Str) ++ ".<locals>." : Str) ++ "<lambda>")]⟩, cL, pL, ⟨?_, ?_, ?_, ?_, ?_, ?_, ?_⟩, ⟨⟨_, _, _, _, _, _, _, _, l19, rfl, lc, lv⟩, lh, ln, rfl⟩, fun fd st N i F => bd_of (st := (top 36)) X G a19 l19 (fun v => rfl) _ fd rfl ⟨st, N, i, F⟩⟩
  · intro fi I h
    match fi, h with
    | 0, h =>
      cases h
      have F := fd_mk (st := (top 10)) l0 c0 k0
      have B : Binds K _ ["value"] [] := F.bindsN fun _ _ _ _ _ _ us hl => match us, hl with | [_], _ => rfl
      refine ⟨_, (top 10), n0, _, ⟨⟨_, _, F⟩, s0, rfl, rfl, rfl, K34.k0, fun _ => PySem.W.mg_of X G a0, fun _ => ?_, ?_, fun _ => B, (fun z => by cases z)⟩⟩
      · intro n ds hm
        simp only [i0, List.mem_cons, List.not_mem_nil, or_false, Prod.mk.injEq] at hm
        rcases hm with ⟨rfl, rfl⟩
        · exact dfl0 B
      · intro n ks asm hm
        cases hm
    | 1, h =>
      cases h
      have F := fd_mk (st := (top 11)) l1 c1 k1
      have B : Binds K _ ["one", "other"] [] := F.bindsN fun _ _ _ _ _ _ us hl => match us, hl with | [_, _], _ => rfl
      refine ⟨_, (top 11), n1, _, ⟨⟨_, _, F⟩, s1, rfl, rfl, rfl, K34.k1, fun _ => PySem.W.mg_of X G a1, fun _ => ?_, ?_, fun _ => B, (fun z => by cases z)⟩⟩
      · intro n ds hm
        simp only [i1, List.mem_cons, List.not_mem_nil, or_false, Prod.mk.injEq] at hm
        rcases hm with ⟨rfl, rfl⟩
        · exact dfl0 B
      · intro n ks asm hm
        cases hm
    | 2, h =>
      cases h
      have F := fd_mk (st := (top 12)) l2 c2 k2
      have B : Binds K _ ["value"] [] := F.bindsN fun _ _ _ _ _ _ us hl => match us, hl with | [_], _ => rfl
      refine ⟨_, (top 12), n2, _, ⟨⟨_, _, F⟩, s2, rfl, rfl, rfl, K34.k2, fun _ => PySem.W.mg_of X G a2, fun _ => ?_, ?_, fun _ => B, (fun z => by cases z)⟩⟩
      · intro n ds hm
        simp only [i2, List.mem_cons, List.not_mem_nil, or_false, Prod.mk.injEq] at hm
        rcases hm with ⟨rfl, rfl⟩
        · exact dfl0 B
      · intro n ks asm hm
        cases hm
    | 3, h =>
      cases h
      have F := fd_mk (st := (top 16)) l3 c3 k3
      have B : Binds K _ ["value"] [] := F.bindsN fun _ _ _ _ _ _ us hl => match us, hl with | [_], _ => rfl
      refine ⟨_, (top 16), n3, _, ⟨⟨_, _, F⟩, s3, rfl, rfl, rfl, K34.k3, fun _ => PySem.W.mg_of X G a3, fun _ => ?_, ?_, fun _ => B, (fun z => by cases z)⟩⟩
      · intro n ds hm
        simp only [i3, List.mem_cons, List.not_mem_nil, or_false, Prod.mk.injEq] at hm
        rcases hm with ⟨rfl, rfl⟩
        · exact dfl0 B
      · intro n ks asm hm
        cases hm
    | 4, h =>
      cases h
      have F := fd_mk (st := (top 17)) l4 c4 k4
      have B : Binds K _ ["row"] [] := F.bindsN fun _ _ _ _ _ _ us hl => match us, hl with | [_], _ => rfl
      refine ⟨_, (top 17), n4, _, ⟨⟨_, _, F⟩, s4, rfl, rfl, rfl, K34.k4, fun _ => PySem.W.mg_of X G a4, fun _ => ?_, ?_, fun _ => B, (fun z => by cases z)⟩⟩
      · intro n ds hm
        simp only [i4, List.mem_cons, List.not_mem_nil, or_false, Prod.mk.injEq] at hm
        rcases hm with ⟨rfl, rfl⟩
        · exact dfl0 B
      · intro n ks asm hm
        cases hm
    | 5, h =>
      cases h
      have F := fd_mk (st := (top 18)) l5 c5 k5
      have B : Binds K _ ["row"] [] := F.bindsN fun _ _ _ _ _ _ us hl => match us, hl with | [_], _ => rfl
      refine ⟨_, (top 18), n5, _, ⟨⟨_, _, F⟩, s5, rfl, rfl, rfl, K34.k5, fun _ => PySem.W.mg_of X G a5, fun _ => ?_, ?_, fun _ => B, (fun z => by cases z)⟩⟩
      · intro n ds hm
        simp only [i5, List.mem_cons, List.not_mem_nil, or_false, Prod.mk.injEq] at hm
        rcases hm with ⟨rfl, rfl⟩
        · exact dfl0 B
      · intro n ks asm hm
        cases hm
    | 6, h =>
      cases h
      have F := fd_mk (st := (top 19)) l6 c6 k6
      have B : Binds K _ ["rows", "most", "is_row"] [] := F.bindsN fun _ _ _ _ _ _ us hl => match us, hl with | [_, _, _], _ => rfl
      refine ⟨_, (top 19), n6, _, ⟨⟨_, _, F⟩, s6, rfl, rfl, rfl, K34.k6, fun _ => PySem.W.mg_of X G a6, fun _ => ?_, ?_, fun _ => B, (fun z => by cases z)⟩⟩
      · intro n ds hm
        simp only [i6, List.mem_cons, List.not_mem_nil, or_false, Prod.mk.injEq] at hm
        rcases hm with ⟨rfl, rfl⟩
        · exact dfl0 B
      · intro n ks asm hm
        cases hm
    | 7, h =>
      cases h
      have F := fd_mk (st := (top 25)) l7 c7 k7
      have B : Binds K _ ["value", "supply"] [] := F.bindsN fun _ _ _ _ _ _ us hl => match us, hl with | [_, _], _ => rfl
      refine ⟨_, (top 25), n7, _, ⟨⟨_, _, F⟩, s7, rfl, rfl, rfl, K34.k7, fun _ => PySem.W.mg_of X G a7, fun _ => ?_, ?_, fun _ => B, (fun z => by cases z)⟩⟩
      · intro n ds hm
        simp only [i7, List.mem_cons, List.not_mem_nil, or_false, Prod.mk.injEq] at hm
        rcases hm with ⟨rfl, rfl⟩
        · exact dfl0 B
      · intro n ks asm hm
        cases hm
    | 8, h =>
      cases h
      have F := fd_mk (st := (top 26)) l8 c8 k8
      have B : Binds K _ ["value", "supplies"] [] := F.bindsN fun _ _ _ _ _ _ us hl => match us, hl with | [_, _], _ => rfl
      refine ⟨_, (top 26), n8, _, ⟨⟨_, _, F⟩, s8, rfl, rfl, rfl, K34.k8, fun _ => PySem.W.mg_of X G a8, fun _ => ?_, ?_, fun _ => B, (fun z => by cases z)⟩⟩
      · intro n ds hm
        simp only [i8, List.mem_cons, List.not_mem_nil, or_false, Prod.mk.injEq] at hm
        rcases hm with ⟨rfl, rfl⟩
        · exact dfl0 B
      · intro n ks asm hm
        cases hm
    | 9, h =>
      cases h
      have F := fd_mk (st := (top 27)) l9 c9 k9
      have B : Binds K _ ["hows", "supplies"] [] := F.bindsN fun _ _ _ _ _ _ us hl => match us, hl with | [_, _], _ => rfl
      refine ⟨_, (top 27), n9, _, ⟨⟨_, _, F⟩, s9, rfl, rfl, rfl, K34.k9, fun _ => PySem.W.mg_of X G a9, fun _ => ?_, ?_, fun _ => B, (fun z => by cases z)⟩⟩
      · intro n ds hm
        simp only [i9, List.mem_cons, List.not_mem_nil, or_false, Prod.mk.injEq] at hm
        rcases hm with ⟨rfl, rfl⟩
        · exact dfl0 B
      · intro n ks asm hm
        cases hm
    | 10, h =>
      cases h
      have F := fd_mk (st := (top 28)) l10 c10 k10
      have B : Binds K _ ["world", "names", "value"] [] := F.bindsN fun _ _ _ _ _ _ us hl => match us, hl with | [_, _, _], _ => rfl
      refine ⟨_, (top 28), n10, _, ⟨⟨_, _, F⟩, s10, rfl, rfl, rfl, K34.k10, fun _ => PySem.W.mg_of X G a10, fun _ => ?_, ?_, fun _ => B, (fun z => by cases z)⟩⟩
      · intro n ds hm
        simp only [i10, List.mem_cons, List.not_mem_nil, or_false, Prod.mk.injEq] at hm
        rcases hm with ⟨rfl, rfl⟩
        · exact dfl0 B
      · intro n ks asm hm
        cases hm
    | 11, h =>
      cases h
      have F := fd_mk (st := (top 31)) l11 c11 k11
      have B : Binds K _ ["_law_script"] [] := F.bindsN fun _ _ _ _ _ _ us hl => match us, hl with | [_], _ => rfl
      refine ⟨_, (top 31), n11, _, ⟨⟨_, _, F⟩, s11, rfl, rfl, rfl, K34.k11, fun _ => PySem.W.mg_of X G a11, fun _ => ?_, ?_, fun _ => B, (fun z => by cases z)⟩⟩
      · intro n ds hm
        simp only [i11, List.mem_cons, List.not_mem_nil, or_false, Prod.mk.injEq] at hm
        rcases hm with ⟨rfl, rfl⟩
        · exact dfl0 B
      · intro n ks asm hm
        cases hm
    | 12, h =>
      cases h
      have F := fd_mk (st := (top 32)) l12 c12 k12
      have B : Binds K _ ["_law_src", "_law_many7"] [] := F.bindsN fun _ _ _ _ _ _ us hl => match us, hl with | [_, _], _ => rfl
      refine ⟨_, (top 32), n12, _, ⟨⟨_, _, F⟩, s12, rfl, rfl, rfl, K34.k12, fun _ => PySem.W.mg_of X G a12, fun _ => ?_, ?_, fun _ => B, (fun z => by cases z)⟩⟩
      · intro n ds hm
        simp only [i12, List.mem_cons, List.not_mem_nil, or_false, Prod.mk.injEq] at hm
        rcases hm with ⟨rfl, rfl⟩
        · exact dfl0 B
      · intro n ks asm hm
        cases hm
    | 13, h =>
      cases h
      have F := fd_mk (st := (top 33)) l13 c13 k13
      have B : Binds K _ ["_law_found", "_law_due"] [] := F.bindsN fun _ _ _ _ _ _ us hl => match us, hl with | [_, _], _ => rfl
      refine ⟨_, (top 33), n13, _, ⟨⟨_, _, F⟩, s13, rfl, rfl, rfl, K34.k13, fun _ => PySem.W.mg_of X G a13, fun _ => ?_, ?_, fun _ => B, (fun z => by cases z)⟩⟩
      · intro n ds hm
        simp only [i13, List.mem_cons, List.not_mem_nil, or_false, Prod.mk.injEq] at hm
        rcases hm with ⟨rfl, rfl⟩
        · exact dfl0 B
      · intro n ks asm hm
        cases hm
    | 14, h =>
      cases h
      have F := fd_mk (st := (mem 20 2)) l14 c14 k14
      have B : Binds K _ ["self", "parts", "traits"] [] := F.bindsN fun _ _ _ _ _ _ us hl => match us, hl with | [_, _, _], _ => rfl
      refine ⟨_, (mem 20 2), n14, _, ⟨⟨_, _, F⟩, s14, rfl, rfl, rfl, K34.k14, (fun z => by cases z), fun _ => ?_, ?_, fun _ => B, (fun z => by cases z)⟩⟩
      · intro n ds hm
        simp only [i14, List.mem_cons, List.not_mem_nil, or_false, Prod.mk.injEq] at hm
        rcases hm with ⟨rfl, rfl⟩
        · exact dfl0 B
      · intro n ks asm hm
        cases hm
    | 15, h =>
      cases h
      have F := fd_mk (st := (mem 20 4)) l15 c15 k15
      have B : Binds K _ ["self"] [] := F.bindsN fun _ _ _ _ _ _ us hl => match us, hl with | [_], _ => rfl
      refine ⟨_, (mem 20 4), n15, _, ⟨⟨_, _, F⟩, s15, rfl, rfl, rfl, K34.k15, (fun z => by cases z), fun _ => ?_, ?_, fun _ => B, (fun z => by cases z)⟩⟩
      · intro n ds hm
        simp only [i15, List.mem_cons, List.not_mem_nil, or_false, Prod.mk.injEq] at hm
        rcases hm with ⟨rfl, rfl⟩
        · exact dfl0 B
      · intro n ks asm hm
        cases hm
    | 16, h =>
      cases h
      have F := fd_mk (st := (mem 20 5)) l16 c16 k16
      have B : Binds K _ ["self"] [] := F.bindsN fun _ _ _ _ _ _ us hl => match us, hl with | [_], _ => rfl
      refine ⟨_, (mem 20 5), n16, _, ⟨⟨_, _, F⟩, s16, rfl, rfl, rfl, K34.k16, (fun z => by cases z), fun _ => ?_, ?_, fun _ => B, (fun z => by cases z)⟩⟩
      · intro n ds hm
        simp only [i16, List.mem_cons, List.not_mem_nil, or_false, Prod.mk.injEq] at hm
        rcases hm with ⟨rfl, rfl⟩
        · exact dfl0 B
      · intro n ks asm hm
        cases hm
    | 17, h =>
      cases h
      have F := fd_mkD (st := (mem 29 0)) (dvs := [.ref YD17_0]) (its := [(.ref YD17_0)]) l17 c17 k17 d17 (by simp) (.cons rfl .nil)
      obtain ⟨dsB, hvB, B⟩ := F.binds1 (ps := ["self", "world", "waves", "sights"]) 4 1 (by simp) rfl fun _ _ _ _ _ _ _ us its hl hi => match us, hl, its, hi with | [_, _, _, _], _, [_], _ => ⟨_, rfl, rfl⟩
      cases hvB
      refine ⟨_, (mem 29 0), n17, _, ⟨⟨_, _, F⟩, s17, rfl, rfl, rfl, K34.k17, (fun z => by cases z), fun _ => ?_, ?_, fun _ => B, (fun z => by cases z)⟩⟩
      · intro n ds hm
        simp only [i17, List.mem_cons, List.not_mem_nil, or_false, Prod.mk.injEq] at hm
        rcases hm with ⟨rfl, rfl⟩ | ⟨rfl, rfl⟩
        · obtain ⟨dsC, hvC, C⟩ := F.binds1 (ps := ["self", "world", "waves", "sights"]) 3 0 (by simp) rfl fun _ _ _ _ _ _ _ us its hl hi => match us, hl, its, hi with | [_, _, _], _, [_], _ => ⟨_, rfl, rfl⟩
          exact ⟨dsC, _, C, hvC, fun z => ⟨.ref YD17_0, _, rfl, ⟨YD17_0, [], rfl, .inr ⟨_, _, _, du17_0, rfl, rfl, by show 0 ≤ sizeLine; decide, .nil⟩, rfl⟩, rfl⟩, rfl⟩
        · exact dfl0 B
      · intro n ks asm hm
        cases hm
    | 18, h =>
      cases h
      have F := fd_mk (st := (mem 29 4)) l18 c18 k18
      have B : Binds K _ ["self"] [] := F.bindsN fun _ _ _ _ _ _ us hl => match us, hl with | [_], _ => rfl
      refine ⟨_, (mem 29 4), n18, _, ⟨⟨_, _, F⟩, s18, rfl, rfl, rfl, K34.k18, (fun z => by cases z), fun _ => ?_, ?_, fun _ => B, (fun z => by cases z)⟩⟩
      · intro n ds hm
        simp only [i18, List.mem_cons, List.not_mem_nil, or_false, Prod.mk.injEq] at hm
        rcases hm with ⟨rfl, rfl⟩
        · exact dfl0 B
      · intro n ks asm hm
        cases hm
    | 19, h =>
      cases h
      have F := fd_mk (st := (top 36)) l19 c19 k19
      have B : Binds K _ ["_law_script"] [] := F.bindsN fun _ _ _ _ _ _ us hl => match us, hl with | [_], _ => rfl
      refine ⟨_, (top 36), n19, _, ⟨⟨_, _, F⟩, s19, rfl, rfl, rfl, K34.k19, fun _ => PySem.W.mg_of X G a19, fun _ => ?_, ?_, fun _ => B, (fun z => by cases z)⟩⟩
      · intro n ds hm
        simp only [i19, List.mem_cons, List.not_mem_nil, or_false, Prod.mk.injEq] at hm
        rcases hm with ⟨rfl, rfl⟩
        · exact dfl0 B
      · intro n ks asm hm
        cases hm
    | n + 20, h => cases h
  · intro x hx
    simp only [T, List.mem_cons, List.not_mem_nil, or_false] at hx
    rcases hx with rfl | rfl | rfl | rfl | rfl | rfl | rfl | rfl | rfl | rfl | rfl
    · exact PySem.W.mg_none_of X G z0
    · exact PySem.W.mg_none_of X G z1
    · exact PySem.W.mg_none_of X G z2
    · exact PySem.W.mg_none_of X G z3
    · exact PySem.W.mg_none_of X G z4
    · exact PySem.W.mg_none_of X G z5
    · exact PySem.W.mg_none_of X G z6
    · exact PySem.W.mg_none_of X G z7
    · exact PySem.W.mg_none_of X G z8
    · exact PySem.W.mg_none_of X G z9
    · exact PySem.W.mg_none_of X G z10
  · intro x d hx
    simp only [T, List.mem_cons, List.not_mem_nil, or_false, Prod.mk.injEq] at hx
    rcases hx with ⟨rfl, rfl⟩ | ⟨rfl, rfl⟩ | ⟨rfl, rfl⟩ | ⟨rfl, rfl⟩ | ⟨rfl, rfl⟩
    · exact ⟨_, .ref Y0, PySem.W.mg_of X G yk0, rfl, fun _ => ⟨Y0, [.str "all", .str "first", .str "any"], rfl, .inr ⟨_, _, _, w0, rfl, rfl, by show 3 ≤ sizeLine; decide, .cons ⟨_, rfl⟩ (.cons ⟨_, rfl⟩ (.cons ⟨_, rfl⟩ .nil))⟩, ⟨_, _, rfl, rfl, ⟨_, _, rfl, rfl, ⟨_, _, rfl, rfl, rfl⟩⟩⟩⟩⟩
    · exact ⟨_, .int 3, PySem.W.mg_of X G yk1, ⟨_, rfl⟩, fun _ => rfl⟩
    · exact ⟨_, .int 8, PySem.W.mg_of X G yk2, ⟨_, rfl⟩, fun _ => rfl⟩
    · exact ⟨_, .int 1000000000000000000000000000000, PySem.W.mg_of X G yk3, ⟨_, rfl⟩, fun _ => rfl⟩
    · exact ⟨_, .int 3, PySem.W.mg_of X G yk4, ⟨_, rfl⟩, fun _ => rfl⟩
  · intro ci c h
    match ci, h with
    | 0, h =>
      cases h
      refine ⟨PySem.W.mg_of X G aC0, ⟨pg0, hd0, po0, sa0⟩, fun fi hf => ?_, fun m fi hm => ?_, fun n hn => ?_, fun n d hm => ?_, fun m fi hm => ?_, fun m fi hm => ?_, fun hm => ?_⟩
      · cases hf
        exact ⟨mk0, in0, fi0, kp0⟩
      · simp only [y0, List.mem_cons, List.not_mem_nil, or_false, Prod.mk.injEq] at hm
        rcases hm with ⟨rfl, rfl⟩ | ⟨rfl, rfl⟩
        · exact ⟨me0_0, mf0_0, k15⟩
        · exact ⟨me0_1, mf0_1, k16⟩
      · simp only [y0, List.mem_cons, List.not_mem_nil, or_false] at hn
        rcases hn with rfl | rfl
        · exact fl0_0
        · exact fl0_1
      · simp only [y0, List.mem_cons, List.not_mem_nil, or_false, Prod.mk.injEq] at hm
        rcases hm with ⟨rfl, rfl⟩ | ⟨rfl, rfl⟩
        · exact ⟨.type "type", .int 3, _, ⟨rd0, ga0⟩, ⟨cv0_0, ⟨_, rfl⟩⟩, fun _ => rfl⟩
        · exact ⟨.type "type", .int 6, _, ⟨rd0, ga0⟩, ⟨cv0_1, ⟨_, rfl⟩⟩, fun _ => rfl⟩
      · cases hm
      · cases hm
      · cases hm
    | 1, h =>
      cases h
      refine ⟨PySem.W.mg_of X G aC1, ⟨pg1, hd1, po1, sa1⟩, fun fi hf => ?_, fun m fi hm => ?_, fun n hn => ?_, fun n d hm => ?_, fun m fi hm => ?_, fun m fi hm => ?_, fun hm => ?_⟩
      · cases hf
        exact ⟨mk1, in1, fi1, kp1⟩
      · simp only [y1, List.mem_cons, List.not_mem_nil, or_false, Prod.mk.injEq] at hm
        rcases hm with ⟨rfl, rfl⟩
        · exact ⟨me1_0, mf1_0, k18⟩
      · simp only [y1, List.mem_cons, List.not_mem_nil, or_false] at hn
        rcases hn with rfl | rfl | rfl | rfl | rfl
        · exact fl1_0
        · exact fl1_1
        · exact fl1_2
        · exact fl1_3
        · exact fl1_4
      · cases hm
      · cases hm
      · cases hm
      · cases hm
    | n + 2, h => cases h
  · intro e he
    simp only [T, List.mem_cons, List.not_mem_nil, or_false] at he
    rcases he with rfl | rfl | rfl | rfl
    · refine ⟨PySem.W.mg_of X G xa0, ⟨⟨_, _, _, _, _, _, _, _, _, _, _, _, _, _, _, _, _, _, _, xb_VE, xb0, xr0⟩, xs0, xu0, xy0, xz0⟩, fun _ => xc0, xfB_ok xd0, of_decide_eq_true (List.all_eq_true.mp xe0 _ (List.mem_cons_self ..)), fun y hy => of_decide_eq_true (List.all_eq_true.mp xe0 y (List.mem_cons_of_mem _ hy)), fun attr ha => ?_, fun ha => ?_⟩
      · cases ha
        have F := fd_mk (st := (mem 4 0)) xl0 xo0 xk0
        exact ⟨e0, _, (mem 4 0), "self", "index", _, _, xi0, xt0, F, xS0, xB0, of_decide_eq_true (List.all_eq_true.mp xe0 _ (by decide)), F.bindsN fun _ _ _ _ _ _ us hl => match us, hl with | [_, _], _ => rfl, by decide⟩
      · cases ha
    · refine ⟨PySem.W.mg_of X G xa1, ⟨⟨_, _, _, _, _, _, _, _, _, _, _, _, _, _, _, _, _, _, _, xb_VE, xb1, xr1⟩, xs1, xu1, xy1, xz1⟩, fun _ => xc1, xfB_ok xd1, of_decide_eq_true (List.all_eq_true.mp xe1 _ (List.mem_cons_self ..)), fun y hy => of_decide_eq_true (List.all_eq_true.mp xe1 y (List.mem_cons_of_mem _ hy)), fun attr ha => ?_, fun ha => ?_⟩
      · cases ha
        have F := fd_mk (st := (mem 5 0)) xl1 xo1 xk1
        exact ⟨e1, _, (mem 5 0), "self", "index", _, _, xi1, xt1, F, xS1, xB1, of_decide_eq_true (List.all_eq_true.mp xe1 _ (by decide)), F.bindsN fun _ _ _ _ _ _ us hl => match us, hl with | [_, _], _ => rfl, by decide⟩
      · cases ha
    · refine ⟨PySem.W.mg_of X G xa2, ⟨⟨_, _, _, _, _, _, _, _, _, _, _, _, _, _, _, _, _, _, _, xb_VE, xb2, xr2⟩, xs2, xu2, xy2, xz2⟩, fun _ => xc2, xfB_ok xd2, of_decide_eq_true (List.all_eq_true.mp xe2 _ (List.mem_cons_self ..)), fun y hy => of_decide_eq_true (List.all_eq_true.mp xe2 y (List.mem_cons_of_mem _ hy)), fun attr ha => ?_, fun ha => ?_⟩
      · cases ha
        have F := fd_mk (st := (mem 6 0)) xl2 xo2 xk2
        exact ⟨e2, _, (mem 6 0), "self", "index", _, _, xi2, xt2, F, xS2, xB2, of_decide_eq_true (List.all_eq_true.mp xe2 _ (by decide)), F.bindsN fun _ _ _ _ _ _ us hl => match us, hl with | [_, _], _ => rfl, by decide⟩
      · cases ha
    · refine ⟨PySem.W.mg_of X G xa3, ⟨⟨_, _, _, _, _, _, _, _, _, _, _, _, _, _, _, _, _, _, _, xb_VE, xb3, xr3⟩, xs3, xu3, xy3, xz3⟩, fun _ => xc3, xfB_ok xd3, of_decide_eq_true (List.all_eq_true.mp xe3 _ (List.mem_cons_self ..)), fun y hy => of_decide_eq_true (List.all_eq_true.mp xe3 y (List.mem_cons_of_mem _ hy)), fun attr ha => ?_, fun ha => ?_⟩
      · cases ha
        have F := fd_mk (st := (mem 7 0)) xl3 xo3 xk3
        exact ⟨e3, _, (mem 7 0), "self", "index", _, _, xi3, xt3, F, xS3, xB3, of_decide_eq_true (List.all_eq_true.mp xe3 _ (by decide)), F.bindsN fun _ _ _ _ _ _ us hl => match us, hl with | [_, _], _ => rfl, by decide⟩
      · cases ha
  · intro x hx
    cases hx
    have FW := fd_mk (st := top 35) lW cW kW
    have FF := fd_mk (st := top 34) lF cF kF
    exact ⟨gW, defArgs (top 35), defBody (top 35), defScope (top 35), _, _, _, _, _, _, _, _, _, _, "_law_ask7", "_law_told", "_law_e", "FewError", "Missing", "_law_field", "_law_e", PySem.W.mg_of X G aW, kW, lW, cW,
      FW.bindsN fun _ _ _ _ _ _ us hl => match us, hl with | [_], _ => rfl, whyS, whyB, ⟨⟨gF, defArgs (top 34), defBody (top 34), defScope (top 34), _, _, _, _, _, _, _, _, _, _, lF, cF, fldS, FF.bindsN fun _ _ _ _ _ _ us hl => match us, hl with | [_], _ => rfl, PySem.W.mg_of X G aF, kF, fldB⟩, by decide, by decide, by decide⟩,
      by decide +kernel, by decide +kernel, by decide +kernel, by decide +kernel, by decide +kernel, by decide +kernel, PySem.W.mg_of X G qFew, PySem.W.mg_of X G qMis, by decide⟩
  · intro y ns hy
    cases hy
end K34

set_option pp.maxSteps 400
set_option pp.deepTerms false
open PySem PySem.W PyProof.Rows
set_option maxRecDepth 100000 in
set_option maxHeartbeats 0 in
theorem PySem.Challenge.cw_fewtell_k34_supplies_of_plans_holds : PySem.Challenge.rw_fewtell_k34_supplies_of_plans.Holds := by
  w_on; o_law; k_head; (case hw => w_witness2)
  k_fill
  refine Fw.walk (l := PySem.Challenge.rw_fewtell_k34_supplies_of_plans) (T := K34.T) (ft := K34.ft) (wf := 10000000000) (k := 40) (li := 19) (I := K34.i19) (x := "_law_script") rfl rfl ⟨rfl, by decide, by decide⟩ (by decide +kernel) (fun w h Y => by first | exact PySem.W.km_in_of Y | exact PySem.W.kIn_of Y) rfl rfl rfl rfl (fun ns _ => K34.law_true (Nat.le_refl _) ns) ?F
  case F =>
    intro w mg h KX G
    refine' K34.facts KX G ?aC0 ?pg0 ?hd0 ?po0 ?sa0 ?mk0 ?in0 ?fi0 ?kp0 ?me0_0 ?mf0_0 ?me0_1 ?mf0_1 ?fl0_0 ?fl0_1 ?rd0 ?ga0 ?cv0_0 ?cv0_1 ?aC1 ?pg1 ?hd1 ?po1 ?sa1 ?mk1 ?in1 ?fi1 ?kp1 ?me1_0 ?mf1_0 ?fl1_0 ?fl1_1 ?fl1_2 ?fl1_3 ?fl1_4 ?a0 ?l0 ?c0 ?k0 ?a1 ?l1 ?c1 ?k1 ?a2 ?l2 ?c2 ?k2 ?a3 ?l3 ?c3 ?k3 ?a4 ?l4 ?c4 ?k4 ?a5 ?l5 ?c5 ?k5 ?a6 ?l6 ?c6 ?k6 ?a7 ?l7 ?c7 ?k7 ?a8 ?l8 ?c8 ?k8 ?a9 ?l9 ?c9 ?k9 ?a10 ?l10 ?c10 ?k10 ?a11 ?l11 ?c11 ?k11 ?a12 ?l12 ?c12 ?k12 ?a13 ?l13 ?c13 ?k13 ?l14 ?c14 ?k14 ?l15 ?c15 ?k15 ?l16 ?c16 ?k16 ?l17 ?c17 ?k17 ?d17 ?du17_0 ?l18 ?c18 ?k18 ?a19 ?l19 ?c19 ?k19 ?z0 ?z1 ?z2 ?z3 ?z4 ?z5 ?z6 ?z7 ?z8 ?z9 ?z10 ?yk0 ?w0 ?yk1 ?yk2 ?yk3 ?yk4 ?qFew ?qMis ?xa0 ?xb0 ?xr0 ?xs0 ?xu0 ?xy0 ?xz0 ?xc0 ?xd0 ?xe0 ?xi0 ?xt0 ?xl0 ?xo0 ?xk0 ?xa1 ?xb1 ?xr1 ?xs1 ?xu1 ?xy1 ?xz1 ?xc1 ?xd1 ?xe1 ?xi1 ?xt1 ?xl1 ?xo1 ?xk1 ?xa2 ?xb2 ?xr2 ?xs2 ?xu2 ?xy2 ?xz2 ?xc2 ?xd2 ?xe2 ?xi2 ?xt2 ?xl2 ?xo2 ?xk2 ?xa3 ?xb3 ?xr3 ?xs3 ?xu3 ?xy3 ?xz3 ?xc3 ?xd3 ?xe3 ?xi3 ?xt3 ?xl3 ?xo3 ?xk3 ?lc ?lv ?lh ?ln ?aW ?lW ?cW ?kW ?aF ?lF ?cF ?kF
    (case aC0 => k_is); (case pg0 => k_is); (case hd0 => k_is); (case po0 => k_is); (case sa0 => k_is); (case mk0 => k_is)
    (case in0 => k_is); (case fi0 => k_is); (case kp0 => k_is); (case me0_0 => k_is); (case mf0_0 => k_is); (case me0_1 => k_is)
    (case mf0_1 => k_is); (case fl0_0 => k_is); (case fl0_1 => k_is); (case rd0 => k_is); (case ga0 => k_is); (case cv0_0 => k_is)
    (case cv0_1 => k_is); (case aC1 => k_is); (case pg1 => k_is); (case hd1 => k_is); (case po1 => k_is); (case sa1 => k_is)
    (case mk1 => k_is); (case in1 => k_is); (case fi1 => k_is); (case kp1 => k_is); (case me1_0 => k_is); (case mf1_0 => k_is)
    (case fl1_0 => k_is); (case fl1_1 => k_is); (case fl1_2 => k_is); (case fl1_3 => k_is); (case fl1_4 => k_is); (case a0 => k_is)
    (case l0 => k_is); (case c0 => k_is); (case k0 => k_is); (case a1 => k_is); (case l1 => k_is); (case c1 => k_is)
    (case k1 => k_is); (case a2 => k_is); (case l2 => k_is); (case c2 => k_is); (case k2 => k_is); (case a3 => k_is)
    (case l3 => k_is); (case c3 => k_is); (case k3 => k_is); (case a4 => k_is); (case l4 => k_is); (case c4 => k_is)
    (case k4 => k_is); (case a5 => k_is); (case l5 => k_is); (case c5 => k_is); (case k5 => k_is); (case a6 => k_is)
    (case l6 => k_is); (case c6 => k_is); (case k6 => k_is); (case a7 => k_is); (case l7 => k_is); (case c7 => k_is)
    (case k7 => k_is); (case a8 => k_is); (case l8 => k_is); (case c8 => k_is); (case k8 => k_is); (case a9 => k_is)
    (case l9 => k_is); (case c9 => k_is); (case k9 => k_is); (case a10 => k_is); (case l10 => k_is); (case c10 => k_is)
    (case k10 => k_is); (case a11 => k_is); (case l11 => k_is); (case c11 => k_is); (case k11 => k_is); (case a12 => k_is)
    (case l12 => k_is); (case c12 => k_is); (case k12 => k_is); (case a13 => k_is); (case l13 => k_is); (case c13 => k_is)
    (case k13 => k_is); (case l14 => k_is); (case c14 => k_is); (case k14 => k_is); (case l15 => k_is); (case c15 => k_is)
    (case k15 => k_is); (case l16 => k_is); (case c16 => k_is); (case k16 => k_is); (case l17 => k_is); (case c17 => k_is)
    (case k17 => k_is); (case d17 => k_is); (case du17_0 => k_is); (case l18 => k_is); (case c18 => k_is); (case k18 => k_is)
    (case a19 => k_is); (case l19 => k_is); (case c19 => k_is); (case k19 => k_is); (case z0 => k_is); (case z1 => k_is)
    (case z2 => k_is); (case z3 => k_is); (case z4 => k_is); (case z5 => k_is); (case z6 => k_is); (case z7 => k_is)
    (case z8 => k_is); (case z9 => k_is); (case z10 => k_is); (case yk0 => k_is); (case w0 => k_is); (case yk1 => k_is)
    (case yk2 => k_is); (case yk3 => k_is); (case yk4 => k_is); (case qFew => k_is); (case qMis => k_is); (case xa0 => k_is)
    (case xb0 => k_is); (case xr0 => rfl); (case xs0 => k_is); (case xu0 => k_is); (case xy0 => k_is); (case xz0 => k_is)
    (case xc0 => first | kernel_rfl | rfl); (case xd0 => first | kernel_rfl | rfl); (case xe0 => first | kernel_rfl | rfl); (case xi0 => k_is); (case xt0 => k_is); (case xl0 => k_is)
    (case xo0 => k_is); (case xk0 => k_is); (case xa1 => k_is); (case xb1 => k_is); (case xr1 => rfl); (case xs1 => k_is)
    (case xu1 => k_is); (case xy1 => k_is); (case xz1 => k_is); (case xc1 => first | kernel_rfl | rfl); (case xd1 => first | kernel_rfl | rfl); (case xe1 => first | kernel_rfl | rfl)
    (case xi1 => k_is); (case xt1 => k_is); (case xl1 => k_is); (case xo1 => k_is); (case xk1 => k_is); (case xa2 => k_is)
    (case xb2 => k_is); (case xr2 => rfl); (case xs2 => k_is); (case xu2 => k_is); (case xy2 => k_is); (case xz2 => k_is)
    (case xc2 => first | kernel_rfl | rfl); (case xd2 => first | kernel_rfl | rfl); (case xe2 => first | kernel_rfl | rfl); (case xi2 => k_is); (case xt2 => k_is); (case xl2 => k_is)
    (case xo2 => k_is); (case xk2 => k_is); (case xa3 => k_is); (case xb3 => k_is); (case xr3 => rfl); (case xs3 => k_is)
    (case xu3 => k_is); (case xy3 => k_is); (case xz3 => k_is); (case xc3 => first | kernel_rfl | rfl); (case xd3 => first | kernel_rfl | rfl); (case xe3 => first | kernel_rfl | rfl)
    (case xi3 => k_is); (case xt3 => k_is); (case xl3 => k_is); (case xo3 => k_is); (case xk3 => k_is); (case lc => k_is)
    (case lv => rfl); (case lh => first | kernel_rfl | rfl); (case ln => first | kernel_rfl | rfl); (case aW => k_is); (case lW => k_is); (case cW => k_is)
    (case kW => k_is); (case aF => k_is); (case lF => k_is); (case cF => k_is); (case kF => k_is)
