import PyProof.Rows.All
import HandS.ForMost
import HandS.Exc
import HandS.TryOnly
import HandS.TryMany
import HandS.ExcOwn
import HandS.WordsExc
import HandS.CallSlots
import HandS.IsInst
import HandS.SortInts
import HandS.TupAny
import HandS.TupMul
import HandS.RaiseMore
import HandS.StrMore
import HandS.Style
import HandS.SetFor
import HandS.Replace
import KE.KSortedM
import HandS.Walk
import HandS.EndBits
import HandS.Conv
import PyProof.Rows.SortShellAny
import PyProof.EnumMake
import KE.GoesEnum
import KE.GoesMore
import PyProof.ReprLen
import HandS.RevTup
import HandS.HotCalls
import HandS.ExcIs
import KE.LtData
import PyProof.SliceStr2
import PyProof.FitsInt
import Wide.All
import OpenK.AllK
import Wide.FinOn
import PySem.Challenge.RW_leafturner_k10_whole_products_and_undoin
set_option Elab.async false
set_option linter.all false
set_option maxRecDepth 100000
/-! The data layer: what a def computes, as a Lean function over plain data; heaps are hidden once and for all. -/
namespace DL
open PySem PySem.Spec L2

/-- the written part, and the world -/
structure KW where
  K : PySem.W.Frag
  w : World
instance : Coe KW PySem.W.Frag := ⟨KW.K⟩
abbrev _root_.L2.Cx.kw (X : Cx) : KW := ⟨X.K, X.w⟩
/-- keys that are tuples, three deep -/
abbrev K1 := List Key
abbrev K2 := List (Key ⊕ K1)
abbrev NK := List (Key ⊕ K2)

/-- plain data -/
inductive D where
  | non | bl (b : Bool) | int (i : Int) | str (s : Str)
  | tup (xs : List D) | lst (xs : List D)
  | dk (kvs : List (Key × D)) | dt (kvs : List (List Key × D))
  /-- a dict whose keys are tuples -/
  | dd (kvs : List (NK × D))
  /-- an instance of the class c -/
  | obj (c : Str) (fs : List (Str × D))
  /-- the script -/
  | scr (ns : List Int)
  /-- a caught error of the class c, no fields of its own -/
  | exc (c : Str)

mutual
/-- what an owned object holds; an instance's own fields are fixed, what they hold is frozen or owned -/
inductive O where
  | ls (xs : List D) | dk (kvs : List (Key × D)) | dt (kvs : List (List Key × D)) | dd (kvs : List (NK × D))
  | ob (c : Str) (fs : Fs)
inductive Fs where
  | nil | fz (f : Str) (d : D) (r : Fs) | ow (f : Str) (o : O) (r : Fs)
end
mutual
def O.d : O → D
  | .ls xs => .lst xs
  | .dk kvs => .dk kvs
  | .dt kvs => .dt kvs
  | .dd kvs => .dd kvs
  | .ob c fs => .obj c fs.d
def Fs.d : Fs → List (Str × D)
  | .nil => []
  | .fz f d r => (f, d) :: r.d
  | .ow f o r => (f, o.d) :: r.d
end
/-- a slot: frozen data; an owned object (lent: it is the caller's); an instance under way -/
inductive Sl where
  | fz (d : D) | ow (lent : Bool) (o : O) | op (c : Str) (fs : Fs)
abbrev G := List (Option Sl)
/-- a result: frozen data, a new owned object, the object of a slot, of a field of it -/
inductive R where
  | fz (d : D) | ow (o : O) | at (i : Nat) | sub (i : Nat) (f : Str)
/-- an exception: its class's name, its own fields -/
structure Ex where
  c : Str
  p : List (Str × D) := []
inductive Rs (α : Type) where
  | ok (a : α) (g : G) | ex (e : Ex) (g : G) | bad
abbrev M (α : Type) := G → Rs α
inductive Fl where
  | nx | rt (r : R) | bk | ct

def Rs.andThen {α β : Type} (x : Rs α) (k : α → G → Rs β) : Rs β :=
  match x with
  | .ok a g => k a g
  | .ex e g => .ex e g
  | .bad => .bad
@[simp] theorem then_ok {α β : Type} (a : α) (g : G) (k : α → G → Rs β) : (Rs.ok a g).andThen k = k a g := rfl
@[simp] theorem then_ex {α β : Type} (e : Ex) (g : G) (k : α → G → Rs β) : (Rs.ex e g : Rs α).andThen k = .ex e g := rfl
@[simp] theorem then_bad {α β : Type} (k : α → G → Rs β) : (Rs.bad : Rs α).andThen k = .bad := rfl
def mb {α β : Type} (m : M α) (k : α → M β) : M β := fun g => (m g).andThen k
def mp {α : Type} (a : α) : M α := fun g => .ok a g

/-- an error's object at a, of the class cls -/
def ExA (cls : Value) (a : Addr) : HO := .ext fun h => ∃ (oe : Obj) (vs : Array Value), h.get? a = some oe ∧ Zc cls none oe ∧ oe.data = .fields vs
/-! keys that are tuples -/
def k1H (w : World) (k : K1) : Int := reduceHash (Builtin.Tuple.tupleHashOf (k.map (keyH w)))
def k2H (w : World) (k : K2) : Int := reduceHash (Builtin.Tuple.tupleHashOf (k.map fun x => match x with
  | .inl a => keyH w a
  | .inr b => k1H w b))
def nkH (w : World) (k : NK) : Int := reduceHash (Builtin.Tuple.tupleHashOf (k.map fun x => match x with
  | .inl a => keyH w a
  | .inr b => k2H w b))
/-- the dict at a: its keys, where they stand, its values -/
def DdA (w : World) (a : Addr) (xs : List (NK × Addr × Value)) : HO :=
  .ext fun h => ∃ o es ep, h.get? a = some o ∧ o.ExactDict ∧ o.data = .dict es ep ∧ es.toList = xs.map fun x => ⟨nkH w x.1, .ref x.2.1, x.2.2⟩
/-- the tuple at a is the key -/
def IsK1 (K : PySem.W.Frag) (F : Hp) (a : Addr) (k : K1) : Prop := ∃ vs, SqT K F a vs ∧ k.length ≤ sizeLine ∧ vs = k.map kV
def IsIt {α : Type} (p : V → α → Prop) : List V → List (Key ⊕ α) → Prop
  | vs, [] => vs = []
  | vs, .inl k :: r => ∃ us, vs = kV k :: us ∧ IsIt p us r
  | vs, .inr b :: r => ∃ v us, vs = v :: us ∧ p v b ∧ IsIt p us r
def IsK2 (K : PySem.W.Frag) (F : Hp) (a : Addr) (k : K2) : Prop := ∃ vs, SqT K F a vs ∧ k.length ≤ sizeLine ∧ IsIt (fun v b => ∃ c, v = .ref c ∧ IsK1 K F c b) vs k
def IsNK (K : PySem.W.Frag) (F : Hp) (a : Addr) (k : NK) : Prop := ∃ vs, SqT K F a vs ∧ k.length ≤ sizeLine ∧ IsIt (fun v b => ∃ c, v = .ref c ∧ IsK2 K F c b) vs k
section
variable (K : KW)
mutual
/-- v is the data d, read in the frozen heap F -/
def Is (F : Hp) (v : V) : D → Prop
  | .non => v = .non
  | .bl b => v = .bl b
  | .int i => v = .int i
  | .str s => v = .str s ∧ s.length ≤ sizeLine
  | .tup ds => ∃ a vs, v = .ref a ∧ SqT K.K F a vs ∧ ds.length ≤ sizeLine ∧ IsL F vs ds
  | .lst ds => ∃ a vs, v = .ref a ∧ F a = some (.lst vs) ∧ ds.length ≤ sizeLine ∧ IsL F vs ds
  | .dk kvs => ∃ a ks, v = .ref a ∧ F a = some (.dK ks) ∧ kvs.length ≤ sizeLine ∧ IsK F ks kvs
  | .dt kvs => ∃ a ks, v = .ref a ∧ F a = some (.dT ks) ∧ kvs.length ≤ sizeLine ∧ IsT F ks kvs
  | .dd kvs => ∃ a xs, v = .ref a ∧ F a = some (DdA K.w a xs) ∧ ((a == sysModules) = false ∧ (kvs.map (·.1)).Nodup) ∧ kvs.length ≤ sizeLine ∧ IsN F xs kvs
  | .obj c fs => ∃ a C dx vs, v = .ref a ∧ F a = some (.ins C dx vs) ∧ PySem.W.nsIn K.K mainGlobals c = some (some (.ref C)) ∧ IsF F vs fs
  | .scr ns => ∃ a, v = .ref a ∧ SqL K.K F a (ns.map V.int) ∧ ns.length ≤ sizeLine
  | .exc c => ∃ a cls, v = .ref a ∧ F a = some (ExA cls a) ∧ PySem.W.nsIn K.K mainGlobals c = some (some cls)
def IsL (F : Hp) (vs : List V) : List D → Prop
  | [] => vs = []
  | d :: ds => ∃ v r, vs = v :: r ∧ Is F v d ∧ IsL F r ds
def IsK (F : Hp) (ks : List (Key × V)) : List (Key × D) → Prop
  | [] => ks = []
  | (k, d) :: kvs => ∃ v r, ks = (k, v) :: r ∧ Is F v d ∧ IsK F r kvs
def IsT (F : Hp) (ks : List (List Key × V)) : List (List Key × D) → Prop
  | [] => ks = []
  | (k, d) :: kvs => ∃ v r, ks = (k, v) :: r ∧ Is F v d ∧ IsT F r kvs
def IsN (F : Hp) (xs : List (NK × Addr × Value)) : List (NK × D) → Prop
  | [] => xs = []
  | (k, d) :: kvs => ∃ b u v r, xs = (k, b, u) :: r ∧ IsNK K.K F b k ∧ RelV v u ∧ Is F v d ∧ IsN F r kvs
def IsF (F : Hp) (vs : List (Str × V)) : List (Str × D) → Prop
  | [] => vs = []
  | (f, d) :: fs => ∃ v r, vs = (f, v) :: r ∧ Is F v d ∧ IsF F r fs
end
mutual
/-- the object at a holds o -/
def OwAt (F H : Hp) (a : Addr) : O → Prop
  | .ls ds => ∃ vs, H a = some (.lst vs) ∧ ds.length ≤ sizeLine ∧ IsL K F vs ds
  | .dk kvs => ∃ ks, H a = some (.dK ks) ∧ kvs.length ≤ sizeLine ∧ IsK K F ks kvs
  | .dt kvs => ∃ ks, H a = some (.dT ks) ∧ kvs.length ≤ sizeLine ∧ IsT K F ks kvs
  | .dd kvs => ∃ xs, H a = some (DdA K.w a xs) ∧ ((a == sysModules) = false ∧ (kvs.map (·.1)).Nodup) ∧ kvs.length ≤ sizeLine ∧ IsN K F xs kvs
  | .ob c fs => ∃ C dx vs, F a = some (.ins C dx vs) ∧ PySem.W.nsIn K.K mainGlobals c = some (some (.ref C)) ∧ FsAt F H vs fs
def FsAt (F H : Hp) (vs : List (Str × V)) : Fs → Prop
  | .nil => vs = []
  | .fz f d r => ∃ v us, vs = (f, v) :: us ∧ Is K F v d ∧ FsAt F H us r
  | .ow f o r => ∃ b us, vs = (f, .ref b) :: us ∧ OwAt F H b o ∧ FsAt F H us r
end
end
mutual
/-- the cells that an owned object may change -/
def foot (F : Hp) (a : Addr) : O → List Addr
  | .ls _ => [a]
  | .dk _ => [a]
  | .dt _ => [a]
  | .dd _ => [a]
  | .ob _ fs => match F a with
    | some (.ins _ _ vs) => footF F vs fs
    | _ => []
def footF (F : Hp) (vs : List (Str × V)) : Fs → List Addr
  | .nil => []
  | .fz _ _ r => footF F vs.tail r
  | .ow _ o r => (match vs.head? with
    | some (_, .ref b) => foot F b o
    | _ => []) ++ footF F vs.tail r
end
/-- the field's object; with another one -/
def Fs.get : Fs → Str → Option (D ⊕ O)
  | .nil, _ => none
  | .fz g d r, f => if f == g then some (.inl d) else r.get f
  | .ow g o r, f => if f == g then some (.inr o) else r.get f
def Fs.put : Fs → Str → O → Fs
  | .nil, _, _ => .nil
  | .fz g d r, f, o => if f == g then .fz g d r else .fz g d (r.put f o)
  | .ow g o' r, f, o => if f == g then .ow g o r else .ow g o' (r.put f o)

section
variable {K : KW}
theorem sqT_mono {K : PySem.W.Frag} {F F' : Hp} (h : Same F F') {a : Addr} {xs : List V} (q : SqT K F a xs) : SqT K F' a xs := by
  rcases q with r | r
  · rcases r with r | ⟨o, r⟩
    · exact .inl (.inl (h _ _ r))
    · exact .inl (.inr ⟨o, h _ _ r⟩)
  · exact .inr r
theorem IsIt.imp {α : Type} {p q : V → α → Prop} (i : ∀ v b, p v b → q v b) : ∀ {vs : List V} {k : List (Key ⊕ α)}, IsIt p vs k → IsIt q vs k
  | _, [], e => e
  | _, .inl _ :: _, ⟨us, e, t⟩ => ⟨us, e, t.imp i⟩
  | _, .inr _ :: _, ⟨v, us, e, h, t⟩ => ⟨v, us, e, i _ _ h, t.imp i⟩
theorem IsK1.mono {K : PySem.W.Frag} {F F' : Hp} (h : Same F F') {a : Addr} {k : K1} : IsK1 K F a k → IsK1 K F' a k := fun ⟨vs, s, z, e⟩ => ⟨vs, sqT_mono h s, z, e⟩
theorem IsK2.mono {K : PySem.W.Frag} {F F' : Hp} (h : Same F F') {a : Addr} {k : K2} : IsK2 K F a k → IsK2 K F' a k := fun ⟨vs, s, z, e⟩ => ⟨vs, sqT_mono h s, z, e.imp fun _ _ ⟨c, e, q⟩ => ⟨c, e, q.mono h⟩⟩
theorem IsNK.mono {K : PySem.W.Frag} {F F' : Hp} (h : Same F F') {a : Addr} {k : NK} : IsNK K F a k → IsNK K F' a k := fun ⟨vs, s, z, e⟩ => ⟨vs, sqT_mono h s, z, e.imp fun _ _ ⟨c, e, q⟩ => ⟨c, e, q.mono h⟩⟩
mutual
theorem Is.mono {F F' : Hp} (h : Same F F') : ∀ (d : D) (v : V), Is K F v d → Is K F' v d
  | .non, _, q => q
  | .bl _, _, q => q
  | .int _, _, q => q
  | .str _, _, q => q
  | .tup ds, _, ⟨a, vs, e, s, z, q⟩ => ⟨a, vs, e, sqT_mono h s, z, IsL.mono h ds vs q⟩
  | .lst ds, _, ⟨a, vs, e, s, z, q⟩ => ⟨a, vs, e, h _ _ s, z, IsL.mono h ds vs q⟩
  | .dk kvs, _, ⟨a, vs, e, s, z, q⟩ => ⟨a, vs, e, h _ _ s, z, IsK.mono h kvs vs q⟩
  | .dt kvs, _, ⟨a, vs, e, s, z, q⟩ => ⟨a, vs, e, h _ _ s, z, IsT.mono h kvs vs q⟩
  | .dd kvs, _, ⟨a, xs, e, s, n, z, q⟩ => ⟨a, xs, e, h _ _ s, n, z, IsN.mono h kvs xs q⟩
  | .obj _ fs, _, ⟨a, C, dx, vs, e, s, z, q⟩ => ⟨a, C, dx, vs, e, h _ _ s, z, IsF.mono h fs vs q⟩
  | .scr ns, _, ⟨a, e, s, z⟩ => ⟨a, e, h.seq s, z⟩
  | .exc c, _, ⟨a, cl, e, s, z⟩ => ⟨a, cl, e, h _ _ s, z⟩
theorem IsL.mono {F F' : Hp} (h : Same F F') : ∀ (ds : List D) (vs : List V), IsL K F vs ds → IsL K F' vs ds
  | [], _, q => q
  | d :: ds, _, ⟨v, r, e, q, t⟩ => ⟨v, r, e, Is.mono h d v q, IsL.mono h ds r t⟩
theorem IsK.mono {F F' : Hp} (h : Same F F') : ∀ (ds : List (Key × D)) (vs : List (Key × V)), IsK K F vs ds → IsK K F' vs ds
  | [], _, q => q
  | (_, d) :: ds, _, ⟨v, r, e, q, t⟩ => ⟨v, r, e, Is.mono h d v q, IsK.mono h ds r t⟩
theorem IsT.mono {F F' : Hp} (h : Same F F') : ∀ (ds : List (List Key × D)) (vs : List (List Key × V)), IsT K F vs ds → IsT K F' vs ds
  | [], _, q => q
  | (_, d) :: ds, _, ⟨v, r, e, q, t⟩ => ⟨v, r, e, Is.mono h d v q, IsT.mono h ds r t⟩
theorem IsN.mono {F F' : Hp} (h : Same F F') : ∀ (ds : List (NK × D)) (vs : List (NK × Addr × Value)), IsN K F vs ds → IsN K F' vs ds
  | [], _, q => q
  | (_, d) :: ds, _, ⟨b, u, v, r, e, k, rv, q, t⟩ => ⟨b, u, v, r, e, k.mono h, rv, Is.mono h d v q, IsN.mono h ds r t⟩
theorem IsF.mono {F F' : Hp} (h : Same F F') : ∀ (ds : List (Str × D)) (vs : List (Str × V)), IsF K F vs ds → IsF K F' vs ds
  | [], _, q => q
  | (_, d) :: ds, _, ⟨v, r, e, q, t⟩ => ⟨v, r, e, Is.mono h d v q, IsF.mono h ds r t⟩
end
mutual
theorem foot_mono {F F' H : Hp} (h : Same F F') : ∀ (o : O) (a : Addr), OwAt K F H a o → foot F' a o = foot F a o
  | .ls _, _, _ => by unfold foot; rfl
  | .dk _, _, _ => by unfold foot; rfl
  | .dt _, _, _ => by unfold foot; rfl
  | .dd _, _, _ => by unfold foot; rfl
  | .ob c fs, a, q => by
    unfold OwAt at q
    obtain ⟨C, dx, vs, e, _, t⟩ := q
    unfold foot
    rw [h _ _ e, e]
    exact footF_mono h fs vs t
theorem footF_mono {F F' H : Hp} (h : Same F F') : ∀ (fs : Fs) (vs : List (Str × V)), FsAt K F H vs fs → footF F' vs fs = footF F vs fs
  | .nil, _, _ => by unfold footF; rfl
  | .fz f d r, vs, q => by
    unfold FsAt at q
    obtain ⟨v, us, rfl, _, t⟩ := q
    unfold footF
    exact footF_mono h r us t
  | .ow f o r, vs, q => by
    unfold FsAt at q
    obtain ⟨b, us, rfl, q, t⟩ := q
    unfold footF
    show foot F' b o ++ footF F' us r = foot F b o ++ footF F us r
    rw [foot_mono h o b q, footF_mono h r us t]
end
mutual
theorem OwAt.mono {F F' H H' : Hp} (h : Same F F') : ∀ (o : O) (a : Addr), (∀ b ∈ foot F a o, H' b = H b) → OwAt K F H a o → OwAt K F' H' a o
  | .ls ds, a, e, q => by
    unfold OwAt at q ⊢
    obtain ⟨vs, x, z, y⟩ := q
    exact ⟨vs, (e a (by unfold foot; simp)).trans x, z, IsL.mono h _ _ y⟩
  | .dk ds, a, e, q => by
    unfold OwAt at q ⊢
    obtain ⟨vs, x, z, y⟩ := q
    exact ⟨vs, (e a (by unfold foot; simp)).trans x, z, IsK.mono h _ _ y⟩
  | .dt ds, a, e, q => by
    unfold OwAt at q ⊢
    obtain ⟨vs, x, z, y⟩ := q
    exact ⟨vs, (e a (by unfold foot; simp)).trans x, z, IsT.mono h _ _ y⟩
  | .dd ds, a, e, q => by
    unfold OwAt at q ⊢
    obtain ⟨vs, x, n, z, y⟩ := q
    exact ⟨vs, (e a (by unfold foot; simp)).trans x, n, z, IsN.mono h _ _ y⟩
  | .ob c fs, a, e, q => by
    unfold OwAt at q ⊢
    obtain ⟨C, dx, vs, x, n, t⟩ := q
    refine ⟨C, dx, vs, h _ _ x, n, FsAt.mono h fs vs (fun b hb => e b ?_) t⟩
    unfold foot
    rw [x]; exact hb
theorem FsAt.mono {F F' H H' : Hp} (h : Same F F') : ∀ (fs : Fs) (vs : List (Str × V)), (∀ b ∈ footF F vs fs, H' b = H b) → FsAt K F H vs fs → FsAt K F' H' vs fs
  | .nil, _, _, q => by unfold FsAt at q ⊢; exact q
  | .fz f d r, vs, e, q => by
    unfold FsAt at q ⊢
    obtain ⟨v, us, rfl, q, t⟩ := q
    exact ⟨v, us, rfl, Is.mono h d v q, FsAt.mono h r us (fun b hb => e b (by unfold footF; exact hb)) t⟩
  | .ow f o r, vs, e, q => by
    unfold FsAt at q ⊢
    obtain ⟨b, us, rfl, q, t⟩ := q
    exact ⟨b, us, rfl, OwAt.mono h o b (fun c hc => e c (by unfold footF; exact List.mem_append_left _ hc)) q,
      FsAt.mono h r us (fun c hc => e c (by unfold footF; exact List.mem_append_right _ hc)) t⟩
end
mutual
/-- the cells are tracked, and may be written -/
theorem foot_mut {F H : Hp} : ∀ (o : O) (a : Addr), OwAt K F H a o → ∀ b ∈ foot F a o, ∃ u, H b = some u ∧ Mut (some u)
  | .ls _, a, q, b, hb => by unfold foot at hb; unfold OwAt at q; obtain ⟨vs, x, _⟩ := q; rw [List.mem_singleton.mp hb]; exact ⟨_, x, trivial⟩
  | .dk _, a, q, b, hb => by unfold foot at hb; unfold OwAt at q; obtain ⟨vs, x, _⟩ := q; rw [List.mem_singleton.mp hb]; exact ⟨_, x, trivial⟩
  | .dt _, a, q, b, hb => by unfold foot at hb; unfold OwAt at q; obtain ⟨vs, x, _⟩ := q; rw [List.mem_singleton.mp hb]; exact ⟨_, x, trivial⟩
  | .dd _, a, q, b, hb => by unfold foot at hb; unfold OwAt at q; obtain ⟨vs, x, _⟩ := q; rw [List.mem_singleton.mp hb]; exact ⟨_, x, trivial⟩
  | .ob c fs, a, q, b, hb => by
    unfold OwAt at q
    obtain ⟨C, dx, vs, x, _, t⟩ := q
    unfold foot at hb
    rw [x] at hb
    exact footF_mut fs vs t b hb
theorem footF_mut {F H : Hp} : ∀ (fs : Fs) (vs : List (Str × V)), FsAt K F H vs fs → ∀ b ∈ footF F vs fs, ∃ u, H b = some u ∧ Mut (some u)
  | .nil, _, _, b, hb => by unfold footF at hb; cases hb
  | .fz f d r, vs, q, b, hb => by
    unfold FsAt at q
    obtain ⟨v, us, rfl, q, t⟩ := q
    unfold footF at hb
    exact footF_mut r us t b hb
  | .ow f o r, vs, q, b, hb => by
    unfold FsAt at q
    obtain ⟨c, us, rfl, q, t⟩ := q
    unfold footF at hb
    rcases List.mem_append.mp hb with hb | hb
    · exact foot_mut o c q b hb
    · exact footF_mut r us t b hb
end
mutual
/-- frozen -/
theorem OwAt.freeze {F F' H : Hp} (h : Same F F') : ∀ (o : O) (a : Addr), (∀ b ∈ foot F a o, F' b = H b) → OwAt K F H a o → Is K F' (.ref a) o.d
  | .ls _, a, e, q => by unfold OwAt at q; obtain ⟨vs, x, z, y⟩ := q; unfold O.d; exact ⟨a, vs, rfl, (e a (by unfold foot; simp)).trans x, z, IsL.mono h _ _ y⟩
  | .dk _, a, e, q => by unfold OwAt at q; obtain ⟨vs, x, z, y⟩ := q; unfold O.d; exact ⟨a, vs, rfl, (e a (by unfold foot; simp)).trans x, z, IsK.mono h _ _ y⟩
  | .dt _, a, e, q => by unfold OwAt at q; obtain ⟨vs, x, z, y⟩ := q; unfold O.d; exact ⟨a, vs, rfl, (e a (by unfold foot; simp)).trans x, z, IsT.mono h _ _ y⟩
  | .dd _, a, e, q => by unfold OwAt at q; obtain ⟨vs, x, n, z, y⟩ := q; unfold O.d; exact ⟨a, vs, rfl, (e a (by unfold foot; simp)).trans x, n, z, IsN.mono h _ _ y⟩
  | .ob c fs, a, e, q => by
    unfold OwAt at q
    obtain ⟨C, dx, vs, x, n, t⟩ := q
    unfold O.d
    exact ⟨a, C, dx, vs, rfl, h _ _ x, n, FsAt.freeze h fs vs (fun b hb => e b (by unfold foot; rw [x]; exact hb)) t⟩
theorem FsAt.freeze {F F' H : Hp} (h : Same F F') : ∀ (fs : Fs) (vs : List (Str × V)), (∀ b ∈ footF F vs fs, F' b = H b) → FsAt K F H vs fs → IsF K F' vs fs.d
  | .nil, _, _, q => by unfold FsAt at q; unfold Fs.d; exact q
  | .fz f d r, vs, e, q => by
    unfold FsAt at q
    obtain ⟨v, us, rfl, q, t⟩ := q
    unfold Fs.d
    exact ⟨v, us, rfl, Is.mono h d v q, FsAt.freeze h r us (fun b hb => e b (by unfold footF; exact hb)) t⟩
  | .ow f o r, vs, e, q => by
    unfold FsAt at q
    obtain ⟨b, us, rfl, q, t⟩ := q
    unfold Fs.d
    exact ⟨.ref b, us, rfl, OwAt.freeze h o b (fun c hc => e c (by unfold footF; exact List.mem_append_left _ hc)) q,
      FsAt.freeze h r us (fun c hc => e c (by unfold footF; exact List.mem_append_right _ hc)) t⟩
end
/-- a leaf -/
def O.leaf : O → Bool
  | .ob _ _ => false
  | _ => true
theorem foot_leaf {F : Hp} {a : Addr} {o : O} (h : o.leaf = true) : foot F a o = [a] := by cases o <;> first | (unfold foot; rfl) | cases h
theorem foot_ls {F : Hp} {a : Addr} {xs : List D} : foot F a (.ls xs) = [a] := foot_leaf rfl
theorem foot_dk {F : Hp} {a : Addr} {xs : List (Key × D)} : foot F a (.dk xs) = [a] := foot_leaf rfl
theorem foot_dd {F : Hp} {a : Addr} {xs : List (NK × D)} : foot F a (.dd xs) = [a] := foot_leaf rfl
theorem IsL.length {F : Hp} : ∀ {ds : List D} {vs : List V}, IsL K F vs ds → vs.length = ds.length
  | [], _, e => by rw [show _ = [] from e]; rfl
  | d :: ds, _, ⟨v, r, e, _, t⟩ => by rw [e, List.length_cons, List.length_cons, IsL.length t]
theorem IsL.get {F : Hp} : ∀ {ds : List D} {vs : List V} {i : Nat} {d : D}, IsL K F vs ds → ds[i]? = some d → ∃ v, vs[i]? = some v ∧ Is K F v d
  | [], _, _, _, _, h => by simp at h
  | d :: ds, _, 0, d', ⟨v, r, e, q, t⟩, h => by
    have : d = d' := by simpa using h
    subst this; subst e; exact ⟨v, rfl, q⟩
  | d :: ds, _, i + 1, d', ⟨v, r, e, q, t⟩, h => by
    subst e
    obtain ⟨u, h1, h2⟩ := IsL.get (i := i) t (by simpa using h)
    exact ⟨u, by simpa using h1, h2⟩
theorem IsL.get' {F : Hp} : ∀ {ds : List D} {vs : List V} {i : Nat} {v : V}, IsL K F vs ds → vs[i]? = some v → ∃ d, ds[i]? = some d ∧ Is K F v d
  | [], _, _, _, q, h => by rw [show _ = [] from q] at h; simp at h
  | d :: ds, _, 0, v', ⟨v, r, e, q, t⟩, h => by
    subst e
    have : v = v' := by simpa using h
    subst this; exact ⟨d, rfl, q⟩
  | d :: ds, _, i + 1, v', ⟨v, r, e, q, t⟩, h => by
    subst e
    obtain ⟨u, h1, h2⟩ := IsL.get' (i := i) t (by simpa using h)
    exact ⟨u, by simpa using h1, h2⟩
theorem IsL.append {F : Hp} : ∀ {ds es : List D} {vs us : List V}, IsL K F vs ds → IsL K F us es → IsL K F (vs ++ us) (ds ++ es)
  | [], _, _, _, e, q => by rw [show _ = [] from e]; exact q
  | d :: ds, es, _, us, ⟨v, r, e, q, t⟩, q' => by subst e; exact ⟨v, r ++ us, rfl, q, IsL.append t q'⟩
theorem IsL.take {F : Hp} : ∀ {ds : List D} {vs : List V} (n : Nat), IsL K F vs ds → IsL K F (vs.take n) (ds.take n)
  | _, _, 0, _ => by simp [IsL]
  | [], _, n + 1, e => by rw [show _ = [] from e]; exact rfl
  | d :: ds, _, n + 1, ⟨v, r, e, q, t⟩ => by subst e; exact ⟨v, r.take n, rfl, q, IsL.take n t⟩
theorem IsL.drop {F : Hp} : ∀ {ds : List D} {vs : List V} (n : Nat), IsL K F vs ds → IsL K F (vs.drop n) (ds.drop n)
  | _, _, 0, q => q
  | [], _, n + 1, e => by rw [show _ = [] from e]; exact rfl
  | d :: ds, _, n + 1, ⟨v, r, e, q, t⟩ => by subst e; exact IsL.drop n t
theorem IsL.reverse {F : Hp} : ∀ {ds : List D} {vs : List V}, IsL K F vs ds → IsL K F vs.reverse ds.reverse
  | [], _, e => by rw [show _ = [] from e]; exact rfl
  | d :: ds, _, ⟨v, r, e, q, t⟩ => by
    subst e; rw [List.reverse_cons, List.reverse_cons]
    exact IsL.append (IsL.reverse t) ⟨v, [], rfl, q, rfl⟩
theorem IsL.set {F : Hp} : ∀ {ds : List D} {vs : List V} (i : Nat) {v : V} {d : D}, IsL K F vs ds → Is K F v d → IsL K F (vs.set i v) (ds.set i d)
  | [], _, _, _, _, e, _ => by rw [show _ = [] from e]; exact rfl
  | d :: ds, _, 0, v', d', ⟨v, r, e, q, t⟩, q' => by subst e; exact ⟨v', r, rfl, q', t⟩
  | d :: ds, _, i + 1, v', d', ⟨v, r, e, q, t⟩, q' => by subst e; exact ⟨v, r.set i v', rfl, q, IsL.set i t q'⟩
theorem IsL.one {F : Hp} {v : V} {d : D} (q : Is K F v d) : IsL K F [v] [d] := ⟨v, [], rfl, q, rfl⟩
theorem IsL.replicate {F : Hp} {v : V} {d : D} (q : Is K F v d) : ∀ n : Nat, IsL K F (List.replicate n v) (List.replicate n d)
  | 0 => rfl
  | n + 1 => ⟨v, List.replicate n v, rfl, q, IsL.replicate q n⟩
theorem IsL.ints {F : Hp} : ∀ ns : List Int, IsL K F (ns.map V.int) (ns.map D.int)
  | [] => rfl
  | n :: ns => ⟨.int n, ns.map V.int, rfl, rfl, IsL.ints ns⟩
theorem IsL.ints' {F : Hp} : ∀ (ns : List Int) (vs : List V), IsL K F vs (ns.map D.int) → vs = ns.map V.int
  | [], _, e => e
  | n :: ns, _, ⟨v, r, e, q, t⟩ => by subst e; rw [show v = .int n from q, IsL.ints' ns r t]; rfl
end


/-! ### the state -/
/-- a def's entry: what must stand, what was frozen, all that was tracked; how classes of errors are called -/
structure Ent where
  B : Hp
  F0 : Hp
  H0 : Hp
  cls : Str → Value
  /-- the lent object; its cells -/
  lr : Option Addr := none
  la : List Addr := []
/-- the cells of a slot -/
def sf (F H : Hp) (v : V) (s : Sl) : List Addr := match v with
  | .ref a => (match s with
    | .fz _ => []
    | .ow _ o => foot F a o
    | .op _ fs => a :: (match H a with
      | some (.ins _ _ vs) => footF F vs fs
      | _ => []))
  | _ => []
/-- v is what the slot says -/
def SlAt (K : KW) (Y : Ent) (F H : Hp) (v : V) : Sl → Prop
  | .fz d => Is K F v d
  | .ow l o => ∃ a, v = .ref a ∧ OwAt K F H a o ∧ (foot F a o).Nodup ∧ (∀ b ∈ foot F a o, F b = none ∧ Y.B b = none ∧ (l = false → Y.H0 b = none) ∧ (Y.H0 b = none ∨ b ∈ Y.la)) ∧ (l = true → Y.lr = some a)
  | .op c fs => ∃ a C dx vs, v = .ref a ∧ H a = some (.ins C dx vs) ∧ PySem.W.nsIn K.K mainGlobals c = some (some (.ref C)) ∧ FsAt K F H vs fs ∧ (a :: footF F vs fs).Nodup ∧
      (∀ b ∈ a :: footF F vs fs, F b = none ∧ Y.B b = none ∧ (Y.H0 b = none ∨ b ∈ Y.la)) ∧ Y.lr = some a
structure Rel (K : KW) (Y : Ent) (σ : St) (H : Hp) (g : G) (F : Hp) : Prop where
  sub : Same F H
  base : Same Y.F0 F
  keep : Same Y.B H
  dom : ∀ a, Y.H0 a ≠ none → H a ≠ none
  fr : ∀ a, F a ≠ none → Y.F0 a ≠ none ∨ Y.H0 a = none ∨ a ∈ Y.la
  lad : ∀ a ∈ Y.la, Y.H0 a ≠ none
  len : σ.length = g.length
  sl : ∀ (i : Nat) (s : Sl), g[i]? = some (some s) → ∃ v, σ[i]? = some (some v) ∧ SlAt K Y F H v s
  inj : ∀ (i j : Nat) (s s' : Sl) (v v' : V), i ≠ j → g[i]? = some (some s) → g[j]? = some (some s') → σ[i]? = some (some v) → σ[j]? = some (some v') → ∀ b ∈ sf F H v s, b ∉ sf F H v' s'
/-- what a result is -/
def RV (K : KW) (Y : Ent) (σ : St) (F H : Hp) (g : G) (v : V) : R → Prop
  | .fz d => Is K F v d
  | .at i => σ[i]? = some (some v)
  | .sub i f => ∃ a C dx vs, σ[i]? = some (some (.ref a)) ∧ F a = some (.ins C dx vs) ∧ vs.lookup f = some v
  | .ow o => ∃ a, v = .ref a ∧ OwAt K F H a o ∧ (foot F a o).Nodup ∧ ∀ b ∈ foot F a o, F b = none ∧ Y.B b = none ∧ Y.H0 b = none ∧ ∀ (i : Nat) (s : Sl) (u : V), g[i]? = some (some s) → σ[i]? = some (some u) → b ∉ sf F H u s
/-- an exception's own dict -/
def XD (K : KW) (F H : Hp) (d : Option Addr) (p : List (Str × D)) : Prop :=
  match p with
  | [] => d = none
  | p => ∃ a fs, d = some a ∧ H a = some (.xd fs) ∧ ∀ f x, p.lookup f = some x → ∃ v, fs.lookup f = some v ∧ Is K F v x
/-- what is wanted of an evaluation's end -/
def Post {α : Type} (K : KW) (Y : Ent) (W : WX) (σ : St) (F : Hp) (J : α → G → Hp → Hp → Prop) : Rs α → Prop
  | .bad => False
  | .ok a g => ∀ H' F', Rel K Y σ H' g F' → Same F F' → J a g H' F'
  | .ex e g => ∀ d H' F', Rel K Y σ H' g F' → Same F F' → XD K F' H' d e.p → W (Y.cls e.c) d σ H'
theorem Post.bind {α β : Type} {K : KW} {Y : Ent} {W : WX} {σ : St} {F : Hp} {J : β → G → Hp → Hp → Prop} {x : Rs α} {k : α → G → Rs β} (h : Post K Y W σ F J (x.andThen k)) :
    Post K Y W σ F (fun a g _ F' => Post K Y W σ F' J (k a g)) x := by
  cases x with
  | bad => exact h
  | ex e g => exact h
  | ok a g =>
    intro H1 F1 r s
    have h' : Post K Y W σ F J (k a g) := h
    revert h'
    cases k a g with
    | bad => exact id
    | ok b g2 => exact fun h' H2 F2 r2 s2 => h' H2 F2 r2 (s.trans s2)
    | ex e g2 => exact fun h' d H2 F2 r2 s2 => h' d H2 F2 r2 (s.trans s2)
theorem Post.imp {α : Type} {K : KW} {Y : Ent} {W : WX} {σ : St} {F : Hp} {J J' : α → G → Hp → Hp → Prop} {x : Rs α} (h : Post K Y W σ F J x)
    (i : ∀ a g H' F', Rel K Y σ H' g F' → Same F F' → J a g H' F' → J' a g H' F') : Post K Y W σ F J' x := by
  cases x with
  | bad => exact h
  | ex e g => exact h
  | ok a g => exact fun H1 F1 r s => i a g H1 F1 r s (h H1 F1 r s)

def JV (K : KW) (Y : Ent) (σ : St) (Q : VK) : R → G → Hp → Hp → Prop := fun r g H' F' => ∀ v, RV K Y σ F' H' g v r → Q v H'
def JB (Q : Bool → Hp → Prop) : Bool → G → Hp → Hp → Prop := fun b _ H' _ => Q b H'
def RVs (K : KW) (Y : Ent) (σ : St) (F H : Hp) (g : G) : List V → List R → Prop
  | vs, [] => vs = []
  | vs, r :: rs => ∃ v us, vs = v :: us ∧ RV K Y σ F H g v r ∧ RVs K Y σ F H g us rs
def JA (K : KW) (Y : Ent) (σ : St) (Q : List V → Hp → Prop) : List R → G → Hp → Hp → Prop := fun rs g H' F' => ∀ vs, RVs K Y σ F' H' g vs rs → Q vs H'

def tD (K : KW) (Y : Ent) (W : WX) (f : M R) : TE := fun σ H Q => ∃ g F, Rel K Y σ H g F ∧ Post K Y W σ F (JV K Y σ Q) (f g)
def tT (K : KW) (Y : Ent) (W : WX) (f : M Bool) : TT := fun σ H Q => ∃ g F, Rel K Y σ H g F ∧ Post K Y W σ F (JB Q) (f g)
def tA (K : KW) (Y : Ent) (W : WX) (f : M (List R)) : TA := fun σ H Q => ∃ g F, Rel K Y σ H g F ∧ Post K Y W σ F (JA K Y σ Q) (f g)

/-- an expression computes f; a test; arguments -/
def DE (X : Cx) (Y : Ent) (W : WX) (e : Expr) (f : M R) : Prop := PE X e (tD X.kw Y W f)
def DT (X : Cx) (Y : Ent) (W : WX) (e : Expr) (f : M Bool) : Prop := PT X e (tT X.kw Y W f)
def DW (X : Cx) (Y : Ent) (W : WX) (e : Expr) (f : M Bool) : Prop := PW X e (tT X.kw Y W f)
def DA (X : Cx) (Y : Ent) (W : WX) (es : List Expr) (f : M (List R)) : Prop := PA X es (tA X.kw Y W f)

theorem pe_mono {X : Cx} {e : Expr} {t t' : TE} (h : PE X e t) (i : ∀ σ H Q, t' σ H Q → t σ H Q) : PE X e t' := ⟨fun pins s σ H Q I q => h.run pins s σ H Q I (i σ H Q q)⟩
theorem pt_mono {X : Cx} {e : Expr} {t t' : TT} (h : PT X e t) (i : ∀ σ H Q, t' σ H Q → t σ H Q) : PT X e t' := ⟨fun pins s σ H Q I q => h.run pins s σ H Q I (i σ H Q q)⟩
theorem pw_mono {X : Cx} {e : Expr} {t t' : TT} (h : PW X e t) (i : ∀ σ H Q, t' σ H Q → t σ H Q) : PW X e t' := ⟨fun w pins s σ H Q I q => h.run w pins s σ H Q I (i σ H Q q)⟩
theorem pa_mono {X : Cx} {e : List Expr} {t t' : TA} (h : PA X e t) (i : ∀ σ H Q, t' σ H Q → t σ H Q) : PA X e t' := ⟨fun p pins s σ H Q I q => h.run p pins s σ H Q I (i σ H Q q)⟩
theorem ps_mono {X : Cx} {e : Stmt} {t t' : TS} (h : PS X e t) (i : ∀ D σ H, t' D σ H → t D σ H) : PS X e t' := ⟨fun pins s σ H D I q => h.run pins s σ H D I (i D σ H q)⟩
theorem pss_mono {X : Cx} {e : List Stmt} {t t' : TS} (h : PSs X e t) (i : ∀ D σ H, t' D σ H → t D σ H) : PSs X e t' := ⟨fun pins s σ H D I q => h.run pins s σ H D I (i D σ H q)⟩
theorem pg_mono {X : Cx} {e : Expr} {t t' : TG} (h : PG X e t) (i : ∀ v σ H Q, t' v σ H Q → t v σ H Q) : PG X e t' := ⟨fun pins s σ H v u Q I r q => h.run pins s σ H v u Q I r (i v σ H Q q)⟩

section
variable {K : KW} {Y : Ent} {σ : St} {H H' F F' : Hp} {g : G}
theorem SlAt.mono {v : V} (s : Same F F') : ∀ {x : Sl}, (∀ b ∈ sf F H v x, H' b = H b ∧ F' b = none) → SlAt K Y F H v x → SlAt K Y F' H' v x ∧ sf F' H' v x = sf F H v x
  | .fz d, _, q => ⟨Is.mono s d v q, by unfold sf; cases v <;> rfl⟩
  | .ow l o, e, q => by
    obtain ⟨a, rfl, q, nd, n, r⟩ := q
    have ef := foot_mono s o a q
    refine ⟨⟨a, rfl, OwAt.mono s o a (fun b hb => (e b hb).1) q, by rw [ef]; exact nd, fun b hb => ?_, r⟩, ef⟩
    rw [ef] at hb
    exact ⟨(e b hb).2, (n b hb).2⟩
  | .op c fs, e, q => by
    obtain ⟨a, C, dx, vs, rfl, hi, hc, t, nd, n, r⟩ := q
    have e' : ∀ b ∈ a :: footF F vs fs, H' b = H b ∧ F' b = none := fun b hb => e b (by unfold sf; simp only; rw [hi]; exact hb)
    have ef := footF_mono s fs vs t
    have hi' : H' a = some (.ins C dx vs) := (e' a List.mem_cons_self).1.trans hi
    refine ⟨⟨a, C, dx, vs, rfl, hi', hc, FsAt.mono s fs vs (fun b hb => (e' b (List.mem_cons_of_mem _ hb)).1) t, by rw [ef]; exact nd, fun b hb => ?_, r⟩, ?_⟩
    · rw [ef] at hb
      exact ⟨(e' b hb).2, (n b hb).2⟩
    · unfold sf; simp only; rw [hi', hi]; simp only; rw [ef]
theorem SlAt.cells {v : V} : ∀ {x : Sl}, SlAt K Y F H v x → ∀ b ∈ sf F H v x, F b = none ∧ Y.B b = none ∧ (Y.H0 b = none ∨ b ∈ Y.la) ∧ ∃ u, H b = some u
  | .fz d, _, b, hb => by
    unfold sf at hb
    split at hb <;> cases hb
  | .ow l o, q, b, hb => by
    obtain ⟨a, rfl, q, nd, n, r⟩ := q
    obtain ⟨h1, h2, h3, h4⟩ := n b hb
    obtain ⟨u, h5, _⟩ := foot_mut o a q b hb
    exact ⟨h1, h2, h4, u, h5⟩
  | .op c fs, q, b, hb => by
    obtain ⟨a, C, dx, vs, rfl, hi, hc, t, nd, n, r⟩ := q
    have hb' : b ∈ a :: footF F vs fs := by unfold sf at hb; simp only at hb; rw [hi] at hb; exact hb
    obtain ⟨h1, h2, h3⟩ := n b hb'
    refine ⟨h1, h2, h3, ?_⟩
    rcases List.mem_cons.mp hb' with rfl | hb'
    · exact ⟨_, hi⟩
    · obtain ⟨u, h5, _⟩ := footF_mut fs vs t b hb'; exact ⟨u, h5⟩
theorem SlAt.cl {v : V} {x : Sl} (q : SlAt K Y F H v x) {b : Addr} (hb : b ∈ sf F H v x) : H b ≠ none := by obtain ⟨_, _, _, u, e⟩ := q.cells b hb; rw [e]; simp
/-- a slot's value -/
theorem Rel.at_ (r : Rel K Y σ H g F) {i : Nat} {s : Sl} (e : g[i]? = some (some s)) {v : V} (hv : σ[i]? = some (some v)) : SlAt K Y F H v s := by
  obtain ⟨u, h1, h2⟩ := r.sl i s e
  rw [hv] at h1; cases h1; exact h2
theorem Rel.ow (r : Rel K Y σ H g F) (i : Nat) (l : Bool) (o : O) (e : g[i]? = some (some (.ow l o))) : ∃ a, σ[i]? = some (some (.ref a)) ∧ OwAt K F H a o := by
  obtain ⟨v, h1, a, rfl, h2, _⟩ := r.sl i _ e
  exact ⟨a, h1, h2⟩
theorem FsAt.get {f : Str} {o : O} : ∀ {fs : Fs} {vs : List (Str × V)}, FsAt K F H vs fs → fs.get f = some (.inr o) → ∃ b, vs.lookup f = some (.ref b) ∧ OwAt K F H b o ∧ ∀ c ∈ foot F b o, c ∈ footF F vs fs
  | .nil, _, _, e => by unfold Fs.get at e; cases e
  | .fz k d r, vs, q, e => by
    unfold FsAt at q
    obtain ⟨v, us, rfl, _, t⟩ := q
    unfold Fs.get at e
    cases h : f == k with
    | true => rw [h] at e; cases e
    | false =>
      rw [h] at e
      obtain ⟨b, h1, h2, h3⟩ := FsAt.get t e
      refine ⟨b, ?_, h2, fun c hc => by unfold footF; exact h3 c hc⟩
      rw [List.lookup_cons, h]; exact h1
  | .ow k o' r, vs, q, e => by
    unfold FsAt at q
    obtain ⟨b', us, rfl, q, t⟩ := q
    unfold Fs.get at e
    cases h : f == k with
    | true =>
      rw [h] at e
      cases e
      exact ⟨b', by rw [List.lookup_cons, h], q, fun c hc => by unfold footF; exact List.mem_append_left _ hc⟩
    | false =>
      rw [h] at e
      obtain ⟨b, h1, h2, h3⟩ := FsAt.get t e
      refine ⟨b, ?_, h2, fun c hc => by unfold footF; exact List.mem_append_right _ (h3 c hc)⟩
      rw [List.lookup_cons, h]; exact h1
theorem FsAt.getZ {f : Str} {d : D} : ∀ {fs : Fs} {vs : List (Str × V)}, FsAt K F H vs fs → fs.get f = some (.inl d) → ∃ v, vs.lookup f = some v ∧ Is K F v d
  | .nil, _, _, e => by unfold Fs.get at e; cases e
  | .fz k d' r, vs, q, e => by
    unfold FsAt at q
    obtain ⟨v, us, rfl, qd, t⟩ := q
    unfold Fs.get at e
    cases h : f == k with
    | true => rw [h] at e; cases e; exact ⟨v, by rw [List.lookup_cons, h], qd⟩
    | false =>
      rw [h] at e
      obtain ⟨b, h1, h2⟩ := FsAt.getZ t e
      exact ⟨b, by rw [List.lookup_cons, h]; exact h1, h2⟩
  | .ow k o' r, vs, q, e => by
    unfold FsAt at q
    obtain ⟨b', us, rfl, q, t⟩ := q
    unfold Fs.get at e
    cases h : f == k with
    | true => rw [h] at e; cases e
    | false =>
      rw [h] at e
      obtain ⟨b, h1, h2⟩ := FsAt.getZ t e
      exact ⟨b, by rw [List.lookup_cons, h]; exact h1, h2⟩
theorem FsAt.nodup {f : Str} {o : O} {b : Addr} : ∀ {fs : Fs} {vs : List (Str × V)}, FsAt K F H vs fs → (footF F vs fs).Nodup → fs.get f = some (.inr o) → vs.lookup f = some (.ref b) → (foot F b o).Nodup
  | .nil, _, _, _, e, _ => by unfold Fs.get at e; cases e
  | .fz k d r, vs, q, nd, e, el => by
    unfold FsAt at q
    obtain ⟨v, us, rfl, _, t⟩ := q
    unfold footF at nd
    unfold Fs.get at e
    cases h : f == k with
    | true => rw [h] at e; cases e
    | false =>
      rw [h] at e
      rw [List.lookup_cons, h] at el
      exact FsAt.nodup t nd e el
  | .ow k p r, vs, q, nd, e, el => by
    unfold FsAt at q
    obtain ⟨c, us, rfl, _, t⟩ := q
    unfold footF at nd
    obtain ⟨n1, n2, _⟩ := List.nodup_append.mp nd
    unfold Fs.get at e
    cases h : f == k with
    | true =>
      rw [h] at e; cases e
      rw [List.lookup_cons, h] at el
      cases el
      exact n1
    | false =>
      rw [h] at e
      rw [List.lookup_cons, h] at el
      exact FsAt.nodup t n2 e el
theorem footF_ow {F : Hp} {k k' : Str} {c : Addr} {p : O} {r : Fs} {us : List (Str × V)} : footF F ((k, V.ref c) :: us) (.ow k' p r) = foot F c p ++ footF F us r := by
  conv => lhs; unfold footF
  rfl
theorem put_fzN {k f : Str} {d : D} {r : Fs} {o : O} (h : (f == k) = false) : (Fs.fz k d r).put f o = .fz k d (r.put f o) := by
  show (if (f == k) = true then _ else _) = _
  rw [h]; exact if_neg Bool.false_ne_true
theorem put_owN {k f : Str} {p : O} {r : Fs} {o : O} (h : (f == k) = false) : (Fs.ow k p r).put f o = .ow k p (r.put f o) := by
  show (if (f == k) = true then _ else _) = _
  rw [h]; exact if_neg Bool.false_ne_true
theorem put_owY {k f : Str} {p : O} {r : Fs} {o : O} (h : (f == k) = true) : (Fs.ow k p r).put f o = .ow k o r := by
  show (if (f == k) = true then _ else _) = _
  rw [h]; exact if_pos rfl
/-- a field's object changes -/
theorem FsAt.put {f : Str} {o o' : O} {b : Addr} (sF : Same F F') (hb : OwAt K F' H' b o') (nd' : (foot F' b o').Nodup) (nf : ∀ x ∈ foot F' b o', x ∈ foot F b o ∨ H x = none) :
    ∀ {fs : Fs} {vs : List (Str × V)}, FsAt K F H vs fs → (footF F vs fs).Nodup → fs.get f = some (.inr o) → vs.lookup f = some (.ref b) → (∀ x ∈ footF F vs fs, x ∉ foot F b o → H' x = H x) →
      FsAt K F' H' vs (fs.put f o') ∧ (footF F' vs (fs.put f o')).Nodup ∧ ∀ x ∈ footF F' vs (fs.put f o'), (x ∈ footF F vs fs ∧ x ∉ foot F b o) ∨ x ∈ foot F' b o'
  | .nil, _, _, _, e, _, _ => by unfold Fs.get at e; cases e
  | .fz k d r, vs, q, nd, e, el, st => by
    unfold FsAt at q
    obtain ⟨v, us, rfl, qd, t⟩ := q
    unfold Fs.get at e
    cases h : f == k with
    | true => rw [h] at e; cases e
    | false =>
      rw [h] at e
      rw [List.lookup_cons, h] at el
      have nd0 : (footF F us r).Nodup := by unfold footF at nd; exact nd
      obtain ⟨h1, h2, h3⟩ := FsAt.put sF hb nd' nf t nd0 e el (fun x hx => st x (by unfold footF; exact hx))
      have ep := put_fzN (d := d) (r := r) (o := o') h
      rw [ep]
      refine ⟨?_, ?_, fun x hx => ?_⟩
      · unfold FsAt; exact ⟨v, us, rfl, Is.mono sF d v qd, h1⟩
      · unfold footF; exact h2
      · unfold footF at hx ⊢; exact h3 x hx
  | .ow k p r, vs, q, nd, e, el, st => by
    unfold FsAt at q
    obtain ⟨c, us, rfl, qc, t⟩ := q
    have ef : footF F ((k, V.ref c) :: us) (.ow k p r) = foot F c p ++ footF F us r := footF_ow
    rw [ef] at nd st
    obtain ⟨n1, n2, n3⟩ := List.nodup_append.mp nd
    unfold Fs.get at e
    cases h : f == k with
    | true =>
      rw [h] at e
      cases e
      rw [List.lookup_cons, h] at el
      cases el
      have ep := put_owY (p := o) (r := r) (o := o') h
      have out : ∀ x ∈ footF F us r, x ∉ foot F b o := fun x hx z => n3 x z x hx rfl
      have tm := FsAt.mono sF r us (H' := H') (fun x hx => st x (List.mem_append_right _ hx) (out x hx)) t
      have em := footF_mono sF r us t
      have ef' : footF F' ((k, V.ref b) :: us) (.ow k o' r) = foot F' b o' ++ footF F us r := by rw [← em]; exact footF_ow
      rw [ep, ef']
      refine ⟨?_, List.nodup_append.mpr ⟨nd', n2, fun x hx y hy z => ?_⟩, fun x hx => ?_⟩
      · unfold FsAt; exact ⟨b, us, rfl, hb, tm⟩
      · subst z
        rcases nf x hx with w | w
        · exact out x hy w
        · obtain ⟨u, hu, _⟩ := footF_mut r us t x hy; rw [w] at hu; cases hu
      · rcases List.mem_append.mp hx with hx | hx
        · exact .inr hx
        · exact .inl ⟨by rw [ef]; exact List.mem_append_right _ hx, out x hx⟩
    | false =>
      rw [h] at e
      rw [List.lookup_cons, h] at el
      obtain ⟨h1, h2, h3⟩ := FsAt.put sF hb nd' nf t n2 e el (fun x hx => st x (List.mem_append_right _ hx))
      have ep := put_owN (p := p) (r := r) (o := o') h
      obtain ⟨b', hl, _, hsub⟩ := t.get e
      have el : List.lookup f us = some (.ref b) := el
      rw [el] at hl; cases hl
      have out : ∀ x ∈ foot F c p, x ∉ foot F b o := fun x hx z => n3 x hx x (hsub x z) rfl
      have em := foot_mono sF p c qc
      have ef' : footF F' ((k, V.ref c) :: us) (.ow k p (r.put f o')) = foot F c p ++ footF F' us (r.put f o') := by rw [← em]; exact footF_ow
      rw [ep, ef']
      refine ⟨?_, List.nodup_append.mpr ⟨n1, h2, fun x hx y hy z => ?_⟩, fun x hx => ?_⟩
      · unfold FsAt; exact ⟨c, us, rfl, OwAt.mono sF p c (fun x hx => st x (List.mem_append_left _ hx) (out x hx)) qc, h1⟩
      · subst z
        rcases h3 x hy with w | w
        · exact n3 x hx x w.1 rfl
        · rcases nf x w with z | z
          · exact out x hx z
          · obtain ⟨u, hu, _⟩ := foot_mut p c qc x hx; rw [z] at hu; cases hu
      · rcases List.mem_append.mp hx with hx | hx
        · exact .inl ⟨by rw [ef]; exact List.mem_append_left _ hx, out x hx⟩
        · exact (h3 x hx).imp (fun w => ⟨by rw [ef]; exact List.mem_append_right _ w.1, w.2⟩) id
theorem Rel.fz (r : Rel K Y σ H g F) (i : Nat) (d : D) (e : g[i]? = some (some (.fz d))) : ∃ v, σ[i]? = some (some v) ∧ Is K F v d := r.sl i _ e
theorem Rel.own (r : Rel K Y σ H g F) {i : Nat} {l : Bool} {o : O} (e : g[i]? = some (some (.ow l o))) {v : V} (hv : σ[i]? = some (some v)) : ∃ a, v = .ref a ∧ OwAt K F H a o := by
  obtain ⟨a, h1, h2, _⟩ := r.at_ e hv
  exact ⟨a, h1, h2⟩
theorem none_of_dom (d : ∀ a, Y.H0 a ≠ none → H a ≠ none) {a : Addr} (h : H a = none) : Y.H0 a = none := by
  cases e : Y.H0 a with
  | none => rfl
  | some u => exact absurd h (d a (by rw [e]; simp))
/-- a step that keeps all that was tracked: new frozen things are new -/
structure Ext (F H F' H' : Hp) : Prop where
  hh : Same H H'
  ff : Same F F'
  fh : Same F' H'
  nw : ∀ a, F' a ≠ none → F a ≠ none ∨ H a = none
theorem Ext.refl (h : Same F H) : Ext F H F H := ⟨Same.refl _, Same.refl _, h, fun _ q => .inl q⟩
theorem Ext.none (x : Ext F H F' H') {a : Addr} (h1 : H a ≠ none) (h2 : F a = none) : F' a = none := by
  cases e : F' a with
  | none => rfl
  | some u => exact (x.nw a (by rw [e]; simp)).elim (fun q => absurd h2 q) (fun q => absurd q h1)
theorem Same.eq {H H' : Hp} (s : Same H H') {a : Addr} (h : H a ≠ none) : H' a = H a := by
  cases e : H a with
  | none => exact absurd e h
  | some u => exact s _ _ e
theorem Same.ne {H H' : Hp} (s : Same H H') {a : Addr} (h : H a ≠ none) : H' a ≠ none := by rw [Same.eq s h]; exact h
theorem Rel.ext (r : Rel K Y σ H g F) (x : Ext F H F' H') : Rel K Y σ H' g F' := by
  have st : ∀ (i : Nat) (s : Sl) (v : V), g[i]? = some (some s) → σ[i]? = some (some v) → SlAt K Y F' H' v s ∧ sf F' H' v s = sf F H v s := fun i s v e hv => by
    have q := r.at_ e hv
    exact q.mono x.ff fun b hb => ⟨Same.eq x.hh (q.cl hb), x.none (q.cl hb) (q.cells b hb).1⟩
  refine ⟨x.fh, r.base.trans x.ff, r.keep.trans x.hh, fun a h => Same.ne x.hh (r.dom a h), fun a h => ?_, r.lad, r.len, fun i s e => ?_, fun i j s s' v v' n e1 e2 h1 h2 b hb => ?_⟩
  · exact (x.nw a h).elim (r.fr a) fun q => .inr (.inl (none_of_dom r.dom q))
  · obtain ⟨v, h1, _⟩ := r.sl i s e
    exact ⟨v, h1, (st i s v e h1).1⟩
  · rw [(st i s v e1 h1).2] at hb
    rw [(st j s' v' e2 h2).2]
    exact r.inj i j s s' v v' n e1 e2 h1 h2 b hb
theorem upd_none {H : Hp} {a b : Addr} {o : HO} (h : upd H a o b = none) : b ≠ a ∧ H b = none := by
  by_cases e : b = a
  · subst e; rw [upd_same] at h; cases h
  · exact ⟨e, by rw [upd_ne e] at h; exact h⟩
theorem same_new {H : Hp} {p : Addr} {o : HO} (h : H p = none) : Same H (upd H p o) := fun b x e => by rw [upd_ne (ne_of_none e h)]; exact e
theorem get_set {g : G} {i j : Nat} {x y : Option Sl} (h : (g.set i x)[j]? = some y) : (j = i ∧ x = y) ∨ (j ≠ i ∧ g[j]? = some y) := by
  by_cases e : j = i
  · subst e
    by_cases l : j < g.length
    · rw [List.getElem?_set_self l] at h; exact .inl ⟨rfl, Option.some.inj h⟩
    · rw [List.getElem?_eq_none (by rw [List.length_set]; omega)] at h; cases h
  · rw [List.getElem?_set_ne (Ne.symm e)] at h; exact .inr ⟨e, h⟩
/-- the others, where one slot's object changes -/
theorem Rel.other (r : Rel K Y σ H g F) {i : Nat} {s : Sl} {v : V} (e : g[i]? = some (some s)) (hv : σ[i]? = some (some v)) (sH : ∀ b x, b ∉ sf F H v s → H b = some x → H' b = some x) (sF : Same F F')
    (nF : ∀ b, F' b ≠ none → F b ≠ none ∨ H b = none ∨ b ∈ sf F H v s) (j : Nat) (t : Sl) (u : V) (n : j ≠ i) (ej : g[j]? = some (some t)) (hu : σ[j]? = some (some u)) : SlAt K Y F' H' u t ∧ sf F' H' u t = sf F H u t := by
  have q := r.at_ ej hu
  refine q.mono sF fun b hb => ?_
  have hn : b ∉ sf F H v s := r.inj j i t s u v n ej e hu hv b hb
  obtain ⟨h1, _, _, x, hx⟩ := q.cells b hb
  refine ⟨by rw [sH b x hn hx, hx], ?_⟩
  cases e' : F' b with
  | none => rfl
  | some y =>
    rcases nF b (by rw [e']; simp) with z | z | z
    · exact absurd h1 z
    · rw [hx] at z; cases z
    · exact absurd z hn
/-- one slot's object changes, and things of no other slot come -/
theorem Rel.chgG (r : Rel K Y σ H g F) {i : Nat} {s s' : Sl} {v : V} (e : g[i]? = some (some s)) (hv : σ[i]? = some (some v)) (sH : ∀ b x, b ∉ sf F H v s → H b = some x → H' b = some x) (sF : Same F F') (sFH : Same F' H')
    (nF : ∀ b, F' b ≠ none → F b ≠ none ∨ H b = none ∨ b ∈ sf F H v s) (dm : ∀ b, H b ≠ none → H' b ≠ none) (new : SlAt K Y F' H' v s') (nf : ∀ b ∈ sf F' H' v s', b ∈ sf F H v s ∨ ∀ (j : Nat) (t : Sl) (u : V), j ≠ i → g[j]? = some (some t) → σ[j]? = some (some u) → b ∉ sf F H u t) : Rel K Y σ H' (g.set i (some s')) F' := by
  have own := r.at_ e hv
  have st := r.other e hv sH sF nF
  refine ⟨sFH, r.base.trans sF, fun b x hb => ?_, fun a h => dm a (r.dom a h), fun a h => ?_, r.lad, r.len.trans (List.length_set ..).symm, fun j t ej => ?_, fun j k t t' u u' n e1 e2 h1 h2 b hb => ?_⟩
  · refine sH b x (fun z => ?_) (r.keep _ _ hb)
    rw [(own.cells b z).2.1] at hb; cases hb
  · rcases nF a h with z | z | z
    · exact r.fr a z
    · exact .inr (.inl (none_of_dom r.dom z))
    · exact .inr (own.cells a z).2.2.1
  · rcases get_set ej with ⟨rfl, e'⟩ | ⟨n, e'⟩
    · rw [← Option.some.inj e']; exact ⟨v, hv, new⟩
    · obtain ⟨u, h1, _⟩ := r.sl j t e'
      exact ⟨u, h1, (st j t u n e' h1).1⟩
  · rcases get_set e1 with ⟨rfl, z1⟩ | ⟨n1, y1⟩
    · have z1 := Option.some.inj z1; subst z1
      rcases get_set e2 with ⟨rfl, e2⟩ | ⟨n2, y2⟩
      · exact absurd rfl n
      · rw [hv] at h1; cases h1
        rw [(st k t' u' n2 y2 h2).2]
        rcases nf b hb with z | z
        · exact r.inj j k s t' v u' n e y2 hv h2 b z
        · exact z k t' u' n2 y2 h2
    · rw [(st j t u n1 y1 h1).2] at hb
      rcases get_set e2 with ⟨rfl, z2⟩ | ⟨n2, y2⟩
      · have z2 := Option.some.inj z2; subst z2
        rw [hv] at h2; cases h2
        intro q
        rcases nf b q with z | z
        · exact r.inj j k t s u v n y1 e h1 hv b hb z
        · exact z j t u n1 y1 h1 hb
      · rw [(st k t' u' n2 y2 h2).2]
        exact r.inj j k t t' u u' n y1 y2 h1 h2 b hb
/-- one slot's object changes, and new things come -/
theorem Rel.chg (r : Rel K Y σ H g F) {i : Nat} {s s' : Sl} {v : V} (e : g[i]? = some (some s)) (hv : σ[i]? = some (some v)) (sH : ∀ b x, b ∉ sf F H v s → H b = some x → H' b = some x) (sF : Same F F') (sFH : Same F' H')
    (nF : ∀ b, F' b ≠ none → F b ≠ none ∨ H b = none ∨ b ∈ sf F H v s) (dm : ∀ b, H b ≠ none → H' b ≠ none) (new : SlAt K Y F' H' v s') (nf : ∀ b ∈ sf F' H' v s', b ∈ sf F H v s ∨ H b = none) : Rel K Y σ H' (g.set i (some s')) F' :=
  r.chgG e hv sH sF sFH nF dm new fun b hb => (nf b hb).imp id fun z j t u _ ej hu q => (r.at_ ej hu).cl q z
/-- fewer slots -/
theorem Rel.mask (r : Rel K Y σ H g F) {g' : G} {σ' : St} (hl : σ'.length = g'.length) (h : ∀ (j : Nat) (s : Sl), g'[j]? = some (some s) → g[j]? = some (some s) ∧ σ'[j]? = σ[j]?) : Rel K Y σ' H g' F :=
  ⟨r.sub, r.base, r.keep, r.dom, r.fr, r.lad, hl, fun i s e => by
    obtain ⟨h1, h2⟩ := h i s e
    rw [h2]; exact r.sl i s h1, fun i j s s' v v' n e1 e2 h1 h2 => by
    obtain ⟨k1, k2⟩ := h i s e1
    obtain ⟨k3, k4⟩ := h j s' e2
    rw [k2] at h1; rw [k4] at h2
    exact r.inj i j s s' v v' n k1 k3 h1 h2⟩
/-- a slot of new things -/
theorem Rel.putS (r : Rel K Y σ H g F) {i : Nat} {s : Sl} {v : V} (q : SlAt K Y F H v s) (hd : ∀ b ∈ sf F H v s, ∀ (j : Nat) (t : Sl) (u : V), j ≠ i → g[j]? = some (some t) → σ[j]? = some (some u) → b ∉ sf F H u t) : Rel K Y (σ.set i (some v)) H (g.set i (some s)) F := by
  have li : ∀ {j : Nat} {x : Sl}, (g.set i (some s))[j]? = some (some x) → (j = i ∧ s = x ∧ (σ.set i (some v))[j]? = some (some v)) ∨ (j ≠ i ∧ g[j]? = some (some x) ∧ (σ.set i (some v))[j]? = σ[j]?) := by
    intro j x ej
    rcases get_set ej with ⟨rfl, e'⟩ | ⟨n, e'⟩
    · have hlt : j < g.length := by
        have := (List.getElem?_eq_some_iff.mp ej).1
        rw [List.length_set] at this; exact this
      exact .inl ⟨rfl, Option.some.inj e', List.getElem?_set_self (by rw [r.len]; exact hlt)⟩
    · exact .inr ⟨n, e', List.getElem?_set_ne (Ne.symm n)⟩
  refine ⟨r.sub, r.base, r.keep, r.dom, r.fr, r.lad, by rw [List.length_set, List.length_set]; exact r.len, fun j x ej => ?_, fun j m x x' u u' n e1 e2 h1 h2 b hb => ?_⟩
  · rcases li ej with ⟨rfl, es, hs⟩ | ⟨n, e', hs⟩
    · subst es; exact ⟨v, hs, q⟩
    · rw [hs]; exact r.sl j x e'
  · rcases li e1 with ⟨rfl, es1, hs1⟩ | ⟨n1, e1', hs1⟩
    · subst es1
      rw [hs1] at h1; cases h1
      rcases li e2 with ⟨rfl, es2, hs2⟩ | ⟨n2, e2', hs2⟩
      · exact absurd rfl n
      · rw [hs2] at h2
        exact hd b hb m x' u' n2 e2' h2
    · rw [hs1] at h1
      rcases li e2 with ⟨rfl, es2, hs2⟩ | ⟨n2, e2', hs2⟩
      · subst es2
        rw [hs2] at h2; cases h2
        exact fun z => hd b z j x u n1 e1' h1 hb
      · rw [hs2] at h2
        exact r.inj j m x x' u u' n e1' e2' h1 h2 b hb
/-- cells are frozen -/
def frzF (F H : Hp) (L : List Addr) : Hp := fun b => if b ∈ L then H b else F b
theorem frzF_in {L : List Addr} {b : Addr} (h : b ∈ L) : frzF F H L b = H b := if_pos h
theorem frzF_out {L : List Addr} {b : Addr} (h : b ∉ L) : frzF F H L b = F b := if_neg h
theorem frzF_same {L : List Addr} (h : ∀ b ∈ L, F b = none) : Same F (frzF F H L) := fun b x e => by
  rw [frzF_out (fun z => by rw [h b z] at e; cases e)]; exact e
theorem frzF_sub {L : List Addr} (s : Same F H) : Same (frzF F H L) H := fun b x e => by
  by_cases z : b ∈ L
  · rw [frzF_in z] at e; exact e
  · rw [frzF_out z] at e; exact s _ _ e
theorem sf_fz {v : V} {d : D} : sf F H v (.fz d) = [] := by unfold sf; cases v <;> rfl
theorem Rel.freezeSlot (r : Rel K Y σ H g F) {i : Nat} {o : O} (e : g[i]? = some (some (.ow false o))) {v : V} (hv : σ[i]? = some (some v)) :
    ∃ F', Rel K Y σ H (g.set i (some (.fz o.d))) F' ∧ Same F F' ∧ Is K F' v o.d := by
  obtain ⟨a, rfl, q, nd, n, _⟩ := r.at_ e hv
  have s : Same F (frzF F H (foot F a o)) := frzF_same fun b hb => (n b hb).1
  have q' : Is K (frzF F H (foot F a o)) (.ref a) o.d := OwAt.freeze s o a (fun b hb => frzF_in hb) q
  refine ⟨_, r.chg e hv (fun _ _ _ h => h) s (frzF_sub r.sub) (fun b hb => ?_) (fun _ h => h) q' (fun b hb => ?_), s, q'⟩
  · by_cases z : b ∈ foot F a o
    · exact .inr (.inr z)
    · rw [frzF_out z] at hb; exact .inl hb
  · rw [sf_fz] at hb; cases hb
theorem Rel.freezeTmp (r : Rel K Y σ H g F) {o : O} {v : V} (hv : RV K Y σ F H g v (.ow o)) : ∃ F', Rel K Y σ H g F' ∧ Same F F' ∧ Is K F' v o.d := by
  obtain ⟨a, rfl, q, nd, n⟩ := hv
  have s : Same F (frzF F H (foot F a o)) := frzF_same fun b hb => (n b hb).1
  have q' : Is K (frzF F H (foot F a o)) (.ref a) o.d := OwAt.freeze s o a (fun b hb => frzF_in hb) q
  have st : ∀ (i : Nat) (x : Sl) (u : V), g[i]? = some (some x) → σ[i]? = some (some u) → SlAt K Y (frzF F H (foot F a o)) H u x ∧ sf (frzF F H (foot F a o)) H u x = sf F H u x := fun i x u e hu => by
    have q := r.at_ e hu
    refine q.mono s fun b hb => ⟨rfl, ?_⟩
    rw [frzF_out fun z => (n b z).2.2.2 i x u e hu hb]; exact (q.cells b hb).1
  refine ⟨_, ⟨frzF_sub r.sub, r.base.trans s, r.keep, r.dom, fun b hb => ?_, r.lad, r.len, fun i x e => ?_, fun i j x x' u u' ne e1 e2 h1 h2 b hb => ?_⟩, s, q'⟩
  · by_cases z : b ∈ foot F a o
    · exact .inr (.inl (n b z).2.2.1)
    · rw [frzF_out z] at hb; exact r.fr b hb
  · obtain ⟨u, h1, _⟩ := r.sl i x e
    exact ⟨u, h1, (st i x u e h1).1⟩
  · rw [(st i x u e1 h1).2] at hb
    rw [(st j x' u' e2 h2).2]
    exact r.inj i j x x' u u' ne e1 e2 h1 h2 b hb
/-- the cell of a slot's own leaf changes -/
theorem Rel.mut {i : Nat} {l : Bool} {o o' : O} {a : Addr} {u : HO} (r : Rel K Y σ H g F) (e : g[i]? = some (some (.ow l o))) (hv : σ[i]? = some (some (.ref a))) (lf : o.leaf = true) (lf' : o'.leaf = true) (q : OwAt K F (upd H a u) a o') :
    Rel K Y σ (upd H a u) (g.set i (some (.ow l o'))) F := by
  obtain ⟨a', ea, q0, nd, n, lr⟩ := r.at_ e hv
  cases ea
  have es : sf F H (.ref a) (.ow l o) = [a] := foot_leaf lf
  have ef : foot F a o = [a] := foot_leaf lf
  have ef' : foot F a o' = [a] := foot_leaf lf'
  obtain ⟨n1, n2, n3, n4⟩ := n a (by rw [ef]; simp)
  refine r.chg e hv (fun b x hb hx => ?_) (Same.refl _) (fun b x hb => ?_) (fun b hb => .inl hb) (fun b hb => ?_) ⟨a, rfl, q, by rw [ef']; simp, fun b hb => ?_, lr⟩ (fun b hb => .inl ?_)
  · rw [es, List.mem_singleton] at hb; rw [upd_ne hb]; exact hx
  · rw [upd_ne (fun z => by subst z; rw [n1] at hb; cases hb)]; exact r.sub _ _ hb
  · by_cases z : b = a
    · subst z; rw [upd_same]; simp
    · rw [upd_ne z]; exact hb
  · rw [ef', List.mem_singleton] at hb; subst hb; exact ⟨n1, n2, n3, n4⟩
  · rw [es]; have hb : b ∈ foot F a o' := hb; rw [ef'] at hb; exact hb
/-- what stands in a field of an own instance -/
theorem Rel.subAt {i : Nat} {l : Bool} {c f : Str} {fs : Fs} {o : O} {v : V} (r : Rel K Y σ H g F) (e : g[i]? = some (some (.ow l (.ob c fs)))) (hv : RV K Y σ F H g v (.sub i f)) (eo : fs.get f = some (.inr o)) :
    ∃ a C dx vs b, σ[i]? = some (some (.ref a)) ∧ v = .ref b ∧ F a = some (.ins C dx vs) ∧ vs.lookup f = some (.ref b) ∧ OwAt K F H b o ∧ (∀ x ∈ foot F b o, x ∈ footF F vs fs) ∧ FsAt K F H vs fs ∧ foot F a (.ob c fs) = footF F vs fs := by
  obtain ⟨a, C, dx, vs, k1, k2, k3⟩ := hv
  obtain ⟨a', e', q⟩ := r.own e k1
  cases e'
  unfold OwAt at q
  obtain ⟨C', dx', vs', e1, _, t⟩ := q
  rw [k2] at e1; cases e1
  obtain ⟨b, h1, h2, h3⟩ := t.get eo
  rw [k3] at h1; cases h1
  exact ⟨a, C, dx, vs, b, k1, rfl, k2, k3, h2, h3, t, by unfold foot; rw [k2]⟩
/-- .. changes -/
theorem Rel.putSub {i : Nat} {l : Bool} {c f : Str} {fs : Fs} {o o' : O} {b : Addr} (r : Rel K Y σ H g F) (e : g[i]? = some (some (.ow l (.ob c fs)))) (hv : RV K Y σ F H g (.ref b) (.sub i f)) (eo : fs.get f = some (.inr o))
    (sF : Same F F') (sFH : Same F' H') (sH : ∀ x y, x ∉ foot F b o → H x = some y → H' x = some y) (nF : ∀ x, F' x ≠ none → F x ≠ none ∨ H x = none ∨ x ∈ foot F b o) (dm : ∀ x, H x ≠ none → H' x ≠ none)
    (q : OwAt K F' H' b o') (nd : (foot F' b o').Nodup) (nf : ∀ x ∈ foot F' b o', F' x = none ∧ (x ∈ foot F b o ∨ H x = none)) : Rel K Y σ H' (g.set i (some (.ow l (.ob c (fs.put f o'))))) F' := by
  obtain ⟨a, C, dx, vs, b', k1, eb, k2, k3, k4, k5, t, ef⟩ := r.subAt e hv eo
  cases eb
  obtain ⟨a', ea, q0, nd0, n, lr⟩ := r.at_ e k1
  cases ea
  rw [ef] at nd0 n
  have es : sf F H (.ref a) (.ow l (.ob c fs)) = footF F vs fs := ef
  unfold OwAt at q0
  obtain ⟨C', dx', vs', e1, hc, _⟩ := q0
  rw [k2] at e1; cases e1
  obtain ⟨p1, p2, p3⟩ := t.put (H' := H') sF q nd (fun x hx => (nf x hx).2) nd0 eo k3 (fun x hx hn => by
    obtain ⟨u, hu, _⟩ := footF_mut fs vs t x hx
    rw [hu]; exact sH x u hn hu)
  have ef' : foot F' a (.ob c (fs.put f o')) = footF F' vs (fs.put f o') := by unfold foot; rw [sF _ _ k2]
  refine r.chg e k1 (fun x y hx hy => sH x y (fun z => hx (by rw [es]; exact k5 x z)) hy) sF sFH (fun x hx => (nF x hx).imp id fun z => z.imp id fun z => by rw [es]; exact k5 x z) dm ⟨a, rfl, ?_, by rw [ef']; exact p2, fun x hx => ?_, lr⟩ (fun x hx => ?_)
  · unfold OwAt; exact ⟨C, dx, vs, sF _ _ k2, hc, p1⟩
  · rw [ef'] at hx
    rcases p3 x hx with ⟨w, wn⟩ | w
    · obtain ⟨n1, n2, n3, n4⟩ := n x w
      refine ⟨?_, n2, n3, n4⟩
      cases e' : F' x with
      | none => rfl
      | some y =>
        rcases nF x (by rw [e']; simp) with z | z | z
        · exact absurd n1 z
        · obtain ⟨u, hu, _⟩ := footF_mut fs vs t x w; rw [z] at hu; cases hu
        · exact absurd z wn
    · obtain ⟨m1, m2⟩ := nf x w
      rcases m2 with z | z
      · obtain ⟨n1, n2, n3, n4⟩ := n x (k5 x z)
        exact ⟨m1, n2, n3, n4⟩
      · refine ⟨m1, ?_, fun _ => none_of_dom r.dom z, .inl (none_of_dom r.dom z)⟩
        cases e' : Y.B x with
        | none => rfl
        | some y => rw [r.keep _ _ e'] at z; cases z
  · have hx : x ∈ foot F' a (.ob c (fs.put f o')) := hx
    rw [ef'] at hx
    rw [es]
    rcases p3 x hx with ⟨w, _⟩ | w
    · exact .inl w
    · exact (nf x w).2.imp (k5 x) id
/-- .. a leaf's cell -/
theorem Rel.mutSub {i : Nat} {l : Bool} {c f : Str} {fs : Fs} {o o' : O} {b : Addr} {u : HO} (r : Rel K Y σ H g F) (e : g[i]? = some (some (.ow l (.ob c fs)))) (hv : RV K Y σ F H g (.ref b) (.sub i f)) (eo : fs.get f = some (.inr o)) (lf : o.leaf = true) (lf' : o'.leaf = true)
    (q : OwAt K F (upd H b u) b o') : Rel K Y σ (upd H b u) (g.set i (some (.ow l (.ob c (fs.put f o'))))) F := by
  obtain ⟨a, C, dx, vs, b', k1, eb, k2, k3, k4, k5, t, ef⟩ := r.subAt e hv eo
  cases eb
  have ef1 : foot F b o = [b] := foot_leaf lf
  have ef2 : foot F b o' = [b] := foot_leaf lf'
  have n1 : F b = none := ((r.at_ e k1).cells b (show b ∈ foot F a (.ob c fs) by rw [ef]; exact k5 b (by rw [ef1]; simp))).1
  refine r.putSub e hv eo (Same.refl _) (fun x y hx => ?_) (fun x y hx hy => ?_) (fun x hx => .inl hx) (fun x hx => ?_) q (by rw [ef2]; simp) (fun x hx => ?_)
  · rw [upd_ne (fun z => by subst z; rw [n1] at hx; cases hx)]; exact r.sub _ _ hx
  · rw [ef1, List.mem_singleton] at hx; rw [upd_ne hx]; exact hy
  · by_cases z : x = b
    · subst z; rw [upd_same]; simp
    · rw [upd_ne z]; exact hx
  · rw [ef2, List.mem_singleton] at hx; subst hx; exact ⟨n1, .inl (by rw [ef1]; simp)⟩
end

/-! ### freezing on the way -/
/-- an owned new object is frozen -/
def pkR : R → M R := fun r g => match r with
  | .ow o => .ok (.fz o.d) g
  | r => .ok r g
def pk (f : M R) : M R := mb f pkR
/-- .. a slot's object too -/
def escR : R → M R := fun r g => match r with
  | .ow o => .ok (.fz o.d) g
  | .fz d => .ok (.fz d) g
  | .at i => match g[i]? with
    | some (some (.ow false o)) => .ok (.fz o.d) (g.set i (some (.fz o.d)))
    | some (some (.fz d)) => .ok (.fz d) g
    | _ => .bad
  | .sub _ _ => .bad
def esc (f : M R) : M R := mb f escR
theorem Post.pkR {K : KW} {Y : Ent} {W : WX} {σ : St} {H F : Hp} {Q : VK} {r : R} {g : G} {v : V} (h : Post K Y W σ F (JV K Y σ Q) (pkR r g)) (rl : Rel K Y σ H g F) (hv : RV K Y σ F H g v r) : Q v H := by
  cases r with
  | fz d => exact h H F rl (Same.refl _) v hv
  | «at» i => exact h H F rl (Same.refl _) v hv
  | sub i f => exact h H F rl (Same.refl _) v hv
  | ow o =>
    obtain ⟨F', r', s', q⟩ := rl.freezeTmp hv
    exact h H F' r' s' v q
theorem Post.escR {K : KW} {Y : Ent} {W : WX} {σ : St} {H F : Hp} {Q : VK} {r : R} {g : G} {v : V} (h : Post K Y W σ F (JV K Y σ Q) (escR r g)) (rl : Rel K Y σ H g F) (hv : RV K Y σ F H g v r) : Q v H := by
  cases r with
  | fz d => exact h H F rl (Same.refl _) v hv
  | sub i f => exact h.elim
  | ow o =>
    obtain ⟨F', r', s', q⟩ := rl.freezeTmp hv
    exact h H F' r' s' v q
  | «at» i =>
    unfold DL.escR at h
    simp only at h
    split at h
    · rename_i o e
      obtain ⟨F', r', s', q⟩ := rl.freezeSlot e hv
      exact h H F' r' s' v q
    · rename_i d e
      obtain ⟨u, h1, h2⟩ := rl.fz i d e
      rw [show σ[i]? = some (some v) from hv] at h1
      cases h1
      exact h H F rl (Same.refl _) v h2
    · exact h.elim
theorem de_pk {X : Cx} {Y : Ent} {W : WX} {e : Expr} {f : M R} (h : DE X Y W e f) : DE X Y W e (pk f) :=
  pe_mono h fun σ H Q ⟨g, F, r, p⟩ => ⟨g, F, r, p.bind.imp fun a g' H' F' r' s' q v hv => q.pkR r' hv⟩
theorem de_esc {X : Cx} {Y : Ent} {W : WX} {e : Expr} {f : M R} (h : DE X Y W e f) : DE X Y W e (esc f) :=
  pe_mono h fun σ H Q ⟨g, F, r, p⟩ => ⟨g, F, r, p.bind.imp fun a g' H' F' r' s' q v hv => q.escR r' hv⟩
end DL

namespace DL
open PySem PySem.Spec L2

/-! ### contents and results -/
def cont (g : G) : R → Option D
  | .fz d => some d
  | .at i => match g[i]? with
    | some (some (.ow _ o)) => some o.d
    | some (some (.fz d)) => some d
    | _ => none
  | .sub i f => match g[i]? with
    | some (some (.ow _ (.ob _ fs))) => (match fs.get f with
      | some (.inr o) => some o.d
      | _ => none)
    | _ => none
  | .ow _ => none
/-- the value v holds d now -/
def CV (K : KW) (F H : Hp) (v : V) (d : D) : Prop := Is K F v d ∨ ∃ a o, v = .ref a ∧ OwAt K F H a o ∧ o.d = d
def CVs (K : KW) (F H : Hp) : List V → List D → Prop
  | vs, [] => vs = []
  | vs, d :: ds => ∃ v us, vs = v :: us ∧ CV K F H v d ∧ CVs K F H us ds
def RP (K : KW) (F H : Hp) (Q : VK) : R → Prop
  | .fz d => ∀ v H' F', Ext F H F' H' → Is K F' v d → Q v H'
  | .ow o => ∀ a H' F', Ext F H F' H' → OwAt K F' H' a o → (foot F' a o).Nodup → (∀ b ∈ foot F' a o, F' b = none ∧ H b = none) → Q (.ref a) H'
  | .at _ => False
  | .sub _ _ => False
section
variable {K : KW} {Y : Ent} {σ : St} {H F F' : Hp} {g : G} {W : WX} {Q : VK}
theorem Rel.cv (r : Rel K Y σ H g F) {v : V} {x : R} {d : D} (hv : RV K Y σ F H g v x) (h : cont g x = some d) : CV K F H v d := by
  cases x with
  | fz e => exact .inl (by rw [show e = d from Option.some.inj h] at hv; exact hv)
  | ow o => cases h
  | «at» i =>
    unfold cont at h
    simp only at h
    split at h
    · rename_i l o e
      obtain ⟨a, rfl, q⟩ := r.own e hv
      exact .inr ⟨a, o, rfl, q, Option.some.inj h⟩
    · rename_i e' e
      obtain ⟨u, h1, h2⟩ := r.fz i e' e
      rw [show σ[i]? = some (some v) from hv] at h1
      cases h1
      exact .inl (by rw [← Option.some.inj h]; exact h2)
    · cases h
  | sub i f =>
    unfold cont at h
    simp only at h
    split at h
    · rename_i l c fs e
      split at h
      · rename_i o eo
        obtain ⟨a, C, dx, vs, k1, k2, k3⟩ := hv
        obtain ⟨a', e', q⟩ := r.own e k1
        cases e'
        unfold OwAt at q
        obtain ⟨C', dx', vs', e1, _, t⟩ := q
        rw [k2] at e1; cases e1
        obtain ⟨b, h1, h2, _⟩ := t.get eo
        rw [k3] at h1; cases h1
        exact .inr ⟨b, o, rfl, h2, Option.some.inj h⟩
      · cases h
    · cases h
theorem RV.keep {H' : Hp} {g' : G} {v : V} {x : R} (s : Same F F') (h : RV K Y σ F H g v x) (hc : ∀ o, x ≠ .ow o) : RV K Y σ F' H' g' v x := by
  cases x with
  | fz e => exact Is.mono s _ _ h
  | «at» i => exact h
  | sub i f => obtain ⟨a, C, dx, vs, h1, h2, h3⟩ := h; exact ⟨a, C, dx, vs, h1, s _ _ h2, h3⟩
  | ow o => exact absurd rfl (hc o)
theorem cont_ne {x : R} {d : D} (h : cont g x = some d) : ∀ o, x ≠ .ow o := fun o e => by subst e; cases h
theorem Post.rp {r : R} (hr : (match r with | .at _ => False | .sub _ _ => False | _ => True)) (rl : Rel K Y σ H g F) (p : ∀ H' F', Rel K Y σ H' g F' → Same F F' → JV K Y σ Q r g H' F') : RP K F H Q r := by
  cases r with
  | fz d => exact fun v H' F' x q => p H' F' (rl.ext x) x.ff v q
  | «at» i => exact hr.elim
  | sub i f => exact hr.elim
  | ow o =>
    refine fun a H' F' x q nd h1 => p H' F' (rl.ext x) x.ff (.ref a) ⟨a, rfl, q, nd, fun b hb => ?_⟩
    obtain ⟨h2, h3⟩ := h1 b hb
    refine ⟨h2, ?_, none_of_dom rl.dom h3, fun i s u e hu z => ?_⟩
    · cases e : Y.B b with
      | none => rfl
      | some u => rw [rl.keep _ _ e] at h3; cases h3
    · have q := rl.at_ e hu
      rw [(q.mono x.ff fun c hc => ⟨Same.eq x.hh (q.cl hc), x.none (q.cl hc) (q.cells c hc).1⟩).2] at z
      exact q.cl z h3
theorem RP.now {v : V} {d : D} (s : Same F H) (h : RP K F H Q (.fz d)) (q : Is K F v d) : Q v H := h v H F (Ext.refl s) q
theorem none_of_same {a : Addr} (s : Same F H) (h : H a = none) : F a = none := by
  cases e : F a with
  | none => rfl
  | some u => rw [s _ _ e] at h; cases h
theorem ext_tup {p : Addr} {vs : List V} (s : Same F H) (hp : H p = none) : Ext F H (upd F p (.tup vs)) (upd H p (.tup vs)) :=
  ⟨same_new hp, same_new (none_of_same s hp), fun b o e => by
    by_cases q : b = p
    · subst q; rw [upd_same] at e ⊢; exact e
    · rw [upd_ne q] at e ⊢; exact s _ _ e, fun a h => by
    by_cases q : a = p
    · subst q; exact .inr hp
    · rw [upd_ne q] at h; exact .inl h⟩
theorem RP.tup {p : Addr} {vs : List V} {ds : List D} (s : Same F H) (h : RP K F H Q (.fz (.tup ds))) (q : IsL K F vs ds) (hz : ds.length ≤ sizeLine) (hp : H p = none) : Q (.ref p) (upd H p (.tup vs)) :=
  h (.ref p) _ _ (ext_tup s hp) ⟨p, vs, rfl, SqT.of upd_same, hz, IsL.mono (same_new (none_of_same s hp)) _ _ q⟩
theorem ext_own {p : Addr} {u : HO} (s : Same F H) (hp : H p = none) : Ext F H F (upd H p u) :=
  ⟨same_new hp, Same.refl _, s.trans (same_new hp), fun a h => .inl h⟩
theorem RP.ls {p : Addr} {vs : List V} {ds : List D} (s : Same F H) (h : RP K F H Q (.ow (.ls ds))) (q : IsL K F vs ds) (hz : ds.length ≤ sizeLine) (hp : H p = none) : Q (.ref p) (upd H p (.lst vs)) :=
  h p _ _ (ext_own s hp) ⟨vs, upd_same, hz, q⟩ (by rw [foot_ls]; simp) (fun b hb => by rw [foot_ls, List.mem_singleton] at hb; subst hb; exact ⟨none_of_same s hp, hp⟩)
/-! inversions -/
theorem CV.int {v : V} {i : Int} (h : CV K F H v (.int i)) : v = .int i := by
  rcases h with h | ⟨a, o, _, _, e⟩
  · exact h
  · cases o <;> cases e
theorem CV.bl {v : V} {i : Bool} (h : CV K F H v (.bl i)) : v = .bl i := by
  rcases h with h | ⟨a, o, _, _, e⟩
  · exact h
  · cases o <;> cases e
theorem CV.non {v : V} (h : CV K F H v .non) : v = .non := by
  rcases h with h | ⟨a, o, _, _, e⟩
  · exact h
  · cases o <;> cases e
theorem CV.str {v : V} {z : Str} (h : CV K F H v (.str z)) : v = .str z ∧ z.length ≤ sizeLine := by
  rcases h with h | ⟨a, o, _, _, e⟩
  · exact h
  · cases o <;> cases e
theorem CV.tup {v : V} {ds : List D} (h : CV K F H v (.tup ds)) : ∃ a vs, v = .ref a ∧ SqT K F a vs ∧ ds.length ≤ sizeLine ∧ IsL K F vs ds := by
  rcases h with h | ⟨a, o, _, _, e⟩
  · exact h
  · cases o <;> cases e
theorem CV.scr {v : V} {ns : List Int} (h : CV K F H v (.scr ns)) : ∃ a, v = .ref a ∧ SqL K F a (ns.map V.int) ∧ ns.length ≤ sizeLine := by
  rcases h with h | ⟨a, o, _, _, e⟩
  · exact h
  · cases o <;> cases e
theorem CV.lst {v : V} {ds : List D} (s : Same F H) (h : CV K F H v (.lst ds)) : ∃ a vs, v = .ref a ∧ H a = some (.lst vs) ∧ ds.length ≤ sizeLine ∧ IsL K F vs ds := by
  rcases h with h | ⟨a, o, e1, q, e⟩
  · obtain ⟨a, vs, e, q, z, t⟩ := h
    exact ⟨a, vs, e, s _ _ q, z, t⟩
  · cases o with
    | ls xs => cases e; obtain ⟨vs, h1, h2, h3⟩ := q; exact ⟨a, vs, e1, h1, h2, h3⟩
    | dk xs => cases e
    | dt xs => cases e
    | dd xs => cases e
    | ob c fs => cases e
theorem CVs.one {vs : List V} {d : D} (h : CVs K F H vs [d]) : ∃ v, vs = [v] ∧ CV K F H v d := by
  obtain ⟨v, us, rfl, q, e⟩ := h
  exact ⟨v, by rw [show us = [] from e], q⟩
theorem CVs.two {vs : List V} {d e : D} (h : CVs K F H vs [d, e]) : ∃ v u, vs = [v, u] ∧ CV K F H v d ∧ CV K F H u e := by
  obtain ⟨v, us, rfl, q, t⟩ := h
  obtain ⟨u, rfl, q2⟩ := CVs.one t
  exact ⟨v, u, rfl, q, q2⟩
end

/-! ### names, constants -/
def eVar (i : Nat) : M R := fun g => match g[i]? with
  | some (some (.fz d)) => .ok (.fz d) g
  | some (some (.ow _ _)) => .ok (.at i) g
  | some (some (.op _ _)) => .ok (.at i) g
  | _ => .bad
def eC (d : D) : M R := fun g => .ok (.fz d) g
section
variable {X : Cx} {Y : Ent} {W : WX} {pos : Pos}
theorem de_var {i : Nat} {x : Str} (hN : X.N[i]? = some x := by rfl) (hv : Vis X.env.scope x := by first | exact Or.inl rfl | exact Or.inr (Or.inl rfl) | exact Or.inr (Or.inr rfl))
    (hd : (x == ("__debug__" : Str)) = false := by decide) (hcd : (x == ("__classdict__" : Str)) = false := by decide) : DE X Y W (.Name x pos) (eVar i) := by
  refine pe_mono (pe_var hN hv hd hcd) fun σ H Q ⟨g, F, r, p⟩ => ?_
  unfold eVar at p
  split at p
  · rename_i d e
    obtain ⟨v, h1, h2⟩ := r.fz i d e
    exact ⟨v, h1, p H F r (Same.refl _) v h2⟩
  · rename_i l o e
    obtain ⟨a, h1, h2⟩ := r.ow i l o e
    exact ⟨_, h1, p H F r (Same.refl _) _ h1⟩
  · rename_i c fs e
    obtain ⟨v, h1, _⟩ := r.sl i _ e
    exact ⟨_, h1, p H F r (Same.refl _) _ h1⟩
  · exact p.elim
theorem de_const {e : Expr} {v : V} {d : D} (h : PE X e (tC v)) (q : ∀ F, Is X.kw F v d) : DE X Y W e (eC d) :=
  pe_mono h fun σ H Q ⟨g, F, r, p⟩ => p H F r (Same.refl _) v (q F)
theorem de_int {i : Int} {j : Nat} : DE X Y W (.Constant (.int i) j pos) (eC (.int i)) := de_const pe_int fun _ => rfl
theorem de_bl {b : Bool} {j : Nat} : DE X Y W (.Constant (.bool b) j pos) (eC (.bl b)) := de_const pe_bl fun _ => rfl
theorem de_non {j : Nat} : DE X Y W (.Constant .none j pos) (eC .non) := de_const pe_non fun _ => rfl
theorem de_str {x : Str} {j : Nat} (h : x.length ≤ sizeLine := by decide) : DE X Y W (.Constant (.str x) j pos) (eC (.str x)) := de_const pe_str fun _ => ⟨rfl, h⟩
/-- a constant of the module -/
theorem de_glob {x : Str} {v : V} {u : Value} {d : D} (hg : Gl X x) (hm : X.mg x = some u) (r : RelV v u) (q : ∀ F, Is X.kw F v d) (hd : (x == ("__debug__" : Str)) = false := by decide) : DE X Y W (.Name x pos) (eC d) :=
  de_const (pe_glob hg hm r hd) q

/-! ### operators -/
def OpD (X : Cx) (f : Value → Value → Sem Value) (op : D → D → Option R) : Prop :=
  OpR X f fun x y H Q => ∃ F a b r, Same F H ∧ CV X.kw F H x a ∧ CV X.kw F H y b ∧ op a b = some r ∧ RP X.kw F H Q r
def done : Option R → M R := fun o g => match o with
  | some (.fz d) => .ok (.fz d) g
  | some (.ow o) => .ok (.ow o) g
  | _ => .bad
theorem Post.done {K : KW} {σ : St} {H F : Hp} {Q : VK} {g : G} {o : Option R} (h : Post K Y W σ F (JV K Y σ Q) (done o g)) (rl : Rel K Y σ H g F) : ∃ r, o = some r ∧ RP K F H Q r := by
  unfold DL.done at h
  split at h
  · exact ⟨_, rfl, Post.rp trivial rl h⟩
  · exact ⟨_, rfl, Post.rp trivial rl h⟩
  · exact h.elim
def op2 (op : D → D → Option R) (x y : R) : M R := fun g => match cont g x, cont g y with
  | some a, some b => done (op a b) g
  | _, _ => .bad
theorem Post.op2 {K : KW} {σ : St} {H F : Hp} {Q : VK} {g : G} {op : D → D → Option R} {x y : R} (h : Post K Y W σ F (JV K Y σ Q) (op2 op x y g)) (rl : Rel K Y σ H g F) :
    ∃ a b r, cont g x = some a ∧ cont g y = some b ∧ op a b = some r ∧ RP K F H Q r := by
  unfold DL.op2 at h
  split at h
  · rename_i a b e1 e2
    obtain ⟨r, h1, h2⟩ := Post.done h rl
    exact ⟨a, b, r, e1, e2, h1, h2⟩
  · exact h.elim
def eB (op : D → D → Option R) (f k : M R) : M R := mb (pk f) fun x => mb (pk k) fun y => op2 op x y
theorem two_args {a b : Expr} {f k : M R} (ha : DE X Y W a f) (hb : DE X Y W b k) {op : D → D → Option R} {σ : St} {H : Hp} {Q : VK} (h : tD X.kw Y W (eB op f k) σ H Q) :
    tD X.kw Y W (pk f) σ H fun x H1 => tD X.kw Y W (pk k) σ H1 fun y H2 => ∃ F a b r, Same F H2 ∧ CV X.kw F H2 x a ∧ CV X.kw F H2 y b ∧ op a b = some r ∧ RP X.kw F H2 Q r := by
  obtain ⟨g, F, rl, p⟩ := h
  refine ⟨g, F, rl, (p.bind).imp fun x g1 H1 F1 r1 s1 q v hv => ⟨g1, F1, r1, (q.bind).imp fun y g2 H2 F2 r2 s2 q2 u hu => ?_⟩⟩
  obtain ⟨da, db, r, e1, e2, h1, h2⟩ := Post.op2 q2 r2
  exact ⟨F2, da, db, r, r2.sub, r2.cv (hv.keep s2 (cont_ne e1)) e1, r2.cv hu e2, h1, h2⟩
theorem de_bin {a b : Expr} {op : Operator} {bop : D → D → Option R} {f k : M R} (ho : OpD X (binaryOp op) bop) (ha : DE X Y W a f) (hb : DE X Y W b k) : DE X Y W (.BinOp a op b pos) (eB bop f k) :=
  pe_mono (pe_op ho (de_pk ha) (de_pk hb)) fun σ H Q h => two_args ha hb h
theorem de_cmp {a b : Expr} {op : CmpOp} {bop : D → D → Option R} {f k : M R} (ho : OpD X (compareOp op) bop) (ha : DE X Y W a f) (hb : DE X Y W b k) (hm : behindInMarks op b = false) : DE X Y W (.Compare a [op] [b] pos) (eB bop f k) :=
  pe_mono (pe_cmpR ho (de_pk ha) (de_pk hb) hm) fun σ H Q h => two_args ha hb h
/-- a value that is a bool, as a test -/
def toB (r : R) : M Bool := fun g => match r with
  | .fz (.bl b) => .ok b g
  | _ => .bad
def eTest (f : M R) : M Bool := mb f toB
theorem Post.toB {K : KW} {σ : St} {H F : Hp} {Q : Bool → Hp → Prop} {g : G} {r : R} (h : Post K Y W σ F (JB Q) (toB r g)) (rl : Rel K Y σ H g F) : ∃ b, r = .fz (.bl b) ∧ Q b H := by
  unfold DL.toB at h
  split at h
  · exact ⟨_, rfl, h H F rl (Same.refl _)⟩
  · exact h.elim
theorem test_of {f : M R} {σ : St} {H : Hp} {Q : Bool → Hp → Prop} {K : KW} (h : tT K Y W (eTest f) σ H Q) : tD K Y W f σ H fun x H' => ∃ c, x = .bl c ∧ Q c H' := by
  obtain ⟨g, F, rl, p⟩ := h
  refine ⟨g, F, rl, (p.bind).imp fun x g1 H1 F1 r1 s1 q v hv => ?_⟩
  obtain ⟨b, rfl, q2⟩ := Post.toB q r1
  exact ⟨b, hv, q2⟩
theorem dt_val {e : Expr} {f : M R} (h : DE X Y W e f) (he : ∀ whole, isTrue e X.env whole = (do let v ← whole; standAt e.pos; holding [v] (truthy v)) := by intro _; rfl) : DT X Y W e (eTest f) :=
  pt_mono (pt_val h he) fun σ H Q h => test_of h
theorem dt_cmp {a b : Expr} {op : CmpOp} {bop : D → D → Option R} {f k : M R} (ho : OpD X (compareOp op) bop) (ha : DE X Y W a f) (hb : DE X Y W b k) (hm : behindInMarks op b = false) : DT X Y W (.Compare a [op] [b] pos) (eTest (eB bop f k)) :=
  pt_mono (pt_cmpR ho (de_pk ha) (de_pk hb) hm) fun σ H Q h => two_args ha hb (test_of h)
/-- a op b op' c -/
def eCh (op op' : D → D → Option R) (f k j : M R) : M R := mb (pk f) fun x => mb (pk k) fun y => mb (op2 op x y) fun z => mb (toB z) fun t => if t = true then mb (pk j) fun w => op2 op' y w else eC (.bl false)
theorem chain_args {a b c : Expr} {f k j : M R} (ha : DE X Y W a f) (hb : DE X Y W b k) (hc : DE X Y W c j) {op op' : D → D → Option R} {σ : St} {H : Hp} {Q : VK} (h : tD X.kw Y W (eCh op op' f k j) σ H Q) :
    tChain (fun x y H Q => ∃ F a b r, Same F H ∧ CV X.kw F H x a ∧ CV X.kw F H y b ∧ op a b = some r ∧ RP X.kw F H Q r)
      (fun x y H Q => ∃ F a b r, Same F H ∧ CV X.kw F H x a ∧ CV X.kw F H y b ∧ op' a b = some r ∧ RP X.kw F H Q r) (tD X.kw Y W (pk f)) (tD X.kw Y W (pk k)) (tD X.kw Y W (pk j)) σ H Q := by
  obtain ⟨g, F, rl, p⟩ := h
  refine ⟨g, F, rl, (p.bind).imp fun x g1 H1 F1 r1 s1 q v hv => ⟨g1, F1, r1, (q.bind).imp fun y g2 H2 F2 r2 s2 q2 u hu => ?_⟩⟩
  have q3 := q2.bind
  have q4 : ∃ a b r, cont g2 x = some a ∧ cont g2 y = some b ∧ op a b = some r ∧ (∃ t, r = .fz (.bl t)) := by
    unfold DL.op2 at q3
    split at q3
    · rename_i a b e1 e2
      refine ⟨a, b, ?_⟩
      cases e : op a b with
      | none => rw [e] at q3; exact q3.elim
      | some r =>
        rw [e] at q3
        refine ⟨r, e1, e2, rfl, ?_⟩
        cases r with
        | «at» i => exact q3.elim
        | sub i f => exact q3.elim
        | ow o =>
          have q3 : Post X.kw Y W σ F2 (JV X.kw Y σ Q) (mb (toB (.ow o)) (fun t => if t = true then mb (pk j) fun w => op2 op' y w else eC (.bl false)) g2) := q2 |> fun q2 => by
            have z : Post X.kw Y W σ F2 (JV X.kw Y σ Q) ((DL.op2 op x y g2).andThen fun z => mb (toB z) fun t => if t = true then mb (pk j) fun w => DL.op2 op' y w else eC (.bl false)) := q2
            unfold DL.op2 at z
            rw [e1, e2] at z
            simp only [e, done, then_ok] at z
            exact z
          exact q3.elim
        | fz d =>
          have z : Post X.kw Y W σ F2 (JV X.kw Y σ Q) ((DL.op2 op x y g2).andThen fun z => mb (toB z) fun t => if t = true then mb (pk j) fun w => DL.op2 op' y w else eC (.bl false)) := q2
          unfold DL.op2 at z
          rw [e1, e2] at z
          simp only [e, done, then_ok] at z
          cases d with
          | bl t => exact ⟨t, rfl⟩
          | non => exact z.elim
          | int _ => exact z.elim
          | str _ => exact z.elim
          | tup _ => exact z.elim
          | lst _ => exact z.elim
          | dk _ => exact z.elim
          | dt _ => exact z.elim
          | dd _ => exact z.elim
          | obj _ _ => exact z.elim
          | scr _ => exact z.elim
          | exc _ => exact z.elim
    · exact q3.elim
  obtain ⟨da, db, r, e1, e2, h1, t, rfl⟩ := q4
  have z : Post X.kw Y W σ F2 (JV X.kw Y σ Q) ((DL.op2 op x y g2).andThen fun z => mb (toB z) fun t => if t = true then mb (pk j) fun w => DL.op2 op' y w else eC (.bl false)) := q2
  unfold DL.op2 at z
  rw [e1, e2] at z
  simp only [h1, done, then_ok] at z
  have z2 : Post X.kw Y W σ F2 (JV X.kw Y σ Q) ((if t = true then mb (pk j) fun w => DL.op2 op' y w else eC (.bl false)) g2) := z
  refine ⟨F2, da, db, .fz (.bl t), r2.sub, r2.cv (hv.keep s2 (cont_ne e1)) e1, r2.cv hu e2, h1, fun v' H3 F3 x3 hv' => ⟨t, hv', ?_⟩⟩
  have r3 := r2.ext x3
  cases t with
  | false =>
    rw [if_neg Bool.false_ne_true] at z2 ⊢
    exact z2 H3 F3 r3 x3.ff _ rfl
  | true =>
    rw [if_pos rfl] at z2 ⊢
    refine ⟨g2, F3, r3, ?_⟩
    have z3 := Post.bind z2
    revert z3
    cases pk j g2 with
    | bad => exact id
    | ex e g' => exact fun z3 d H4 F4 r4 s4 => z3 d H4 F4 r4 (x3.ff.trans s4)
    | ok w g4 =>
      intro z3 H4 F4 r4 s4 w' hw'
      obtain ⟨da', db', r', e1', e2', h1', h2'⟩ := Post.op2 (z3 H4 F4 r4 (x3.ff.trans s4)) r4
      exact ⟨F4, da', db', r', r4.sub, r4.cv (hu.keep (x3.ff.trans s4) (cont_ne e1')) e1', r4.cv hw' e2', h1', h2'⟩
theorem de_chain {a b c : Expr} {op op' : CmpOp} {bop bop' : D → D → Option R} {f k j : M R} (ho : OpD X (compareOp op) bop) (ho' : OpD X (compareOp op') bop') (ha : DE X Y W a f) (hb : DE X Y W b k) (hc : DE X Y W c j)
    (hm : lastMarks [op, op'] [b, c] = false := by with_unfolding_all rfl) : DE X Y W (.Compare a [op, op'] [b, c] pos) (eCh bop bop' f k j) :=
  pe_mono (pe_chain ho ho' (de_pk ha) (de_pk hb) (de_pk hc) hm) fun σ H Q h => chain_args ha hb hc h
theorem dt_chain {a b c : Expr} {op op' : CmpOp} {bop bop' : D → D → Option R} {f k j : M R} (ho : OpD X (compareOp op) bop) (ho' : OpD X (compareOp op') bop') (ha : DE X Y W a f) (hb : DE X Y W b k) (hc : DE X Y W c j)
    (hm : lastMarks [op, op'] [b, c] = false := by with_unfolding_all rfl) : DT X Y W (.Compare a [op, op'] [b, c] pos) (eTest (eCh bop bop' f k j)) :=
  pt_mono (pt_chain ho ho' (de_pk ha) (de_pk hb) (de_pk hc) hm) fun σ H Q h => chain_args ha hb hc (test_of h)
end
end DL

namespace DL
open PySem PySem.Spec L2

/-! ### data as the library's data -/
mutual
def D.py : D → PyData
  | .non => .none
  | .bl b => .bool b
  | .int i => .int i
  | .str s => .str s
  | .tup ds => .tuple (pyL ds)
  | .lst ds => .list (pyL ds)
  | .dk _ => .dict []
  | .dt _ => .dict []
  | .dd _ => .dict []
  | .obj _ _ => .none
  | .scr _ => .none
  | .exc _ => .none
def pyL : List D → List PyData
  | [] => []
  | d :: ds => d.py :: pyL ds
/-- no dicts in it -/
def D.flat : D → Bool
  | .tup ds => flatL ds
  | .lst ds => flatL ds
  | .dk _ => false
  | .dt _ => false
  | .dd _ => false
  | .obj _ _ => false
  | .scr _ => false
  | .exc _ => false
  | _ => true
def flatL : List D → Bool
  | [] => true
  | d :: ds => d.flat && flatL ds
end
theorem pyL_map : ∀ ds : List D, pyL ds = ds.map D.py
  | [] => rfl
  | d :: ds => by rw [pyL, pyL_map ds]; rfl
section
variable {K : KW}
mutual
theorem Is.dp {F H : Hp} (h : Same F H) : ∀ (d : D) (v : V), d.flat = true → Is K F v d → Dp K H v d.py
  | .non, _, _, q => by rw [show _ = V.non from q]; exact .non
  | .bl b, _, _, q => by rw [show _ = V.bl b from q]; exact .bl b
  | .int i, _, _, q => by rw [show _ = V.int i from q]; exact .int i
  | .str s, _, _, q => by rw [show _ = V.str s from q.1]; exact .str s
  | .tup ds, _, f, ⟨a, vs, e, s, z, q⟩ => by rw [e]; exact .tup (sqT_mono h s) (IsL.dp h ds vs f q)
  | .lst ds, _, f, ⟨a, vs, e, s, z, q⟩ => by rw [e]; exact .lst (SqL.of (h _ _ s)) (IsL.dp h ds vs f q)
  | .dk _, _, f, _ => by cases f
  | .dt _, _, f, _ => by cases f
  | .dd _, _, f, _ => by cases f
  | .obj _ _, _, f, _ => by cases f
  | .scr _, _, f, _ => by cases f
  | .exc _, _, f, _ => by cases f
theorem IsL.dp {F H : Hp} (h : Same F H) : ∀ (ds : List D) (vs : List V), flatL ds = true → IsL K F vs ds → DpAll K H vs (pyL ds)
  | [], _, _, q => by rw [show _ = [] from q]; exact .nil
  | d :: ds, _, f, ⟨v, r, e, q, t⟩ => by
    rw [flatL, Bool.and_eq_true] at f
    rw [e]; exact .cons (Is.dp h d v f.1 q) (IsL.dp h ds r f.2 t)
end
theorem CV.dp {F H : Hp} (s : Same F H) {v : V} {d : D} (f : d.flat = true) (h : CV K F H v d) : Dp K H v d.py := by
  rcases h with h | ⟨a, o, rfl, q, rfl⟩
  · exact Is.dp s _ _ f h
  · cases o with
    | ls ds => obtain ⟨vs, h1, h2, h3⟩ := q; exact .lst (SqL.of h1) (IsL.dp s ds vs f h3)
    | dk _ => cases f
    | dt _ => cases f
    | dd _ => cases f
    | ob _ _ => unfold O.d at f; cases f
end

/-! ### the operators' meaning -/
def bAdd : D → D → Option R
  | .int i, .int j => some (.fz (.int (i + j)))
  | .str a, .str b => if a.length + b.length ≤ sizeLine then some (.fz (.str (a ++ b))) else none
  | .lst xs, .lst ys => if xs.length + ys.length ≤ sizeLine then some (.ow (.ls (xs ++ ys))) else none
  | .tup xs, .tup ys => if xs.length + ys.length ≤ sizeLine then some (.fz (.tup (xs ++ ys))) else none
  | _, _ => none
def bSub : D → D → Option R
  | .int i, .int j => some (.fz (.int (i - j)))
  | _, _ => none
def repS (a : Str) (k : Nat) : Str := ⟨(List.replicate k a.cps.toList).flatten.toArray⟩
theorem repS_length (a : Str) (k : Nat) : (repS a k).length = k * a.length := by
  show (List.replicate k a.cps.toList).flatten.toArray.size = _
  rw [List.size_toArray, PyProof.Rows.lm_len_rep_flat]; rfl
def bMul : D → D → Option R
  | .int i, .int j => if (-(2 ^ 64) < i ∧ i < 2 ^ 64) ∨ (-(2 ^ 64) < j ∧ j < 2 ^ 64) then some (.fz (.int (i * j))) else none
  | .lst xs, .int k => if -(2 ^ 63) ≤ k ∧ k < 2 ^ 63 ∧ xs.length * k.toNat ≤ sizeLine then some (.ow (.ls (List.replicate k.toNat xs).flatten)) else none
  | .str a, .int k => if -(2 ^ 63) ≤ k ∧ k < 2 ^ 63 ∧ a.length * k.toNat ≤ sizeLine then some (.fz (.str (repS a k.toNat))) else none
  | .tup xs, .int k => if xs ≠ [] ∧ 2 ≤ k ∧ k ≤ 1000 ∧ xs.length ≤ 1000 ∧ xs.length * k.toNat ≤ sizeLine then some (.fz (.tup (List.replicate k.toNat xs).flatten)) else none
  | _, _ => none
def bFdiv : D → D → Option R
  | .int i, .int j => if 0 < j ∧ j < 1073741824 then some (.fz (.int (i / j))) else none
  | _, _ => none
def bMod : D → D → Option R
  | .int i, .int j => if 0 < j then some (.fz (.int (i % j))) else none
  | _, _ => none
def bPow : D → D → Option R
  | .int i, .int j => if 0 ≤ j ∧ j ≤ 1000000 ∧ i.natAbs < 2 ^ 64 then some (.fz (.int (i ^ j.toNat))) else none
  | _, _ => none
def okEq (a b : D) : Bool := a.flat && b.flat && SeqAt.shaped a.py && SeqAt.shaped b.py
def cEq : D → D → Option R
  | .int i, .int j => some (.fz (.bl (i == j)))
  | .str a, .str b => some (.fz (.bl (a == b)))
  | .bl a, .bl b => some (.fz (.bl (a == b)))
  | a, b => if okEq a b = true then some (.fz (.bl (PyData.eqv a.py b.py))) else none
def cNe : D → D → Option R
  | .int i, .int j => some (.fz (.bl (!(i == j))))
  | .str a, .str b => some (.fz (.bl (!(a == b))))
  | .bl a, .bl b => some (.fz (.bl (!(a == b))))
  | a, b => if okEq a b = true then some (.fz (.bl (!PyData.eqv a.py b.py))) else none
def cI (p : Int → Int → Bool) : D → D → Option R
  | .int i, .int j => some (.fz (.bl (p i j)))
  | _, _ => none
def cLt : D → D → Option R := cI fun i j => decide (i < j)
def cLe : D → D → Option R := cI fun i j => decide (i ≤ j)
def cGt : D → D → Option R := cI fun i j => decide (j < i)
def cGe : D → D → Option R := cI fun i j => decide (j ≤ i)
/-- a text within a text -/
def subS (i j : Str) : Bool := !(Builtin.Str.occurrences j i 0 j.length 1).isEmpty
def flatI : D → Bool
  | .non => true | .bl _ => true | .int _ => true | .str _ => true | _ => false
def toV : D → V
  | .non => .non | .bl b => .bl b | .int i => .int i | .str s => .str s | _ => .non
def memD (x : D) (xs : List D) : Bool := inV (toV x) (xs.map toV)
def hasK (k : Key) (kvs : List (Key × D)) : Bool := kvs.any fun kv => decide (kv.1 = k)
def cIn (neg : Bool) : D → D → Option R
  | .str i, .str j => some (.fz (.bl (if neg then !subS i j else subS i j)))
  | x, .lst xs => if flatI x && xs.all flatI then some (.fz (.bl (if neg then !memD x xs else memD x xs))) else none
  | x, .tup xs => if flatI x && xs.all flatI then some (.fz (.bl (if neg then !memD x xs else memD x xs))) else none
  | _, _ => none
def isNon : D → Bool
  | .non => true
  | _ => false
def cIsN (neg : Bool) : D → D → Option R
  | a, .non => some (.fz (.bl (if neg then !isNon a else isNon a)))
  | _, _ => none


theorem str_add_length (a b : Str) : (a ++ b).length = a.length + b.length := by
  show (a.cps ++ b.cps).size = _
  rw [Array.size_append]; rfl
theorem IsL.nil_iff {K : KW} {F : Hp} {vs : List V} {ds : List D} (q : IsL K F vs ds) : vs = [] ↔ ds = [] := by
  have h := q.length
  cases vs <;> cases ds <;> simp_all
theorem IsL.rep {K : KW} {F : Hp} {vs : List V} {ds : List D} (q : IsL K F vs ds) : ∀ k : Nat, IsL K F (List.replicate k vs).flatten (List.replicate k ds).flatten
  | 0 => rfl
  | k + 1 => by
    rw [List.replicate_succ, List.replicate_succ, List.flatten_cons, List.flatten_cons]
    exact IsL.append q (IsL.rep q k)
theorem rep_length {α : Type} (xs : List α) (k : Nat) : (List.replicate k xs).flatten.length = xs.length * k := by
  induction k with
  | zero => simp
  | succ k ih => rw [List.replicate_succ, List.flatten_cons, List.length_append, ih, Nat.mul_succ, Nat.add_comm]
section
variable {X : Cx}
theorem od_add : OpD X (binaryOp .Add) bAdd := by
  intro pins s σ H x y v u Q I rx ry ⟨F, a, b, r, sm, ha, hb, ho, hr⟩
  unfold bAdd at ho
  split at ho
  · cases ho; exact op_add pins s σ H x y v u Q I rx ry ⟨_, _, ha.int, hb.int, hr.now sm rfl⟩
  · split at ho
    · rename_i i j hz
      cases ho
      exact op_add_str pins s σ H x y v u Q I rx ry ⟨_, _, ha.str.1, hb.str.1, hz, hr.now sm ⟨rfl, by rw [str_add_length]; exact hz⟩⟩
    · cases ho
  · split at ho
    · rename_i xs ys hz
      cases ho
      obtain ⟨p, vs, rfl, h1, h2, h3⟩ := ha.lst sm
      obtain ⟨q, us, rfl, h4, h5, h6⟩ := hb.lst sm
      exact op_cat pins s σ H _ _ v u Q I rx ry ⟨p, q, vs, us, rfl, rfl, h1, h4, by rw [h3.length, h6.length]; exact hz, fun l hl => hr.ls sm (h3.append h6) (by rw [List.length_append]; exact hz) hl⟩
    · cases ho
  · split at ho
    · rename_i xs ys hz
      cases ho
      obtain ⟨p, vs, rfl, h1, h2, h3⟩ := ha.tup
      obtain ⟨q, us, rfl, h4, h5, h6⟩ := hb.tup
      refine op_catA pins s σ H _ _ v u Q I rx ry ⟨p, q, vs, us, rfl, rfl, sqT_mono sm h1, sqT_mono sm h4, by rw [h3.length, h6.length]; exact hz, fun e => ?_, fun _ e => ?_, fun _ _ l hl => hr.tup sm (h3.append h6) (by rw [List.length_append]; exact hz) hl⟩
      · have : xs = [] := h3.nil_iff.mp e
        subst this
        exact hr.now sm ⟨q, us, rfl, h4, h5, h6⟩
      · have : ys = [] := h6.nil_iff.mp e
        subst this
        rw [List.append_nil] at hr
        exact hr.now sm ⟨p, vs, rfl, h1, h2, h3⟩
    · cases ho
  · cases ho
theorem od_sub : OpD X (binaryOp .Sub) bSub := by
  intro pins s σ H x y v u Q I rx ry ⟨F, a, b, r, sm, ha, hb, ho, hr⟩
  unfold bSub at ho
  split at ho
  · cases ho; exact op_sub pins s σ H x y v u Q I rx ry ⟨_, _, ha.int, hb.int, hr.now sm rfl⟩
  · cases ho
theorem foldl_repN (l : List Nat) : ∀ (m : Nat) (acc : List Nat), (List.replicate m l.toArray).foldl (· ++ ·) acc.toArray = (acc ++ (List.replicate m l).flatten).toArray
  | 0, acc => by simp
  | m + 1, acc => by
    rw [List.replicate_succ, List.foldl_cons, List.append_toArray, foldl_repN l m (acc ++ l)]
    simp [List.replicate_succ]
theorem od_mul : OpD X (binaryOp .Mult) bMul := by
  intro pins s σ H x y v u Q I rx ry ⟨F, a, b, r, sm, ha, hb, ho, hr⟩
  unfold bMul at ho
  split at ho
  · split at ho
    · rename_i i j hz
      cases ho; exact op_mul pins s σ H x y v u Q I rx ry ⟨_, _, ha.int, hb.int, hz, hr.now sm rfl⟩
    · cases ho
  · split at ho
    · rename_i xs k hz
      cases ho
      obtain ⟨p, vs, rfl, h1, h2, h3⟩ := ha.lst sm
      exact op_rep pins s σ H _ _ v u Q I rx ry ⟨p, k, vs, rfl, hb.int, h1, hz.1, hz.2.1, by rw [h3.length]; exact hz.2.2, fun l hl => hr.ls sm (h3.rep _) (by rw [rep_length]; exact hz.2.2) hl⟩
    · cases ho
  · split at ho
    · rename_i a k hz
      cases ho
      obtain ⟨rfl, _⟩ := ha.str
      cases hb.int
      obtain ⟨t, rfl⟩ := rx
      obtain ⟨t2, rfl⟩ := ry
      have hl : (repS a k.toNat).length ≤ sizeLine := by
        rw [repS_length, Nat.mul_comm]; exact hz.2.2
      have eq : (⟨(List.replicate k.toNat a.cps).foldl (· ++ ·) #[]⟩ : Str) = repS a k.toNat := by
        unfold repS
        congr 1
        have := foldl_repN a.cps.toList k.toNat []
        simpa using this
      refine PySem.P.mul_str (by
        have h1 : ¬ k < -(2 ^ 63 : Int) := by omega
        have h2 : ¬ k ≥ 2 ^ 63 := by omega
        rw [decide_eq_false h1, decide_eq_false h2]; rfl) (fun hk1 _ => ?_) (fun _ _ => ?_) ?_
      · have hm : (a.length : Int) * k ≤ 16777216 := by
          have e : ((a.length * k.toNat : Nat) : Int) = (a.length : Int) * k := by rw [Int.natCast_mul, Int.toNat_of_nonneg (by omega)]
          have h3 := hz.2.2
          rw [sizeLine_eq] at h3
          omega
        have : (a.length : Int) ≤ (2 ^ 63 - 1) / k := (Int.le_ediv_iff_mul_le (by omega)).mpr (by omega)
        omega
      · refine decide_eq_false ?_
        have h3 := hz.2.2
        omega
      · by_cases c1 : k < 1
        · rw [if_pos c1]
          have e0 : repS a k.toNat = Str.empty := by
            have : k.toNat = 0 := by omega
            rw [this]; rfl
          rw [e0] at hr
          exact ⟨by decide, .str Str.empty, H, I.tok _, ⟨_, rfl⟩, hr.now sm ⟨rfl, by decide⟩⟩
        · rw [if_neg c1]
          by_cases c2 : (k == 1 || a.length == 0) = true
          · rw [if_pos c2]
            have e0 : repS a k.toNat = a := by
              unfold repS
              rcases Bool.or_eq_true _ _ ▸ c2 with h | h
              · have : k = 1 := by simpa using h
                subst this
                cases a; simp
              · have h : a.length = 0 := by simpa using h
                have h : a.cps.size = 0 := h
                cases a with | mk c =>
                have : c = #[] := Array.eq_empty_of_size_eq_zero h
                subst this; simp
            rw [e0] at hr
            exact ⟨.str a, H, I, ⟨_, rfl⟩, hr.now sm ⟨rfl, by have h4 := hl; rw [e0] at h4; exact h4⟩⟩
          · rw [if_neg c2, eq]
            exact ⟨hl, .str (repS a k.toNat), H, I.tok _, ⟨_, rfl⟩, hr.now sm ⟨rfl, hl⟩⟩
    · cases ho
  · split at ho
    · rename_i xs k hz
      cases ho
      obtain ⟨p, vs, rfl, h1, h2, h3⟩ := ha.tup
      exact op_repT pins s σ H _ _ v u Q I rx ry ⟨p, k, vs, rfl, hb.int, sqT_mono sm h1, fun e => hz.1 (h3.nil_iff.mp e), hz.2.1, hz.2.2.1, by rw [h3.length]; exact hz.2.2.2.1, fun l hl => hr.tup sm (h3.rep _) (by rw [rep_length]; exact hz.2.2.2.2) hl⟩
    · cases ho
  · cases ho
theorem od_fdiv : OpD X (binaryOp .FloorDiv) bFdiv := by
  intro pins s σ H x y v u Q I rx ry ⟨F, a, b, r, sm, ha, hb, ho, hr⟩
  unfold bFdiv at ho
  split at ho
  · split at ho
    · rename_i i j hz
      cases ho; exact op_fdiv pins s σ H x y v u Q I rx ry ⟨_, _, ha.int, hb.int, hz, hr.now sm rfl⟩
    · cases ho
  · cases ho
theorem od_mod : OpD X (binaryOp .Mod) bMod := by
  intro pins s σ H x y v u Q I rx ry ⟨F, a, b, r, sm, ha, hb, ho, hr⟩
  unfold bMod at ho
  split at ho
  · split at ho
    · rename_i i j hz
      cases ho; exact op_mod pins s σ H x y v u Q I rx ry ⟨_, _, ha.int, hb.int, hz, hr.now sm rfl⟩
    · cases ho
  · cases ho
theorem od_pow : OpD X (binaryOp .Pow) bPow := by
  intro pins s σ H x y v u Q I rx ry ⟨F, a, b, r, sm, ha, hb, ho, hr⟩
  unfold bPow at ho
  split at ho
  · split at ho
    · rename_i i j hz
      cases ho; exact op_pow pins s σ H x y v u Q I rx ry ⟨_, _, ha.int, hb.int, hz, hr.now sm rfl⟩
    · cases ho
  · cases ho
theorem cI_case {p : Int → Int → Bool} {a b : D} {r : R} (h : cI p a b = some r) : ∃ i j, a = .int i ∧ b = .int j ∧ r = .fz (.bl (p i j)) := by
  unfold cI at h
  split at h
  · cases h; exact ⟨_, _, rfl, rfl, rfl⟩
  · cases h
theorem od_cI {p : Int → Int → Bool} {op : CmpOp} (h : OpR X (compareOp op) (rI0 fun i j => .bl (p i j))) : OpD X (compareOp op) (cI p) := by
  intro pins s σ H x y v u Q I rx ry ⟨F, a, b, r, sm, ha, hb, ho, hr⟩
  obtain ⟨i, j, rfl, rfl, rfl⟩ := cI_case ho
  exact h pins s σ H x y v u Q I rx ry ⟨_, _, ha.int, hb.int, hr.now sm rfl⟩
theorem od_lt : OpD X (compareOp .Lt) cLt := od_cI op_lt
theorem od_le : OpD X (compareOp .LtE) cLe := od_cI op_le
theorem od_gt : OpD X (compareOp .Gt) cGt := od_cI op_gt
theorem od_ge : OpD X (compareOp .GtE) cGe := od_cI op_ge
theorem okEq_cases {a b : D} (h : okEq a b = true) : a.flat = true ∧ b.flat = true ∧ SeqAt.shaped a.py = true ∧ SeqAt.shaped b.py = true := by
  unfold okEq at h
  rw [Bool.and_eq_true, Bool.and_eq_true, Bool.and_eq_true] at h
  exact ⟨h.1.1.1, h.1.1.2, h.1.2, h.2⟩
theorem od_eq (hu : X.A.units + 64 < cLine) : OpD X (compareOp .Eq) cEq := by
  intro pins s σ H x y v u Q I rx ry ⟨F, a, b, r, sm, ha, hb, ho, hr⟩
  unfold cEq at ho
  split at ho
  · cases ho; exact op_eq pins s σ H x y v u Q I rx ry (by rw [ha.int, hb.int]; exact ⟨rfl, by rw [dec_int]; exact hr.now sm rfl⟩)
  · cases ho; exact op_eq pins s σ H x y v u Q I rx ry (by rw [ha.str.1, hb.str.1]; exact ⟨rfl, by rw [dec_str]; exact hr.now sm rfl⟩)
  · cases ho; exact op_eq pins s σ H x y v u Q I rx ry (by rw [ha.bl, hb.bl]; exact ⟨rfl, by rw [dec_bl]; exact hr.now sm rfl⟩)
  · split at ho
    · rename_i hz
      obtain ⟨f1, f2, s1, s2⟩ := okEq_cases hz
      cases ho
      exact op_eqD hu pins s σ H x y v u Q I rx ry ⟨_, _, ha.dp sm f1, hb.dp sm f2, s1, s2, hr.now sm rfl⟩
    · cases ho
theorem od_ne (hu : X.A.units + 64 < cLine) : OpD X (compareOp .NotEq) cNe := by
  intro pins s σ H x y v u Q I rx ry ⟨F, a, b, r, sm, ha, hb, ho, hr⟩
  unfold cNe at ho
  split at ho
  · cases ho; exact op_ne pins s σ H x y v u Q I rx ry (by rw [ha.int, hb.int]; exact ⟨rfl, by rw [dec_int]; exact hr.now sm rfl⟩)
  · cases ho; exact op_ne pins s σ H x y v u Q I rx ry (by rw [ha.str.1, hb.str.1]; exact ⟨rfl, by rw [dec_str]; exact hr.now sm rfl⟩)
  · cases ho; exact op_ne pins s σ H x y v u Q I rx ry (by rw [ha.bl, hb.bl]; exact ⟨rfl, by rw [dec_bl]; exact hr.now sm rfl⟩)
  · split at ho
    · rename_i hz
      obtain ⟨f1, f2, s1, s2⟩ := okEq_cases hz
      cases ho
      exact op_neD hu pins s σ H x y v u Q I rx ry ⟨_, _, ha.dp sm f1, hb.dp sm f2, s1, s2, hr.now sm rfl⟩
    · cases ho
theorem isnon_dummy : True := trivial
theorem flatI_V {F H : Hp} {d : D} {v : V} {K : KW} (f : flatI d = true) (h : CV K F H v d) : v = toV d ∧ flatV v = true := by
  cases d with
  | non => rw [h.non]; exact ⟨rfl, rfl⟩
  | bl b => rw [h.bl]; exact ⟨rfl, rfl⟩
  | int i => rw [h.int]; exact ⟨rfl, rfl⟩
  | str z => rw [h.str.1]; exact ⟨rfl, rfl⟩
  | tup _ => cases f
  | lst _ => cases f
  | dk _ => cases f
  | dt _ => cases f
  | dd _ => cases f
  | obj _ _ => cases f
  | scr _ => cases f
  | exc _ => cases f
theorem flatI_L {F H : Hp} {K : KW} : ∀ {ds : List D} {vs : List V}, ds.all flatI = true → IsL K F vs ds → vs = ds.map toV ∧ vs.all flatV = true
  | [], _, _, q => by rw [show _ = [] from q]; exact ⟨rfl, rfl⟩
  | d :: ds, _, f, ⟨v, r, e, q, t⟩ => by
    rw [List.all_cons, Bool.and_eq_true] at f
    obtain ⟨h1, h2⟩ := flatI_V (H := H) f.1 (.inl q)
    obtain ⟨h3, h4⟩ := flatI_L (H := H) f.2 t
    subst e
    exact ⟨by rw [List.map_cons, ← h1, ← h3], by rw [List.all_cons, h2, h4]; rfl⟩
theorem od_in (neg : Bool) : OpD X (compareOp (if neg then .NotIn else .In)) (cIn neg) := by
  intro pins s σ H x y v u Q I rx ry ⟨F, a, b, r, sm, ha, hb, ho, hr⟩
  have seq : ∀ (p : Addr) (vs : List V) (xs : List D), y = .ref p → (SqL X.kw H p vs ∨ SqT X.kw H p vs) → IsL X.kw F vs xs → flatI a = true → xs.all flatI = true → r = .fz (.bl (if neg then !memD a xs else memD a xs)) →
      wpAny (model X.prog X.w) X.A (compareOp (if neg then .NotIn else .In) v u) (EP X pins σ Q) X.xe s := by
    intro p vs xs e hs hl f1 f2 er
    obtain ⟨e1, fl⟩ := flatI_V f1 ha
    obtain ⟨e2, fls⟩ := flatI_L (H := H) f2 hl
    subst er
    have q : rIn X.kw neg x y H Q := ⟨p, vs, e, hs, fl, fls, by rw [e1, e2]; exact hr.now sm rfl⟩
    cases neg
    · exact op_in_seq pins s σ H x y v u Q I rx ry q
    · exact op_notIn_seq pins s σ H x y v u Q I rx ry q
  unfold cIn at ho
  split at ho
  · cases ho
    rename_i i j
    have q : Q (.bl (if neg then !subS i j else subS i j)) H := hr.now sm rfl
    cases neg
    · exact op_in_str pins s σ H x y v u Q I rx ry ⟨i, j, ha.str.1, hb.str.1, q⟩
    · exact op_notIn_str pins s σ H x y v u Q I rx ry ⟨i, j, ha.str.1, hb.str.1, q⟩
  · split at ho
    · rename_i xs hz
      rw [Bool.and_eq_true] at hz
      cases ho
      obtain ⟨p, vs, rfl, h1, h2, h3⟩ := hb.lst sm
      exact seq p vs xs rfl (.inl (SqL.of h1)) h3 hz.1 hz.2 rfl
    · cases ho
  · split at ho
    · rename_i xs hz
      rw [Bool.and_eq_true] at hz
      cases ho
      obtain ⟨p, vs, rfl, h1, h2, h3⟩ := hb.tup
      exact seq p vs xs rfl (.inr (sqT_mono sm h1)) h3 hz.1 hz.2 rfl
    · cases ho
  · cases ho
theorem isnon_V {F H : Hp} {d : D} {v : V} {K : KW} (h : CV K F H v d) : decide (v = .non) = isNon d := by
  rcases h with h | ⟨a, o, rfl, _, rfl⟩
  · cases d with
    | non => rw [show v = .non from h]; rfl
    | bl b => rw [show v = .bl b from h]; rfl
    | int b => rw [show v = .int b from h]; rfl
    | str b => rw [show v = .str b from h.1]; rfl
    | tup b => obtain ⟨a, _, rfl, _⟩ := h; rfl
    | lst b => obtain ⟨a, _, rfl, _⟩ := h; rfl
    | dk b => obtain ⟨a, _, rfl, _⟩ := h; rfl
    | dt b => obtain ⟨a, _, rfl, _⟩ := h; rfl
    | dd b => obtain ⟨a, _, rfl, _⟩ := h; rfl
    | obj c b => obtain ⟨a, _, _, _, rfl, _⟩ := h; rfl
    | scr b => obtain ⟨a, rfl, _⟩ := h; rfl
    | exc b => obtain ⟨a, _, rfl, _⟩ := h; rfl
  · cases o <;> rfl
theorem od_isN (neg : Bool) : OpD X (compareOp (if neg then .IsNot else .Is)) (cIsN neg) := by
  intro pins s σ H x y v u Q I rx ry ⟨F, a, b, r, sm, ha, hb, ho, hr⟩
  unfold cIsN at ho
  split at ho
  · rw [← isnon_V ha] at ho
    cases ho
    cases neg
    · exact op_isN pins s σ H x y v u Q I rx ry ⟨hb.non, hr.now sm rfl⟩
    · exact op_notN pins s σ H x y v u Q I rx ry ⟨hb.non, hr.now sm rfl⟩
  · cases ho
end
end DL

namespace DL
open PySem PySem.Spec L2

/-! ### tests -/
def tAndM (f k : M Bool) : M Bool := mb f fun c => if c = true then k else mp false
def tOrM (f k : M Bool) : M Bool := mb f fun c => if c = true then mp true else k
def tNotM (f : M Bool) : M Bool := mb f fun c => mp (!c)
def vAnd (f k : M R) : M R := mb f fun x => mb (toB x) fun c => if c = true then k else eC (.bl false)
def vOr (f k : M R) : M R := mb f fun x => mb (toB x) fun c => if c = true then eC (.bl true) else k
def vNot (f : M R) : M R := mb f fun x => mb (toB x) fun c => eC (.bl (!c))
def eIf (c : M Bool) (f k : M R) : M R := mb c fun b => if b = true then f else k
def truD : D → Option Bool
  | .non => some false
  | .bl b => some b
  | .int i => some (i != 0)
  | .str s => some ((s.length : Int) != 0)
  | .tup xs => some (!xs.isEmpty)
  | .lst xs => some (!xs.isEmpty)
  | .dk kvs => some (!kvs.isEmpty)
  | .scr ns => some (!ns.isEmpty)
  | .dt _ => none
  | .dd _ => none
  | .obj _ _ => none
  | .exc _ => none
def toTru (x : R) : M Bool := fun g => match (cont g x).bind truD with
  | some b => .ok b g
  | none => .bad
def eTru (f : M R) : M Bool := mb (pk f) toTru

theorem Post.pb {α β : Type} {K : KW} {Y : Ent} {W : WX} {σ : St} {F H : Hp} {J : β → G → Hp → Hp → Prop} {a : α} {k : α → G → Rs β} {g : G} (h : Post K Y W σ F J ((Rs.ok a g).andThen k)) : Post K Y W σ F J (k a g) := h
section
variable {X : Cx} {Y : Ent} {W : WX} {pos : Pos} {a b c e : Expr} {rest : List Expr}
theorem dw_and1 {f : M Bool} (ha : DT X Y W a f) : DW X Y W (.BoolOp .And [a] pos) f := pw_and1 ha
theorem dw_or1 {f : M Bool} (ha : DT X Y W a f) : DW X Y W (.BoolOp .Or [a] pos) f := pw_or1 ha
theorem dw_and {f k : M Bool} (ha : DT X Y W a f) (hb : DW X Y W (.BoolOp .And (b :: rest) pos) k) : DW X Y W (.BoolOp .And (a :: b :: rest) pos) (tAndM f k) :=
  pw_mono (pw_and ha hb) fun σ H Q ⟨g, F, r, p⟩ => ⟨g, F, r, (p.bind).imp fun c g1 H1 F1 r1 s1 q => by
    cases c with
    | true => exact ⟨g1, F1, r1, q⟩
    | false => exact q H1 F1 r1 (Same.refl _)⟩
theorem dw_or {f k : M Bool} (ha : DT X Y W a f) (hb : DW X Y W (.BoolOp .Or (b :: rest) pos) k) : DW X Y W (.BoolOp .Or (a :: b :: rest) pos) (tOrM f k) :=
  pw_mono (pw_or ha hb) fun σ H Q ⟨g, F, r, p⟩ => ⟨g, F, r, (p.bind).imp fun c g1 H1 F1 r1 s1 q => by
    cases c with
    | true => exact q H1 F1 r1 (Same.refl _)
    | false => exact ⟨g1, F1, r1, q⟩⟩
theorem dt_w {f : M Bool} (h : DW X Y W e f) : DT X Y W e f := PW.pt h
theorem dt_not {f : M Bool} (ha : DT X Y W a f) : DT X Y W (.UnaryOp .Not a pos) (tNotM f) :=
  pt_mono (pt_not ha) fun σ H Q ⟨g, F, r, p⟩ => ⟨g, F, r, (p.bind).imp fun c g1 H1 F1 r1 s1 q => q H1 F1 r1 (Same.refl _)⟩
theorem vbool {f : M R} {k : Bool → M R} {σ : St} {H : Hp} {Q : VK} {K : KW} (h : tD K Y W (mb f fun x => mb (toB x) k) σ H Q) :
    tD K Y W f σ H fun x H1 => ∃ c, x = .bl c ∧ tD K Y W (k c) σ H1 Q := by
  obtain ⟨g, F, r, p⟩ := h
  refine ⟨g, F, r, (p.bind).imp fun x g1 H1 F1 r1 s1 q v hv => ?_⟩
  have q' : Post K Y W σ F1 (JV K Y σ Q) ((toB x g1).andThen k) := q
  unfold toB at q'
  split at q'
  · exact ⟨_, hv, g1, F1, r1, q'⟩
  · exact q'.elim
theorem de_one {op} {f : M R} (h : DE X Y W a f) : DE X Y W (.BoolOp op [a] pos) f := pe_one h
theorem de_and {f k : M R} (ha : DE X Y W a f) (hb : DE X Y W (.BoolOp .And (b :: rest) pos) k) : DE X Y W (.BoolOp .And (a :: b :: rest) pos) (vAnd f k) :=
  pe_mono (pe_and ha hb) fun σ H Q h => by
    obtain ⟨g, F, r, p⟩ := vbool h
    refine ⟨g, F, r, p.imp fun x g1 H1 F1 r1 s1 q v hv => ?_⟩
    obtain ⟨c, rfl, q2⟩ := q v hv
    refine ⟨c, rfl, ?_⟩
    cases c with
    | true => exact q2
    | false => obtain ⟨g2, F2, r2, p2⟩ := q2; exact p2 H1 F2 r2 (Same.refl _) _ rfl
theorem de_or {f k : M R} (ha : DE X Y W a f) (hb : DE X Y W (.BoolOp .Or (b :: rest) pos) k) : DE X Y W (.BoolOp .Or (a :: b :: rest) pos) (vOr f k) :=
  pe_mono (pe_or ha hb) fun σ H Q h => by
    obtain ⟨g, F, r, p⟩ := vbool h
    refine ⟨g, F, r, p.imp fun x g1 H1 F1 r1 s1 q v hv => ?_⟩
    obtain ⟨c, rfl, q2⟩ := q v hv
    refine ⟨c, rfl, ?_⟩
    cases c with
    | true => obtain ⟨g2, F2, r2, p2⟩ := q2; exact p2 H1 F2 r2 (Same.refl _) _ rfl
    | false => exact q2
theorem de_not {f : M R} (ha : DE X Y W a f) : DE X Y W (.UnaryOp .Not a pos) (vNot f) :=
  pe_mono (pe_not ha) fun σ H Q h => by
    obtain ⟨g, F, r, p⟩ := vbool h
    refine ⟨g, F, r, p.imp fun x g1 H1 F1 r1 s1 q v hv => ?_⟩
    obtain ⟨c, rfl, g2, F2, r2, p2⟩ := q v hv
    exact ⟨c, rfl, p2 H1 F2 r2 (Same.refl _) _ rfl⟩
theorem de_ifExp {t : M Bool} {f k : M R} (hc : DT X Y W c t) (ha : DE X Y W a f) (hb : DE X Y W b k) : DE X Y W (.IfExp c a b pos) (eIf t f k) :=
  pe_mono (pe_ifExp hc ha hb) fun σ H Q ⟨g, F, r, p⟩ => ⟨g, F, r, (p.bind).imp fun c g1 H1 F1 r1 s1 q => by
    cases c with
    | true => exact ⟨g1, F1, r1, q⟩
    | false => exact ⟨g1, F1, r1, q⟩⟩
theorem truV_of {K : KW} {F H : Hp} {v : V} {d : D} {k : Bool} (sm : Same F H) (h : CV K F H v d) (e : truD d = some k) : TruV K v H k := by
  cases d with
  | non => rw [h.non]; exact (Option.some.inj e).symm
  | bl x => rw [h.bl]; exact (Option.some.inj e).symm
  | int x => rw [h.int]; exact (Option.some.inj e).symm
  | str x => rw [h.str.1]; exact ⟨h.str.2, (Option.some.inj e).symm⟩
  | tup xs =>
    obtain ⟨p, vs, rfl, h1, h2, h3⟩ := h.tup
    refine .inr (.inl ⟨vs, sqT_mono sm h1, ?_⟩)
    rw [← Option.some.inj e]
    have := h3.length
    cases vs <;> cases xs <;> simp_all
  | lst xs =>
    obtain ⟨p, vs, rfl, h1, h2, h3⟩ := h.lst sm
    refine .inl ⟨vs, SqL.of h1, ?_⟩
    rw [← Option.some.inj e]
    have := h3.length
    cases vs <;> cases xs <;> simp_all
  | scr ns =>
    obtain ⟨p, rfl, h1, h2⟩ := h.scr
    refine .inl ⟨_, sm.seq h1, ?_⟩
    rw [← Option.some.inj e]
    cases ns <;> rfl
  | dk kvs =>
    have len : ∀ {ks : List (Key × V)} {kvs : List (Key × D)}, IsK K F ks kvs → (!kvs.isEmpty) = !ks.isEmpty := fun {ks kvs} q => by
      cases kvs with
      | nil => rw [show ks = [] from q]; rfl
      | cons y r => obtain ⟨v, r', rfl, _⟩ := (show ∃ v r', ks = (y.1, v) :: r' ∧ _ from q); rfl
    rcases h with h | ⟨a, o, rfl, q, e'⟩
    · obtain ⟨a, ks, rfl, h1, h2, h3⟩ := h
      exact .inr (.inr ⟨ks, sm _ _ h1, by rw [← Option.some.inj e]; exact len h3⟩)
    · cases o with
      | dk ys => cases e'; obtain ⟨ks, h1, h2, h3⟩ := q; exact .inr (.inr ⟨ks, h1, by rw [← Option.some.inj e]; exact len h3⟩)
      | ls _ => cases e'
      | dt _ => cases e'
      | dd _ => cases e'
      | ob _ _ => cases e'
  | dt _ => cases e
  | dd _ => cases e
  | obj _ _ => cases e
  | exc _ => cases e
theorem dt_truth {f : M R} (ha : DE X Y W a f) (he : ∀ whole, isTrue a X.env whole = (do let v ← whole; standAt a.pos; holding [v] (truthy v)) := by intro _; rfl) : DT X Y W a (eTru f) :=
  pt_mono (pt_truth (de_pk ha) he) fun σ H Q ⟨g, F, r, p⟩ => ⟨g, F, r, (p.bind).imp fun x g1 H1 F1 r1 s1 q v hv => by
    unfold toTru at q
    cases e : cont g1 x with
    | none => rw [e] at q; exact q.elim
    | some d =>
      rw [e] at q
      cases e2 : truD d with
      | none => simp only [Option.bind_some, e2] at q; exact q.elim
      | some k =>
        simp only [Option.bind_some, e2] at q
        exact ⟨k, truV_of r1.sub (r1.cv hv e) e2, q H1 F1 r1 (Same.refl _)⟩⟩
end

/-! ### arguments, displays -/
def aNil : M (List R) := mp []
def aPush (x : R) (xs : List R) : M (List R) := fun g => match x with
  | .ow _ => .bad
  | x => .ok (x :: xs) g
def aCons (f : M R) (k : M (List R)) : M (List R) := mb f fun x => mb k fun xs => aPush x xs
def allFz : List R → Option (List D)
  | [] => some []
  | .fz d :: r => (allFz r).map (d :: ·)
  | _ => none
def conts (g : G) : List R → Option (List D)
  | [] => some []
  | r :: rs => match cont g r, conts g rs with
    | some d, some ds => some (d :: ds)
    | _, _ => none
def mkTup (rs : List R) : M R := fun g => match allFz rs with
  | some ds => if ds.length ≤ 1000 then .ok (.fz (.tup ds)) g else .bad
  | none => .bad
def mkLst (rs : List R) : M R := fun g => match allFz rs with
  | some ds => if ds.length ≤ 1000 then .ok (.ow (.ls ds)) g else .bad
  | none => .bad
def eTup (k : M (List R)) : M R := mb k mkTup
def eLst (k : M (List R)) : M R := mb k mkLst
section
variable {K : KW} {Y : Ent} {W : WX} {σ : St} {H F : Hp} {g : G}
theorem RVs.fz : ∀ {rs : List R} {vs : List V} {ds : List D}, RVs K Y σ F H g vs rs → allFz rs = some ds → IsL K F vs ds
  | [], _, _, h, e => by cases e; exact h
  | .fz d :: r, _, ds, ⟨v, us, rfl, h, t⟩, e => by
    unfold allFz at e
    cases e2 : allFz r with
    | none => rw [e2] at e; cases e
    | some ds' => rw [e2] at e; cases e; exact ⟨v, us, rfl, h, RVs.fz t e2⟩
  | .ow o :: r, _, _, _, e => by cases e
  | .at i :: r, _, _, _, e => by cases e
  | .sub i f :: r, _, _, _, e => by cases e
theorem RVs.cvs (rl : Rel K Y σ H g F) : ∀ {rs : List R} {vs : List V} {ds : List D}, RVs K Y σ F H g vs rs → conts g rs = some ds → CVs K F H vs ds
  | [], _, _, h, e => by cases e; exact h
  | r :: rs, _, ds, ⟨v, us, rfl, h, t⟩, e => by
    unfold conts at e
    split at e
    · rename_i d ds' e1 e2
      cases e
      exact ⟨v, us, rfl, rl.cv h e1, RVs.cvs rl t e2⟩
    · cases e
end
section
variable {X : Cx} {Y : Ent} {W : WX} {pos : Pos} {e o : Expr} {es : List Expr} {x : Str} {p apos : Pos} {id T name : String}
theorem da_nil : DA X Y W [] aNil := pa_mono pa_nil fun σ H Q ⟨g, F, r, p⟩ => p H F r (Same.refl _) [] rfl
theorem da_cons {f : M R} {k : M (List R)} (ha : DE X Y W e f) (hr : DA X Y W es k) (hs : starEach (e :: es) X.env = (false, eval e X.env) :: starEach es X.env := by rfl) : DA X Y W (e :: es) (aCons f k) :=
  pa_mono (pa_cons ha hr hs) fun σ H Q ⟨g, F, r, p⟩ => ⟨g, F, r, (p.bind).imp fun x g1 H1 F1 r1 s1 q v hv => ⟨g1, F1, r1, (q.bind).imp fun xs g2 H2 F2 r2 s2 q2 us hus => by
    cases x with
    | ow o => exact q2.elim
    | fz d => exact q2 H2 F2 r2 (Same.refl _) (v :: us) ⟨v, us, rfl, hv.keep (H' := H2) (g' := g2) s2 (fun _ e => nomatch e), hus⟩
    | «at» i => exact q2 H2 F2 r2 (Same.refl _) (v :: us) ⟨v, us, rfl, hv, hus⟩
    | sub i f => exact q2 H2 F2 r2 (Same.refl _) (v :: us) ⟨v, us, rfl, hv.keep (H' := H2) (g' := g2) s2 (fun _ e => nomatch e), hus⟩⟩⟩
theorem Rel.small {n : Nat} (h : n ≤ 1000) : n ≤ sizeLine := Nat.le_trans h (by decide)
theorem de_tup {k : M (List R)} {x1} (h : DA X Y W es k) : DE X Y W (.Tuple es x1 pos) (eTup k) :=
  pe_mono (pe_tup h) fun σ H Q ⟨g, F, r, p⟩ => ⟨g, F, r, (p.bind).imp fun rs g1 H1 F1 r1 s1 q vs hv => by
    unfold mkTup at q
    split at q
    · rename_i ds e
      split at q
      · rename_i hz
        have hl := RVs.fz hv e
        have rp : RP X.kw F1 H1 Q (.fz (.tup ds)) := Post.rp trivial r1 q
        exact ⟨by rw [hl.length]; exact Rel.small hz, fun p hp => rp.tup r1.sub hl (Rel.small hz) hp⟩
      · exact q.elim
    · exact q.elim⟩
theorem de_lst {k : M (List R)} (h : DA X Y W es k) : DE X Y W (.List es pos) (eLst k) :=
  pe_mono (pe_lst h) fun σ H Q ⟨g, F, r, p⟩ => ⟨g, F, r, (p.bind).imp fun rs g1 H1 F1 r1 s1 q vs hv => by
    unfold mkLst at q
    split at q
    · rename_i ds e
      split at q
      · rename_i hz
        have hl := RVs.fz hv e
        have rp : RP X.kw F1 H1 Q (.ow (.ls ds)) := Post.rp trivial r1 q
        exact ⟨by rw [hl.length]; exact Rel.small hz, fun p hp => rp.ls r1.sub hl (Rel.small hz) hp⟩
      · exact q.elim
    · exact q.elim⟩

/-! ### calls of built-ins, methods of built-ins by values -/
def CallD (X : Cx) (f : Value) (op : List D → Option R) : Prop :=
  CallR X f fun xs H Q => ∃ F ds r, Same F H ∧ CVs X.kw F H xs ds ∧ op ds = some r ∧ RP X.kw F H Q r
def opN (op : List D → Option R) (rs : List R) : M R := fun g => match conts g rs with
  | some ds => done (op ds) g
  | none => .bad
def eCallB (op : List D → Option R) (k : M (List R)) : M R := mb k (opN op)
theorem callB_args {k : M (List R)} {op : List D → Option R} {σ : St} {H : Hp} {Q : VK} {K : KW} (h : tD K Y W (eCallB op k) σ H Q) :
    tA K Y W k σ H fun xs H1 => ∃ F ds r, Same F H1 ∧ CVs K F H1 xs ds ∧ op ds = some r ∧ RP K F H1 Q r := by
  obtain ⟨g, F, r, p⟩ := h
  refine ⟨g, F, r, (p.bind).imp fun rs g1 H1 F1 r1 s1 q vs hv => ?_⟩
  unfold opN at q
  split at q
  · rename_i ds e
    obtain ⟨r', h1, h2⟩ := Post.done q r1
    exact ⟨F1, ds, r', r1.sub, hv.cvs r1 e, h1, h2⟩
  · exact q.elim
theorem de_callB {k : M (List R)} {op : List D → Option R} (hc : CallD X (.builtin id) op) (hg : Gl X x) (hm : X.mg x = none) (hv : bootBuiltins x = some (.builtin id)) (ha : DA X Y W (e :: es) k) (hn : x ≠ "__name__" := by decide) (hdb : (x == ("__debug__" : Str)) = false := by decide)
    (he : starEach (e :: es) X.env = (false, eval e X.env) :: starEach es X.env := by rfl) (hpl : (backTo pos (starEach es X.env)).any (·.1) = false := by rfl) :
    DE X Y W (.Call (.Name x p) (e :: es) [] pos) (eCallB op k) :=
  pe_mono (pe_callB hc hg hm hv ha hn hdb he hpl) fun σ H Q h => callB_args h
theorem de_callTy {k : M (List R)} {op : List D → Option R} (hc : CallD X (.type T) op) (hg : Gl X x) (hm : X.mg x = none) (hv : bootBuiltins x = some (.type T)) (ha : DA X Y W (e :: es) k) (hn : x ≠ "__name__" := by decide) (hdb : (x == ("__debug__" : Str)) = false := by decide)
    (he : starEach (e :: es) X.env = (false, eval e X.env) :: starEach es X.env := by rfl) (hpl : (backTo pos (starEach es X.env)).any (·.1) = false := by rfl) :
    DE X Y W (.Call (.Name x p) (e :: es) [] pos) (eCallB op k) :=
  pe_mono (pe_callTy hc hg hm hv ha hn hdb he hpl) fun σ H Q h => callB_args h
/-- a method by values -/
def MtD (X : Cx) (id : String) (op : D → List D → Option R) : Prop :=
  MtR X id fun x xs H Q => ∃ F d ds r, Same F H ∧ CV X.kw F H x d ∧ CVs X.kw F H xs ds ∧ op d ds = some r ∧ RP X.kw F H Q r
def kindD : D → String
  | .str _ => "str" | .int _ => "int" | .lst _ => "list" | .scr _ => "list" | .dk _ => "dict" | .dt _ => "dict" | _ => ""
def chkT (T : String) (x : R) : M Unit := fun g => match cont g x with
  | some d => if kindD d = T then .ok () g else .bad
  | none => .bad
def opM (op : D → List D → Option R) (x : R) (ys : List R) : M R := fun g => match cont g x, conts g ys with
  | some d, some ds => done (op d ds) g
  | _, _ => .bad
def eMeth (T : String) (op : D → List D → Option R) (f : M R) (k : M (List R)) : M R := mb (pk f) fun x => mb (chkT T x) fun _ => mb k fun ys => opM op x ys
theorem tyV_of {K : KW} {F H : Hp} {v : V} {d : D} (sm : Same F H) (h : CV K F H v d) (hT : kindD d ≠ "") : tyV K (kindD d) v H := by
  have cases4 : ∀ {a : Addr} {u : HO}, H a = some u → (∀ kvs, u = .dK kvs → tyV K "dict" (.ref a) H) ∧ (∀ kvs, u = .dT kvs → tyV K "dict" (.ref a) H) := fun {a u} e =>
    ⟨fun kvs z => .inr (.inr (.inl ⟨rfl, .inl ⟨kvs, z ▸ e⟩⟩)), fun kvs z => .inr (.inr (.inl ⟨rfl, .inr ⟨kvs, z ▸ e⟩⟩))⟩
  cases d with
  | str z => rw [h.str.1]; exact rfl
  | int z => rw [h.int]; exact rfl
  | lst xs => obtain ⟨p, vs, rfl, h1, _⟩ := h.lst sm; exact .inl ⟨rfl, vs, SqL.of h1⟩
  | scr ns => obtain ⟨p, rfl, h1, _⟩ := h.scr; exact .inl ⟨rfl, _, sm.seq h1⟩
  | dk kvs =>
    rcases h with h | ⟨a, o, rfl, q, e⟩
    · obtain ⟨a, ks, rfl, h1, _⟩ := h; exact (cases4 (sm _ _ h1)).1 _ rfl
    · cases o with
      | dk ys => obtain ⟨ks, h1, _⟩ := q; exact (cases4 h1).1 _ rfl
      | ls _ => cases e
      | dt _ => cases e
      | dd _ => cases e
      | ob _ _ => cases e
  | dt kvs =>
    rcases h with h | ⟨a, o, rfl, q, e⟩
    · obtain ⟨a, ks, rfl, h1, _⟩ := h; exact (cases4 (sm _ _ h1)).2 _ rfl
    · cases o with
      | dt ys => obtain ⟨ks, h1, _⟩ := q; exact (cases4 h1).2 _ rfl
      | ls _ => cases e
      | dk _ => cases e
      | dd _ => cases e
      | ob _ _ => cases e
  | non => exact absurd rfl hT
  | bl _ => exact absurd rfl hT
  | tup _ => exact absurd rfl hT
  | dd _ => exact absurd rfl hT
  | obj _ _ => exact absurd rfl hT
  | exc _ => exact absurd rfl hT
theorem chkT_of {α : Type} {K : KW} {σ : St} {F H : Hp} {J : α → G → Hp → Hp → Prop} {T : String} {x : R} {g : G} {k : Unit → M α} (h : Post K Y W σ F J (mb (chkT T x) k g)) : (∃ d, cont g x = some d ∧ kindD d = T) ∧ Post K Y W σ F J (k () g) := by
  have h' : Post K Y W σ F J ((chkT T x g).andThen k) := h
  unfold chkT at h'
  split at h'
  · rename_i d e
    split at h'
    · rename_i e2; exact ⟨⟨d, e, e2⟩, h'⟩
    · exact h'.elim
  · exact h'.elim
theorem meth_args {f : M R} {k : M (List R)} {op : D → List D → Option R} {T : String} {σ : St} {H : Hp} {Q : VK} {K : KW} (hT : T ≠ "") (h : tD K Y W (eMeth T op f k) σ H Q) :
    tD K Y W (pk f) σ H fun x H1 => tyV K T x H1 ∧ tA K Y W k σ H1 fun xs H2 => ∃ F d ds r, Same F H2 ∧ CV K F H2 x d ∧ CVs K F H2 xs ds ∧ op d ds = some r ∧ RP K F H2 Q r := by
  obtain ⟨g, F, r, p⟩ := h
  refine ⟨g, F, r, (p.bind).imp fun x g1 H1 F1 r1 s1 q v hv => ?_⟩
  obtain ⟨⟨d, e1, e2⟩, q2⟩ := chkT_of (H := H1) q
  refine ⟨by rw [← e2]; exact tyV_of r1.sub (r1.cv hv e1) (by rw [e2]; exact hT), g1, F1, r1, (q2.bind).imp fun ys g2 H2 F2 r2 s2 q3 us hus => ?_⟩
  unfold opM at q3
  split at q3
  · rename_i d' ds e3 e4
    obtain ⟨r', h1, h2⟩ := Post.done q3 r2
    exact ⟨F2, d', ds, r', r2.sub, r2.cv (hv.keep s2 (cont_ne e3)) e3, hus.cvs r2 e4, h1, h2⟩
  · exact q3.elim
theorem de_meth {f : M R} {k : M (List R)} {op : D → List D → Option R} (hT : T ≠ "") (pa : PlainAttrs T) (slot : Slot T name id) (hty : typeOf (.builtin id) = pure (.type "method_descriptor")) (hm : MtD X id op) (ho : DE X Y W o f) (ha : DA X Y W (e :: es) k)
    (hbase : attributeBase o name X.env (eval o X.env) = eval o X.env := by rfl)
    (hfew : ((backTo pos (starEach (e :: es) X.env)).all (fun x => !x.1) && (backToKw pos (keywordEach [] X.env)).all (fun x => x.1.isSome)
      && decide ((e :: es).length + ([] : List Keyword).length + (if ([] : List Keyword).isEmpty then 0 else 1) < 30)) = true := by rfl)
    (hline : (apos.endLine == pos.line) = true := by rfl) (hs : starEach (e :: es) X.env = (false, eval e X.env) :: starEach es X.env := by rfl) (hplain : (backTo pos (starEach es X.env)).any (·.1) = false := by rfl) :
    DE X Y W (.Call (.Attribute o name apos) (e :: es) [] pos) (eMeth T op f k) :=
  pe_mono (pe_bm pa slot hty hm (de_pk ho) ha hbase hfew hline hs hplain) fun σ H Q h => meth_args hT h
theorem de_meth0 {f : M R} {op : D → List D → Option R} (hT : T ≠ "") (pa : PlainAttrs T) (slot : Slot T name id) (hty : typeOf (.builtin id) = pure (.type "method_descriptor")) (hm : MtD X id op) (ho : DE X Y W o f)
    (hbase : attributeBase o name X.env (eval o X.env) = eval o X.env := by rfl) (hline : (apos.endLine == pos.line) = true := by rfl) : DE X Y W (.Call (.Attribute o name apos) [] [] pos) (eMeth T op f aNil) :=
  pe_mono (pe_bm0 pa slot hty hm (de_pk ho) hbase hline) fun σ H Q h => by
    obtain ⟨g, F, r, p⟩ := meth_args hT h
    refine ⟨g, F, r, p.imp fun x g1 H1 F1 r1 s1 q v hv => ?_⟩
    obtain ⟨h1, g2, F2, r2, p2⟩ := q v hv
    exact ⟨h1, p2 H1 F2 r2 (Same.refl _) [] rfl⟩

/-! ### methods that change a list of a slot -/
def MutD (X : Cx) (id : String) (op : O → List D → Option (O × D)) : Prop :=
  MtR X id fun x xs H Q => ∃ F a o ds o' d, x = .ref a ∧ OwAt X.kw F H a o ∧ F a = none ∧ Same F H ∧ IsL X.kw F xs ds ∧ op o ds = some (o', d) ∧ ∀ u v, OwAt X.kw F (upd H a u) a o' → Is X.kw F v d → Q v (upd H a u)
/-- an operation on leaves -/
class LeafOp (op : O → List D → Option (O × D)) : Prop where
  h : ∀ o ds o' d, op o ds = some (o', d) → o.leaf = true ∧ o'.leaf = true
def opMut (op : O → List D → Option (O × D)) (x : R) (ys : List R) : M R := fun g => match x with
  | .at i => match g[i]?, allFz ys with
    | some (some (.ow l o)), some ds => match op o ds with
      | some (o', d) => .ok (.fz d) (g.set i (some (.ow l o')))
      | none => .bad
    | _, _ => .bad
  | .sub i f => match g[i]?, allFz ys with
    | some (some (.ow l (.ob c fs))), some ds => (match fs.get f with
      | some (.inr o) => (match op o ds with
        | some (o', d) => .ok (.fz d) (g.set i (some (.ow l (.ob c (fs.put f o')))))
        | none => .bad)
      | _ => .bad)
    | _, _ => .bad
  | _ => .bad
def eMut (T : String) (op : O → List D → Option (O × D)) (f : M R) (k : M (List R)) : M R := mb f fun x => mb (chkT T x) fun _ => mb k fun ys => opMut op x ys
theorem opMut_of {K : KW} {σ : St} {F H : Hp} {Q : VK} {g : G} {op : O → List D → Option (O × D)} [lo : LeafOp op] {x : R} {ys : List R} {v : V} {us : List V} (h : Post K Y W σ F (JV K Y σ Q) (opMut op x ys g)) (r : Rel K Y σ H g F) (hv : RV K Y σ F H g v x)
    (hu : RVs K Y σ F H g us ys) : ∃ F a o ds o' d, v = .ref a ∧ OwAt K F H a o ∧ F a = none ∧ Same F H ∧ IsL K F us ds ∧ op o ds = some (o', d) ∧ ∀ u w, OwAt K F (upd H a u) a o' → Is K F w d → Q w (upd H a u) := by
  cases x with
  | fz d => exact h.elim
  | ow d => exact h.elim
  | «at» i =>
    unfold opMut at h
    simp only at h
    split at h
    · rename_i l o ds e1 e2
      split at h
      · rename_i o' d e3
        obtain ⟨a, rfl, k1, _, k2, _⟩ := r.at_ e1 hv
        obtain ⟨l1, l2⟩ := lo.h _ _ _ _ e3
        exact ⟨F, a, o, ds, o', d, rfl, k1, (k2 a (by rw [foot_leaf l1]; simp)).1, r.sub, hu.fz e2, e3, fun u w q1 q2 => h _ F (r.mut e1 hv l1 l2 q1) (Same.refl _) w q2⟩
      · exact h.elim
    · exact h.elim
  | sub i f =>
    unfold opMut at h
    simp only at h
    split at h
    · rename_i l c fs ds e1 e2
      split at h
      · rename_i o eo
        split at h
        · rename_i o' d e3
          obtain ⟨l1, l2⟩ := lo.h _ _ _ _ e3
          obtain ⟨a, C, dx, vs, b, k1, rfl, k2, k3, k4, k5, t, ef⟩ := r.subAt e1 hv eo
          have n1 : F b = none := ((r.at_ e1 k1).cells b (show b ∈ foot F a (.ob c fs) by rw [ef]; exact k5 b (by rw [foot_leaf l1]; simp))).1
          exact ⟨F, b, o, ds, o', d, rfl, k4, n1, r.sub, hu.fz e2, e3, fun u w q1 q2 => h _ F (r.mutSub e1 hv eo l1 l2 q1) (Same.refl _) w q2⟩
        · exact h.elim
      · exact h.elim
    · exact h.elim
theorem mut_args {f : M R} {k : M (List R)} {op : O → List D → Option (O × D)} [LeafOp op] {T : String} {σ : St} {H : Hp} {Q : VK} {K : KW} (hT : T ≠ "") (h : tD K Y W (eMut T op f k) σ H Q) :
    tD K Y W f σ H fun x H1 => tyV K T x H1 ∧ tA K Y W k σ H1 fun xs H2 => ∃ F a o ds o' d, x = .ref a ∧ OwAt K F H2 a o ∧ F a = none ∧ Same F H2 ∧ IsL K F xs ds ∧ op o ds = some (o', d) ∧ ∀ u v, OwAt K F (upd H2 a u) a o' → Is K F v d → Q v (upd H2 a u) := by
  obtain ⟨g, F, r, p⟩ := h
  refine ⟨g, F, r, (p.bind).imp fun x g1 H1 F1 r1 s1 q v hv => ?_⟩
  obtain ⟨⟨d, e1, e2⟩, q2⟩ := chkT_of (H := H1) q
  refine ⟨by rw [← e2]; exact tyV_of r1.sub (r1.cv hv e1) (by rw [e2]; exact hT), g1, F1, r1, (q2.bind).imp fun ys g2 H2 F2 r2 s2 q3 us hus => ?_⟩
  exact opMut_of q3 r2 (hv.keep s2 (cont_ne e1)) hus
theorem de_mut {f : M R} {k : M (List R)} {op : O → List D → Option (O × D)} [LeafOp op] (hT : T ≠ "") (pa : PlainAttrs T) (slot : Slot T name id) (hty : typeOf (.builtin id) = pure (.type "method_descriptor")) (hm : MutD X id op) (ho : DE X Y W o f) (ha : DA X Y W (e :: es) k)
    (hbase : attributeBase o name X.env (eval o X.env) = eval o X.env := by rfl)
    (hfew : ((backTo pos (starEach (e :: es) X.env)).all (fun x => !x.1) && (backToKw pos (keywordEach [] X.env)).all (fun x => x.1.isSome)
      && decide ((e :: es).length + ([] : List Keyword).length + (if ([] : List Keyword).isEmpty then 0 else 1) < 30)) = true := by rfl)
    (hline : (apos.endLine == pos.line) = true := by rfl) (hs : starEach (e :: es) X.env = (false, eval e X.env) :: starEach es X.env := by rfl) (hplain : (backTo pos (starEach es X.env)).any (·.1) = false := by rfl) :
    DE X Y W (.Call (.Attribute o name apos) (e :: es) [] pos) (eMut T op f k) :=
  pe_mono (pe_bm pa slot hty hm ho ha hbase hfew hline hs hplain) fun σ H Q h => mut_args hT h
theorem de_mut0 {f : M R} {op : O → List D → Option (O × D)} [LeafOp op] (hT : T ≠ "") (pa : PlainAttrs T) (slot : Slot T name id) (hty : typeOf (.builtin id) = pure (.type "method_descriptor")) (hm : MutD X id op) (ho : DE X Y W o f)
    (hbase : attributeBase o name X.env (eval o X.env) = eval o X.env := by rfl) (hline : (apos.endLine == pos.line) = true := by rfl) : DE X Y W (.Call (.Attribute o name apos) [] [] pos) (eMut T op f aNil) :=
  pe_mono (pe_bm0 pa slot hty hm ho hbase hline) fun σ H Q h => by
    obtain ⟨g, F, r, p⟩ := mut_args hT h
    refine ⟨g, F, r, p.imp fun x g1 H1 F1 r1 s1 q v hv => ?_⟩
    obtain ⟨h1, g2, F2, r2, p2⟩ := q v hv
    exact ⟨h1, p2 H1 F2 r2 (Same.refl _) [] rfl⟩
end
end DL

namespace DL
open PySem PySem.Spec L2

/-! ### what built-ins compute -/
def intsOf : List D → Option (List Int)
  | [] => some []
  | .int i :: r => (intsOf r).map (i :: ·)
  | _ => none
def bolsOf : List D → Option (List Bool)
  | [] => some []
  | .bl i :: r => (bolsOf r).map (i :: ·)
  | _ => none
def strsOf : List D → Option (List Str)
  | [] => some []
  | .str i :: r => (strsOf r).map (i :: ·)
  | _ => none
@[simp] theorem intsOf_map : ∀ ns : List Int, intsOf (ns.map D.int) = some ns
  | [] => rfl
  | n :: ns => by rw [List.map_cons, intsOf, intsOf_map ns]; rfl
@[simp] theorem bolsOf_map : ∀ ns : List Bool, bolsOf (ns.map D.bl) = some ns
  | [] => rfl
  | n :: ns => by rw [List.map_cons, bolsOf, bolsOf_map ns]; rfl
@[simp] theorem strsOf_map : ∀ ns : List Str, strsOf (ns.map D.str) = some ns
  | [] => rfl
  | n :: ns => by rw [List.map_cons, strsOf, strsOf_map ns]; rfl
theorem intsOf_eq : ∀ {ds : List D} {ns : List Int}, intsOf ds = some ns → ds = ns.map D.int
  | [], _, h => by cases h; rfl
  | .int i :: r, ns, h => by
    unfold intsOf at h
    cases e : intsOf r with
    | none => rw [e] at h; cases h
    | some m => rw [e] at h; cases h; rw [List.map_cons, intsOf_eq e]
  | .non :: _, _, h => by cases h
  | .bl _ :: _, _, h => by cases h
  | .str _ :: _, _, h => by cases h
  | .tup _ :: _, _, h => by cases h
  | .lst _ :: _, _, h => by cases h
  | .dk _ :: _, _, h => by cases h
  | .dt _ :: _, _, h => by cases h
  | .scr _ :: _, _, h => by cases h
theorem bolsOf_eq : ∀ {ds : List D} {ns : List Bool}, bolsOf ds = some ns → ds = ns.map D.bl
  | [], _, h => by cases h; rfl
  | .bl i :: r, ns, h => by
    unfold bolsOf at h
    cases e : bolsOf r with
    | none => rw [e] at h; cases h
    | some m => rw [e] at h; cases h; rw [List.map_cons, bolsOf_eq e]
  | .non :: _, _, h => by cases h
  | .int _ :: _, _, h => by cases h
  | .str _ :: _, _, h => by cases h
  | .tup _ :: _, _, h => by cases h
  | .lst _ :: _, _, h => by cases h
  | .dk _ :: _, _, h => by cases h
  | .dt _ :: _, _, h => by cases h
  | .scr _ :: _, _, h => by cases h
theorem strsOf_eq : ∀ {ds : List D} {ns : List Str}, strsOf ds = some ns → ds = ns.map D.str
  | [], _, h => by cases h; rfl
  | .str i :: r, ns, h => by
    unfold strsOf at h
    cases e : strsOf r with
    | none => rw [e] at h; cases h
    | some m => rw [e] at h; cases h; rw [List.map_cons, strsOf_eq e]
  | .non :: _, _, h => by cases h
  | .int _ :: _, _, h => by cases h
  | .bl _ :: _, _, h => by cases h
  | .tup _ :: _, _, h => by cases h
  | .lst _ :: _, _, h => by cases h
  | .dk _ :: _, _, h => by cases h
  | .dt _ :: _, _, h => by cases h
  | .scr _ :: _, _, h => by cases h
theorem IsL.bols' {K : KW} {F : Hp} : ∀ (ns : List Bool) (vs : List V), IsL K F vs (ns.map D.bl) → vs = ns.map V.bl
  | [], _, e => e
  | n :: ns, _, ⟨v, r, e, q, t⟩ => by subst e; rw [show v = .bl n from q, IsL.bols' ns r t]; rfl
theorem IsL.strs' {K : KW} {F : Hp} : ∀ (ns : List Str) (vs : List V), IsL K F vs (ns.map D.str) → vs = ns.map V.str ∧ ∀ z ∈ ns, z.length ≤ sizeLine
  | [], _, e => ⟨e, fun _ h => nomatch h⟩
  | n :: ns, _, ⟨v, r, e, q, t⟩ => by
    obtain ⟨h1, h2⟩ := IsL.strs' ns r t
    subst e
    exact ⟨by rw [show v = .str n from q.1, h1]; rfl, fun z hz => (List.mem_cons.mp hz).elim (fun e => e ▸ q.2) (h2 z)⟩
theorem IsL.strs {K : KW} {F : Hp} : ∀ ns : List Str, (∀ z ∈ ns, z.length ≤ sizeLine) → IsL K F (ns.map V.str) (ns.map D.str)
  | [], _ => rfl
  | n :: ns, h => ⟨.str n, ns.map V.str, rfl, ⟨rfl, h n List.mem_cons_self⟩, IsL.strs ns fun z hz => h z (List.mem_cons_of_mem _ hz)⟩

def srt (ns : List Int) : List Int := ns.mergeSort (fun a b => decide (a ≤ b))
theorem srt_perm (ns : List Int) : (srt ns).Perm ns := List.mergeSort_perm ns _
theorem srt_pw (ns : List Int) : (srt ns).Pairwise (· ≤ ·) := by
  have h := List.pairwise_mergeSort (le := fun a b : Int => decide (a ≤ b)) (fun a b c h1 h2 => by simp only [decide_eq_true_eq] at *; omega) (fun a b => by simp only [Bool.or_eq_true, decide_eq_true_eq]; omega) ns
  exact h.imp fun {a b} q => of_decide_eq_true q
theorem srt_of {ns ms : List Int} (h1 : ms.Perm ns) (h2 : ms.Pairwise (· ≤ ·)) : ms = srt ns := PySem.W.ksm_same (h1.trans (srt_perm ns).symm) h2 (srt_pw ns)

def fLen : List D → Option R
  | [.str s] => some (.fz (.int s.length))
  | [.tup xs] => some (.fz (.int xs.length))
  | [.lst xs] => some (.fz (.int xs.length))
  | [.scr xs] => some (.fz (.int xs.length))
  | _ => none
def fTuple : List D → Option R
  | [.lst xs] => some (.fz (.tup xs))
  | [.tup xs] => some (.fz (.tup xs))
  | _ => none
def fList : List D → Option R
  | [.lst xs] => some (.ow (.ls xs))
  | [.tup xs] => some (.ow (.ls xs))
  | [.scr xs] => some (.ow (.ls (xs.map D.int)))
  | _ => none
def fSorted : List D → Option R
  | [.lst xs] => (intsOf xs).map fun ns => .ow (.ls ((srt ns).map D.int))
  | _ => none
def fSum : List D → Option R
  | [.lst xs] => (intsOf xs).map fun ns => .fz (.int ns.sum)
  | _ => none
def fAll : List D → Option R
  | [.lst xs] => (bolsOf xs).map fun ns => .fz (.bl (ns.all id))
  | _ => none
def fAny : List D → Option R
  | [.lst xs] => (bolsOf xs).map fun ns => .fz (.bl (ns.any id))
  | _ => none
def fInt : List D → Option R
  | [.int i] => some (.fz (.int i))
  | [.bl b] => some (.fz (.int (if b then 1 else 0)))
  | [.str s] => if s.length ≤ 640 then (PySem.intText? s).map fun n => .fz (.int n) else none
  | _ => none
def fStr : List D → Option R
  | [.int i] => if i.natAbs.log2 < 1920 ∧ (toString i : Str).length ≤ sizeLine then some (.fz (.str (toString i))) else none
  | [.str s] => some (.fz (.str s))
  | _ => none
def fAbs : List D → Option R
  | [.int i] => some (.fz (.int (if i < 0 then -i else i)))
  | _ => none
def fMax2 : List D → Option R
  | [.int i, .int j] => some (.fz (.int (if j > i then j else i)))
  | _ => none
def fMin2 : List D → Option R
  | [.int i, .int j] => some (.fz (.int (if j < i then j else i)))
  | _ => none
def okRepr (d : D) : Bool := d.flat && d.py.showable && decide (d.py.depth ≤ 64) && decide (d.py.shown.length ≤ sizeLine)
def fRepr : List D → Option R
  | [d] => if okRepr d = true then some (.fz (.str d.py.shown)) else none
  | _ => none

mutual
theorem flat_noDict : ∀ d : D, d.flat = true → d.py.hasDict = false
  | .non, _ => rfl
  | .bl _, _ => rfl
  | .int _, _ => rfl
  | .str _, _ => rfl
  | .tup ds, h => flatL_noDict ds h
  | .lst ds, h => flatL_noDict ds h
  | .dk _, h => nomatch h
  | .dt _, h => nomatch h
  | .scr _, h => nomatch h
  | .exc _, h => nomatch h
theorem flatL_noDict : ∀ ds : List D, flatL ds = true → PyData.hasDictAll (pyL ds) = false
  | [], _ => rfl
  | d :: ds, h => by
    rw [flatL, Bool.and_eq_true] at h
    rw [pyL, PyData.hasDictAll, flat_noDict d h.1, flatL_noDict ds h.2]; rfl
end

section
variable {X : Cx}
theorem cd_len : CallD X (.builtin "len") fLen := by
  intro pins s σ H xs us Q I r ⟨F, ds, r', sm, hc, ho, hr⟩
  unfold fLen at ho
  split at ho
  · cases ho
    obtain ⟨v, rfl, q⟩ := hc.one
    obtain ⟨rfl, hz⟩ := q.str
    exact call_len pins s σ H _ us Q I r ⟨_, _, rfl, ⟨hz, rfl⟩, hr.now sm rfl⟩
  · cases ho
    obtain ⟨v, rfl, q⟩ := hc.one
    obtain ⟨p, vs, rfl, h1, h2, h3⟩ := q.tup
    exact call_len pins s σ H _ us Q I r ⟨_, _, rfl, .inr ⟨vs, sqT_mono sm h1, h3.length.symm⟩, hr.now sm rfl⟩
  · cases ho
    obtain ⟨v, rfl, q⟩ := hc.one
    obtain ⟨p, vs, rfl, h1, h2, h3⟩ := q.lst sm
    exact call_len pins s σ H _ us Q I r ⟨_, _, rfl, .inl ⟨vs, SqL.of h1, h3.length.symm⟩, hr.now sm rfl⟩
  · cases ho
    obtain ⟨v, rfl, q⟩ := hc.one
    obtain ⟨p, rfl, h1, h2⟩ := q.scr
    exact call_len pins s σ H _ us Q I r ⟨_, _, rfl, .inl ⟨_, sm.seq h1, (List.length_map ..).symm⟩, hr.now sm rfl⟩
  · cases ho
theorem cd_tuple : CallD X (.type "tuple") fTuple := by
  intro pins s σ H xs us Q I r ⟨F, ds, r', sm, hc, ho, hr⟩
  unfold fTuple at ho
  split at ho
  · cases ho
    obtain ⟨v, rfl, q⟩ := hc.one
    obtain ⟨p, vs, rfl, h1, h2, h3⟩ := q.lst sm
    exact call_tuple_of pins s σ H _ us Q I r ⟨_, _, rfl, .inl ⟨SqL.of h1, fun l hl => hr.tup sm h3 h2 hl⟩⟩
  · cases ho
    obtain ⟨v, rfl, q⟩ := hc.one
    obtain ⟨p, vs, rfl, h1, h2, h3⟩ := q.tup
    exact call_tuple_of pins s σ H _ us Q I r ⟨_, _, rfl, .inr ⟨sqT_mono sm h1, hr.now sm ⟨p, vs, rfl, h1, h2, h3⟩⟩⟩
  · cases ho
theorem cd_list : CallD X (.type "list") fList := by
  intro pins s σ H xs us Q I r ⟨F, ds, r', sm, hc, ho, hr⟩
  unfold fList at ho
  split at ho
  · cases ho
    obtain ⟨v, rfl, q⟩ := hc.one
    obtain ⟨p, vs, rfl, h1, h2, h3⟩ := q.lst sm
    exact call_list_of pins s σ H _ us Q I r ⟨_, _, rfl, .inl (SqL.of h1), fun l hl => hr.ls sm h3 h2 hl⟩
  · cases ho
    obtain ⟨v, rfl, q⟩ := hc.one
    obtain ⟨p, vs, rfl, h1, h2, h3⟩ := q.tup
    exact call_list_of pins s σ H _ us Q I r ⟨_, _, rfl, .inr (sqT_mono sm h1), fun l hl => hr.ls sm h3 h2 hl⟩
  · cases ho
    obtain ⟨v, rfl, q⟩ := hc.one
    obtain ⟨p, rfl, h1, h2⟩ := q.scr
    exact call_list_of pins s σ H _ us Q I r ⟨_, _, rfl, .inl (sm.seq h1), fun l hl => hr.ls sm (IsL.ints _) (by rw [List.length_map]; exact h2) hl⟩
  · cases ho
theorem lst_one {K : KW} {F H : Hp} {xs : List V} {ds : List D} (sm : Same F H) (hc : CVs K F H xs [.lst ds]) : ∃ p vs, xs = [.ref p] ∧ SqL K H p vs ∧ ds.length ≤ sizeLine ∧ IsL K F vs ds := by
  obtain ⟨v, rfl, q⟩ := hc.one
  obtain ⟨p, vs, rfl, h1, h2, h3⟩ := q.lst sm
  exact ⟨p, vs, rfl, SqL.of h1, h2, h3⟩
theorem cd_sorted : CallD X (.builtin "sorted") fSorted := by
  intro pins s σ H xs us Q I r ⟨F, ds, r', sm, hc, ho, hr⟩
  unfold fSorted at ho
  split at ho
  · rename_i ds
    cases e : intsOf ds with
    | none => rw [e] at ho; cases ho
    | some ns =>
      rw [e] at ho; cases ho
      obtain ⟨p, vs, rfl, h1, h2, h3⟩ := lst_one sm hc
      have e' := intsOf_eq e
      subst e'
      rw [h3.ints'] at h1
      refine cr_sortedI pins s σ H _ us Q I r ⟨p, ns, rfl, h1, fun ms l q1 q2 hl => ?_⟩
      rw [srt_of q1 q2]
      exact hr.ls sm (IsL.ints _) (by rw [List.length_map, (srt_perm ns).length_eq]; rw [List.length_map] at h2; exact h2) hl
  · cases ho
theorem cd_sum (hcm : X.calm = true) : CallD X (.builtin "sum") fSum := by
  intro pins s σ H xs us Q I r ⟨F, ds, r', sm, hc, ho, hr⟩
  unfold fSum at ho
  split at ho
  · rename_i ds
    cases e : intsOf ds with
    | none => rw [e] at ho; cases ho
    | some ns =>
      rw [e] at ho; cases ho
      obtain ⟨p, vs, rfl, h1, h2, h3⟩ := lst_one sm hc
      have e' := intsOf_eq e
      subst e'
      rw [h3.ints'] at h1
      exact cr_sum hcm pins s σ H _ us Q I r ⟨p, ns, rfl, h1, hr.now sm rfl⟩
  · cases ho
theorem cd_all (hcm : X.calm = true) : CallD X (.builtin "all") fAll := by
  intro pins s σ H xs us Q I r ⟨F, ds, r', sm, hc, ho, hr⟩
  unfold fAll at ho
  split at ho
  · rename_i ds
    cases e : bolsOf ds with
    | none => rw [e] at ho; cases ho
    | some ns =>
      rw [e] at ho; cases ho
      obtain ⟨p, vs, rfl, h1, h2, h3⟩ := lst_one sm hc
      have e' := bolsOf_eq e
      subst e'
      rw [h3.bols'] at h1
      exact cr_all hcm pins s σ H _ us Q I r ⟨p, ns, rfl, h1, hr.now sm rfl⟩
  · cases ho
theorem cd_any (hcm : X.calm = true) : CallD X (.builtin "any") fAny := by
  intro pins s σ H xs us Q I r ⟨F, ds, r', sm, hc, ho, hr⟩
  unfold fAny at ho
  split at ho
  · rename_i ds
    cases e : bolsOf ds with
    | none => rw [e] at ho; cases ho
    | some ns =>
      rw [e] at ho; cases ho
      obtain ⟨p, vs, rfl, h1, h2, h3⟩ := lst_one sm hc
      have e' := bolsOf_eq e
      subst e'
      rw [h3.bols'] at h1
      exact cr_any hcm pins s σ H _ us Q I r ⟨p, ns, rfl, h1, hr.now sm rfl⟩
  · cases ho
theorem cd_int : CallD X (.type "int") fInt := by
  intro pins s σ H xs us Q I r ⟨F, ds, r', sm, hc, ho, hr⟩
  unfold fInt at ho
  split at ho
  · cases ho
    obtain ⟨v, rfl, q⟩ := hc.one
    rw [q.int] at r
    exact call_int1 pins s σ H _ us Q I r (.inl ⟨_, rfl, hr.now sm rfl⟩)
  · cases ho
    obtain ⟨v, rfl, q⟩ := hc.one
    rw [q.bl] at r
    exact call_int1 pins s σ H _ us Q I r (.inr ⟨_, rfl, hr.now sm rfl⟩)
  · split at ho
    · rename_i z hz
      cases e : PySem.intText? z with
      | none => rw [e] at ho; cases ho
      | some n =>
        rw [e] at ho; cases ho
        obtain ⟨v, rfl, q⟩ := hc.one
        rw [q.str.1] at r
        exact call_int_str pins s σ H _ us Q I r ⟨_, _, rfl, e, hz, hr.now sm rfl⟩
    · cases ho
  · cases ho
theorem cd_str : CallD X (.type "str") fStr := by
  intro pins s σ H xs us Q I r ⟨F, ds, r', sm, hc, ho, hr⟩
  unfold fStr at ho
  split at ho
  · split at ho
    · rename_i i hz
      cases ho
      obtain ⟨v, rfl, q⟩ := hc.one
      rw [q.int] at r
      exact call_str_int pins s σ H _ us Q I r ⟨_, rfl, hz.1, hr.now sm ⟨rfl, hz.2⟩⟩
    · cases ho
  · cases ho
    obtain ⟨v, rfl, q⟩ := hc.one
    rw [q.str.1] at r
    exact SkE.call_str_str pins s σ H _ us Q I r ⟨_, rfl, hr.now sm ⟨rfl, q.str.2⟩⟩
  · cases ho
theorem cd_abs : CallD X (.builtin "abs") fAbs := by
  intro pins s σ H xs us Q I r ⟨F, ds, r', sm, hc, ho, hr⟩
  unfold fAbs at ho
  split at ho
  · cases ho
    obtain ⟨v, rfl, q⟩ := hc.one
    rw [q.int] at r
    exact call_abs pins s σ H _ us Q I r ⟨_, rfl, hr.now sm rfl⟩
  · cases ho
theorem cd_max2 (hcm : X.calm = true) : CallD X (.builtin "max") fMax2 := by
  intro pins s σ H xs us Q I r ⟨F, ds, r', sm, hc, ho, hr⟩
  unfold fMax2 at ho
  split at ho
  · cases ho
    obtain ⟨v, u, rfl, q, q'⟩ := hc.two
    rw [q.int, q'.int] at r
    exact call_max2 hcm pins s σ H _ us Q I r ⟨_, _, rfl, hr.now sm rfl⟩
  · cases ho
theorem cd_min2 (hcm : X.calm = true) : CallD X (.builtin "min") fMin2 := by
  intro pins s σ H xs us Q I r ⟨F, ds, r', sm, hc, ho, hr⟩
  unfold fMin2 at ho
  split at ho
  · cases ho
    obtain ⟨v, u, rfl, q, q'⟩ := hc.two
    rw [q.int, q'.int] at r
    exact call_min2 hcm pins s σ H _ us Q I r ⟨_, _, rfl, hr.now sm rfl⟩
  · cases ho
theorem cd_repr (hg : X.A.guards = some []) (hu : X.A.units + 128 < cLine) : CallD X (.builtin "repr") fRepr := by
  intro pins s σ H xs us Q I r ⟨F, ds, r', sm, hc, ho, hr⟩
  unfold fRepr at ho
  split at ho
  · split at ho
    · rename_i d hz
      cases ho
      unfold okRepr at hz
      rw [Bool.and_eq_true, Bool.and_eq_true, Bool.and_eq_true] at hz
      obtain ⟨⟨⟨hf, hs⟩, hd⟩, hl⟩ := hz
      have hd := of_decide_eq_true hd
      have hl := of_decide_eq_true hl
      obtain ⟨v, rfl, q⟩ := hc.one
      obtain ⟨u, rfl, ru⟩ := vals1 r
      have dp := q.dp sm hf
      have q' : Q (.str d.py.shown) H := hr.now sm ⟨rfl, hl⟩
      have nd := flat_noDict d hf
      clear hr hc q hf
      generalize d.py = e at *
      obtain ⟨as, rd⟩ := Dp.reads I e v u dp ru
      cases u with
      | none => cases rd; exact P.repr_of_none ⟨.str _, H, I.tok _, ⟨_, rfl⟩, q'⟩
      | bool b => cases rd; exact P.repr_of_bool ⟨.str _, H, I.tok _, ⟨_, rfl⟩, q'⟩
      | int i t => cases rd; exact P.repr_of_int (of_decide_eq_true hs) ⟨.str _, H, I.tok _, ⟨_, rfl⟩, q'⟩
      | str x t => cases rd; exact P.repr_of_str ⟨.str _, H, I.tok _, ⟨_, rfl⟩, q'⟩ hl
      | ref a => exact repr_of_reads' rd hs (fun h => by rw [nd] at h; cases h) hg (by omega) (fun _ _ z => z) (fun h' w tk hk => ⟨.str e.shown, H, I.kept hk, ⟨w, rfl⟩, q'⟩) hl
      | _ => cases rd
    · cases ho
  · cases ho
end
end DL

namespace DL
open PySem PySem.Spec L2

/-! ### subscripts, slices -/
def ixD : D → D → Option R
  | .lst xs, .int i => (atI xs i).map .fz
  | .tup xs, .int i => (atI xs i).map .fz
  | .str z, .int i => (atI z.cps.toList i).map fun c => .fz (.str ⟨#[c]⟩)
  | .scr ns, .int i => (atI ns i).map fun n => .fz (.int n)
  | _, _ => none
def cutL {α : Type} (xs : List α) (lo hi : Option Int) : List α := (xs.drop (HT.sIx xs.length 0 lo)).take (HT.sIx xs.length xs.length hi - HT.sIx xs.length 0 lo)
theorem cutL_length {α : Type} (xs : List α) (lo hi : Option Int) : (cutL xs lo hi).length ≤ xs.length := by
  unfold cutL; rw [List.length_take, List.length_drop]; omega
def slD (lo hi : Option Int) : D → Option R
  | .lst xs => some (.ow (.ls (cutL xs lo hi)))
  | .tup xs => some (.fz (.tup (cutL xs lo hi)))
  | .str z => some (.fz (.str (cutS z lo hi)))
  | _ => none
theorem atI_eq {α β : Type} {xs : List α} {ys : List β} {i : Int} {j : Nat} (h : ixN xs.length i = some j) (hl : ys.length = xs.length) {y : β} (hy : ys[j]? = some y) : atI ys i = some y := by
  unfold atI; rw [hl, h]; exact hy
theorem atI_ix {α : Type} {xs : List α} {i : Int} {x : α} (h : atI xs i = some x) : ∃ j, ixN xs.length i = some j ∧ xs[j]? = some x := by
  unfold atI at h
  cases e : ixN xs.length i with
  | none => rw [e] at h; cases h
  | some j => rw [e] at h; exact ⟨j, rfl, h⟩
theorem IsL.atI {K : KW} {F : Hp} {ds : List D} {vs : List V} {i : Int} {d : D} (q : IsL K F vs ds) (h : L2.atI ds i = some d) : ∃ v, L2.atI vs i = some v ∧ Is K F v d := by
  obtain ⟨j, h1, h2⟩ := atI_ix h
  obtain ⟨v, h3, h4⟩ := q.get h2
  exact ⟨v, atI_eq h1 q.length h3, h4⟩
def IxD (X : Cx) (op : D → D → Option R) : Prop :=
  IxR X fun x y H Q => ∃ F a b r, Same F H ∧ CV X.kw F H x a ∧ CV X.kw F H y b ∧ op a b = some r ∧ RP X.kw F H Q r
/-- a part of a slice -/
def toI (x : R) : M (Option Int) := fun g => match x with
  | .fz (.int i) => .ok (some i) g
  | _ => .bad
def ePart (f : M R) : M (Option Int) := mb f toI
def eNoPart : M (Option Int) := mp none
def opSl (x : R) (lo hi : Option Int) : M R := fun g => match cont g x with
  | some d => done (slD lo hi d) g
  | none => .bad
def eSl (f : M R) (l h : M (Option Int)) : M R := mb (pk f) fun x => mb l fun lo => mb h fun hi => opSl x lo hi
def tO (K : KW) (Y : Ent) (W : WX) (f : M (Option Int)) : TO := fun σ H Q => ∃ g F, Rel K Y σ H g F ∧ Post K Y W σ F (fun o _ H' _ => Q o H') (f g)
def DO (X : Cx) (Y : Ent) (W : WX) (e : Option Expr) (f : M (Option Int)) : Prop := PO X e (tO X.kw Y W f)
def slRevD : D → Option R
  | .lst xs => some (.ow (.ls xs.reverse))
  | _ => none
def opRev (x : R) : M R := fun g => match cont g x with
  | some d => done (slRevD d) g
  | none => .bad
def eRev (f : M R) : M R := mb (pk f) opRev
section
variable {X : Cx} {Y : Ent} {W : WX} {pos p2 : Pos} {a b e : Expr}
theorem id_ix : IxD X ixD := by
  intro value slice pins s σ H x y v u Q I rx ry ⟨F, a, b, r, sm, ha, hb, ho, hr⟩ hs
  unfold ixD at ho
  split at ho
  · rename_i xs i
    cases e : L2.atI xs i with
    | none => rw [e] at ho; cases ho
    | some d =>
      rw [e] at ho; cases ho
      obtain ⟨p, vs, rfl, h1, h2, h3⟩ := ha.lst sm
      obtain ⟨w, h4, h5⟩ := h3.atI e
      exact ix_list value slice pins s σ H _ y v u Q I rx ry ⟨p, vs, i, w, rfl, hb.int, SqL.of h1, h4, hr.now sm h5⟩ hs
  · rename_i xs i
    cases e : L2.atI xs i with
    | none => rw [e] at ho; cases ho
    | some d =>
      rw [e] at ho; cases ho
      obtain ⟨p, vs, rfl, h1, h2, h3⟩ := ha.tup
      obtain ⟨w, h4, h5⟩ := h3.atI e
      exact ix_tup value slice pins s σ H _ y v u Q I rx ry ⟨p, vs, i, w, rfl, hb.int, sqT_mono sm h1, h4, hr.now sm h5⟩ hs
  · rename_i z i
    cases e : L2.atI z.cps.toList i with
    | none => rw [e] at ho; cases ho
    | some c =>
      rw [e] at ho; cases ho
      exact ix_str value slice pins s σ H x y v u Q I rx ry ⟨z, i, c, ha.str.1, hb.int, ha.str.2, e, hr.now sm ⟨rfl, by show (1 : Nat) ≤ sizeLine; decide⟩⟩ hs
  · rename_i ns i
    cases e : L2.atI ns i with
    | none => rw [e] at ho; cases ho
    | some n =>
      rw [e] at ho; cases ho
      obtain ⟨p, rfl, h1, h2⟩ := ha.scr
      obtain ⟨j, k1, k2⟩ := atI_ix e
      exact ix_list value slice pins s σ H _ y v u Q I rx ry ⟨p, _, i, .int n, rfl, hb.int, sm.seq h1, atI_eq k1 (List.length_map ..) (by rw [List.getElem?_map, k2]; rfl), hr.now sm rfl⟩ hs
  · cases ho
theorem de_ix {f k : M R} (ha : DE X Y W a f) (hb : DE X Y W b k) (hs : PlainIx b := by exact fun _ _ => rfl) : DE X Y W (.Subscript a b pos) (eB ixD f k) :=
  pe_mono (pe_ix id_ix (de_pk ha) (de_pk hb) hs) fun σ H Q h => two_args ha hb h
theorem do_none : DO X Y W none eNoPart := ⟨fun pins s σ H Q I ⟨g, F, r, p⟩ => po_none.run pins s σ H Q I (p H F r (Same.refl _))⟩
theorem do_some {f : M R} (h : DE X Y W e f) : DO X Y W (some e) (ePart f) :=
  ⟨fun pins s σ H Q I ⟨g, F, r, p⟩ => (po_some h).run pins s σ H Q I ⟨g, F, r, (p.bind).imp fun x g1 H1 F1 r1 s1 q v hv => by
    unfold toI at q
    split at q
    · exact ⟨_, hv, q H1 F1 r1 (Same.refl _)⟩
    · exact q.elim⟩⟩
theorem sd_sl : SlR X (fun x lo hi H Q => ∃ F a r, Same F H ∧ CV X.kw F H x a ∧ slD lo hi a = some r ∧ RP X.kw F H Q r) := by
  intro pins s σ H x v vl vu lo hi sl Q I rx hs pl pu ⟨F, a, r, sm, ha, ho, hr⟩
  unfold slD at ho
  split at ho
  · cases ho
    rename_i xs
    obtain ⟨p, vs, rfl, h1, h2, h3⟩ := ha.lst sm
    refine sl_list pins s σ H _ v vl vu lo hi sl Q I rx hs pl pu ⟨p, vs, rfl, SqL.of h1, fun l hl => ?_⟩
    have e : IsL X.kw F (cutV vs lo hi) (cutL xs lo hi) := by
      unfold cutV cutL
      rw [h3.length]
      exact (h3.drop _).take _
    exact hr.ls sm e (Nat.le_trans (cutL_length ..) h2) hl
  · cases ho
    rename_i xs
    obtain ⟨p, vs, rfl, h1, h2, h3⟩ := ha.tup
    have e : IsL X.kw F (cutV vs lo hi) (cutL xs lo hi) := by
      unfold cutV cutL
      rw [h3.length]
      exact (h3.drop _).take _
    refine sl_tupA pins s σ H _ v vl vu lo hi sl Q I rx hs pl pu ⟨p, vs, rfl, sqT_mono sm h1, fun hw => ?_, fun hw l hl => hr.tup sm e (Nat.le_trans (cutL_length ..) h2) hl⟩
    have e2 : cutL xs lo hi = xs := by
      unfold cutL
      rw [h3.length] at hw
      rw [hw.1, hw.2, List.drop_zero, Nat.sub_zero, List.take_length]
    rw [e2] at hr
    exact hr.now sm ⟨p, vs, rfl, h1, h2, h3⟩
  · cases ho
    exact sl_str pins s σ H _ v vl vu lo hi sl Q I rx hs pl pu ⟨_, ha.str.1, ha.str.2, hr.now sm ⟨rfl, Nat.le_trans (cutS_length ..) ha.str.2⟩⟩
  · cases ho
theorem de_sl {f : M R} {l h : M (Option Int)} {lo hi : Option Expr} (he : DE X Y W e f) (hl : DO X Y W lo l) (hu : DO X Y W hi h) : DE X Y W (.Subscript e (.Slice lo hi none p2) pos) (eSl f l h) :=
  pe_mono (pe_slice sd_sl (de_pk he) hl hu) fun σ H Q ⟨g, F, r, p⟩ => ⟨g, F, r, (p.bind).imp fun x g1 H1 F1 r1 s1 q v hv => ⟨g1, F1, r1, (q.bind).imp fun lo g2 H2 F2 r2 s2 q2 => ⟨g2, F2, r2, (q2.bind).imp fun hi g3 H3 F3 r3 s3 q3 => by
    unfold opSl at q3
    split at q3
    · rename_i d e
      obtain ⟨r', k1, k2⟩ := Post.done q3 r3
      exact ⟨F3, d, r', r3.sub, r3.cv (hv.keep (s2.trans s3) (cont_ne e)) e, k1, k2⟩
    · exact q3.elim⟩⟩⟩
theorem de_rev {f : M R} {k : Nat} {p1 p3 : Pos} (he : DE X Y W e f) : DE X Y W (.Subscript e (.Slice none none (some (.UnaryOp .USub (.Constant (.int 1) k p1) p2)) p3) pos) (eRev f) :=
  pe_mono (pe_revL (de_pk he)) fun σ H Q ⟨g, F, r, p⟩ => ⟨g, F, r, (p.bind).imp fun x g1 H1 F1 r1 s1 q v hv => by
    unfold opRev at q
    split at q
    · rename_i d e
      obtain ⟨r', k1, k2⟩ := Post.done q r1
      unfold slRevD at k1
      split at k1
      · cases k1
        obtain ⟨p, vs, rfl, h1, h2, h3⟩ := (r1.cv hv e).lst r1.sub
        exact ⟨p, vs, rfl, SqL.of h1, fun l hl => k2.ls r1.sub h3.reverse (by rw [List.length_reverse]; exact h2) hl⟩
      · cases k1
    · exact q.elim⟩
end

/-! ### methods of texts -/
def mJoin : D → List D → Option R
  | .str a, [.lst xs] => (strsOf xs).bind fun ys => if (ys.map (·.length)).sum + ys.length * a.length ≤ 16777216 then some (.fz (.str (Txt.join a ys))) else none
  | .str a, [.tup xs] => (strsOf xs).bind fun ys => if (ys.map (·.length)).sum + ys.length * a.length ≤ 16777216 then some (.fz (.str (Txt.join a ys))) else none
  | _, _ => none
def mSplit : D → List D → Option R
  | .str a, [.str b] => if (b.length == 0) = false ∧ a.length + 2 ≤ sizeLine ∧ (Txt.split a b).length ≤ sizeLine ∧ (Txt.split a b).all (fun z => decide (z.length ≤ sizeLine)) = true then some (.ow (.ls ((Txt.split a b).map .str))) else none
  | _, _ => none
def mFind : D → List D → Option R
  | .str a, [.str b] => some (.fz (.int (Txt.find a b)))
  | _, _ => none
def mCount : D → List D → Option R
  | .str a, [.str b] => some (.fz (.int (Txt.count a b)))
  | _, _ => none
def mIndex : D → List D → Option R
  | .str a, [.str b] => match Builtin.Str.occurrences a b 0 a.length 1 with
    | i :: _ => some (.fz (.int (i : Nat)))
    | [] => none
  | _, _ => none
def mStarts : D → List D → Option R
  | .str a, [.str b] => some (.fz (.bl (Txt.startswith a b)))
  | _, _ => none
def mEnds : D → List D → Option R
  | .str a, [.str b] => some (.fz (.bl (Txt.endswith a b)))
  | _, _ => none
section
variable {X : Cx}
theorem join_le {a : Str} {ys : List Str} (h : (ys.map (·.length)).sum + ys.length * a.length ≤ 16777216) : (Txt.join a ys).length ≤ sizeLine := by
  have := StrLaws.join_length_le a ys
  show (Builtin.Str.glued a ys).length ≤ _
  rw [StrLaws.glued_eq_join, sizeLine_eq]
  omega
theorem md_join : MtD X "str.join" mJoin := by
  intro pins s σ H x xs v us Q I rx rs ⟨F, d, ds, r, sm, hd, hc, ho, hr⟩
  unfold mJoin at ho
  split at ho
  · rename_i a xs
    cases e : strsOf xs with
    | none => rw [e] at ho; cases ho
    | some ys =>
      rw [e] at ho
      simp only [Option.bind_some] at ho
      split at ho
      · rename_i hz
        cases ho
        have e' := strsOf_eq e
        subst e'
        obtain ⟨p, vs, rfl, h1, h2, h3⟩ := lst_one sm hc
        rw [(h3.strs').1] at h1
        exact mt_join pins s σ H x _ v us Q I rx rs ⟨a, p, ys, hd.str.1, rfl, .inl h1, hz, hr.now sm ⟨rfl, join_le hz⟩⟩
      · cases ho
  · rename_i a xs
    cases e : strsOf xs with
    | none => rw [e] at ho; cases ho
    | some ys =>
      rw [e] at ho
      simp only [Option.bind_some] at ho
      split at ho
      · rename_i hz
        cases ho
        have e' := strsOf_eq e
        subst e'
        obtain ⟨v', rfl, q⟩ := hc.one
        obtain ⟨p, vs, rfl, h1, h2, h3⟩ := q.tup
        have h1' := sqT_mono sm h1
        rw [(h3.strs').1] at h1'
        exact mt_join pins s σ H x _ v us Q I rx rs ⟨a, p, ys, hd.str.1, rfl, .inr h1', hz, hr.now sm ⟨rfl, join_le hz⟩⟩
      · cases ho
  · cases ho
theorem str_str {K : KW} {F H : Hp} {xs : List V} {b : Str} (hc : CVs K F H xs [.str b]) : xs = [.str b] := by
  obtain ⟨v, rfl, q⟩ := hc.one
  rw [q.str.1]
theorem md_split : MtD X "str.split" mSplit := by
  intro pins s σ H x xs v us Q I rx rs ⟨F, d, ds, r, sm, hd, hc, ho, hr⟩
  unfold mSplit at ho
  split at ho
  · split at ho
    · rename_i a b hz
      cases ho
      rw [str_str hc] at rs
      refine mt_split pins s σ H x _ v us Q I rx rs ⟨a, b, hd.str.1, rfl, hz.1, hz.2.1, fun p hp => ?_⟩
      exact hr.ls sm (IsL.strs _ fun z hz' => of_decide_eq_true (List.all_eq_true.mp hz.2.2.2 z hz')) (by rw [List.length_map]; exact hz.2.2.1) hp
    · cases ho
  · cases ho
theorem md_find : MtD X "str.find" mFind := by
  intro pins s σ H x xs v us Q I rx rs ⟨F, d, ds, r, sm, hd, hc, ho, hr⟩
  unfold mFind at ho
  split at ho
  · cases ho
    rw [str_str hc] at rs
    exact mt_find pins s σ H x _ v us Q I rx rs ⟨_, _, hd.str.1, rfl, hr.now sm rfl⟩
  · cases ho
theorem md_count : MtD X "str.count" mCount := by
  intro pins s σ H x xs v us Q I rx rs ⟨F, d, ds, r, sm, hd, hc, ho, hr⟩
  unfold mCount at ho
  split at ho
  · cases ho
    rw [str_str hc] at rs
    exact mt_count pins s σ H x _ v us Q I rx rs ⟨_, _, hd.str.1, rfl, hr.now sm rfl⟩
  · cases ho
theorem md_starts : MtD X "str.startswith" mStarts := by
  intro pins s σ H x xs v us Q I rx rs ⟨F, d, ds, r, sm, hd, hc, ho, hr⟩
  unfold mStarts at ho
  split at ho
  · cases ho
    rw [str_str hc] at rs
    exact mt_startswith pins s σ H x _ v us Q I rx rs ⟨_, _, hd.str.1, rfl, hr.now sm rfl⟩
  · cases ho
theorem md_ends : MtD X "str.endswith" mEnds := by
  intro pins s σ H x xs v us Q I rx rs ⟨F, d, ds, r, sm, hd, hc, ho, hr⟩
  unfold mEnds at ho
  split at ho
  · cases ho
    rw [str_str hc] at rs
    exact mt_endswith pins s σ H x _ v us Q I rx rs ⟨_, _, hd.str.1, rfl, hr.now sm rfl⟩
  · cases ho
theorem md_index : MtD X "str.index" mIndex := by
  intro pins s σ H x xs v us Q I rx rs ⟨F, d, ds, r, sm, hd, hc, ho, hr⟩
  unfold mIndex at ho
  split at ho
  · split at ho
    · rename_i a b i rest e
      cases ho
      rw [str_str hc] at rs
      exact mt_sindex pins s σ H x _ v us Q I rx rs ⟨_, _, i, rest, hd.str.1, rfl, e, hr.now sm rfl⟩
    · cases ho
  · cases ho

/-! ### lists that are changed -/
def uAppend : O → List D → Option (O × D)
  | .ls xs, [d] => if xs.length < sizeLine then some (.ls (xs ++ [d]), .non) else none
  | _, _ => none
def uExtend : O → List D → Option (O × D)
  | .ls xs, [.lst ys] => if xs.length + ys.length ≤ sizeLine then some (.ls (xs ++ ys), .non) else none
  | _, _ => none
def uPop : O → List D → Option (O × D)
  | .ls xs, [] => xs.getLast?.map fun d => (.ls xs.dropLast, d)
  | _, _ => none
def uPopAt : O → List D → Option (O × D)
  | .ls xs, [.int i] => if -(2 ^ 63) ≤ i ∧ i < 2 ^ 63 then (ixN xs.length i).bind fun k => xs[k]?.map fun d => (.ls (xs.eraseIdx k), d) else none
  | _, _ => none
def uReverse : O → List D → Option (O × D)
  | .ls xs, [] => some (.ls xs.reverse, .non)
  | _, _ => none
theorem leaf_ls {ls : Bool} {op : O → List D → Option (O × D)} (h : ∀ o ds o' d, op o ds = some (o', d) → (∃ xs, o = .ls xs) ∧ ∃ xs, o' = .ls xs) : LeafOp op := ⟨fun o ds o' d e => by
  obtain ⟨⟨xs, rfl⟩, ys, rfl⟩ := h o ds o' d e; exact ⟨rfl, rfl⟩⟩
instance : LeafOp uAppend := leaf_ls (ls := true) fun o ds o' d e => by
  unfold uAppend at e
  split at e
  · split at e
    · cases e; exact ⟨⟨_, rfl⟩, _, rfl⟩
    · cases e
  · cases e
instance : LeafOp uExtend := leaf_ls (ls := true) fun o ds o' d e => by
  unfold uExtend at e
  split at e
  · split at e
    · cases e; exact ⟨⟨_, rfl⟩, _, rfl⟩
    · cases e
  · cases e
instance : LeafOp uPop := leaf_ls (ls := true) fun o ds o' d e => by
  unfold uPop at e
  split at e
  · obtain ⟨x, _, e⟩ := Option.map_eq_some_iff.mp e; cases e; exact ⟨⟨_, rfl⟩, _, rfl⟩
  · cases e
instance : LeafOp uPopAt := leaf_ls (ls := true) fun o ds o' d e => by
  unfold uPopAt at e
  split at e
  · split at e
    · obtain ⟨k, _, e⟩ := Option.bind_eq_some_iff.mp e
      obtain ⟨x, _, e⟩ := Option.map_eq_some_iff.mp e
      cases e; exact ⟨⟨_, rfl⟩, _, rfl⟩
    · cases e
  · cases e
instance : LeafOp uReverse := leaf_ls (ls := true) fun o ds o' d e => by
  unfold uReverse at e
  split at e
  · cases e; exact ⟨⟨_, rfl⟩, _, rfl⟩
  · cases e
theorem ud_append : MutD X "list.append" uAppend := by
  intro pins s σ H x xs v us Q I rx rs h0
  obtain ⟨F, a, o, ds, o', d, rfl, q1, q2, sm, q3, ho, q⟩ := h0
  unfold uAppend at ho
  split at ho
  · split at ho
    · rename_i ys e hz
      cases ho
      obtain ⟨vs, h1, h2, h3⟩ := q1
      obtain ⟨w, r, rfl, k1, k2⟩ := q3
      rw [show r = [] from k2] at rs
      have hz' : vs.length < sizeLine := by rw [h3.length]; exact hz
      exact mt_append pins s σ H _ _ v us Q I rx rs ⟨a, vs, w, rfl, rfl, h1, hz', q _ _ ⟨_, upd_same, by rw [List.length_append]; exact hz, h3.append (.one k1)⟩ rfl⟩
    · cases ho
  · cases ho
theorem ud_extend : MutD X "list.extend" uExtend := by
  intro pins s σ H x xs v us Q I rx rs h0
  obtain ⟨F, a, o, ds, o', d, rfl, q1, q2, sm, q3, ho, q⟩ := h0
  unfold uExtend at ho
  split at ho
  · split at ho
    · rename_i ys e hz
      cases ho
      obtain ⟨vs, h1, h2, h3⟩ := q1
      obtain ⟨w, r, rfl, k1, k2⟩ := q3
      obtain ⟨b, zs, rfl, k3, k4, k5⟩ := k1
      rw [show r = [] from k2] at rs
      exact mt_extend pins s σ H _ _ v us Q I rx rs ⟨a, b, vs, zs, rfl, rfl, h1, sm _ _ k3, by rw [h3.length, k5.length]; exact hz, q _ _ ⟨_, upd_same, by rw [List.length_append]; exact hz, h3.append k5⟩ rfl⟩
    · cases ho
  · cases ho
theorem IsL.dropLast {K : KW} {F : Hp} {ds : List D} {vs : List V} (q : IsL K F vs ds) : IsL K F vs.dropLast ds.dropLast := by
  rw [List.dropLast_eq_take, List.dropLast_eq_take, q.length]
  exact q.take _
theorem ud_pop : MutD X "list.pop" uPop := by
  intro pins s σ H x xs v us Q I rx rs h0
  obtain ⟨F, a, o, ds, o', d, rfl, q1, q2, sm, q3, ho, q⟩ := h0
  unfold uPop at ho
  split at ho
  · rename_i ys
    cases e : ys.getLast? with
    | none => rw [e] at ho; cases ho
    | some d' =>
      rw [e] at ho
      cases ho
      obtain ⟨vs, h1, h2, h3⟩ := q1
      rw [show xs = [] from q3] at rs
      rw [List.getLast?_eq_getElem?] at e
      obtain ⟨w, k1, k2⟩ := h3.get e
      rw [← h3.length] at k1
      exact mt_pop pins s σ H _ _ v us Q I rx rs ⟨a, vs, w, rfl, rfl, h1, k1, q _ _ ⟨_, upd_same, by rw [List.length_dropLast]; omega, h3.dropLast⟩ k2⟩
  · cases ho
theorem IsL.erase {K : KW} {F : Hp} : ∀ {ds : List D} {vs : List V} (k : Nat), IsL K F vs ds → IsL K F (vs.eraseIdx k) (ds.eraseIdx k)
  | [], _, _, e => by rw [show _ = [] from e]; exact rfl
  | d :: ds, _, 0, ⟨v, r, e, q, t⟩ => by subst e; exact t
  | d :: ds, _, k + 1, ⟨v, r, e, q, t⟩ => by subst e; exact ⟨v, r.eraseIdx k, rfl, q, IsL.erase k t⟩
theorem ud_popAt : MutD X "list.pop" uPopAt := by
  intro pins s σ H x xs v us Q I rx rs h0
  obtain ⟨F, a, o, ds, o', d, rfl, q1, q2, sm, q3, ho, q⟩ := h0
  unfold uPopAt at ho
  split at ho
  · split at ho
    · rename_i ys i hz
      cases e : ixN ys.length i with
      | none => rw [e] at ho; cases ho
      | some k =>
        rw [e] at ho
        simp only [Option.bind_some] at ho
        cases e2 : ys[k]? with
        | none => rw [e2] at ho; cases ho
        | some d' =>
          rw [e2] at ho
          cases ho
          obtain ⟨vs, h1, h2, h3⟩ := q1
          obtain ⟨w, r, rfl, k1, k2⟩ := q3
          rw [show r = [] from k2, show w = .int i from k1] at rs
          obtain ⟨w', k3, k4⟩ := h3.get e2
          have k5 := (ixN_seq e).1
          rw [← h3.length] at k5
          exact mt_popAt pins s σ H _ _ v us Q I rx rs ⟨a, vs, i, k, w', rfl, rfl, h1, hz.1, hz.2, k5, k3, q _ _ ⟨_, upd_same, by rw [List.length_eraseIdx]; split <;> omega, h3.erase k⟩ k4⟩
    · cases ho
  · cases ho
theorem ud_reverse : MutD X "list.reverse" uReverse := by
  intro pins s σ H x xs v us Q I rx rs h0
  obtain ⟨F, a, o, ds, o', d, rfl, q1, q2, sm, q3, ho, q⟩ := h0
  unfold uReverse at ho
  split at ho
  · cases ho
    obtain ⟨vs, h1, h2, h3⟩ := q1
    rw [show xs = [] from q3] at rs
    exact mt_reverse pins s σ H _ _ v us Q I rx rs ⟨a, vs, rfl, rfl, h1, q _ _ ⟨_, upd_same, by rw [List.length_reverse]; exact h2, h3.reverse⟩ rfl⟩
  · cases ho
end
end DL

namespace DL
open PySem PySem.Spec L2

/-! ### statements -/
def PostS (K : KW) (Y : Ent) (W : WX) (F : Hp) (D : Ends) : Rs Fl → Prop
  | .bad => False
  | .ok fl g => ∀ σ' H' F', Rel K Y σ' H' g F' → Same F F' → match fl with
    | .nx => D.nx σ' H'
    | .bk => D.bk σ' H'
    | .ct => D.ct σ' H'
    | .rt r => ∀ v, RV K Y σ' F' H' g v r → D.rt v H'
  | .ex e g => ∀ d σ' H' F', Rel K Y σ' H' g F' → Same F F' → XD K F' H' d e.p → W (Y.cls e.c) d σ' H'
def tS (K : KW) (Y : Ent) (W : WX) (f : M Fl) : TS := fun D σ H => ∃ g F, Rel K Y σ H g F ∧ PostS K Y W F D (f g)
def DS (X : Cx) (Y : Ent) (W : WX) (st : Stmt) (f : M Fl) : Prop := PS X st (tS X.kw Y W f)
def DSs (X : Cx) (Y : Ent) (W : WX) (st : List Stmt) (f : M Fl) : Prop := PSs X st (tS X.kw Y W f)
theorem PostS.weak {K : KW} {Y : Ent} {W : WX} {F F1 : Hp} {D : Ends} {x : Rs Fl} (s : Same F F1) (h : PostS K Y W F D x) : PostS K Y W F1 D x := by
  cases x with
  | bad => exact h
  | ok fl g => exact fun σ' H' F' r s' => h σ' H' F' r (s.trans s')
  | ex e g => exact fun d σ' H' F' r s' => h d σ' H' F' r (s.trans s')
/-- an expression first -/
theorem PostS.bind {α : Type} {K : KW} {Y : Ent} {W : WX} {σ : St} {F : Hp} {D : Ends} {x : Rs α} {k : α → G → Rs Fl} (h : PostS K Y W F D (x.andThen k)) :
    Post K Y W σ F (fun a g _ F' => PostS K Y W F' D (k a g)) x := by
  cases x with
  | bad => exact h
  | ex e g => exact fun d H' F' r s q => h d σ H' F' r s q
  | ok a g => exact fun H1 F1 r s => PostS.weak s h
def sSeq (a b : M Fl) : M Fl := fun g => match a g with
  | .ok .nx g' => b g'
  | r => r
def sNil : M Fl := mp .nx
def sExpr (f : M R) : M Fl := mb f fun _ => mp .nx
def sPass : M Fl := mp .nx
def sBrk : M Fl := mp .bk
def sCont : M Fl := mp .ct
def retR (r : R) : M Fl := fun g => match r with
  | .fz d => .ok (.rt (.fz d)) g
  | .ow o => .ok (.rt (.ow o)) g
  | .at i => match g[i]? with
    | some (some (.ow false o)) => .ok (.rt (.ow o)) (g.set i none)
    | some (some (.fz d)) => .ok (.rt (.fz d)) g
    | _ => .bad
  | .sub _ _ => .bad
def sRet (f : M R) : M Fl := mb f retR
def sRetN : M Fl := mp (.rt (.fz .non))
def sIf (c : M Bool) (a b : M Fl) : M Fl := mb c fun t => if t = true then a else b
section
variable {X : Cx} {Y : Ent} {W : WX} {pos : Pos} {e : Expr} {st : Stmt} {rest : List Stmt}
theorem PostS.seq {K : KW} {F : Hp} {D : Ends} {a b : M Fl} {g : G} (h : PostS K Y W F D (sSeq a b g)) : PostS K Y W F { D with nx := tS K Y W b D } (a g) := by
  have h' : PostS K Y W F D (match a g with | .ok .nx g' => b g' | r => r) := h
  revert h'
  cases a g with
  | bad => exact id
  | ex e g => exact id
  | ok fl g' =>
    cases fl with
    | nx => exact fun h' σ' H' F' r s => ⟨g', F', r, PostS.weak s h'⟩
    | bk => exact id
    | ct => exact id
    | rt r => exact id
theorem ds_nil : DSs X Y W [] sNil := pss_mono pss_nil fun D σ H ⟨g, F, r, p⟩ => p σ H F r (Same.refl _)
theorem ds_cons {f k : M Fl} (h1 : DS X Y W st f) (h2 : DSs X Y W rest k) : DSs X Y W (st :: rest) (sSeq f k) :=
  pss_mono (pss_cons h1 h2) fun D σ H ⟨g, F, r, p⟩ => ⟨g, F, r, p.seq⟩
theorem ds_one {f : M Fl} (h1 : DS X Y W st f) : DSs X Y W [st] f := pss_one h1
theorem ds_expr {f : M R} (he : DE X Y W e f) (hs : swapsWith e none pos.line X.env = pure false := by rfl) : DS X Y W (.Expr e pos) (sExpr f) :=
  ps_mono (ps_expr he hs) fun D σ H ⟨g, F, r, p⟩ => ⟨g, F, r, (p.bind).imp fun x g1 H1 F1 r1 s1 q v hv => q σ H1 F1 r1 (Same.refl _)⟩
theorem ds_pass : DS X Y W (.Pass pos) sPass := ps_mono ps_pass fun D σ H ⟨g, F, r, p⟩ => p σ H F r (Same.refl _)
theorem ds_break : DS X Y W (.Break pos) sBrk := ps_mono ps_break fun D σ H ⟨g, F, r, p⟩ => p σ H F r (Same.refl _)
theorem ds_continue : DS X Y W (.Continue pos) sCont := ps_mono ps_continue fun D σ H ⟨g, F, r, p⟩ => p σ H F r (Same.refl _)
theorem Rel.drop {K : KW} {σ : St} {H F : Hp} {g : G} (r : Rel K Y σ H g F) (i : Nat) : Rel K Y σ H (g.set i none) F :=
  r.mask (r.len.trans (List.length_set ..).symm) fun j s e => by
    rcases get_set e with ⟨_, e'⟩ | ⟨_, e'⟩
    · cases e'
    · exact ⟨e', rfl⟩
theorem PostS.ret {K : KW} {σ : St} {H F : Hp} {D : Ends} {r : R} {g : G} {v : V} (h : PostS K Y W F D (retR r g)) (rl : Rel K Y σ H g F) (hv : RV K Y σ F H g v r) : D.rt v H := by
  cases r with
  | fz d => exact h σ H F rl (Same.refl _) v hv
  | ow o => exact h σ H F rl (Same.refl _) v hv
  | sub i f => exact h.elim
  | «at» i =>
    unfold retR at h
    simp only at h
    split at h
    · rename_i o e
      obtain ⟨a, rfl, h2, nd, n, _⟩ := rl.at_ e hv
      refine h σ H F (rl.drop i) (Same.refl _) (.ref a) ⟨a, rfl, h2, nd, fun b hb => ⟨(n b hb).1, (n b hb).2.1, (n b hb).2.2.1 rfl, fun j t u ej hj => ?_⟩⟩
      rcases get_set ej with ⟨_, e'⟩ | ⟨nj, e'⟩
      · cases e'
      · exact rl.inj i j _ _ _ _ (Ne.symm nj) e e' hv hj b hb
    · rename_i d e
      obtain ⟨u, h1, h2⟩ := rl.fz i d e
      rw [show σ[i]? = some (some v) from hv] at h1
      cases h1
      exact h σ H F rl (Same.refl _) v h2
    · exact h.elim
theorem ds_ret {f : M R} (he : DE X Y W e f) : DS X Y W (.Return (some e) pos) (sRet f) :=
  ps_mono (ps_ret he) fun D σ H ⟨g, F, r, p⟩ => ⟨g, F, r, (p.bind).imp fun x g1 H1 F1 r1 s1 q v hv => q.ret r1 hv⟩
theorem ds_retN : DS X Y W (.Return none pos) sRetN := ps_mono ps_retN fun D σ H ⟨g, F, r, p⟩ => p σ H F r (Same.refl _) .non rfl
theorem ds_if {c : Expr} {a b : List Stmt} {t : M Bool} {f k : M Fl} (hc : DT X Y W c t) (ha : DSs X Y W a f) (hb : DSs X Y W b k) : DS X Y W (.If c a b pos) (sIf t f k) :=
  ps_mono (ps_if hc ha hb) fun D σ H ⟨g, F, r, p⟩ => ⟨g, F, r, (p.bind).imp fun x g1 H1 F1 r1 s1 q => by
    cases x with
    | true => exact ⟨g1, F1, r1, q⟩
    | false => exact ⟨g1, F1, r1, q⟩⟩
end

/-! ### targets -/
/-- a slot takes a result -/
def setSl (i : Nat) (r : R) : M Unit := fun g => match r with
  | .fz d => .ok () (g.set i (some (.fz d)))
  | .ow o => .ok () (g.set i (some (.ow false o)))
  | .at _ => .bad
  | .sub _ _ => .bad
def PostG (K : KW) (Y : Ent) (σ : St) (F : Hp) (ts : List Nat) (Q : St → Hp → Prop) : Rs Unit → Prop
  | .ok _ g => ∀ σ' H' F', Rel K Y σ' H' g F' → Same F F' → σ'.length = σ.length → (∀ j, j ∉ ts → σ'[j]? = σ[j]?) → Q σ' H'
  | _ => False
def tG (K : KW) (Y : Ent) (ts : List Nat) (t : R → M Unit) : TG := fun v σ H Q => ∃ g F r, Rel K Y σ H g F ∧ RV K Y σ F H g v r ∧ PostG K Y σ F ts Q (t r g)
def tGs (K : KW) (Y : Ent) (ts : List Nat) (t : List D → M Unit) : TGs := fun vs σ H Q => ∃ g F ds, Rel K Y σ H g F ∧ IsL K F vs ds ∧ PostG K Y σ F ts Q (t ds g)
def DG (X : Cx) (Y : Ent) (tg : Expr) (ts : List Nat) (t : R → M Unit) : Prop := PG X tg (tG X.kw Y ts t)
def DGs (X : Cx) (Y : Ent) (tgs : List Expr) (ts : List Nat) (t : List D → M Unit) : Prop := PGs X tgs (tGs X.kw Y ts t)
theorem Rel.put {K : KW} {Y : Ent} {σ : St} {H F : Hp} {g g' : G} {i : Nat} {v : V} {r : R} (rl : Rel K Y σ H g F) (hv : RV K Y σ F H g v r) (e : setSl i r g = .ok () g') : Rel K Y (σ.set i (some v)) H g' F := by
  cases r with
  | fz d => cases e; exact rl.putS (s := .fz d) hv fun b hb => by rw [sf_fz] at hb; cases hb
  | ow o =>
    cases e
    obtain ⟨a, rfl, k1, nd, n⟩ := hv
    exact rl.putS (s := .ow false o) ⟨a, rfl, k1, nd, fun b hb => ⟨(n b hb).1, (n b hb).2.1, fun _ => (n b hb).2.2.1, .inl (n b hb).2.2.1⟩, fun z => nomatch z⟩ fun b hb j t u _ ej hu => (n b hb).2.2.2 j t u ej hu
  | «at» j => cases e
  | sub j f => cases e
def gsNil : List D → M Unit := fun ds g => match ds with
  | [] => .ok () g
  | _ => .bad
def gsCons (t : R → M Unit) (u : List D → M Unit) : List D → M Unit := fun ds g => match ds with
  | d :: r => (t (.fz d) g).andThen fun _ => u r
  | [] => .bad
/-- names from a tuple or a list of so many items -/
def gUn (n : Nat) (t : List D → M Unit) : R → M Unit := fun r g => match r with
  | .fz (.tup ds) => if ds.length = n then t ds g else .bad
  | .fz (.lst ds) => if ds.length = n then t ds g else .bad
  | .ow (.ls ds) => if ds.length = n then t ds g else .bad
  | _ => .bad
section
variable {X : Cx} {Y : Ent} {W : WX} {pos : Pos} {e : Expr} {es : List Expr}
theorem dg_name {i : Nat} {x : Str} (hN : X.N.Nodup) (hi : X.N[i]? = some x := by rfl) (hx : Loc X.env.scope x := by first | exact Or.inl rfl | exact Or.inr rfl) (hf : X.fn x = true ∨ X.env.scope.names.lookup x = some .local := by first | exact .inl rfl | exact .inr rfl | assumption) :
    DG X Y (.Name x pos) [i] (setSl i) :=
  pg_mono (pg_name hN hi hx hf) fun v σ H Q ⟨g, F, r, rl, hv, p⟩ => by
    cases e : setSl i r g with
    | bad => rw [e] at p; exact p.elim
    | ex _ _ => rw [e] at p; exact p.elim
    | ok u g' =>
      rw [e] at p
      exact p _ H F (rl.put hv e) (Same.refl _) (List.length_set ..) fun j hj => List.getElem?_set_ne (fun z => hj (by simp [z]))
theorem dgs_nil : DGs X Y [] [] gsNil := ⟨fun pins s σ H vs us Q I r ⟨g, F, ds, rl, hl, p⟩ => pgs_nil.run pins s σ H vs us Q I r (by
  unfold gsNil at p
  split at p
  · exact ⟨hl, p σ H F rl (Same.refl _) rfl fun _ _ => rfl⟩
  · exact p.elim)⟩
theorem dgs_cons {ts us : List Nat} {t : R → M Unit} {u : List D → M Unit} (h1 : DG X Y e ts t) (h2 : DGs X Y es us u) (hs : (assignEach (e :: es) X.env).map (·.2) = assign e X.env :: (assignEach es X.env).map (·.2) := by rfl) : DGs X Y (e :: es) (ts ++ us) (gsCons t u) :=
  ⟨fun pins s σ H vs ws Q I r ⟨g, F, ds, rl, hl, p⟩ => (pgs_cons h1 h2 hs).run pins s σ H vs ws Q I r (by
    unfold gsCons at p
    cases ds with
    | nil => exact p.elim
    | cons d ds =>
      obtain ⟨v, vs', rfl, q, hl'⟩ := hl
      refine ⟨v, vs', rfl, g, F, .fz d, rl, q, ?_⟩
      have p' : PostG X.kw Y σ F (ts ++ us) Q ((t (.fz d) g).andThen fun _ => u ds) := p
      revert p'
      cases t (.fz d) g with
      | bad => exact fun p' => p'
      | ex _ _ => exact fun p' => p'
      | ok _ g1 =>
        intro p' σ1 H1 F1 r1 s1 l1 k1
        refine ⟨g1, F1, ds, r1, IsL.mono s1 _ _ hl', ?_⟩
        have p2 : PostG X.kw Y σ F (ts ++ us) Q (u ds g1) := p'
        revert p2
        cases u ds g1 with
        | bad => exact fun p2 => p2
        | ex _ _ => exact fun p2 => p2
        | ok _ g2 => exact fun p2 σ2 H2 F2 r2 s2 l2 k2 => p2 σ2 H2 F2 r2 (s1.trans s2) (l2.trans l1) fun j hj => (k2 j fun z => hj (List.mem_append_right _ z)).trans (k1 j fun z => hj (List.mem_append_left _ z)))⟩
theorem pg_or {tg : Expr} {t t' : TG} (h : PG X tg t) (h' : PG X tg t') : PG X tg (fun v σ H Q => t v σ H Q ∨ t' v σ H Q) :=
  ⟨fun pins s σ H v u Q I r q => q.elim (h.run pins s σ H v u Q I r) (h'.run pins s σ H v u Q I r)⟩
theorem dg_un {k n : Nat} {ts : List Nat} {t : List D → M Unit} (hc : X.calm = true) (h : DGs X Y es ts t) (hn : (assignEach es X.env).length = n := by rfl) (hst : (assignEach es X.env).findIdx? (·.1) = none := by rfl) : DG X Y (.Tuple es k pos) ts (gUn n t) :=
  pg_mono (pg_or (pg_tup hc h hn hst) (pg_lst hc h hn hst)) fun v σ H Q ⟨g, F, r, rl, hv, p⟩ => by
    unfold gUn at p
    split at p
    · split at p
      · rename_i hz
        obtain ⟨a, vs, rfl, k1, k2, k3⟩ := hv
        exact .inl ⟨a, vs, rfl, sqT_mono rl.sub k1, by rw [k3.length]; exact hz, g, F, _, rl, k3, p⟩
      · exact p.elim
    · split at p
      · rename_i hz
        obtain ⟨a, vs, rfl, k1, k2, k3⟩ := hv
        exact .inr ⟨a, vs, rfl, SqL.of (rl.sub _ _ k1), by rw [k3.length]; exact hz, g, F, _, rl, k3, p⟩
      · exact p.elim
    · split at p
      · rename_i hz
        obtain ⟨a, rfl, ⟨vs, k1, k2, k3⟩, _⟩ := hv
        exact .inr ⟨a, vs, rfl, SqL.of k1, by rw [k3.length]; exact hz, g, F, _, rl, k3, p⟩
      · exact p.elim
    · exact p.elim

/-! ### assignments -/
/-- a slot's own object that gets a second name is frozen -/
def escA (r : R) : M R := fun g => match r with
  | .at i => escR (.at i) g
  | r => .ok r g
def eA (f : M R) : M R := mb f escA
theorem de_A {f : M R} (h : DE X Y W e f) : DE X Y W e (eA f) :=
  pe_mono h fun σ H Q ⟨g, F, r, p⟩ => ⟨g, F, r, p.bind.imp fun x g' H' F' r' s' q v hv => by
    cases x with
    | fz d => exact q H' F' r' (Same.refl _) v hv
    | ow o => exact q H' F' r' (Same.refl _) v hv
    | sub i f => exact q H' F' r' (Same.refl _) v hv
    | «at» i => exact Post.escR (show Post X.kw Y W σ F' (JV X.kw Y σ Q) (escR (.at i) g') from q) r' hv⟩
def noEx {α : Type} : Rs α → Rs α
  | .ex _ _ => .bad
  | r => r
def sAsg (f : M R) (t : R → M Unit) : M Fl := mb (eA f) fun r g => (noEx (t r g)).andThen fun _ => mp .nx
theorem PostS.asg {K : KW} {σ : St} {F : Hp} {D : Ends} {ts : List Nat} {x : Rs Unit} (h : PostS K Y W F D ((noEx x).andThen fun _ => mp .nx)) : PostG K Y σ F ts D.nx x := by
  cases x with
  | bad => exact h
  | ex _ _ => exact h
  | ok _ g => exact fun σ' H' F' r s _ _ => h σ' H' F' r s
theorem ds_asg {tg : Expr} {ts : List Nat} {f : M R} {t : R → M Unit} (he : DE X Y W e f) (hg : DG X Y tg ts t) (hs : swapsWithSole [tg] e pos.line X.env = pure false := by rfl) (hw : swappedStores [tg] e X.env = pure none := by rfl)
    (h1 : (assignEach [tg] X.env).map (·.2) = [assign tg X.env] := by rfl) : DS X Y W (.Assign [tg] e pos) (sAsg f t) :=
  ps_mono (ps_asg (de_A he) hg hs hw h1) fun D σ H ⟨g, F, r, p⟩ => ⟨g, F, r, (p.bind).imp fun x g1 H1 F1 r1 s1 q v hv => ⟨g1, F1, x, r1, hv, q.asg⟩⟩
/-- a, b = x, y -/
def sPar (i j : Nat) (k : M (List R)) : M Fl := mb k fun rs g => match rs with
  | [.fz a, .fz b] => .ok .nx ((g.set i (some (.fz a))).set j (some (.fz b)))
  | _ => .bad
theorem ds_par {i j : Nat} {x y : Str} {a b : Expr} {k : M (List R)} {px py pt : Pos} {kt k2 pt2} (hc : X.calm = true) (hN : X.N.Nodup) (ha : DA X Y W [a, b] k) (hi : X.N[i]? = some x := by rfl) (hj : X.N[j]? = some y := by rfl) (hij : i ≠ j := by decide)
    (hx : X.env.scope.names.lookup x = some .local := by rfl) (hy : X.env.scope.names.lookup y = some .local := by rfl)
    (hw : swappedStores [.Tuple [.Name x px, .Name y py] kt pt] (.Tuple [a, b] k2 pt2) X.env = pure (some [x, y]) := by rfl)
    (hs : swapsWithSole [.Tuple [.Name x px, .Name y py] kt pt] (.Tuple [a, b] k2 pt2) pos.line X.env = pure false := by rfl) :
    DS X Y W (.Assign [.Tuple [.Name x px, .Name y py] kt pt] (.Tuple [a, b] k2 pt2) pos) (sPar i j k) :=
  ps_mono (ps_par hc hN hi hj hij hx hy ha hw hs) fun D σ H ⟨g, F, r, p⟩ => ⟨g, F, r, (p.bind).imp fun rs g1 H1 F1 r1 s1 q vs hv => by
    match rs, q, hv with
    | [.fz a, .fz b], q, ⟨v, us, e1, h1, w, us', e2, h2, e3⟩ =>
      subst e1 e2
      rw [show us' = [] from e3]
      refine ⟨v, w, rfl, ?_⟩
      have q1 := r1.put (i := i) (g' := g1.set i (some (.fz a))) h1 rfl
      have q2 := q1.put (i := j) (g' := (g1.set i (some (.fz a))).set j (some (.fz b))) (r := .fz b) h2 rfl
      exact q _ H1 F1 q2 (Same.refl _)⟩
/-- x op= e, of frozen things -/
def opAug (i : Nat) (op : D → D → Option R) (y : R) : M Fl := fun g => match g[i]?, cont g y with
  | some (some (.fz a)), some b => match op a b with
    | some (.fz d) => .ok .nx (g.set i (some (.fz d)))
    | _ => .bad
  | _, _ => .bad
/-- the slot holds a frozen thing ahead -/
def chkFz (i : Nat) : M D := fun g => match g[i]? with
  | some (some (.fz a)) => .ok a g
  | _ => .bad
def sAug (i : Nat) (op : D → D → Option R) (f : M R) : M Fl := mb (chkFz i) fun a => mb (pk f) fun y g => match cont g y with
  | some b => match op a b with
    | some (.fz d) => .ok .nx (g.set i (some (.fz d)))
    | _ => .bad
  | none => .bad
def IpD (X : Cx) (op : Operator) (bop : D → D → Option R) : Prop :=
  PIp X op fun x y H Q => ∃ F a b r, Same F H ∧ CV X.kw F H x a ∧ CV X.kw F H y b ∧ bop a b = some r ∧ RP X.kw F H Q r
theorem ds_aug {i : Nat} {x : Str} {op : Operator} {bop : D → D → Option R} {f : M R} {pos' : Pos} (hN : X.N.Nodup) (ho : IpD X op bop) (he : DE X Y W e f) (hi : X.N[i]? = some x := by rfl) (hx : Loc X.env.scope x := by first | exact Or.inl rfl | exact Or.inr rfl)
    (hf : X.fn x = true ∨ X.env.scope.names.lookup x = some .local := by first | exact .inl rfl | exact .inr rfl | assumption) : DS X Y W (.AugAssign (.Name x pos') op e pos) (sAug i bop f) :=
  ps_mono (ps_aug hN hi hx (de_pk he) ho hf) fun D σ H ⟨g, F, r, p⟩ => by
    have p' : PostS X.kw Y W F D ((chkFz i g).andThen fun a => mb (pk f) fun y g => match cont g y with
      | some b => match bop a b with
        | some (.fz d) => .ok .nx (g.set i (some (.fz d)))
        | _ => .bad
      | none => .bad) := p
    unfold chkFz at p'
    cases ei : g[i]? with
    | none => rw [ei] at p'; exact p'.elim
    | some o =>
      cases o with
      | none => rw [ei] at p'; exact p'.elim
      | some sl =>
        cases sl with
        | ow l o => rw [ei] at p'; exact p'.elim
        | op c fs => rw [ei] at p'; exact p'.elim
        | fz a =>
          rw [ei] at p'
          obtain ⟨v, h1, h2⟩ := r.fz i a ei
          have p2 : PostS X.kw Y W F D ((pk f g).andThen fun y g => match cont g y with
            | some b => match bop a b with
              | some (.fz d) => .ok .nx (g.set i (some (.fz d)))
              | _ => .bad
            | none => .bad) := p'
          refine ⟨v, h1, g, F, r, (PostS.bind p2).imp fun y g1 H1 F1 r1 s1 q u hu => ?_⟩
          cases ec : cont g1 y with
          | none => rw [ec] at q; exact q.elim
          | some b =>
            rw [ec] at q
            cases eb : bop a b with
            | none => simp only [eb] at q; exact q.elim
            | some z =>
              cases z with
              | ow _ => simp only [eb] at q; exact q.elim
              | «at» _ => simp only [eb] at q; exact q.elim
              | sub _ _ => simp only [eb] at q; exact q.elim
              | fz d =>
                simp only [eb] at q
                refine ⟨F1, a, b, .fz d, r1.sub, .inl (h2.mono s1), r1.cv hu ec, eb, fun w H2 F2 x2 hw => ?_⟩
                have r2 := r1.ext x2
                exact q _ H2 F2 (r2.put (r := .fz d) (g' := g1.set i (some (.fz d))) hw rfl) x2.ff
theorem ip_of {op : Operator} {bop : D → D → Option R} {r : R2} (h : OpR X (inplaceOp op) r) (i : ∀ x y H Q, (∃ F a b r, Same F H ∧ CV X.kw F H x a ∧ CV X.kw F H y b ∧ bop a b = some r ∧ RP X.kw F H Q r) → r x y H Q) : IpD X op bop :=
  fun pins s σ H x y v u Q I rx ry q => h pins s σ H x y v u Q I rx ry (i x y H Q q)
def bAddS : D → D → Option R
  | .int i, .int j => some (.fz (.int (i + j)))
  | .str a, .str b => if a.length + b.length ≤ sizeLine then some (.fz (.str (a ++ b))) else none
  | _, _ => none
def bMulI : D → D → Option R
  | .int i, .int j => if (-(2 ^ 64) < i ∧ i < 2 ^ 64) ∨ (-(2 ^ 64) < j ∧ j < 2 ^ 64) then some (.fz (.int (i * j))) else none
  | _, _ => none
theorem ipd_add : IpD X .Add bAddS := by
  intro pins s σ H x y v u Q I rx ry ⟨F, a, b, r, sm, ha, hb, ho, hr⟩
  unfold bAddS at ho
  split at ho
  · cases ho; exact iop_add pins s σ H x y v u Q I rx ry ⟨_, _, ha.int, hb.int, hr.now sm rfl⟩
  · split at ho
    · rename_i i j hz
      cases ho
      exact iop_add_str pins s σ H x y v u Q I rx ry ⟨_, _, ha.str.1, hb.str.1, hz, hr.now sm ⟨rfl, by rw [str_add_length]; exact hz⟩⟩
    · cases ho
  · cases ho
theorem ipd_sub : IpD X .Sub bSub := by
  intro pins s σ H x y v u Q I rx ry ⟨F, a, b, r, sm, ha, hb, ho, hr⟩
  unfold bSub at ho
  split at ho
  · cases ho; exact iop_sub pins s σ H x y v u Q I rx ry ⟨_, _, ha.int, hb.int, hr.now sm rfl⟩
  · cases ho
theorem ipd_mul : IpD X .Mult bMulI := by
  intro pins s σ H x y v u Q I rx ry ⟨F, a, b, r, sm, ha, hb, ho, hr⟩
  unfold bMulI at ho
  split at ho
  · split at ho
    · rename_i i j hz
      cases ho; exact iop_mul pins s σ H x y v u Q I rx ry ⟨_, _, ha.int, hb.int, hz, hr.now sm rfl⟩
    · cases ho
  · cases ho
theorem ipd_fdiv : IpD X .FloorDiv bFdiv := by
  intro pins s σ H x y v u Q I rx ry ⟨F, a, b, r, sm, ha, hb, ho, hr⟩
  unfold bFdiv at ho
  split at ho
  · split at ho
    · rename_i i j hz
      cases ho; exact iop_fdiv pins s σ H x y v u Q I rx ry ⟨_, _, ha.int, hb.int, hz, hr.now sm rfl⟩
    · cases ho
  · cases ho

/-! ### what is walked -/
def Srv (K : KW) (F0 : Hp) (J : It) (ds : List D) : Prop :=
  ∀ H F, Same F0 F → Same F H → (∀ i d, ds[i]? = some d → J.go i H ∧ ∀ x H', J.yld i H x H' → ∃ F', Ext F H F' H' ∧ Is K F' x d) ∧ J.stop ds.length H
def tI (K : KW) (Y : Ent) (W : WX) (f : M (List D)) : TI := fun σ H R => ∃ g F, Rel K Y σ H g F ∧ Post K Y W σ F (fun ds g' H' F' => ∀ J H2 F2, Rel K Y σ H2 g' F2 → Same F' F2 → Srv K F2 J ds → R J H2) (f g)
def DI (X : Cx) (Y : Ent) (W : WX) (tg it : Expr) (f : M (List D)) : Prop := PI X tg it (tI X.kw Y W f)
def Str.signs (z : Str) : List D := z.cps.toList.map fun c => .str ⟨#[c]⟩
def itemsD : D → Option (List D)
  | .lst ds => some ds
  | .tup ds => some ds
  | .scr ns => some (ns.map D.int)
  | .str z => some (Str.signs z)
  | _ => none
def toIt (r : R) : M (List D) := fun g => match r with
  | .fz d => match itemsD d with
    | some ds => .ok ds g
    | none => .bad
  | _ => .bad
def iSeq (f : M R) : M (List D) := mb (esc f) toIt
def rngI (lo : Int) (n : Nat) : List D := (List.range n).map fun i => .int (lo + (i : Nat))
def toRng1 : List R → M (List D) := fun rs g => match rs with
  | [.fz (.int n)] => if -(2 ^ 62) ≤ n ∧ n < 2 ^ 62 then .ok (rngI 0 n.toNat) g else .bad
  | _ => .bad
def toRng2 : List R → M (List D) := fun rs g => match rs with
  | [.fz (.int a), .fz (.int b)] => if -(2 ^ 62) ≤ a ∧ a < 2 ^ 62 ∧ -(2 ^ 62) ≤ b ∧ b < 2 ^ 62 then .ok (rngI a (b - a).toNat) g else .bad
  | _ => .bad
def iRng1 (k : M (List R)) : M (List D) := mb k toRng1
def iRng2 (k : M (List R)) : M (List D) := mb k toRng2
theorem pi_or {tg it : Expr} {w1 w2 : TI} (h1 : PI X tg it w1) (h2 : PI X tg it w2) : PI X tg it (fun σ H R => w1 σ H R ∨ w2 σ H R) :=
  ⟨fun pins s σ H R I q => q.elim (h1.run pins s σ H R I) (h2.run pins s σ H R I)⟩
theorem pi_mono {tg it : Expr} {w1 w2 : TI} (h1 : PI X tg it w1) (i : ∀ σ H R, w2 σ H R → w1 σ H R) : PI X tg it w2 :=
  ⟨fun pins s σ H R I q => h1.run pins s σ H R I (i σ H R q)⟩
theorem len_of_get {α : Type} {xs : List α} {i : Nat} {x : α} (h : xs[i]? = some x) : i < xs.length := (List.getElem?_eq_some_iff.mp h).1
theorem srv_seq {K : KW} {F0 : Hp} {J : It} {n : Nat} {ds : List D} {vs : List V} {Gd : Hp → Prop} (hl : IsL K F0 vs ds) (hn : n = vs.length) (w : Walk J n Gd (YAt vs)) (hg : ∀ H F, Same F0 F → Same F H → Gd H) : Srv K F0 J ds := by
  subst hn
  refine fun H F s0 s1 => ⟨fun i d e => ?_, ?_⟩
  · have hi := len_of_get e
    rw [← hl.length] at hi
    refine ⟨w.goes i H hi (hg H F s0 s1), fun x H' hy => ?_⟩
    obtain ⟨rfl, hx⟩ := w.yields i H x H' hi (hg H F s0 s1) hy
    obtain ⟨v, h1, h2⟩ := hl.get e
    rw [hx] at h1
    cases h1
    exact ⟨F, Ext.refl s1, h2.mono s0⟩
  · rw [← hl.length]; exact w.stops H (hg H F s0 s1)
theorem srv_rng {K : KW} {F0 : Hp} {lo : Int} {n : Nat} : Srv K F0 (Itr lo n) (rngI lo n) := by
  have ln : (rngI lo n).length = n := by unfold rngI; rw [List.length_map, List.length_range]
  refine fun H F s0 s1 => ⟨fun i d e => ?_, ?_⟩
  · have hi := len_of_get e
    rw [ln] at hi
    refine ⟨hi, fun x H' ⟨h1, h2⟩ => ?_⟩
    subst h1 h2
    unfold rngI at e
    rw [List.getElem?_map, List.getElem?_range hi] at e
    cases e
    exact ⟨F, Ext.refl s1, rfl⟩
  · rw [ln]; exact Nat.le_refl n
theorem srv_str {K : KW} {F0 : Hp} {z : Str} : Srv K F0 (Its z) (Str.signs z) := by
  have ln : (Str.signs z).length = z.cps.size := by unfold Str.signs; rw [List.length_map, Array.length_toList]
  refine fun H F s0 s1 => ⟨fun i d e => ?_, ?_⟩
  · have hi := len_of_get e
    rw [ln] at hi
    refine ⟨hi, fun x H' ⟨h1, c, h2, h3⟩ => ?_⟩
    subst h1 h3
    unfold Str.signs at e
    rw [List.getElem?_map] at e
    have e2 : z.cps.toList[i]? = some c := by rw [Array.getElem?_toList]; exact h2
    rw [e2] at e
    cases e
    exact ⟨F, Ext.refl s1, rfl, by show (1 : Nat) ≤ sizeLine; decide⟩
  · rw [ln]; exact Nat.le_refl _
theorem di_seq {tg : Expr} {f : M R} (he : DE X Y W e f) : DI X Y W tg e (iSeq f) := by
  refine pi_mono (pi_or (pi_list (tg := tg) (de_esc he)) (pi_or (pi_tup (tg := tg) (de_esc he)) (pi_str (tg := tg) (de_esc he)))) fun σ H R ⟨g, F, r, p⟩ => ?_
  have p' : Post X.kw Y W σ F _ ((esc f g).andThen toIt) := p
  cases ef : esc f g with
  | bad => rw [ef] at p'; exact p'.elim
  | ex e g1 =>
    rw [ef] at p'
    refine .inl ⟨g, F, r, ?_⟩
    rw [ef]
    exact p'
  | ok x g1 =>
    rw [ef] at p'
    have p2 : Post X.kw Y W σ F _ (toIt x g1) := p'
    unfold toIt at p2
    cases x with
    | ow _ => exact p2.elim
    | «at» _ => exact p2.elim
    | sub _ _ => exact p2.elim
    | fz d =>
      simp only at p2
      cases d with
      | lst ds =>
        refine .inl ⟨g, F, r, ?_⟩
        rw [ef]
        intro H1 F1 r1 s1 v ⟨a, vs, e1, k1, k2, k3⟩
        refine ⟨a, e1, ⟨vs, SqL.of (r1.sub _ _ k1)⟩, p2 H1 F1 r1 s1 _ H1 F1 r1 (Same.refl _) ?_⟩
        exact srv_seq k3 rfl walk_list fun H F s0 s1 => SqL.of (s1 _ _ (s0 _ _ k1))
      | scr ns =>
        refine .inl ⟨g, F, r, ?_⟩
        rw [ef]
        intro H1 F1 r1 s1 v ⟨a, e1, k1, k2⟩
        refine ⟨a, e1, ⟨_, r1.sub.seq k1⟩, p2 H1 F1 r1 s1 _ H1 F1 r1 (Same.refl _) ?_⟩
        exact srv_seq (IsL.ints ns) rfl walk_list fun H F s0 s1 => s1.seq (s0.seq k1)
      | tup ds =>
        refine .inr (.inl ⟨g, F, r, ?_⟩)
        rw [ef]
        intro H1 F1 r1 s1 v ⟨a, vs, e1, k1, k2, k3⟩
        refine ⟨a, e1, ⟨vs, sqT_mono r1.sub k1⟩, p2 H1 F1 r1 s1 _ H1 F1 r1 (Same.refl _) ?_⟩
        exact srv_seq k3 rfl walk_tup fun H F s0 s1 => sqT_mono s1 (sqT_mono s0 k1)
      | str z =>
        refine .inr (.inr ⟨g, F, r, ?_⟩)
        rw [ef]
        intro H1 F1 r1 s1 v ⟨e1, k1⟩
        exact ⟨z, e1, p2 H1 F1 r1 s1 _ H1 F1 r1 (Same.refl _) srv_str⟩
      | non => exact p2.elim
      | bl _ => exact p2.elim
      | int _ => exact p2.elim
      | dk _ => exact p2.elim
      | dt _ => exact p2.elim
      | dd _ => exact p2.elim
      | obj _ _ => exact p2.elim
      | exc _ => exact p2.elim
theorem di_rng1 {tg a : Expr} {p : Pos} {k : M (List R)} (hg : Gl X "range") (hm : X.mg "range" = none) (ha : DA X Y W [a] k) (hs : starEach [a] X.env = [(false, eval a X.env)] := by rfl) : DI X Y W tg (.Call (.Name "range" p) [a] [] pos) (iRng1 k) :=
  pi_mono (pi_range1 hg hm ha hs) fun σ H Q ⟨g, F, r, p⟩ => ⟨g, F, r, (p.bind).imp fun rs g1 H1 F1 r1 s1 q vs hv => by
    unfold toRng1 at q
    split at q
    · rename_i n
      obtain ⟨v, us, e1, h1, e2⟩ := hv
      subst e1
      rw [show us = [] from e2, show v = .int n from h1]
      split at q
      · rename_i hz
        exact ⟨n, rfl, hz.1, hz.2, q H1 F1 r1 (Same.refl _) _ H1 F1 r1 (Same.refl _) srv_rng⟩
      · exact q.elim
    · exact q.elim⟩
theorem di_rng2 {tg a b : Expr} {p : Pos} {k : M (List R)} (hg : Gl X "range") (hm : X.mg "range" = none) (ha : DA X Y W [a, b] k) (hs : starEach [a, b] X.env = [(false, eval a X.env), (false, eval b X.env)] := by rfl) (hs2 : starEach [b] X.env = [(false, eval b X.env)] := by rfl) :
    DI X Y W tg (.Call (.Name "range" p) [a, b] [] pos) (iRng2 k) :=
  pi_mono (pi_range2 hg hm ha hs hs2) fun σ H Q ⟨g, F, r, p⟩ => ⟨g, F, r, (p.bind).imp fun rs g1 H1 F1 r1 s1 q vs hv => by
    unfold toRng2 at q
    split at q
    · rename_i a b
      obtain ⟨v, us, e1, h1, w, us', e2, h2, e3⟩ := hv
      subst e1 e2
      rw [show us' = [] from e3, show v = .int a from h1, show w = .int b from h2]
      split at q
      · rename_i hz
        exact ⟨a, b, rfl, hz, q H1 F1 r1 (Same.refl _) _ H1 F1 r1 (Same.refl _) srv_rng⟩
      · exact q.elim
    · exact q.elim⟩

/-! ### for, while -/
def forL (t : R → M Unit) (body : M Fl) : List D → M Fl
  | [] => fun g => .ok .nx g
  | d :: ds => fun g => (noEx (t (.fz d) g)).andThen fun _ g1 => match body g1 with
    | .ok .nx g2 => forL t body ds g2
    | .ok .ct g2 => forL t body ds g2
    | .ok .bk g2 => .ok .nx g2
    | r => r
def sFor (it : M (List D)) (t : R → M Unit) (body : M Fl) : M Fl := mb it fun ds => forL t body ds
theorem PostS.asgG {K : KW} {σ : St} {F : Hp} {D : Ends} {ts : List Nat} {x : Rs Unit} {k : G → Rs Fl} (h : PostS K Y W F D ((noEx x).andThen fun _ g => k g)) :
    PostG K Y σ F ts (fun σ' H' => ∃ g F', Rel K Y σ' H' g F' ∧ Same F F' ∧ PostS K Y W F' D (k g)) x := by
  cases x with
  | bad => exact h
  | ex _ _ => exact h
  | ok _ g => exact fun σ' H' F' r s _ _ => ⟨g, F', r, s, PostS.weak s h⟩
theorem ds_for {tg it : Expr} {body : List Stmt} {ts : List Nat} {w : M (List D)} {t : R → M Unit} {b : M Fl} (hp : PassesOwn (model X.prog X.w) X.A X.env X.xe) (hc : X.calm = true) (hi : DI X Y W tg it w) (hg : DG X Y tg ts t) (hb : DSs X Y W body b)
    (hs : ∀ x, foldedSetIterable it X.env x = pure x := by intro _; rfl) : DS X Y W (.For tg it body [] pos) (sFor w t b) :=
  ps_mono (ps_for hp hc hi hg hb hs) fun D σ H ⟨g, F, r, p⟩ => ⟨g, F, r, (PostS.bind (σ := σ) p).imp fun ds g1 H1 F1 r1 s1 q J H2 F2 r2 s2 srv => by
    refine ⟨fun i m σ' H' => i ≤ ds.length ∧ m = ds.length - i ∧ ∃ gi Fi, Rel X.kw Y σ' H' gi Fi ∧ Same F2 Fi ∧ PostS X.kw Y W Fi D (forL t b (ds.drop i) gi),
      ⟨ds.length, Nat.zero_le _, rfl, g1, F2, r2, Same.refl _, PostS.weak s2 q⟩, fun i m σ' H' ⟨hi, hm, gi, Fi, ri, si, qi⟩ => ?_⟩
    obtain ⟨hgo, hst⟩ := srv H' Fi si ri.sub
    by_cases hl : i < ds.length
    · right
      have ed : ds.drop i = ds[i] :: ds.drop (i + 1) := (List.drop_eq_getElem_cons hl)
      obtain ⟨g1', hy⟩ := hgo i ds[i] (List.getElem?_eq_getElem hl)
      refine ⟨g1', fun σ'' H'' => i + 1 ≤ ds.length ∧ ∃ gi Fi, Rel X.kw Y σ'' H'' gi Fi ∧ Same F2 Fi ∧ PostS X.kw Y W Fi D (forL t b (ds.drop (i + 1)) gi), fun σ'' H'' ⟨h1, h2⟩ => ⟨m - 1, by omega, h1, by omega, h2⟩, fun x H'' hx => ?_⟩
      obtain ⟨F', ex, qx⟩ := hy x H'' hx
      have r3 := ri.ext ex
      rw [ed] at qi
      have qi' : PostS X.kw Y W Fi D ((noEx (t (.fz ds[i]) gi)).andThen fun _ g1 => match b g1 with
        | .ok .nx g2 => forL t b (ds.drop (i + 1)) g2
        | .ok .ct g2 => forL t b (ds.drop (i + 1)) g2
        | .ok .bk g2 => .ok .nx g2
        | r => r) := qi
      have pg := PostS.asgG (σ := σ') (ts := ts) (PostS.weak ex.ff qi')
      refine ⟨gi, F', .fz ds[i], r3, qx, ?_⟩
      revert pg
      cases t (.fz ds[i]) gi with
      | bad => exact id
      | ex _ _ => exact id
      | ok _ ga =>
        intro pg σ2 H3 F3 r4 s4 l4 k4
        obtain ⟨gb, F4, r5, s5, pb⟩ := pg σ2 H3 F3 r4 s4 l4 k4
        refine ⟨gb, F4, r5, ?_⟩
        have sF : Same F2 F4 := si.trans (ex.ff.trans s5)
        revert pb
        cases b gb with
        | bad => exact id
        | ex e g' => exact id
        | ok fl g' =>
          cases fl with
          | nx => exact fun pb σ3 H5 F5 r6 s6 => ⟨hl, g', F5, r6, sF.trans s6, PostS.weak s6 pb⟩
          | ct => exact fun pb σ3 H5 F5 r6 s6 => ⟨hl, g', F5, r6, sF.trans s6, PostS.weak s6 pb⟩
          | bk => exact id
          | rt r => exact id
    · have ei : i = ds.length := by omega
      subst ei
      rw [List.drop_length] at qi
      exact .inl ⟨hst, qi σ' H' Fi ri (Same.refl _)⟩⟩
/-- at most n turns -/
def whileL (c : M Bool) (body : M Fl) : Nat → M Fl
  | 0 => fun _ => .bad
  | n + 1 => fun g => (c g).andThen fun t g1 => if t = true then match body g1 with
      | .ok .nx g2 => whileL c body n g2
      | .ok .ct g2 => whileL c body n g2
      | .ok .bk g2 => .ok .nx g2
      | r => r
    else .ok .nx g1
/-- the bound of all while loops -/
def fuel : Nat := 100000000
def sWhile (c : M Bool) (body : M Fl) : M Fl := whileL c body fuel
theorem ds_whileN {c : Expr} {body : List Stmt} {t : M Bool} {b : M Fl} (n : Nat) (hp : PassesOwn (model X.prog X.w) X.A X.env X.xe) (hc : DT X Y W c t) (hb : DSs X Y W body b) : DS X Y W (.While c body [] pos) (whileL t b n) :=
  ps_mono (ps_while hp hc hb) fun D σ H ⟨g, F, r, p⟩ => by
    refine ⟨fun m σ' H' => ∃ gi Fi, Rel X.kw Y σ' H' gi Fi ∧ PostS X.kw Y W Fi D (whileL t b m gi), ⟨n, g, F, r, p⟩, fun m σ' H' ⟨gi, Fi, ri, qi⟩ => ?_⟩
    cases m with
    | zero => exact qi.elim
    | succ m =>
      have qi' : PostS X.kw Y W Fi D ((t gi).andThen fun tt g1 => if tt = true then match b g1 with
          | .ok .nx g2 => whileL t b m g2
          | .ok .ct g2 => whileL t b m g2
          | .ok .bk g2 => .ok .nx g2
          | r => r
        else .ok .nx g1) := qi
      refine ⟨gi, Fi, ri, (PostS.bind (σ := σ') qi').imp fun tt g1 H1 F1 r1 s1 q => ?_⟩
      cases tt with
      | false => exact q σ' H1 F1 r1 (Same.refl _)
      | true =>
        rw [if_pos rfl] at q
        refine (show (∃ N : St → Hp → Prop, (∀ σ'' H'', N σ'' H'' → ∃ m', m' < m + 1 ∧ ∃ gi Fi, Rel X.kw Y σ'' H'' gi Fi ∧ PostS X.kw Y W Fi D (whileL t b m' gi)) ∧ tS X.kw Y W b { D with nx := N, ct := N, bk := D.nx } σ' H1) from ?_)
        refine ⟨fun σ'' H'' => ∃ gi Fi, Rel X.kw Y σ'' H'' gi Fi ∧ PostS X.kw Y W Fi D (whileL t b m gi), fun σ'' H'' h => ⟨m, Nat.lt_succ_self m, h⟩, g1, F1, r1, ?_⟩
        revert q
        cases b g1 with
        | bad => exact id
        | ex e g' => exact id
        | ok fl g' =>
          cases fl with
          | nx => exact fun pb σ3 H5 F5 r6 s6 => ⟨g', F5, r6, PostS.weak s6 pb⟩
          | ct => exact fun pb σ3 H5 F5 r6 s6 => ⟨g', F5, r6, PostS.weak s6 pb⟩
          | bk => exact id
          | rt r => exact id
theorem ds_while {c : Expr} {body : List Stmt} {t : M Bool} {b : M Fl} (hp : PassesOwn (model X.prog X.w) X.A X.env X.xe) (hc : DT X Y W c t) (hb : DSs X Y W body b) : DS X Y W (.While c body [] pos) (sWhile t b) := ds_whileN fuel hp hc hb
end
end DL

namespace DL
open PySem PySem.Spec L2

/-! ### list comprehensions -/
def wipeG (g : G) : List Nat → G
  | [] => g
  | v :: vs => (wipeG g vs).set v none
def keepFz : Option (Option Sl) → Option Sl
  | some (some (.fz d)) => some (.fz d)
  | _ => none
/-- behind a block: the outer meaning of its own names -/
def backG (g0 g : G) : List Nat → G
  | [] => g
  | v :: vs => (backG g0 g vs).set v (keepFz g0[v]?)
def lcL (t : R → M Unit) (c : M Bool) (e : M R) (vs : List Nat) : List D → List D → M (List D)
  | [], acc => fun g => .ok acc g
  | d :: ds, acc => fun g => (noEx (t (.fz d) (wipeG g vs))).andThen fun _ g1 => (noEx (c g1)).andThen fun b g2 =>
      if b = true then (noEx (esc e g2)).andThen fun x g3 => match x with
        | .fz y => lcL t c e vs ds (acc ++ [y]) g3
        | _ => .bad
      else lcL t c e vs ds acc g2
def eLc (it : M (List D)) (t : R → M Unit) (c : M Bool) (e : M R) (vs : List Nat) : M R := mb it fun ds g => if ds.length ≤ sizeLine then (lcL t c e vs ds [] g).andThen fun acc g2 => .ok (.ow (.ls acc)) (backG g g2 vs) else .bad
theorem wipe_len (σ : St) : ∀ vs : List Nat, (wipe σ vs).length = σ.length := wipe_length σ
theorem wipeG_len (g : G) : ∀ vs : List Nat, (wipeG g vs).length = g.length
  | [] => rfl
  | v :: vs => by unfold wipeG; rw [List.length_set, wipeG_len g vs]
theorem wipeG_get {g : G} {j : Nat} {s : Sl} : ∀ {vs : List Nat}, (wipeG g vs)[j]? = some (some s) → g[j]? = some (some s) ∧ j ∉ vs
  | [], h => ⟨h, by simp⟩
  | v :: vs, h => by
    unfold wipeG at h
    rcases get_set h with ⟨_, e⟩ | ⟨n, e⟩
    · cases e
    · obtain ⟨h1, h2⟩ := wipeG_get e
      exact ⟨h1, by simp [n, h2]⟩
theorem wipe_get {σ : St} {j : Nat} : ∀ {vs : List Nat}, j ∉ vs → (wipe σ vs)[j]? = σ[j]?
  | [], _ => rfl
  | v :: vs, h => by
    unfold wipe
    rw [List.getElem?_set_ne (fun z => h (by simp [z])), wipe_get (fun z => h (List.mem_cons_of_mem _ z))]
theorem wipe_same {σ σ2 : St} {ts : List Nat} (hl : σ2.length = σ.length) (h : ∀ j, j ∉ ts → σ2[j]? = σ[j]?) {vs : List Nat} (hs : ∀ j ∈ ts, j ∈ vs) : wipe σ2 vs = wipe σ vs := by
  apply List.ext_getElem?
  intro j
  by_cases hj : j ∈ vs
  · have key : ∀ (σ : St) (vs : List Nat), j ∈ vs → (wipe σ vs)[j]? = if j < σ.length then some none else none := by
      intro σ vs
      induction vs with
      | nil => intro h; cases h
      | cons v vs ih =>
        intro h
        unfold wipe
        by_cases e : v = j
        · subst e
          by_cases l : v < σ.length
          · rw [List.getElem?_set_self (by rw [wipe_length]; exact l), if_pos l]
          · rw [List.getElem?_eq_none (by rw [List.length_set, wipe_length]; omega), if_neg l]
        · rw [List.getElem?_set_ne e]
          exact ih (by simpa [Ne.symm e] using h)
    rw [key σ2 vs hj, key σ vs hj, hl]
  · rw [wipe_get hj, wipe_get hj]
    exact h j fun z => hj (hs j z)
section
variable {K : KW} {Y : Ent} {σ σ0 : St} {H H' F F' : Hp} {g g0 : G}
theorem Rel.wipe (r : Rel K Y σ H g F) (vs : List Nat) : Rel K Y (wipe σ vs) H (wipeG g vs) F :=
  r.mask (by rw [wipe_length, wipeG_len]; exact r.len) fun j s e => by
    obtain ⟨h1, h2⟩ := wipeG_get e
    exact ⟨h1, wipe_get h2⟩
theorem backG_len (g0 g : G) : ∀ vs : List Nat, (backG g0 g vs).length = g.length
  | [] => rfl
  | v :: vs => by unfold backG; rw [List.length_set, backG_len g0 g vs]
theorem backG_get {j : Nat} {s : Sl} : ∀ {vs : List Nat}, (backG g0 g vs)[j]? = some (some s) → (j ∈ vs ∧ ∃ d, s = .fz d ∧ g0[j]? = some (some (.fz d))) ∨ (j ∉ vs ∧ g[j]? = some (some s))
  | [], h => .inr ⟨by simp, h⟩
  | v :: vs, h => by
    unfold backG at h
    rcases get_set h with ⟨rfl, e⟩ | ⟨n, e⟩
    · left
      refine ⟨by simp, ?_⟩
      unfold keepFz at e
      split at e
      · rename_i d e2
        cases e; exact ⟨d, rfl, e2⟩
      · cases e
    · rcases backG_get e with ⟨h1, h2⟩ | ⟨h1, h2⟩
      · exact .inl ⟨by simp [h1], h2⟩
      · exact .inr ⟨by simp [n, h1], h2⟩
/-- the block is left -/
theorem Rel.back {vs : List Nat} (r0 : Rel K Y σ H g0 F) (r : Rel K Y (L2.wipe σ vs) H' (wipeG g vs) F') (s_ : Same F F') : Rel K Y σ H' (backG g0 g vs) F' := by
  have get : ∀ {j : Nat} {x : Sl}, j ∉ vs → g[j]? = some (some x) → (wipeG g vs)[j]? = some (some x) := by
    intro j x hj e
    have key : ∀ vs : List Nat, j ∉ vs → (wipeG g vs)[j]? = g[j]? := by
      intro vs
      induction vs with
      | nil => intro _; rfl
      | cons v vs ih =>
        intro h
        unfold wipeG
        rw [List.getElem?_set_ne (fun z => h (by simp [z])), ih (fun z => h (List.mem_cons_of_mem _ z))]
    rw [key vs hj]; exact e
  have cs : ∀ (i : Nat) (s : Sl) (v : V), (backG g0 g vs)[i]? = some (some s) → σ[i]? = some (some v) → SlAt K Y F' H' v s ∧ (∀ b ∈ sf F' H' v s, i ∉ vs) := fun i s v e hv => by
    rcases backG_get e with ⟨_, d', ed, e0⟩ | ⟨hj, e'⟩
    · subst ed
      exact ⟨Is.mono s_ _ _ (r0.at_ e0 hv), fun b hb => by rw [sf_fz] at hb; cases hb⟩
    · exact ⟨r.at_ (get hj e') (by rw [wipe_get hj]; exact hv), fun _ _ => hj⟩
  refine ⟨r.sub, r.base, r.keep, r.dom, r.fr, r.lad, ?_, fun i s e => ?_, fun i j s s' v v' n e1 e2 h1 h2 b hb => ?_⟩
  · have := r.len
    rw [wipe_length, wipeG_len] at this
    rw [backG_len]; exact this
  · have : ∃ v, σ[i]? = some (some v) := by
      rcases backG_get e with ⟨_, d', ed, e0⟩ | ⟨hj, e'⟩
      · obtain ⟨v, h, _⟩ := r0.sl i _ e0; exact ⟨v, h⟩
      · obtain ⟨v, h, _⟩ := r.sl i _ (get hj e')
        rw [wipe_get hj] at h; exact ⟨v, h⟩
    obtain ⟨v, hv⟩ := this
    exact ⟨v, hv, (cs i s v e hv).1⟩
  · intro hb'
    have hi := (cs i s v e1 h1).2 b hb
    have hj := (cs j s' v' e2 h2).2 b hb'
    rcases backG_get e1 with ⟨z, _⟩ | ⟨_, e1'⟩
    · exact hi z
    · rcases backG_get e2 with ⟨z, _⟩ | ⟨_, e2'⟩
      · exact hj z
      · exact r.inj i j s s' v v' n (get hi e1') (get hj e2') (by rw [wipe_get hi]; exact h1) (by rw [wipe_get hj]; exact h2) b hb hb'
/-- a list of ours at q that is on its way -/
def Ent.gd (Y : Ent) (q : Addr) (u : HO) : Ent := { Y with B := upd Y.B q u, H0 := upd Y.H0 q u }
/-- slots whose cells are not touched -/
theorem Rel.around {Y' : Ent} (r : Rel K Y σ H g F) (sub : Same F H') (base : Same Y'.F0 F) (keep : Same Y'.B H') (dom : ∀ a, Y'.H0 a ≠ none → H' a ≠ none) (fr : ∀ a, F a ≠ none → Y'.F0 a ≠ none ∨ Y'.H0 a = none ∨ a ∈ Y'.la)
    (lad : ∀ a ∈ Y'.la, Y'.H0 a ≠ none) (lr : Y'.lr = Y.lr) (la : Y'.la = Y.la)
    (st : ∀ b, F b = none → Y.B b = none → H b ≠ none → H' b = H b ∧ Y'.B b = none ∧ (Y.H0 b = none → Y'.H0 b = none)) : Rel K Y' σ H' g F := by
  have key : ∀ (i : Nat) (s : Sl) (v : V), SlAt K Y F H v s → SlAt K Y' F H' v s ∧ sf F H' v s = sf F H v s := fun i s v q => by
    have cl : ∀ b ∈ sf F H v s, H' b = H b ∧ Y'.B b = none ∧ (Y.H0 b = none → Y'.H0 b = none) := fun b hb => st b (q.cells b hb).1 (q.cells b hb).2.1 (q.cl hb)
    obtain ⟨q1, q2⟩ := q.mono (Same.refl F) fun b hb => ⟨(cl b hb).1, (q.cells b hb).1⟩
    refine ⟨?_, q2⟩
    rw [← q2] at cl
    cases s with
    | fz d => exact q1
    | ow l o =>
      obtain ⟨a, rfl, h1, h2, h3, h4⟩ := q1
      exact ⟨a, rfl, h1, h2, fun b hb => ⟨(h3 b hb).1, (cl b hb).2.1, fun z => (cl b hb).2.2 ((h3 b hb).2.2.1 z), (h3 b hb).2.2.2.imp (cl b hb).2.2 (fun z => by rw [la]; exact z)⟩, fun z => by rw [lr]; exact h4 z⟩
    | op c fs =>
      obtain ⟨a, C, dx, vs, rfl, h1, h2, h3, h4, h5, h6⟩ := q1
      have ec : sf F H' (.ref a) (.op c fs) = a :: footF F vs fs := by unfold sf; simp only; rw [h1]
      rw [ec] at cl
      exact ⟨a, C, dx, vs, rfl, h1, h2, h3, h4, fun b hb => ⟨(h5 b hb).1, (cl b hb).2.1, (h5 b hb).2.2.imp (cl b hb).2.2 (fun z => by rw [la]; exact z)⟩, by rw [lr]; exact h6⟩
  refine ⟨sub, base, keep, dom, fr, lad, r.len, fun i s e => ?_, fun i j s s' v v' n e1 e2 h1 h2 b hb => ?_⟩
  · obtain ⟨v, h1, h2⟩ := r.sl i s e
    exact ⟨v, h1, (key i s v h2).1⟩
  · rw [(key i s v (r.at_ e1 h1)).2] at hb
    rw [(key j s' v' (r.at_ e2 h2)).2]
    exact r.inj i j s s' v v' n e1 e2 h1 h2 b hb
theorem Rel.guard {q : Addr} {u : HO} (r : Rel K Y σ H g F) (hq : H q = none) : Rel K (Y.gd q u) σ (upd H q u) g F := by
  refine r.around (fun b x e => ?_) r.base (fun b x e => ?_) (fun b hb => ?_) (fun b hb => ?_) (fun b hb => ?_) rfl rfl fun b h1 h2 h3 => ?_
  · rw [upd_ne (fun z => by subst z; rw [r.sub _ _ e] at hq; cases hq)]; exact r.sub _ _ e
  · by_cases z : b = q
    · subst z
      have e' : upd Y.B b u b = some x := e
      rw [upd_same] at e' ⊢; exact e'
    · have e' : upd Y.B q u b = some x := e
      rw [upd_ne z] at e' ⊢; exact r.keep _ _ e'
  · by_cases z : b = q
    · subst z; rw [upd_same]; simp
    · have hb' : upd Y.H0 q u b ≠ none := hb
      rw [upd_ne z] at hb' ⊢; exact r.dom b hb'
  · refine (r.fr b hb).imp id fun h => h.imp (fun h => ?_) id
    have z : b ≠ q := fun z => by
      subst z
      cases e : F b with
      | none => exact hb e
      | some x => rw [r.sub _ _ e] at hq; cases hq
    show upd Y.H0 q u b = none
    rw [upd_ne z]; exact h
  · by_cases z : b = q
    · subst z; show upd Y.H0 b u b ≠ none; rw [upd_same]; simp
    · show upd Y.H0 q u b ≠ none; rw [upd_ne z]; exact r.lad b hb
  · have z : b ≠ q := fun z => by subst z; exact h3 hq
    exact ⟨upd_ne z, (upd_ne z).trans h2, fun h => (upd_ne z).trans h⟩
theorem Rel.gdAt {q : Addr} {u : HO} (r : Rel K (Y.gd q u) σ H g F) : H q = some u := r.keep q u (show upd Y.B q u q = some u from upd_same)
theorem Rel.gdF {q : Addr} {u : HO} (r : Rel K (Y.gd q u) σ H g F) (h0 : Y.F0 q = none) (hl : q ∉ Y.la) : F q = none := by
  cases e : F q with
  | none => rfl
  | some x =>
    rcases r.fr q (by rw [e]; simp) with h | h | h
    · exact absurd h0 h
    · have h' : upd Y.H0 q u q = none := h
      rw [upd_same] at h'; cases h'
    · exact absurd h hl
/-- its content changes -/
theorem Rel.bump {q : Addr} {u u' : HO} (r : Rel K (Y.gd q u) σ H g F) (h0 : Y.F0 q = none) (hl : q ∉ Y.la) : Rel K (Y.gd q u') σ (upd H q u') g F := by
  refine r.around (fun b x e => ?_) r.base (fun b x e => ?_) (fun b hb => ?_) (fun b hb => ?_) (fun b hb => ?_) rfl rfl fun b h1 h2 h3 => ?_
  · rw [upd_ne (fun z => by subst z; rw [r.gdF h0 hl] at e; cases e)]; exact r.sub _ _ e
  · have e' : upd Y.B q u' b = some x := e
    by_cases z : b = q
    · subst z; rw [upd_same] at e' ⊢; exact e'
    · rw [upd_ne z] at e' ⊢; exact r.keep b x (show upd Y.B q u b = some x by rw [upd_ne z]; exact e')
  · by_cases z : b = q
    · subst z; rw [upd_same]; simp
    · rw [upd_ne z]
      have hb' : upd Y.H0 q u' b ≠ none := hb
      rw [upd_ne z] at hb'
      exact r.dom b (show upd Y.H0 q u b ≠ none by rw [upd_ne z]; exact hb')
  · have z : b ≠ q := fun z => by subst z; exact hb (r.gdF h0 hl)
    refine (r.fr b hb).imp id fun h => h.imp (fun h => ?_) id
    have h' : upd Y.H0 q u b = none := h
    rw [upd_ne z] at h'
    show upd Y.H0 q u' b = none
    rw [upd_ne z]; exact h'
  · have z : b ≠ q := fun z => hl (z ▸ hb)
    have h' : upd Y.H0 q u b ≠ none := r.lad b hb
    rw [upd_ne z] at h'
    show upd Y.H0 q u' b ≠ none
    rw [upd_ne z]; exact h'
  · have h2' : upd Y.B q u b = none := h2
    obtain ⟨z, h2''⟩ := upd_none h2'
    refine ⟨upd_ne z, (upd_ne z).trans h2'', fun h => ?_⟩
    have h' : upd Y.H0 q u b = none := h
    exact (upd_ne z).trans (upd_none h').2
/-- it is done -/
theorem Rel.ungd {q : Addr} {u : HO} (r : Rel K (Y.gd q u) σ H g F) (hb : Y.B q = none) (hh : Y.H0 q = none) (hl : q ∉ Y.la) : Rel K Y σ H g F := by
  refine r.around r.sub r.base (fun b x e => ?_) (fun b h => ?_) (fun b h => ?_) (fun b h => ?_) rfl rfl fun b h1 h2 h3 => ?_
  · exact r.keep b x (show upd Y.B q u b = some x by rw [upd_ne (fun z => by subst z; rw [hb] at e; cases e)]; exact e)
  · exact r.dom b (show upd Y.H0 q u b ≠ none by rw [upd_ne (fun z => h (by rw [z]; exact hh))]; exact h)
  · refine (r.fr b h).imp id fun h' => h'.imp (fun h' => ?_) id
    have h' : upd Y.H0 q u b = none := h'
    exact (upd_none h').2
  · have z : b ≠ q := fun z => hl (z ▸ h)
    have h' : upd Y.H0 q u b ≠ none := r.lad b h
    rw [upd_ne z] at h'; exact h'
  · have h2' : upd Y.B q u b = none := h2
    obtain ⟨z, h2''⟩ := upd_none h2'
    refine ⟨rfl, h2'', fun h => ?_⟩
    have h' : upd Y.H0 q u b = none := h
    exact (upd_none h').2
end
theorem noEx_ok {α : Type} {x : Rs α} {a : α} {g : G} (h : noEx x = .ok a g) : x = .ok a g := by
  cases x with
  | bad => cases h
  | ok _ _ => exact h
  | ex _ _ => cases h
theorem then_inv {α β : Type} {x : Rs α} {k : α → G → Rs β} {b : β} {g : G} (h : (noEx x).andThen k = .ok b g) : ∃ a g1, x = .ok a g1 ∧ k a g1 = .ok b g := by
  cases x with
  | bad => cases h
  | ok a g1 => exact ⟨a, g1, rfl, h⟩
  | ex _ _ => cases h
/-- no exception leaves a block -/
abbrev W0 : WX := fun _ _ _ _ => False
def tTs (K : KW) (Y : Ent) (f : M Bool) : TT := tT K Y W0 f
def cYes : M Bool := mp true
theorem blk_step {K : KW} {Z : Ent} {σ : St} {F : Hp} {α : Type} {x : Rs α} {a : α} {g : G} {J : α → G → Hp → Hp → Prop} (e : x = .ok a g) (h : ∀ H' F', Rel K Z σ H' g F' → Same F F' → J a g H' F') : Post K Z W0 σ F J x := by
  rw [e]; exact h
section
variable {X : Cx} {Y : Ent} {W : WX}
theorem lc_sem {f : M (List D)} {t : R → M Unit} {c : M Bool} {e : M R} {vs ts : List Nat} {gt : TG} {tt : TT} {te : TE} (hts : ∀ j ∈ ts, j ∈ vs)
    (ht : ∀ (Z : Ent), Z.cls = Y.cls → ∀ v σ H Q, tG X.kw Z ts t v σ H Q → gt v σ H Q) (hc : ∀ (Z : Ent), Z.cls = Y.cls → ∀ σ H Q, tT X.kw Z W0 c σ H Q → tt σ H Q) (he : ∀ (Z : Ent), Z.cls = Y.cls → ∀ σ H Q, tD X.kw Z W0 (esc e) σ H Q → te σ H Q)
    {σ : St} {H : Hp} {Q : VK} (h : tD X.kw Y W (eLc f t c e vs) σ H Q) : tLc (tI X.kw Y W f) gt tt te vs σ H Q := by
  obtain ⟨g, F, r, p⟩ := h
  refine ⟨g, F, r, (p.bind).imp fun ds g1 H1' F1' r1' s1 q J H1 F1 r1 s11 srv q' hq' => ?_⟩
  split at q
  rotate_left
  · exact q.elim
  rename_i hsz
  have hF0 : Y.F0 q' = none := by
    cases e0 : Y.F0 q' with
    | none => rfl
    | some x => rw [r1.sub _ _ (r1.base _ _ e0)] at hq'; cases hq'
  have hB : Y.B q' = none := by
    cases e0 : Y.B q' with
    | none => rfl
    | some x => rw [r1.keep _ _ e0] at hq'; cases hq'
  have hH0 : Y.H0 q' = none := by
    cases e0 : Y.H0 q' with
    | none => rfl
    | some x => exact absurd hq' (r1.dom q' (by rw [e0]; simp))
  have hLa : q' ∉ Y.la := fun z => r1.lad q' z hH0
  have noex : ∀ (ds acc : List D) (g : G) x g', lcL t c e vs ds acc g ≠ .ex x g' := by
    intro ds
    induction ds with
    | nil => intro acc g x g' h; cases h
    | cons d ds ih =>
      intro acc g x g' h
      have h' : ((noEx (t (.fz d) (wipeG g vs))).andThen fun _ g1 => (noEx (c g1)).andThen fun b g2 =>
        if b = true then (noEx (esc e g2)).andThen fun x g3 => match x with
          | .fz y => lcL t c e vs ds (acc ++ [y]) g3
          | _ => .bad
        else lcL t c e vs ds acc g2) = .ex x g' := h
      revert h'
      cases t (.fz d) (wipeG g vs) with
      | bad => intro h; cases h
      | ex _ _ => intro h; cases h
      | ok _ ga =>
        simp only [noEx, then_ok]
        cases c ga with
        | bad => intro h; cases h
        | ex _ _ => intro h; cases h
        | ok b gb =>
          simp only [then_ok]
          cases b with
          | false => intro h; exact ih _ _ _ _ h
          | true =>
            simp only [if_true]
            cases esc e gb with
            | bad => intro h; cases h
            | ex _ _ => intro h; cases h
            | ok y gc =>
              simp only [then_ok]
              cases y with
              | fz y => intro h; exact ih _ _ _ _ h
              | ow _ => intro h; cases h
              | sub _ _ => intro h; cases h
              | «at» _ => intro h; cases h
  obtain ⟨accF, g2, eF, fin⟩ : ∃ accF g2, lcL t c e vs ds [] g1 = .ok accF g2 ∧ ∀ H' F', Rel X.kw Y σ H' (backG g1 g2 vs) F' → Same F1' F' → ∀ v, RV X.kw Y σ F' H' (backG g1 g2 vs) v (.ow (.ls accF)) → Q v H' := by
    cases ex : lcL t c e vs ds [] g1 with
    | bad => rw [ex] at q; exact q.elim
    | ex x g' => exact absurd ex (noex _ _ _ _ _)
    | ok accF g2 => rw [ex] at q; exact ⟨accF, g2, rfl, q⟩
  refine ⟨fun i m Hi => i ≤ ds.length ∧ m = ds.length - i ∧ ∃ gi Fi acc accV, lcL t c e vs (ds.drop i) acc gi = .ok accF g2 ∧ Rel X.kw (Y.gd q' (.lst accV)) (wipe σ vs) Hi (wipeG gi vs) Fi ∧ Same F1 Fi ∧ IsL X.kw Fi accV acc ∧ acc.length ≤ i,
    ⟨ds.length, Nat.zero_le _, rfl, g1, F1, [], [], eF, (r1.wipe vs).guard hq', Same.refl _, rfl, Nat.le_refl _⟩, fun i m Hi ⟨hi, hm, gi, Fi, acc, accV, ei, ri, si, li, lei⟩ => ?_⟩
  obtain ⟨hgo, hst⟩ := srv Hi Fi si ri.sub
  by_cases hl : i < ds.length
  · right
    have ed : ds.drop i = ds[i] :: ds.drop (i + 1) := List.drop_eq_getElem_cons hl
    obtain ⟨g1', hy⟩ := hgo i ds[i] (List.getElem?_eq_getElem hl)
    refine ⟨g1', fun Hn => i + 1 ≤ ds.length ∧ ∃ gi Fi acc accV, lcL t c e vs (ds.drop (i + 1)) acc gi = .ok accF g2 ∧ Rel X.kw (Y.gd q' (.lst accV)) (wipe σ vs) Hn (wipeG gi vs) Fi ∧ Same F1 Fi ∧ IsL X.kw Fi accV acc ∧ acc.length ≤ i + 1, fun H'' ⟨h1, h2⟩ => ⟨m - 1, by omega, h1, by omega, h2⟩, fun x H'' hx => ?_⟩
    obtain ⟨F', ex, qx⟩ := hy x H'' hx
    have r3 := ri.ext ex
    rw [ed] at ei
    have ei' : ((noEx (t (.fz ds[i]) (wipeG gi vs))).andThen fun _ g1 => (noEx (c g1)).andThen fun b g2 =>
        if b = true then (noEx (esc e g2)).andThen fun x g3 => match x with
          | .fz y => lcL t c e vs (ds.drop (i + 1)) (acc ++ [y]) g3
          | _ => .bad
        else lcL t c e vs (ds.drop (i + 1)) acc g2) = .ok accF g2 := ei
    obtain ⟨_, ga, e1, ei1⟩ := then_inv ei'
    obtain ⟨b, gb, e2, ei2⟩ := then_inv ei1
    refine ht (Y.gd q' (.lst accV)) rfl _ _ _ _ ⟨_, F', .fz ds[i], r3, qx, ?_⟩
    rw [e1]
    intro σ2 H3 F3 r4 s4 l4 k4
    have hw : wipe σ2 vs = wipe σ vs := by
      have w1 : wipe σ2 vs = wipe (wipe σ vs) vs := wipe_same l4 k4 hts
      have w2 : wipe (wipe σ vs) vs = wipe σ vs := wipe_same (ts := vs) (wipe_length σ vs) (fun j hj => wipe_get hj) (fun j hj => hj)
      rw [w1, w2]
    refine ⟨hw, hc (Y.gd q' (.lst accV)) rfl _ _ _ ⟨ga, F3, r4, blk_step e2 fun H4 F4 r5 s5 => ?_⟩⟩
    have sF : Same F1 F4 := si.trans (ex.ff.trans (s4.trans s5))
    cases b with
    | false =>
      rw [if_neg Bool.false_ne_true] at ei2
      refine (show _ ∧ _ from ⟨hl, gb, F4, acc, accV, ei2, ?_, sF, IsL.mono (ex.ff.trans (s4.trans s5)) _ _ li, by omega⟩)
      have := r5.wipe vs
      rw [hw] at this
      exact this
    | true =>
      rw [if_pos rfl] at ei2
      obtain ⟨x3, gc, e3, ei3⟩ := then_inv ei2
      refine (show te σ2 H4 _ from he (Y.gd q' (.lst accV)) rfl _ _ _ ⟨gb, F4, r5, blk_step e3 fun H5 F5 r6 s6 w hw5 => ?_⟩)
      cases x3 with
      | ow _ => cases ei3
      | sub _ _ => cases ei3
      | «at» _ => cases ei3
      | fz y =>
        have li5 : IsL X.kw F5 accV acc := IsL.mono (ex.ff.trans (s4.trans (s5.trans s6))) _ _ li
        have hlen : accV.length < sizeLine := by rw [li.length]; omega
        refine ⟨accV, r6.gdAt, hlen, hl, gc, F5, acc ++ [y], accV ++ [w], ei3, ?_, sF.trans s6, li5.append (.one hw5), by rw [List.length_append]; simp; omega⟩
        have := r6.wipe vs
        rw [hw] at this
        exact this.bump hF0 hLa
  · have eq : i = ds.length := by omega
    subst eq
    rw [List.drop_length] at ei
    cases ei
    refine .inl ⟨hst, ?_⟩
    have r2 : Rel X.kw (Y.gd q' (.lst accV)) (wipe σ vs) Hi (wipeG g2 vs) Fi := ri
    have r3 := r2.ungd hB hH0 hLa
    have r4 := r1.back r3 si
    refine fin Hi Fi r4 (s11.trans si) (.ref q') ⟨q', rfl, ⟨accV, r2.gdAt, by omega, li⟩, by rw [foot_ls]; simp, fun b hb => ?_⟩
    rw [foot_ls, List.mem_singleton] at hb
    subst hb
    refine ⟨r2.gdF hF0 hLa, hB, hH0, fun j t u ej hj z => ?_⟩
    rcases backG_get ej with ⟨_, d', ed, _⟩ | ⟨nj, ej'⟩
    · subst ed; rw [sf_fz] at z; cases z
    · have e5 : (wipeG g2 vs)[j]? = some (some t) := by
        have key : ∀ vs : List Nat, j ∉ vs → (wipeG g2 vs)[j]? = g2[j]? := by
          intro vs
          induction vs with
          | nil => intro _; rfl
          | cons v vs ih =>
            intro h
            unfold wipeG
            rw [List.getElem?_set_ne (fun z => h (by simp [z])), ih (fun z => h (List.mem_cons_of_mem _ z))]
        rw [key vs nj]; exact ej'
      have k4 : upd Y.B b (.lst accV) b = none := ((r2.at_ e5 (by rw [wipe_get nj]; exact hj)).cells b z).2.1
      rw [upd_same] at k4
      cases k4
end

section
variable {X : Cx} {Y : Ent} {W : WX} {pos : Pos}
def DTs (X : Cx) (Y : Ent) (W : WX) (ifs : List Expr) (c : M Bool) : Prop := PTs X ifs (tT X.kw Y W c)
theorem dts_nil : DTs X Y W [] cYes := ⟨fun pins s σ H Q I ⟨g, F, r, p⟩ => (pts_nil (X := X)).run pins s σ H Q I (p H F r (Same.refl _))⟩
theorem dts_one {c : Expr} {f : M Bool} (h : DT X Y W c f) : DTs X Y W [c] f := ⟨fun pins s σ H Q I q => (pts_one h).run pins s σ H Q I q⟩
theorem td_A {K : KW} {f : M R} {σ : St} {H : Hp} {Q : VK} (h : tD K Y W (eA f) σ H Q) : tD K Y W f σ H Q := by
  obtain ⟨g, F, r, p⟩ := h
  refine ⟨g, F, r, p.bind.imp fun x g' H' F' r' s' q v hv => ?_⟩
  cases x with
  | fz d => exact q H' F' r' (Same.refl _) v hv
  | ow o => exact q H' F' r' (Same.refl _) v hv
  | sub i f => exact q H' F' r' (Same.refl _) v hv
  | «at» i => exact Post.escR (show Post K Y W σ F' (JV K Y σ Q) (escR (.at i) g') from q) r' hv
theorem asg_name {K : KW} {f : M R} {i : Nat} {D : Ends} {σ : St} {H : Hp} (h : tS K Y W (sAsg f (setSl i)) D σ H) : tD K Y W f σ H (fun x H1 => D.nx (σ.set i (some x)) H1) := by
  obtain ⟨g, F, r, p⟩ := h
  refine td_A ⟨g, F, r, (PostS.bind (σ := σ) p).imp fun x g1 H1 F1 r1 s1 q v hv => ?_⟩
  cases e : setSl i x g1 with
  | bad => rw [e] at q; exact q.elim
  | ex _ _ => rw [e] at q; exact q.elim
  | ok u g' =>
    rw [e] at q
    exact q _ H1 F1 (r1.put hv e) (Same.refl _)
def tZG (K : KW) (Y : Ent) (ts : List Nat) (t : R → M Unit) : TG := fun v σ H Q => ∃ Z : Ent, Z.cls = Y.cls ∧ tG K Z ts t v σ H Q
def tZT (K : KW) (Y : Ent) (c : M Bool) : TT := fun σ H Q => ∃ Z : Ent, Z.cls = Y.cls ∧ tT K Z W0 c σ H Q
def tZD (K : KW) (Y : Ent) (e : M R) : TE := fun σ H Q => ∃ Z : Ent, Z.cls = Y.cls ∧ tD K Z W0 e σ H Q
abbrev AllBlk (X : Cx) (Y : Ent) (scope : Scope) (p : Cx → Ent → Prop) : Prop :=
  ∀ (Z : Ent), Z.cls = Y.cls → ∀ (s : Shared) (H : Hp) (C : Addr) (cl : List (Str × Addr)) (fp : List Addr), p (X.blk s H scope (compEnvC scope cl C X.env) fp) Z
theorem de_lc {elt tg iter : Expr} {ifs : List Expr} {scope : Scope} (own : List (Str × Nat)) {f : M (List D)} {ts : List Nat} {t : R → M Unit} {c : M Bool} {e : M R} (hc : X.calm = true) (hN : X.N.Nodup) (ok : BlkOk X.N X.env.scope scope own)
    (hi : DI X Y W tg iter f) (hg : AllBlk X Y scope fun X Z => DG X Z tg ts t) (ht : AllBlk X Y scope fun X Z => DTs X Z W0 ifs c) (he : AllBlk X Y scope fun X Z => DE X Z W0 elt e)
    (hts : ∀ j ∈ ts, j ∈ own.map (·.2) := by decide) (hs : ∀ x, foldedSetIterable iter X.env x = pure x := by intro _; rfl) : DE X Y W (.ListComp elt [⟨tg, iter, ifs, 0⟩] scope pos) (eLc f t c e (own.map (·.2))) :=
  pe_mono (pe_lc (g := tZG X.kw Y ts t) (tt := tZT X.kw Y c) (te := tZD X.kw Y (esc e)) hc hN hi ok
    (fun s H C cl fp => ⟨fun pins s' σ H' v u Q I r ⟨Z, hZ, q⟩ => (hg Z hZ s H C cl fp).run pins s' σ H' v u Q I r q⟩)
    (fun s H C cl fp => ⟨fun pins s' σ H' Q I ⟨Z, hZ, q⟩ => (ht Z hZ s H C cl fp).run pins s' σ H' Q I q⟩)
    (fun s H C cl fp => ⟨fun pins s' σ H' Q I ⟨Z, hZ, q⟩ => (de_esc (he Z hZ s H C cl fp)).run pins s' σ H' Q I q⟩) hs)
    fun σ H Q h => lc_sem hts (fun Z hZ _ _ _ _ q => ⟨Z, hZ, q⟩) (fun Z hZ _ _ _ q => ⟨Z, hZ, q⟩) (fun Z hZ _ _ _ q => ⟨Z, hZ, q⟩) h
theorem ds_setLc {i : Nat} {y : Str} {py : Pos} {elt tg iter : Expr} {ifs : List Expr} {scope : Scope} (own : List (Str × Nat)) {spos : Pos} {f : M (List D)} {ts : List Nat} {t : R → M Unit} {c : M Bool} {e : M R} (hc : X.calm = true) (hN : X.N.Nodup) (ok : BlkOk X.N X.env.scope scope own)
    (hi : DI X Y W tg iter f) (hg : AllBlk X Y scope fun X Z => DG X Z tg ts t) (ht : AllBlk X Y scope fun X Z => DTs X Z W0 ifs c) (he : AllBlk X Y scope fun X Z => DE X Z W0 elt e)
    (hsw : swapsWith (.ListComp elt [⟨tg, iter, ifs, 0⟩] scope pos) (some (.Name y py)) spos.line X.env = pure true)
    (hy : X.N[i]? = some y := by rfl) (hyl : X.env.scope.names.lookup y = some .local := by rfl)
    (hts : ∀ j ∈ ts, j ∈ own.map (·.2) := by decide) (hs : ∀ x, foldedSetIterable iter X.env x = pure x := by intro _; rfl) : DS X Y W (.Assign [.Name y py] (.ListComp elt [⟨tg, iter, ifs, 0⟩] scope pos) spos) (sAsg (eLc f t c e (own.map (·.2))) (setSl i)) :=
  ps_mono (ps_setLc (g := tZG X.kw Y ts t) (tt := tZT X.kw Y c) (te := tZD X.kw Y (esc e)) hc hN hy hyl hsw hi ok
    (fun s H C cl fp => ⟨fun pins s' σ H' v u Q I r ⟨Z, hZ, q⟩ => (hg Z hZ s H C cl fp).run pins s' σ H' v u Q I r q⟩)
    (fun s H C cl fp => ⟨fun pins s' σ H' Q I ⟨Z, hZ, q⟩ => (ht Z hZ s H C cl fp).run pins s' σ H' Q I q⟩)
    (fun s H C cl fp => ⟨fun pins s' σ H' Q I ⟨Z, hZ, q⟩ => (de_esc (he Z hZ s H C cl fp)).run pins s' σ H' Q I q⟩) hs)
    fun D σ H h => lc_sem hts (fun Z hZ _ _ _ _ q => ⟨Z, hZ, q⟩) (fun Z hZ _ _ _ q => ⟨Z, hZ, q⟩) (fun Z hZ _ _ _ q => ⟨Z, hZ, q⟩) (asg_name h)
end
end DL

namespace DL
open PySem PySem.Spec L2
open PyProof.Rows (envOfC)

/-! ### defs: a promise that knows that no repr is under way -/
structure FnG (P : Program) (w : World) (K : PySem.W.Frag) (mg : Str → Option Value) (base : Heap) (k : Nat) (f : Addr) (fd : FuncData) (ps : List Str) (sp : Sp) : Prop where
  len : ∀ vs H Q E, sp vs H Q E → vs.length = ps.length
  run : ∀ (A : Around) (outer : List Env) (s : Shared) (H : Hp) (args : Args) (us : List Value) (vs : List V) (Q : VK) (E : XK),
    Room k A → A.guards = some [] → Env0 P w K mg base A outer s H → BindsTo s fd args (ps.zip us) → Vals vs us → sp vs H Q E →
      codeAny (model P w) A (.call (.ref f) args) (CR (L2.CX P w) outer P w H s Q E) s
section
variable {P : Program} {w : World} {K : PySem.W.Frag} {mg : Str → Option Value} {base : Heap}
theorem FnG.mono {j k : Nat} {f : Addr} {fd : FuncData} {ps : List Str} {sp : Sp} (G : FnG P w K mg base j f fd ps sp) (h : j ≤ k) : FnG P w K mg base k f fd ps sp :=
  ⟨G.len, fun A o s H args us vs Q E r => G.run A o s H args us vs Q E (r.mono h)⟩
/-- a def by its body, walked with the knowledge of the guards -/
theorem fnG_ok {x qual : Str} {st : Stmt} {f : Addr} {fd : FuncData} {N ps : List Str} {k : Nat} {sp : Sp} (F : Fun K x qual st f fd) (S : FnScope N ps (defScope st)) (len : ∀ vs H Q E, sp vs H Q E → vs.length = ps.length)
    (body : ∀ (cdv : Value) (A : Around) (outer : List Env) (s : Shared) (H : Hp) (vs : List V) (Q : VK) (E : XK), Room k (A.deeper (envOfC qual (defScope st) s.heap.objs.size f cdv)) → A.guards = some [] → sp vs H Q E →
      ∃ t, PSs (cxOf (L2.CX P w) P w K mg base N qual (defScope st) f cdv A outer s H E) (defBody st) t ∧ t { nx := fun _ H' => Q .non H', rt := Q } (start N vs) H) : FnG P w K mg base (k + 1) f fd ps sp := by
  obtain ⟨oc, od, kV, doc, pm, an, cdv, ct, osl, rfl, lk, hcd⟩ := F.ex
  constructor
  · exact len
  intro A outer s H args us vs Q E room gd e0 bd rv want
  have inK : K.In s.heap := W.Frag.In.keeps e0.mod.kin fun b o e => (e0.bs b o e).1
  have noLim : s.heap.NoLimit := Heap.NoLimit.keeps e0.mod.nolimit fun b o e => (e0.bs b o e).1
  have kinds : ∀ y ∈ ps.zip us, (defScope st).names.lookup y.1 = some .local ∨
      ((defScope st).names.lookup y.1 = some .cell ∧ ((cellsFrom (s.heap.objs.size + 1) (defScope st).names []).lookup y.1).isSome = true) := by
    intro y hy
    obtain ⟨n, v⟩ := y
    exact (S.par n (List.of_mem_zip hy).1).elim .inl fun q => .inr ⟨q, PySem.W.cellsFrom_some _ _ _ (.inl q)⟩
  apply codeAny_call_function room.depth (inK _ _ lk) rfl S.co S.gen rfl (PySem.W.codeRec_of inK hcd)
  apply bd
  apply wpAny_newFunctionEnv_cells S.kind kinds
  intro env he s1 x1
  subst he
  refine ⟨Heap.NoLimit.keeps noLim x1.toInCall.keep, codeAny_func ?_⟩
  obtain ⟨t, ht, hq⟩ := body cdv A outer s H vs Q E (room.deeper _) gd want
  have I := inv_start (CX := L2.CX P w) (mg := mg) (E := E) S room.hd e0 (len _ _ _ _ want) rv x1
  refine wpAny_mono (ht.run [] s1 (start N vs) H _ I hq) ?_ fun _ _ z => z
  intro fl s' hs
  cases fl with
  | ret u => obtain ⟨v, σ', H', J, r, q⟩ := hs; exact ⟨v, H', J.os, J.bare, J.base, J.hok, r, q⟩
  | next => obtain ⟨σ', H', J, q⟩ := hs; exact ⟨V.non, H', J.os, J.bare, J.base, J.hok, rfl, q⟩
  | brk => exact hs.elim fun _ z => z.elim fun _ z => z.2.elim
  | cont => exact hs.elim fun _ z => z.elim fun _ z => z.2.elim
end
/-- how a call's errors are taken at the caller's slots -/
theorem takes_at {X : Cx} {W : WX} (tk : Takes X W) (pins : List (Addr × Obj)) (σ : St) (H : Hp) (s : Shared) (e : Value) (s' : Shared) (I : Inv X pins σ H s) (c : L2.CX X.prog X.w X.stack H s (fun c d H' => W c d σ H') e s') : X.xe e s' :=
  tk e s' (XE.of_call I (fun _ _ _ z => z) c)
section
variable {X : Cx} {k : Nat} {f : Addr} {fd : FuncData} {ps : List Str} {sp : Sp} {dvs : List V} {ds : List Value} {x : Str} {p pos : Pos} {e : Expr} {es : List Expr} {t : TA} {W : WX}
def tCallG (sp : Sp) (dvs : List V) (W : WX) (t : TA) : TE := fun σ H Q => t σ H fun vs H1 => sp (vs ++ dvs) H1 Q fun c d H' => W c d σ H'
theorem run_fnG {pins : List (Addr × Obj)} {σ : St} {H : Hp} {s : Shared} {Q : VK} {us : List Value} {vs : List V} (G : FnG X.prog X.w X.kw X.mg X.base k f fd ps sp) (hr : Room k X.A) (gd : X.A.guards = some []) (hb : Binds X.kw fd ps ds) (hd : Vals dvs ds) (tk : Takes X W)
    (I : Inv X pins σ H s) (r : Vals vs us) (h : sp (vs ++ dvs) H Q fun c d H' => W c d σ H') : wpAny (model X.prog X.w) X.A (call (.ref f) us) (EP X pins σ Q) X.xe s := by
  have r2 := r.append hd
  have n2 : (us ++ ds).length = ps.length := r2.length.symm.trans (G.len _ _ _ _ h)
  apply wpAny_call
  refine codeAny_mono (G.run X.A X.stack s H ⟨us, []⟩ (us ++ ds) (vs ++ dvs) Q _ hr gd I.env0 (hb s us I.kIn n2) r2 h) ?_
  intro res s' hq
  cases res with
  | error e => exact takes_at tk pins σ H s e s' I hq
  | ok fl =>
    cases fl with
    | ret u => exact I.after hq
    | next => cases hq
    | brk => cases hq
    | cont => cases hq
theorem pe_callG (G : FnG X.prog X.w X.kw X.mg X.base k f fd ps sp) (hr : Room k X.A) (gd : X.A.guards = some []) (hg : Gl X x) (hm : X.mg x = some (.ref f)) (hk : PySem.W.keepIn X.kw (.ref f) = true) (hb : Binds X.kw fd ps ds) (hd : Vals dvs ds) (tk : Takes X W)
    (ha : PA X (e :: es) t) (hdb : (x == ("__debug__" : Str)) = false := by decide) (he : starEach (e :: es) X.env = (false, eval e X.env) :: starEach es X.env := by rfl) (hpl : (backTo pos (starEach es X.env)).any (·.1) = false := by rfl) :
    PE X (.Call (.Name x p) (e :: es) [] pos) (tCallG sp dvs W t) := by
  constructor
  intro pins s σ H Q I h
  apply wpAny_Call_Name_kw
  refine ld_glob I hg hm ?_ hdb
  apply PySem.W.callWith_K (h₀ := X.base) I.ok.mod.kin hk (thn (ha.run pos pins s σ H _ I h) ?_) he hpl
  rintro us s1 ⟨vs, H1, I1, r, q⟩
  exact ⟨I1.kIn, run_fnG G hr gd hb hd tk I1 r q⟩
theorem pe_callG0 (G : FnG X.prog X.w X.kw X.mg X.base k f fd ps sp) (hr : Room k X.A) (gd : X.A.guards = some []) (hg : Gl X x) (hm : X.mg x = some (.ref f)) (hk : PySem.W.keepIn X.kw (.ref f) = true) (hb : Binds X.kw fd ps ds) (hd : Vals dvs ds) (tk : Takes X W)
    (hdb : (x == ("__debug__" : Str)) = false := by decide) : PE X (.Call (.Name x p) [] [] pos) (tCallG sp dvs W tNil) := by
  constructor
  intro pins s σ H Q I h
  apply wpAny_Call_Name_kw
  exact ld_glob I hg hm (PySem.W.callWith_K0 I.kIn hk (run_fnG (us := []) G hr gd hb hd tk I .nil h)) hdb
end

/-! ### a def's meaning: a Lean function of data -/
inductive Res where
  | ok (r : R) (lo : Option O) | ex (e : Ex) (lo : Option O) | bad
/-- from the lent object and the other arguments -/
abbrev FSem := Option O → List D → Res
def ArgOk (K : KW) (F H : Hp) (lp : Option Nat) (lr : Option Addr) (la : List Addr) (vs : List V) (lo : Option O) (ds : List D) : Prop :=
  match lp with
  | none => lr = none ∧ la = [] ∧ lo = none ∧ IsL K F vs ds
  | some j => ∃ a us o, lr = some a ∧ la = foot F a o ∧ lo = some o ∧ vs = us.take j ++ V.ref a :: us.drop j ∧ j ≤ us.length ∧ IsL K F us ds ∧ OwAt K F H a o ∧ (foot F a o).Nodup ∧ ∀ b ∈ foot F a o, F b = none
structure ExtL (K : KW) (lr : Option Addr) (la : List Addr) (lo : Option O) (F H F' H' : Hp) : Prop where
  hh : ∀ b x, b ∉ la → H b = some x → H' b = some x
  ff : Same F F'
  fh : Same F' H'
  nw : ∀ a, F' a ≠ none → F a ≠ none ∨ H a = none ∨ a ∈ la
  dm : ∀ b, H b ≠ none → H' b ≠ none
  lo : match lr, lo with
    | none, none => True
    | some a, some o => OwAt K F' H' a o ∧ (foot F' a o).Nodup ∧ ∀ b ∈ foot F' a o, F' b = none ∧ (b ∈ la ∨ H b = none)
    | _, _ => False
/-- the lent object's cells at the end -/
def lcells (F : Hp) (lr : Option Addr) (lo : Option O) : List Addr := match lr, lo with
  | some a, some o => foot F a o
  | _, _ => []
def RVr (K : KW) (H F' H' : Hp) (L : List Addr) (v : V) : R → Prop
  | .fz d => Is K F' v d
  | .ow o => ∃ a, v = .ref a ∧ OwAt K F' H' a o ∧ (foot F' a o).Nodup ∧ ∀ b ∈ foot F' a o, F' b = none ∧ H b = none ∧ b ∉ L
  | .at _ => False
  | .sub _ _ => False
def PostF (K : KW) (cls : Str → Value) (lr : Option Addr) (la : List Addr) (F H : Hp) (Q : VK) (E : XK) : Res → Prop
  | .bad => False
  | .ok r lo => ∀ v H' F', ExtL K lr la lo F H F' H' → RVr K H F' H' (lcells F' lr lo) v r → Q v H'
  | .ex e _ => ∀ d H' F', ExtL K none la none F H F' H' → XD K F' H' d e.p → E (cls e.c) d H'
def spD (K : KW) (cls : Str → Value) (lp : Option Nat) (n : Nat) (sem : FSem) : Sp := fun vs H Q E =>
  ∃ F lr la lo ds, vs.length = n ∧ Same F H ∧ ArgOk K F H lp lr la vs lo ds ∧ PostF K cls lr la F H Q E (sem lo ds)
def fill (n : Nat) (g : G) : G := g ++ List.replicate (n - g.length) none
def mkG (n : Nat) (lp : Option Nat) (lo : Option O) (ds : List D) : Option G :=
  match lp, lo with
  | none, none => some (fill n (ds.map fun d => some (.fz d)))
  | some j, some o => some (fill n ((ds.take j).map (fun d => some (.fz d)) ++ some (.ow true o) :: (ds.drop j).map fun d => some (.fz d)))
  | _, _ => none
def outG (lp : Option Nat) (g : G) : Option (Option O) :=
  match lp with
  | none => some none
  | some j => match g[j]? with
    | some (some (.ow true o)) => some (some o)
    | _ => none
def bodyF (n : Nat) (lp : Option Nat) (b : M Fl) : FSem := fun lo ds => match mkG n lp lo ds with
  | none => .bad
  | some g0 => match b g0 with
    | .ok (.rt r) g => match r, outG lp g with
      | .fz d, some lo' => .ok (.fz d) lo'
      | .ow o, some lo' => .ok (.ow o) lo'
      | _, _ => .bad
    | .ok .nx g => match outG lp g with
      | some lo' => .ok (.fz .non) lo'
      | none => .bad
    | .ex e _ => .ex e none
    | _ => .bad
section
variable {K : KW} {cls : Str → Value} {H F : Hp}
def entOf (cls : Str → Value) (lr : Option Addr) (la : List Addr) (F H : Hp) : Ent := { B := fun b => if b ∈ la then none else H b, F0 := F, H0 := H, cls := cls, lr := lr, la := la }
theorem start_get {N : List Str} {vs : List V} {i : Nat} (h : i < vs.length) : (start N vs)[i]? = (vs[i]?).map some := by
  unfold L2.start
  rw [List.getElem?_append_left (by rw [List.length_map]; exact h), List.getElem?_map]
theorem fill_get {n i : Nat} {g : G} {s : Sl} (h : (fill n g)[i]? = some (some s)) : g[i]? = some (some s) := by
  unfold fill at h
  by_cases l : i < g.length
  · rw [List.getElem?_append_left l] at h; exact h
  · rw [List.getElem?_append_right (by omega)] at h
    have := List.mem_of_getElem? h
    rw [List.mem_replicate] at this
    exact absurd this.2 (by simp)
/-- a def's slots at its start -/
theorem rel_begin {N : List Str} {lr : Option Addr} {la : List Addr} {vs : List V} {g1 : G} (sm : Same F H) (hn : vs.length ≤ N.length) (l1 : g1.length = vs.length) (hla : ∀ b ∈ la, H b ≠ none)
    (hs : ∀ (i : Nat) (s : Sl), g1[i]? = some (some s) → ∃ v, vs[i]? = some v ∧ SlAt K (entOf cls lr la F H) F H v s)
    (hi : ∀ (i j : Nat) (s s' : Sl) (v v' : V), i ≠ j → g1[i]? = some (some s) → g1[j]? = some (some s') → vs[i]? = some v → vs[j]? = some v' → ∀ b ∈ sf F H v s, b ∉ sf F H v' s') : Rel K (entOf cls lr la F H) (start N vs) H (fill N.length g1) F := by
  have slen : (start N vs).length = N.length := by
    unfold L2.start; rw [List.length_append, List.length_map, List.length_replicate]; omega
  have inr : ∀ {i : Nat} {s : Sl}, g1[i]? = some (some s) → i < vs.length := fun h => by rw [← l1]; exact (List.getElem?_eq_some_iff.mp h).1
  have val : ∀ {i : Nat} {s : Sl} {v : V}, g1[i]? = some (some s) → (start N vs)[i]? = some (some v) → vs[i]? = some v := fun {i s v} h e => by
    rw [start_get (inr h)] at e
    cases ev : vs[i]? with
    | none => rw [ev] at e; cases e
    | some u => rw [ev] at e; cases e; rfl
  refine ⟨sm, Same.refl _, fun b x hb => ?_, fun a h => h, fun a h => .inl h, hla, ?_, fun i s h => ?_, fun i j s s' v v' nij h1 h2 e1 e2 => ?_⟩
  · have hb' : (if b ∈ la then none else H b) = some x := hb
    split at hb'
    · cases hb'
    · exact hb'
  · rw [slen]; unfold fill; rw [List.length_append, List.length_replicate]; omega
  · have h' := fill_get h
    obtain ⟨v, h1, h2⟩ := hs i s h'
    exact ⟨v, by rw [start_get (inr h'), h1]; rfl, h2⟩
  · exact hi i j s s' v v' nij (fill_get h1) (fill_get h2) (val (fill_get h1) e1) (val (fill_get h2) e2)
theorem rel_start {N : List Str} {lp : Option Nat} {lr : Option Addr} {la : List Addr} {vs : List V} {lo : Option O} {ds : List D} {g0 : G} (sm : Same F H) (ha : ArgOk K F H lp lr la vs lo ds) (hn : vs.length ≤ N.length) (eg : mkG N.length lp lo ds = some g0) :
    Rel K (entOf cls lr la F H) (start N vs) H g0 F := by
  have fzs : ∀ {ds : List D} {us : List V} {i : Nat} {s : Sl}, IsL K F us ds → (ds.map fun d => some (Sl.fz d))[i]? = some (some s) → ∃ v, us[i]? = some v ∧ SlAt K (entOf cls lr la F H) F H v s ∧ ∃ d, s = .fz d := fun {ds us i s} hl h => by
    rw [List.getElem?_map] at h
    cases e : ds[i]? with
    | none => rw [e] at h; cases h
    | some d' =>
      rw [e] at h; cases h
      obtain ⟨v, h1, h2⟩ := hl.get e
      exact ⟨v, h1, h2, _, rfl⟩
  unfold mkG at eg
  cases lp with
  | none =>
    obtain ⟨rfl, rfl, rfl, hl⟩ := ha
    cases eg
    refine rel_begin sm hn (by rw [List.length_map, hl.length]) (fun b hb => by cases hb) (fun i s h => ?_) (fun i j s s' v v' n h1 h2 e1 e2 b hb => ?_)
    · obtain ⟨v, k1, k2, _⟩ := fzs hl h; exact ⟨v, k1, k2⟩
    · obtain ⟨_, _, _, d, rfl⟩ := fzs hl h1
      rw [sf_fz] at hb; cases hb
  | some j =>
    obtain ⟨a, us, o, rfl, rfl, rfl, rfl, hj, hl, ho, nd, hf⟩ := ha
    cases eg
    have ll := hl.length
    have hjd : j ≤ ds.length := by omega
    have cls' : ∀ (i : Nat) (s : Sl), (((ds.take j).map (fun d => some (Sl.fz d)) ++ some (.ow true o) :: (ds.drop j).map fun d => some (.fz d)) : G)[i]? = some (some s) →
        ∃ v, (us.take j ++ V.ref a :: us.drop j)[i]? = some v ∧ SlAt K (entOf cls (some a) (foot F a o) F H) F H v s ∧ ((∃ d, s = .fz d) ∨ i = j) := fun i s h => by
      by_cases c1 : i < j
      · rw [List.getElem?_append_left (by rw [List.length_map, List.length_take]; omega)] at h
        obtain ⟨v, h1, h2, h3⟩ := fzs (hl.take j) h
        exact ⟨v, by rw [List.getElem?_append_left (by rw [List.length_take]; omega)]; exact h1, h2, .inl h3⟩
      · rw [List.getElem?_append_right (by rw [List.length_map, List.length_take]; omega)] at h
        rw [List.length_map, List.length_take, Nat.min_eq_left hjd] at h
        cases c2 : i - j with
        | zero =>
          rw [c2, List.getElem?_cons_zero] at h
          cases h
          have : i = j := by omega
          subst this
          refine ⟨.ref a, ?_, ⟨a, rfl, ho, nd, fun b hb => ⟨hf b hb, ?_, (fun z => nomatch z), .inr hb⟩, fun _ => rfl⟩, .inr rfl⟩
          · rw [List.getElem?_append_right (by rw [List.length_take]; omega), List.length_take, Nat.min_eq_left hj, Nat.sub_self]; rfl
          · show (if b ∈ foot F a o then none else H b) = none
            rw [if_pos hb]
        | succ m =>
          rw [c2, List.getElem?_cons_succ] at h
          obtain ⟨v, h1, h2, h3⟩ := fzs (hl.drop j) h
          refine ⟨v, ?_, h2, .inl h3⟩
          rw [List.getElem?_append_right (by rw [List.length_take]; omega), List.length_take, Nat.min_eq_left hj, c2, List.getElem?_cons_succ]
          exact h1
    refine rel_begin sm hn ?_ (fun b hb => ?_) (fun i s h => ?_) (fun i k s s' v v' n h1 h2 e1 e2 b hb => ?_)
    · simp only [List.length_append, List.length_map, List.length_cons, List.length_take, List.length_drop]; omega
    · obtain ⟨u, hu, _⟩ := foot_mut o a ho b hb; rw [hu]; simp
    · obtain ⟨v, k1, k2, _⟩ := cls' i s h; exact ⟨v, k1, k2⟩
    · obtain ⟨_, _, _, z1⟩ := cls' i s h1
      obtain ⟨_, _, _, z2⟩ := cls' k s' h2
      rcases z1 with ⟨d, rfl⟩ | rfl
      · rw [sf_fz] at hb; cases hb
      · rcases z2 with ⟨d, rfl⟩ | rfl
        · rw [sf_fz]; simp
        · exact absurd rfl n
theorem rel_end {lp : Option Nat} {lr : Option Addr} {la : List Addr} {lo : Option O} {ds : List D} {vs : List V} {σ : St} {H' F' : Hp} {g : G} {lo' : Option O} (ha : ArgOk K F H lp lr la vs lo ds) (r : Rel K (entOf cls lr la F H) σ H' g F') (eo : outG lp g = some lo') :
    ExtL K lr la lo' F H F' H' ∧ ∀ b ∈ lcells F' lr lo', ∃ (i : Nat) (s : Sl) (u : V), g[i]? = some (some s) ∧ σ[i]? = some (some u) ∧ b ∈ sf F' H' u s := by
  have hh : ∀ b x, b ∉ la → H b = some x → H' b = some x := fun b x hb hx => r.keep b x (show (if b ∈ la then none else H b) = some x by rw [if_neg hb]; exact hx)
  unfold outG at eo
  cases lp with
  | none =>
    obtain ⟨rfl, _⟩ := ha
    cases eo
    exact ⟨⟨hh, r.base, r.sub, fun a h => r.fr a h, fun b h => r.dom b h, trivial⟩, fun b hb => by cases hb⟩
  | some j =>
    obtain ⟨a, us, o, rfl, _⟩ := ha
    simp only at eo
    split at eo
    · rename_i o' e
      cases eo
      obtain ⟨v, hv, b, rfl, h2, nd, n, h6⟩ := r.sl j _ e
      have : b = a := (Option.some.inj (h6 rfl)).symm
      subst this
      exact ⟨⟨hh, r.base, r.sub, fun a h => r.fr a h, fun b h => r.dom b h, h2, nd, fun x hx => ⟨(n x hx).1, (n x hx).2.2.2.symm⟩⟩, fun x hx => ⟨j, _, _, e, hv, hx⟩⟩
    · cases eo
theorem rel_endX {lr : Option Addr} {la : List Addr} {σ : St} {H' F' : Hp} {g : G} (r : Rel K (entOf cls lr la F H) σ H' g F') : ExtL K none la none F H F' H' :=
  ⟨fun b x hb hx => r.keep b x (show (if b ∈ la then none else H b) = some x by rw [if_neg hb]; exact hx), r.base, r.sub, fun a h => r.fr a h, fun b h => r.dom b h, trivial⟩
theorem RVr.of {σ : St} {H' F' : Hp} {g : G} {v : V} {rr : R} {lr : Option Addr} {la L : List Addr} (h : RV K (entOf cls lr la F H) σ F' H' g v rr) (hL : ∀ b ∈ L, ∃ (i : Nat) (s : Sl) (u : V), g[i]? = some (some s) ∧ σ[i]? = some (some u) ∧ b ∈ sf F' H' u s)
    (ne : (match rr with | .at _ => False | .sub _ _ => False | _ => True)) : RVr K H F' H' L v rr := by
  cases rr with
  | fz d => exact h
  | «at» i => exact ne.elim
  | sub i f => exact ne.elim
  | ow o =>
    obtain ⟨a, h1, h2, nd, n⟩ := h
    refine ⟨a, h1, h2, nd, fun b hb => ⟨(n b hb).1, (n b hb).2.2.1, fun z => ?_⟩⟩
    obtain ⟨i, s, u, e1, e2, e3⟩ := hL b z
    exact (n b hb).2.2.2 i s u e1 e2 e3
end
section
variable {P : Program} {w : World} {K : PySem.W.Frag} {mg : Str → Option Value} {base : Heap} {cls : Str → Value}
/-- a def's promise, by what its body computes -/
theorem fn_D {x qual : Str} {st : Stmt} {f : Addr} {fd : FuncData} {N ps : List Str} {k : Nat} (lp : Option Nat) {b : M Fl} (F : Fun K x qual st f fd) (S : FnScope N ps (defScope st)) (hps : ps.length ≤ N.length)
    (body : ∀ (cdv : Value) (A : Around) (outer : List Env) (s : Shared) (H : Hp) (E : XK), Room k (A.deeper (envOfC qual (defScope st) s.heap.objs.size f cdv)) → (A.deeper (envOfC qual (defScope st) s.heap.objs.size f cdv)).guards = some [] → ∀ Y : Ent, Y.cls = cls →
      DSs (cxOf (L2.CX P w) P w K mg base N qual (defScope st) f cdv A outer s H E) Y (fun c d _ H => E c d H) (defBody st) b) : FnG P w K mg base (k + 1) f fd ps (spD ⟨K, w⟩ cls lp ps.length (bodyF N.length lp b)) := by
  refine fnG_ok F S (fun vs H Q E h => ?_) fun cdv A outer s H vs Q E hr gd h => ?_
  · obtain ⟨_, _, _, _, _, e, _⟩ := h; exact e
  · obtain ⟨F0, lr, la, lo, ds, hl, sm, ha, hp⟩ := h
    refine ⟨_, body cdv A outer s H E hr gd (entOf cls lr la F0 H) rfl, ?_⟩
    unfold bodyF at hp
    cases eg : mkG N.length lp lo ds with
    | none => rw [eg] at hp; exact hp.elim
    | some g0 =>
      rw [eg] at hp
      have rl : Rel ⟨K, w⟩ (entOf cls lr la F0 H) (start N vs) H g0 F0 := rel_start sm ha (by rw [hl]; exact hps) eg
      refine ⟨g0, F0, rl, ?_⟩
      simp only at hp
      cases eb : b g0 with
      | bad => rw [eb] at hp; exact hp.elim
      | ex e g =>
        rw [eb] at hp
        exact fun d σ' H' F' r s xd => hp d H' F' (rel_endX r) xd
      | ok fl g =>
        rw [eb] at hp
        cases fl with
        | bk => exact hp.elim
        | ct => exact hp.elim
        | nx =>
          simp only at hp
          cases eo : outG lp g with
          | none => rw [eo] at hp; exact hp.elim
          | some lo' =>
            rw [eo] at hp
            exact fun σ' H' F' r s => hp .non H' F' (rel_end ha r eo).1 rfl
        | rt rr =>
          simp only at hp
          cases eo : outG lp g with
          | none => rw [eo] at hp; cases rr <;> exact hp.elim
          | some lo' =>
            rw [eo] at hp
            cases rr with
            | fz d => exact fun σ' H' F' r s v hv => hp v H' F' (rel_end ha r eo).1 (RVr.of hv (rel_end ha r eo).2 trivial)
            | ow o => exact fun σ' H' F' r s v hv => hp v H' F' (rel_end ha r eo).1 (RVr.of hv (rel_end ha r eo).2 trivial)
            | «at» i => exact hp.elim
            | sub i f => exact hp.elim
end
/-- a call's meaning at the caller -/
def opCall (lp : Option Nat) (sem : FSem) (rs : List R) : M R := fun g => match lp with
  | none => match allFz rs with
    | some ds => match sem none ds with
      | .ok (.fz d) none => .ok (.fz d) g
      | .ok (.ow o) none => .ok (.ow o) g
      | .ex e none => .ex e g
      | _ => .bad
    | none => .bad
  | some j => match rs[j]?, allFz (rs.eraseIdx j) with
    | some (.at i), some ds => match g[i]? with
      | some (some (.ow l o)) => match sem (some o) ds with
        | .ok (.fz d) (some o') => .ok (.fz d) (g.set i (some (.ow l o')))
        | .ok (.ow o2) (some o') => .ok (.ow o2) (g.set i (some (.ow l o')))
        | .ex e none => .ex e (g.set i none)
        | _ => .bad
      | _ => .bad
    | some (.sub i f), some ds => match g[i]? with
      | some (some (.ow l (.ob c fs))) => match fs.get f with
        | some (.inr o) => match sem (some o) ds with
          | .ok (.fz d) (some o') => .ok (.fz d) (g.set i (some (.ow l (.ob c (fs.put f o')))))
          | .ok (.ow o2) (some o') => .ok (.ow o2) (g.set i (some (.ow l (.ob c (fs.put f o')))))
          | .ex e none => .ex e (g.set i none)
          | _ => .bad
        | _ => .bad
      | _ => .bad
    | _, _ => .bad
def eCall (lp : Option Nat) (sem : FSem) (k : M (List R)) : M R := mb k (opCall lp sem)
section
variable {K : KW} {Y : Ent} {W : WX} {σ : St} {H F H' F' : Hp} {g : G}
theorem ExtL.ext (x : ExtL K none [] none F H F' H') : Ext F H F' H' := ⟨fun b y h => x.hh b y (fun z => by cases z) h, x.ff, x.fh, fun a h => (x.nw a h).imp id fun z => z.elim id (fun z => by cases z)⟩
theorem Rel.extN (r : Rel K Y σ H g F) (x : ExtL K none [] none F H F' H') : Rel K Y σ H' g F' := r.ext x.ext
/-- new or lent cells at the caller -/
theorem Rel.newB (r : Rel K Y σ H g F) {b : Addr} (h : H b = none) : Y.B b = none ∧ Y.H0 b = none := by
  refine ⟨?_, none_of_dom r.dom h⟩
  cases e : Y.B b with
  | none => rfl
  | some y => rw [r.keep _ _ e] at h; cases h
theorem Rel.extL {i : Nat} {l : Bool} {o o' : O} {a : Addr} (r : Rel K Y σ H g F) (x : ExtL K (some a) (foot F a o) (some o') F H F' H') (e : g[i]? = some (some (.ow l o))) (hv : σ[i]? = some (some (.ref a))) : Rel K Y σ H' (g.set i (some (.ow l o'))) F' := by
  obtain ⟨a', ea, q0, nd0, n, lr⟩ := r.at_ e hv
  cases ea
  obtain ⟨q, nd, nf⟩ := x.lo
  refine r.chg e hv x.hh x.ff x.fh x.nw x.dm ⟨a, rfl, q, nd, fun b hb => ?_, lr⟩ fun b hb => (nf b hb).2
  obtain ⟨m1, m2⟩ := nf b hb
  rcases m2 with z | z
  · exact ⟨m1, (n b z).2⟩
  · exact ⟨m1, (r.newB z).1, fun _ => (r.newB z).2, .inl (r.newB z).2⟩
theorem Rel.extS {i : Nat} {l : Bool} {c f : Str} {fs : Fs} {o o' : O} {b : Addr} (r : Rel K Y σ H g F) (x : ExtL K (some b) (foot F b o) (some o') F H F' H') (e : g[i]? = some (some (.ow l (.ob c fs)))) (hv : RV K Y σ F H g (.ref b) (.sub i f)) (eo : fs.get f = some (.inr o)) :
    Rel K Y σ H' (g.set i (some (.ow l (.ob c (fs.put f o'))))) F' := by
  obtain ⟨q, nd, nf⟩ := x.lo
  exact r.putSub e hv eo x.ff x.fh x.hh x.nw x.dm q nd nf
/-- an error leaves a def to which a slot's object was lent: the slot is given up -/
theorem Rel.dropL {i : Nat} {s : Sl} {v : V} {la : List Addr} (r : Rel K Y σ H g F) (x : ExtL K none la none F H F' H') (e : g[i]? = some (some s)) (hv : σ[i]? = some (some v)) (sub : ∀ b ∈ la, b ∈ sf F H v s) : Rel K Y σ H' (g.set i none) F' := by
  have st := r.other e hv (F' := F') (H' := H') (fun b y hb hy => x.hh b y (fun z => hb (sub b z)) hy) x.ff fun b hb => (x.nw b hb).imp id fun z => z.imp id (sub b)
  have un : ∀ {j : Nat} {t : Sl}, (g.set i none)[j]? = some (some t) → j ≠ i ∧ g[j]? = some (some t) := fun {j t} h => by
    rcases get_set h with ⟨_, e'⟩ | z
    · cases e'
    · exact z
  have own := r.at_ e hv
  refine ⟨x.fh, r.base.trans x.ff, fun b y hb => x.hh b y (fun z => ?_) (r.keep _ _ hb), fun a h => x.dm a (r.dom a h), fun a h => ?_, r.lad, r.len.trans (List.length_set ..).symm, fun j t ej => ?_, fun j k t t' u u' n e1 e2 h1 h2 b hb => ?_⟩
  · rw [(own.cells b (sub b z)).2.1] at hb; cases hb
  · rcases x.nw a h with z | z | z
    · exact r.fr a z
    · exact .inr (.inl (none_of_dom r.dom z))
    · exact .inr (own.cells a (sub a z)).2.2.1
  · obtain ⟨n, e'⟩ := un ej
    obtain ⟨u, h1, _⟩ := r.sl j t e'
    exact ⟨u, h1, (st j t u n e' h1).1⟩
  · obtain ⟨n1, y1⟩ := un e1
    obtain ⟨n2, y2⟩ := un e2
    rw [(st j t u n1 y1 h1).2] at hb
    rw [(st k t' u' n2 y2 h2).2]
    exact r.inj j k t t' u u' n y1 y2 h1 h2 b hb
/-- what a def hands back, at its caller -/
theorem RVr.rv {v : V} {rr : R} {g' : G} {L : List Addr} (rl : Rel K Y σ H g F) (hc : ∀ (i : Nat) (s : Sl) (u : V), g'[i]? = some (some s) → σ[i]? = some (some u) → ∀ b ∈ sf F' H' u s, H b ≠ none ∨ b ∈ L) (h : RVr K H F' H' L v rr) : RV K Y σ F' H' g' v rr := by
  cases rr with
  | fz d => exact h
  | «at» i => exact h.elim
  | sub i f => exact h.elim
  | ow o =>
    obtain ⟨a, h1, h2, nd, n⟩ := h
    refine ⟨a, h1, h2, nd, fun b hb => ?_⟩
    obtain ⟨n1, n2, n3⟩ := n b hb
    exact ⟨n1, (rl.newB n2).1, (rl.newB n2).2, fun i s u e hu z => (hc i s u e hu b z).elim (fun k => k n2) n3⟩
theorem Rel.cells_ext (r : Rel K Y σ H g F) (x : Ext F H F' H') (i : Nat) (s : Sl) (u : V) (e : g[i]? = some (some s)) (hu : σ[i]? = some (some u)) (b : Addr) (hb : b ∈ sf F' H' u s) : H b ≠ none := by
  have q := r.at_ e hu
  rw [(q.mono x.ff fun b hb => ⟨Same.eq x.hh (q.cl hb), x.none (q.cl hb) (q.cells b hb).1⟩).2] at hb
  exact q.cl hb
theorem Rel.cells_L {i : Nat} {l : Bool} {o o' : O} {a : Addr} (r : Rel K Y σ H g F) (x : ExtL K (some a) (foot F a o) (some o') F H F' H') (e : g[i]? = some (some (.ow l o))) (hv : σ[i]? = some (some (.ref a))) (j : Nat) (s : Sl) (u : V)
    (ej : (g.set i (some (.ow l o')))[j]? = some (some s)) (hu : σ[j]? = some (some u)) (b : Addr) (hb : b ∈ sf F' H' u s) : H b ≠ none ∨ b ∈ lcells F' (some a) (some o') := by
  rcases get_set ej with ⟨rfl, e'⟩ | ⟨n, e'⟩
  · have := Option.some.inj e'; subst this
    rw [hv] at hu; cases hu
    exact .inr hb
  · have q := r.at_ e' hu
    rw [(r.other e hv x.hh x.ff x.nw j s u n e' hu).2] at hb
    exact .inl (q.cl hb)
theorem Rel.cells_S {i : Nat} {l : Bool} {c f : Str} {fs : Fs} {o o' : O} {a : Addr} (r : Rel K Y σ H g F) (x : ExtL K (some a) (foot F a o) (some o') F H F' H') (e : g[i]? = some (some (.ow l (.ob c fs)))) (hv : RV K Y σ F H g (.ref a) (.sub i f)) (eo : fs.get f = some (.inr o)) (j : Nat) (s : Sl) (u : V)
    (ej : (g.set i (some (.ow l (.ob c (fs.put f o')))))[j]? = some (some s)) (hu : σ[j]? = some (some u)) (b : Addr) (hb : b ∈ sf F' H' u s) : H b ≠ none ∨ b ∈ lcells F' (some a) (some o') := by
  obtain ⟨a1, C, dx, vs, b', k1, eb, k2, k3, k4, k5, t, ef⟩ := r.subAt e hv eo
  cases eb
  have own := r.at_ e k1
  rcases get_set ej with ⟨rfl, e'⟩ | ⟨n, e'⟩
  · have := Option.some.inj e'; subst this
    rw [k1] at hu; cases hu
    have ef' : foot F' a1 (.ob c (fs.put f o')) = footF F' vs (fs.put f o') := by unfold foot; rw [x.ff _ _ k2]
    have hb : b ∈ foot F' a1 (.ob c (fs.put f o')) := hb
    rw [ef'] at hb
    obtain ⟨q, nd, nf⟩ := x.lo
    obtain ⟨a', ea, _, nd0, _⟩ := own
    cases ea
    rw [ef] at nd0
    obtain ⟨_, _, p3⟩ := t.put (H' := H') x.ff q nd (fun x hx => (nf x hx).2) nd0 eo k3 (fun y hy hn => by
      obtain ⟨u, hu, _⟩ := footF_mut fs vs t y hy
      rw [hu]; exact x.hh y u hn hu)
    rcases p3 b hb with ⟨w, _⟩ | w
    · obtain ⟨u, hu, _⟩ := footF_mut fs vs t b w
      rw [hu]; exact .inl (by simp)
    · exact .inr w
  · have q := r.at_ e' hu
    have es : sf F H (.ref a1) (.ow l (.ob c fs)) = footF F vs fs := ef
    rw [(r.other e k1 (fun y z hy hz => x.hh y z (fun h => hy (by rw [es]; exact k5 y h)) hz) x.ff (fun y hy => (x.nw y hy).imp id fun h => h.imp id fun h => by rw [es]; exact k5 y h) j s u n e' hu).2] at hb
    exact .inl (q.cl hb)
theorem RVs.erase : ∀ {rs : List R} {vs : List V} (j : Nat) {r : R}, RVs K Y σ F H g vs rs → rs[j]? = some r → ∃ v us, vs = us.take j ++ v :: us.drop j ∧ j ≤ us.length ∧ RV K Y σ F H g v r ∧ RVs K Y σ F H g us (rs.eraseIdx j)
  | [], _, _, _, _, h => by simp at h
  | r :: rs, _, 0, r', ⟨v, us, rfl, h, t⟩, e => by
    have : r = r' := by simpa using e
    subst this
    exact ⟨v, us, rfl, Nat.zero_le _, h, t⟩
  | r :: rs, _, j + 1, r', ⟨v, us, rfl, h, t⟩, e => by
    obtain ⟨v', us', e1, hj, h1, h2⟩ := RVs.erase j t (by simpa using e)
    subst e1
    exact ⟨v', v :: us', by simp, by simp; exact hj, h1, v, us', rfl, h, h2⟩
theorem RVs.len : ∀ {rs : List R} {vs : List V}, RVs K Y σ F H g vs rs → vs.length = rs.length
  | [], _, e => by rw [show _ = [] from e]; rfl
  | r :: rs, _, ⟨v, us, e, _, t⟩ => by rw [e, List.length_cons, List.length_cons, RVs.len t]
theorem opCall_of {n : Nat} {lp : Option Nat} {sem : FSem} {rs : List R} {vs : List V} {Q : VK} (h : Post K Y W σ F (JV K Y σ Q) (opCall lp sem rs g)) (r : Rel K Y σ H g F) (hv : RVs K Y σ F H g vs rs) (hn : rs.length = n) :
    spD K Y.cls lp n sem vs H Q (fun c d H' => W c d σ H') := by
  unfold opCall at h
  cases lp with
  | none =>
    simp only at h
    split at h
    · rename_i ds e
      refine ⟨F, none, [], none, ds, hv.len.trans hn, r.sub, ⟨rfl, rfl, rfl, hv.fz e⟩, ?_⟩
      split at h
      · rename_i d es
        rw [es]
        exact fun v H' F' x q => h H' F' (r.extN x) x.ff v q
      · rename_i o es
        rw [es]
        exact fun v H' F' x q => h H' F' (r.extN x) x.ff v (RVr.rv r (fun i s u e hu b hb => .inl (r.cells_ext x.ext i s u e hu b hb)) q)
      · rename_i e es
        rw [es]
        exact fun d H' F' x xd => h d H' F' (r.extN x) x.ff xd
      · exact h.elim
    · exact h.elim
  | some j =>
    simp only at h
    split at h
    · rename_i i ds e1 e2
      split at h
      · rename_i l o e3
        obtain ⟨v, us, rfl, hj, k1, k2⟩ := hv.erase j e1
        obtain ⟨a, rfl, k3, nd, k4, k5⟩ := r.at_ e3 k1
        refine ⟨F, some a, foot F a o, some o, ds, hv.len.trans hn, r.sub, ⟨a, us, o, rfl, rfl, rfl, rfl, hj, k2.fz e2, k3, nd, fun b hb => (k4 b hb).1⟩, ?_⟩
        split at h
        · rename_i d o' es
          rw [es]
          exact fun v H' F' x q => h H' F' (r.extL x e3 k1) x.ff v q
        · rename_i o2 o' es
          rw [es]
          exact fun v H' F' x q => h H' F' (r.extL x e3 k1) x.ff v (RVr.rv r (r.cells_L x e3 k1) q)
        · rename_i e es
          rw [es]
          exact fun d H' F' x xd => h d H' F' (r.dropL x (s := .ow l o) e3 k1 fun b hb => hb) x.ff xd
        · exact h.elim
      · exact h.elim
    · rename_i i f ds e1 e2
      split at h
      · rename_i l c fs e3
        split at h
        · rename_i o eo
          obtain ⟨v, us, rfl, hj, k1, k2⟩ := hv.erase j e1
          obtain ⟨a1, C, dx, ws, a, m1, rfl, m2, m3, k3, m5, t, ef⟩ := r.subAt e3 k1 eo
          obtain ⟨a', ea, _, nd0, n0, _⟩ := r.at_ e3 m1
          cases ea
          have nd : (foot F a o).Nodup := FsAt.nodup t (by rw [← ef]; exact nd0) eo m3
          refine ⟨F, some a, foot F a o, some o, ds, hv.len.trans hn, r.sub, ⟨a, us, o, rfl, rfl, rfl, rfl, hj, k2.fz e2, k3, nd, fun b hb => (n0 b (by rw [ef]; exact m5 b hb)).1⟩, ?_⟩
          split at h
          · rename_i d o' es
            rw [es]
            exact fun v H' F' x q => h H' F' (r.extS x e3 k1 eo) x.ff v q
          · rename_i o2 o' es
            rw [es]
            exact fun v H' F' x q => h H' F' (r.extS x e3 k1 eo) x.ff v (RVr.rv r (r.cells_S x e3 k1 eo) q)
          · rename_i e es
            rw [es]
            exact fun d H' F' x xd => h d H' F' (r.dropL x e3 m1 fun b hb => (show b ∈ foot F a1 (.ob c fs) by rw [ef]; exact m5 b hb)) x.ff xd
          · exact h.elim
        · exact h.elim
      · exact h.elim
    · exact h.elim
end
section
variable {X : Cx} {Y : Ent} {W : WX} {k : Nat} {f : Addr} {fd : FuncData} {ps : List Str} {cls : Str → Value} {lp : Option Nat} {sem : FSem} {x : Str} {p pos : Pos} {e : Expr} {es : List Expr} {a : M (List R)}
theorem da_len {es : List Expr} {a : M (List R)} : True := trivial
def chkN (n : Nat) (a : M (List R)) : M (List R) := mb a fun rs g => if rs.length = n then .ok rs g else .bad
theorem de_call {n : Nat} (G : FnG X.prog X.w X.kw X.mg X.base k f fd ps (spD X.kw cls lp n sem)) (hr : Room k X.A) (gd : X.A.guards = some []) (hg : Gl X x) (hm : X.mg x = some (.ref f)) (hk : PySem.W.keepIn X.kw (.ref f) = true) (hb : Binds X.kw fd ps []) (tk : Takes X W) (hc : Y.cls = cls)
    (ha : DA X Y W (e :: es) a) (hdb : (x == ("__debug__" : Str)) = false := by decide) (he : starEach (e :: es) X.env = (false, eval e X.env) :: starEach es X.env := by rfl) (hpl : (backTo pos (starEach es X.env)).any (·.1) = false := by rfl) :
    DE X Y W (.Call (.Name x p) (e :: es) [] pos) (eCall lp sem (chkN n a)) :=
  pe_mono (pe_callG (W := W) (dvs := []) G hr gd hg hm hk hb .nil tk ha hdb he hpl) fun σ H Q ⟨g, F, r, q⟩ => by
    have q' : Post X.kw Y W σ F (JV X.kw Y σ Q) ((a g).andThen fun rs g => (if rs.length = n then Rs.ok rs g else .bad : Rs (List R)).andThen (opCall lp sem)) := by
      have : (eCall lp sem (chkN n a)) g = (a g).andThen fun rs g => (if rs.length = n then Rs.ok rs g else .bad : Rs (List R)).andThen (opCall lp sem) := by
        unfold eCall chkN mb
        cases a g <;> rfl
      rw [← this]; exact q
    refine ⟨g, F, r, (Post.bind q').imp fun rs g1 H1 F1 r1 s1 q1 vs hv => ?_⟩
    split at q1
    · rename_i hn
      rw [List.append_nil, ← hc]
      exact opCall_of q1 r1 hv hn
    · exact q1.elim
theorem de_call0 (G : FnG X.prog X.w X.kw X.mg X.base k f fd [] (spD X.kw cls none 0 sem)) (hr : Room k X.A) (gd : X.A.guards = some []) (hg : Gl X x) (hm : X.mg x = some (.ref f)) (hk : PySem.W.keepIn X.kw (.ref f) = true) (hb : Binds X.kw fd [] []) (tk : Takes X W) (hc : Y.cls = cls)
    (hdb : (x == ("__debug__" : Str)) = false := by decide) : DE X Y W (.Call (.Name x p) [] [] pos) (eCall none sem aNil) :=
  pe_mono (pe_callG0 (W := W) (dvs := []) G hr gd hg hm hk hb .nil tk hdb) fun σ H Q ⟨g, F, r, q⟩ => by
    rw [← hc]
    exact opCall_of (rs := []) q r rfl rfl

/-! ### errors -/
def sRaise (c : Str) : M Fl := fun g => .ex ⟨c, []⟩ g
theorem ds_raise {C : Addr} {bmB : List Value} {B newId initId : String} {m : Str} {j : Nat} {p2 p3 : Pos} (hc : X.calm = true) (tk : Takes X W) (F : ExcBaseFacts B newId initId bmB) (q : PySem.W.excIn X.kw C bmB newId = true) (gC : X.mg x = some (.ref C)) (kC : PySem.W.keepIn X.kw (.ref C) = true)
    (h1 : PySem.W.subIn X.kw (.ref C) (.type "BaseException") = some true) (h2 : PySem.W.typeIn X.kw (.ref C) = some (.type "type")) (hcl : Y.cls x = .ref C) (hg : Gl X x := by rfl) (hdb : (x == ("__debug__" : Str)) = false := by decide) :
    DS X Y W (.Raise (some (.Call (.Name x p) [.Constant (.str m) j p2] [] p3)) none pos) (sRaise x) :=
  ps_mono (ps_raise hc tk (pmk_own F q gC kC (raises_own h1 h2) hg hdb)) fun D σ H ⟨g, F, r, pp⟩ => by
    have := pp none σ H F r (Same.refl _) rfl
    rw [← hcl]; exact this
/-- the classes of errors that a clause takes -/
def subE (c h : Str) : Bool := c == h || h == ("LeafError" : Str)
def handle : List (Str × M Fl) → Ex → M Fl
  | [], e => fun g => .ex e g
  | (h, f) :: r, e => fun g => if subE e.c h = true then noEx (f g) else handle r e g
def sTry (ns : List Str) (b : M Fl) (hs : List (Str × M Fl)) : M Fl := fun g => match b g with
  | .ex e g' => if e.c ∈ ns then handle hs e g' else .bad
  | r => r
/-- the clauses -/
inductive Hds (X : Cx) (Y : Ent) : List ExceptHandler → List (Str × M Fl) → Prop
  | nil : Hds X Y [] []
  | cons {x : Str} {b₀ : Stmt} {suite : List Stmt} {np pos' : Pos} {hds : List ExceptHandler} {l : List (Str × M Fl)} {f : M Fl} (hc : Names X x (Y.cls x))
      (hsu : ∀ (a : Addr) (oe : Obj) (pn : List (Addr × Obj)), DSs (X.suite a ((a, oe) :: pn)) Y W0 (b₀ :: suite) f) (r : Hds X Y hds l) : Hds X Y (.ExceptHandler (some (.Name x np)) none (b₀ :: suite) pos' :: hds) ((x, f) :: l)
theorem Hds.ok : ∀ {hds : List ExceptHandler} {l : List (Str × M Fl)}, Hds X Y hds l → HdsOk X hds (l.map fun hf => (Y.cls hf.1, fun _ _ _ => tS X.kw Y W0 hf.2))
  | _, _, .nil => .nil
  | _, _, .cons hc hsu r => .cons hc (fun a oe cls d pn _ _ => hsu a oe pn) (Hds.ok r)
theorem ds_try {body : List Stmt} {h₀ : ExceptHandler} {hds : List ExceptHandler} {b : M Fl} {l : List (Str × M Fl)} (ns : List Str) (hs : X.stack = X.env :: X.outer) (hf : X.env.frame = some X.env.locals) (tk : Takes X W)
    (hx : ∀ c ∈ ns, ∀ h ∈ l.map (·.1), PySem.W.exmOne X.kw (Y.cls c) (Y.cls h) = some (subE c h))
    (hb : ∀ (W' : WX) (pn : List (Addr × Obj)) (xe : Value → Shared → Prop), Takes (X.tr pn xe) W' → PassesOwn (model X.prog X.w) X.A X.env xe → DSs (X.tr pn xe) Y W' body b)
    (hh : Hds X Y (h₀ :: hds) l) : DS X Y W (.Try body (h₀ :: hds) [] [] pos) (sTry ns b l) :=
  ps_mono (ps_try_many (tb := fun W' => tS X.kw Y W' b) hs hf tk hb hh.ok) fun D σ H ⟨g, F, r, p⟩ => by
    refine ⟨g, F, r, ?_⟩
    have p' : PostS X.kw Y W F D (match b g with
      | .ex e g' => if e.c ∈ ns then handle l e g' else .bad
      | r => r) := p
    revert p'
    cases b g with
    | bad => exact id
    | ok fl g' => exact id
    | ex e g' =>
      simp only
      split
      · rename_i hn
        intro p' d σ' H' F' r' s' xd
        have go : ∀ l' : List (Str × M Fl), (∀ hf ∈ l', hf ∈ l) → PostS X.kw Y W F D (handle l' e g') → wMany X.kw W D (l'.map fun hf => (Y.cls hf.1, fun _ _ _ => tS X.kw Y W0 hf.2)) (Y.cls e.c) d σ' H' := by
          intro l'
          induction l' with
          | nil => exact fun _ q => q d σ' H' F' r' s' xd
          | cons hf l' ih =>
            obtain ⟨h, f⟩ := hf
            intro sub q
            have q' : PostS X.kw Y W F D (if subE e.c h = true then noEx (f g') else handle l' e g') := q
            refine ⟨subE e.c h, hx e.c hn h (List.mem_map.mpr ⟨(h, f), sub _ List.mem_cons_self, rfl⟩), fun hb a _ => ?_, fun hb => ?_⟩
            · rw [if_pos hb] at q'
              refine ⟨g', F', r', ?_⟩
              have q2 := PostS.weak s' q'
              show PostS X.kw Y W0 F' _ (f g')
              revert q2
              cases f g' with
              | bad => exact fun z => z
              | ex _ _ => exact fun z => z.elim
              | ok _ _ => exact fun z => z
            · rw [if_neg (by rw [hb]; simp)] at q'
              exact ih (fun hf hm => sub hf (List.mem_cons_of_mem _ hm)) q'
        exact go l (fun _ h => h) p'
      · exact fun p' => p'.elim
end
end DL

namespace DL
open PySem PySem.Spec L2
open PyProof.Rows hiding St

/-! ### the end of a law -/
/-- a def's promise at the heap behind the top, no repr under way -/
theorem law_at {P : Program} {w : World} {K : PySem.W.Frag} {mg mb : Str → Option Value} {k : Nat} {fa a : Addr} {fd : FuncData} {x : Str} {cls : Str → Value} {sem : FSem} {t : Shared} {us : List Value} {ns : List Int}
    (inK : K.In t.heap) (gl : t.heap.Ns mainGlobals mg) (bl : t.heap.Ns builtinsNs mb) (boot : ∀ y : Str, y ≠ "__name__" → mb y = bootBuiltins y) (lim : t.heap.NoLimit) (ng : t.gens = #[])
    (obj : t.heap.get? a = some { cls := .type "list", data := .seq us.toArray }) (hin : IntsAre us ns) (few : ns.length ≤ sizeLine) (room : Room k callerA)
    (G : ∀ base : Heap, K.In base → base.Ns mainGlobals mg → FnG P w K mg base k fa fd [x] (spD ⟨K, w⟩ cls none 1 sem)) (bd : ∀ (s : Shared) (u : Value), BindsTo s fd ⟨[u], []⟩ [(x, u)])
    (good : sem none [.scr ns] = .ok (.fz (.bl true)) none) :
    codeAny (model P w) callerA (.call (.ref fa) ⟨[.ref a], []⟩) (fun r s' => r = .ok (.ret (.bool true)) ∧ OldK t.heap s'.heap ∧ s'.os = t.os ∧ AllBare s'.gens) t := by
  have vs := vals_ints hin
  -- the abstract heap: the script alone, if the module does not hold it
  let o : Obj := { cls := .type "list", data := .seq us.toArray }
  let H : Hp := fun b => if b = a ∧ K.lookup a = none then some (.frz o (.lst (ns.map V.int))) else none
  have hH : ∀ b u, H b = some u → b = a ∧ K.lookup a = none ∧ u = .frz o (.lst (ns.map V.int)) := by
    intro b u e
    have e' : (if b = a ∧ K.lookup a = none then some (HO.frz o (.lst (ns.map V.int))) else none) = some u := e
    split at e'
    · rename_i c; cases e'; exact ⟨c.1, c.2, rfl⟩
    · cases e'
  have tracked : HOk P w H t.heap := by
    intro b u e
    obtain ⟨rfl, _, rfl⟩ := hH b u e
    exact ⟨obj, by rw [List.length_map]; exact few, us, _, vs, obj⟩
  have script : SqL K H a (ns.map V.int) := by
    cases e : K.lookup a with
    | none => exact .inl (.inr ⟨o, by show (if a = a ∧ K.lookup a = none then _ else none) = _; rw [if_pos ⟨rfl, e⟩]⟩)
    | some o' =>
      have e2 := inK a o' e
      rw [obj] at e2
      cases e2
      exact .inr ⟨_, us.toArray, _, e, rfl, rfl, rfl, by rw [List.size_toArray, hin.length]; exact few, by simpa using vs⟩
  have free : ∀ {b : Addr} {ob : Obj}, t.heap.get? b = some ob → (b = a → K.lookup a ≠ none ∨ ∃ es ep, ob.data = .dict es ep) → H b = none := by
    intro b ob e c
    cases q : H b with
    | none => rfl
    | some u =>
      obtain ⟨rfl, hk, _⟩ := hH b u q
      rcases c rfl with z | ⟨es, ep, d⟩
      · exact absurd hk z
      · rw [obj] at e; cases e; cases d
  have ns' : ∀ {b : Addr} {m : Str → Option Value}, t.heap.Ns b m → (hidT t.heap H).Ns b m := by
    rintro b m ⟨ob, es, ep, e, d, r⟩
    exact ⟨ob, es, ep, hidT_get e (free e fun _ => .inr ⟨es, ep, d⟩), d, r⟩
  have inB : K.In (hidT t.heap H) := fun b ob e => hidT_get (inK b ob e) (free (inK b ob e) fun z => .inl (by rw [← z, e]; simp))
  obtain ⟨mc, l1, l2⟩ := lim
  have md : Mod K mg (hidT t.heap H) := ⟨inB, ns' gl, ⟨mb, ns' bl, boot⟩, ⟨mc, ns' l1, l2⟩⟩
  have e0 : Env0 P w K mg (hidT t.heap H) callerA [] t H := ⟨rfl, md, fun b ob e => of_hidT e, Nat.le_of_eq (hidT_size _ _), trivial, fun b hb => (List.not_mem_nil hb).elim, tracked, .of_eq ng⟩
  have want : spD ⟨K, w⟩ cls none 1 sem [.ref a] H (fun v _ => v = .bl true) (fun _ _ _ => False) := by
    refine ⟨H, none, [], none, [.scr ns], rfl, Same.refl _, ⟨rfl, rfl, rfl, .one ⟨a, rfl, script, few⟩⟩, ?_⟩
    rw [good]
    exact fun v H' F' _ q => q
  refine codeAny_mono ((G _ inB (ns' gl)).run callerA [] t H ⟨[.ref a], []⟩ [.ref a] [.ref a] _ _ room rfl e0 (bd t (.ref a)) (.cons rfl .nil) want) ?_
  intro r s' h
  cases r with
  | error e =>
    obtain ⟨_, _, _, _, _, _, _, _, _, _, _, _, z⟩ := h
    exact z.elim
  | ok fl =>
    cases fl with
    | next => cases h
    | brk => cases h
    | cont => cases h
    | ret u =>
      obtain ⟨v, H', os, bare, un, ok', rv, rfl⟩ := h
      cases (show u = Value.bool true from rv)
      refine ⟨rfl, OldK.of_keep fun b ob e => ?_, os, bare⟩
      cases q : H b with
      | none => exact un.keep b ob e q (fun z => List.not_mem_nil z) (fun z => List.not_mem_nil z)
      | some u =>
        obtain ⟨_, _, rfl⟩ := hH b u q
        obtain ⟨e1, _⟩ := tracked b _ q
        obtain ⟨e2, _⟩ := ok' b _ (un.frzs b _ _ q)
        rw [e] at e1; cases e1
        exact e2
/-- the goal of a law, from what its def computes -/
theorem walk_law {l : PySem.W.OpenLaw} {k : Nat} {q : Program} {loose : List Str} {XP : (Str → Option Value) → Heap → Prop} {YP : World → Heap → Prop} {d : DefRec} {K : Params → PySem.W.Frag} {sem : FSem} {x : Str}
    (hn : l.most = some 63) (hdf : d.params.defaults = []) (room : Room k callerA) (hY : ∀ (w : World) (h : Heap), YP w h → (K w.params).In h)
    (good : ∀ ns : List Int, ns.length ≤ 63 → sem none [.scr ns] = .ok (.fz (.bl true)) none)
    (G : ∀ (w : World) (mg : Str → Option Value) (fa : Addr) (h : Heap), (K w.params).In h → h.Ns mainGlobals mg → mg d.name = some (.ref fa) →
      ∃ (fd : FuncData) (cls : Str → Value), (∀ (s : Shared) (u : Value), BindsTo s fd ⟨[u], []⟩ [(x, u)]) ∧ ∀ base : Heap, (K w.params).In base → base.Ns mainGlobals mg → FnG l.prog w (K w.params) mg base k fa fd [x] (spD ⟨K w.params, w⟩ cls none 1 sem)) :
    PySem.W.WalkO q loose XP YP l.row.toRowW d [] (fun f vs => PySem.call f vs) := by
  refine Att.attach_call hn hdf fun w s₀ t mg mb fa o pm cd doc a us ns Gr Yp ho hd hcd hmg obj hin few ng => ?_
  obtain ⟨fd, cls, bd, hG⟩ := G w mg fa _ (hY w _ Yp) Gr.T.g hmg
  exact law_at (hY w _ Yp) Gr.T.g Gr.T.b Gr.T.builtins Gr.T.nolimit ng obj hin (Nat.le_trans few (by decide)) room hG bd (good ns few)
end DL

namespace DL
open PySem PySem.Spec L2

/-! ### more operators -/
def op1 (op : D → Option R) (x : R) : M R := fun g => match cont g x with
  | some d => done (op d) g
  | none => .bad
def eU (op : D → Option R) (f : M R) : M R := mb (pk f) (op1 op)
def bNeg : D → Option R
  | .int i => some (.fz (.int (-i)))
  | _ => none
def cIs (neg : Bool) : D → D → Option R
  | .bl a, .bl b => some (.fz (.bl (if neg then !decide (a = b) else decide (a = b))))
  | a, .non => some (.fz (.bl (if neg then !isNon a else isNon a)))
  | _, _ => none
def kindT : D → Option String
  | .non => some "NoneType" | .bl _ => some "bool" | .int _ => some "int" | .str _ => some "str" | .tup _ => some "tuple" | .lst _ => some "list" | .dk _ => some "dict" | .dt _ => some "dict" | .scr _ => none | .exc _ => none | .dd _ => none | .obj _ _ => none
def bIsi (T : String) (d : D) : Option R := (kindT d).bind fun k => (kitB k T).map fun b => .fz (.bl b)
section
variable {X : Cx} {Y : Ent} {W : WX} {pos : Pos} {a b e : Expr}
theorem Post.op1 {K : KW} {σ : St} {H F : Hp} {Q : VK} {g : G} {op : D → Option R} {x : R} (h : Post K Y W σ F (JV K Y σ Q) (op1 op x g)) (rl : Rel K Y σ H g F) : ∃ a r, cont g x = some a ∧ op a = some r ∧ RP K F H Q r := by
  unfold DL.op1 at h
  split at h
  · rename_i d e
    obtain ⟨r, h1, h2⟩ := Post.done h rl
    exact ⟨d, r, e, h1, h2⟩
  · exact h.elim
theorem de_neg {f : M R} (ha : DE X Y W a f) : DE X Y W (.UnaryOp .USub a pos) (eU bNeg f) :=
  pe_mono (pe_un un_neg (de_pk ha)) fun σ H Q ⟨g, F, r, p⟩ => ⟨g, F, r, (p.bind).imp fun x g1 H1 F1 r1 s1 q v hv => by
    obtain ⟨d, r', h1, h2, h3⟩ := Post.op1 q r1
    unfold bNeg at h2
    split at h2
    · cases h2
      exact ⟨_, (r1.cv hv h1).int, h3.now r1.sub rfl⟩
    · cases h2⟩
theorem od_is : OpD X (compareOp .Is) (cIs false) := by
  intro pins s σ H x y v u Q I rx ry ⟨F, a, b, r, sm, ha, hb, ho, hr⟩
  unfold cIs at ho
  split at ho
  · cases ho; exact op_isBl pins s σ H x y v u Q I rx ry ⟨_, _, ha.bl, hb.bl, hr.now sm rfl⟩
  · cases ho
    exact op_isN pins s σ H x y v u Q I rx ry ⟨hb.non, by rw [isnon_V ha]; exact hr.now sm rfl⟩
  · cases ho
theorem od_isnot : OpD X (compareOp .IsNot) (cIs true) := by
  intro pins s σ H x y v u Q I rx ry ⟨F, a, b, r, sm, ha, hb, ho, hr⟩
  unfold cIs at ho
  split at ho
  · cases ho; exact op_notBl pins s σ H x y v u Q I rx ry ⟨_, _, ha.bl, hb.bl, hr.now sm rfl⟩
  · cases ho
    exact op_notN pins s σ H x y v u Q I rx ry ⟨hb.non, by rw [isnon_V ha]; exact hr.now sm rfl⟩
  · cases ho
theorem od_inT : OpD X (compareOp .In) (cIn false) := od_in false
theorem od_notin : OpD X (compareOp .NotIn) (cIn true) := od_in true
theorem tyX_of {K : KW} {F H : Hp} {v : V} {d : D} {k : String} (sm : Same F H) (h : CV K F H v d) (hk : kindT d = some k) : TyX K H v (.type k) := by
  cases d with
  | non => cases hk; rw [h.non]; exact .base .non
  | bl b => cases hk; rw [h.bl]; exact .base (.bl b)
  | int b => cases hk; rw [h.int]; exact .base (.int b)
  | str b => cases hk; rw [h.str.1]; exact .base (.str b)
  | tup b =>
    cases hk
    obtain ⟨a, vs, rfl, q, _⟩ := h.tup
    rcases sqT_mono sm q with (q | ⟨o, q⟩) | ⟨o, its, n, q1, q2, _⟩
    · exact .base (.tup q)
    · exact .fTuple q
    · exact .kTuple q1 q2
  | lst b => cases hk; obtain ⟨a, vs, rfl, q, _⟩ := h.lst sm; exact .base (.lst q)
  | dk kvs =>
    cases hk
    rcases h with ⟨a, ks, rfl, q, _⟩ | ⟨a, o, rfl, q, e⟩
    · exact .base (.dK (sm _ _ q))
    · cases o with
      | dk ys => obtain ⟨ks, q, _⟩ := q; exact .base (.dK q)
      | ls _ => cases e
      | dt _ => cases e
      | dd _ => cases e
      | ob _ _ => cases e
  | dt kvs =>
    cases hk
    rcases h with ⟨a, ks, rfl, q, _⟩ | ⟨a, o, rfl, q, e⟩
    · exact .base (.dT (sm _ _ q))
    · cases o with
      | dt ys => obtain ⟨ks, q, _⟩ := q; exact .base (.dT q)
      | ls _ => cases e
      | dk _ => cases e
      | dd _ => cases e
      | ob _ _ => cases e
  | scr _ => cases hk
  | exc _ => cases hk
  | dd _ => cases hk
  | obj _ _ => cases hk
theorem de_isi {T : String} {x : Str} {f : M R} {p q : Pos} (hg : Gl X "isinstance") (hm : X.mg "isinstance" = none) (hgT : Gl X x) (hmT : X.mg x = none) (hT : bootBuiltins x = some (.type T)) (ha : DE X Y W a f)
    (hnT : x ≠ "__name__" := by decide) (hdT : (x == ("__debug__" : Str)) = false := by decide)
    (h1 : starEach [a, .Name x q] X.env = (false, eval a X.env) :: starEach [.Name x q] X.env := by rfl) (h2 : (backTo pos (starEach [.Name x q] X.env)).any (·.1) = false := by rfl) (h3 : starEach [.Name x q] X.env = (false, eval (.Name x q) X.env) :: starEach [] X.env := by rfl) :
    DE X Y W (.Call (.Name "isinstance" p) [a, .Name x q] [] pos) (eU (bIsi T) f) :=
  pe_mono (pe_callB call_isi hg hm (PyProof.Rows.boot_isinstance) (pa_cons (de_pk ha) (pa_cons (pe_bltn (v := .ty T) hgT hmT hT rfl hnT hdT) pa_nil h3) h1) (by decide) (by decide) h1 h2) fun σ H Q ⟨g, F, r, p⟩ => ⟨g, F, r, (p.bind).imp fun x g1 H1 F1 r1 s1 q v hv => by
    obtain ⟨d, r', k1, k2, k3⟩ := Post.op1 q r1
    unfold bIsi at k2
    cases e : kindT d with
    | none => rw [e] at k2; cases k2
    | some k =>
      rw [e] at k2
      simp only [Option.bind_some] at k2
      cases e2 : kitB k T with
      | none => rw [e2] at k2; cases k2
      | some b =>
        rw [e2] at k2
        cases k2
        exact ⟨v, .ty T, _, _, b, rfl, .ty T, tyX_of r1.sub (r1.cv hv k1) e, kit_ty e2, k3.now r1.sub rfl⟩⟩
/-- list(range(n)) -/
def lrng (a b : Int) : List D := (List.range (b - a).toNat).map fun i => .int (a + (i : Nat))
def okRg (a b : Int) : Prop := -(2 ^ 62) ≤ a ∧ a < 2 ^ 62 ∧ -(2 ^ 62) ≤ b ∧ b < 2 ^ 62 ∧ (b - a).toNat ≤ 2 ^ 24
instance (a b : Int) : Decidable (okRg a b) := by unfold okRg; infer_instance
def bLrg1 : D → Option R
  | .int n => if okRg 0 n then some (.ow (.ls (lrng 0 n))) else none
  | _ => none
def bLrg2 : D → D → Option R
  | .int a, .int b => if okRg a b then some (.ow (.ls (lrng a b))) else none
  | _, _ => none
theorem IsL.rg {K : KW} {F : Hp} (a b : Int) : IsL K F (rgV a b) (lrng a b) := by
  have e : lrng a b = ((List.range (b - a).toNat).map fun i => a + ((i : Nat) : Int)).map D.int := by unfold lrng; rw [List.map_map]; rfl
  have e2 : rgV a b = ((List.range (b - a).toNat).map fun i => a + ((i : Nat) : Int)).map V.int := by unfold rgV; rw [List.map_map]; rfl
  rw [e, e2]; exact IsL.ints _
theorem lrng_len (a b : Int) : (lrng a b).length = (b - a).toNat := by unfold lrng; rw [List.length_map, List.length_range]
theorem de_lrg1 {f : M R} {p p2 pos2 : Pos} (hc : X.calm = true) (hg : Gl X "list") (hm : X.mg "list" = none) (hg2 : Gl X "range") (hm2 : X.mg "range" = none) (ha : DE X Y W a f)
    (na : starEach [a] X.env = (false, eval a X.env) :: starEach [] X.env := by rfl) (nb : starEach [.Call (.Name "range" p2) [a] [] pos2] X.env = (false, eval (.Call (.Name "range" p2) [a] [] pos2) X.env) :: starEach [] X.env := by rfl) :
    DE X Y W (.Call (.Name "list" p) [.Call (.Name "range" p2) [a] [] pos2] [] pos) (eU bLrg1 f) :=
  pe_mono (pe_listRg hc hg hm (prg_1 hg2 hm2 (de_pk ha) na) nb) fun σ H Q ⟨g, F, r, p⟩ => ⟨g, F, r, (p.bind).imp fun x g1 H1 F1 r1 s1 q v hv => by
    obtain ⟨d, r', k1, k2, k3⟩ := Post.op1 q r1
    unfold bLrg1 at k2
    split at k2
    · rename_i n
      split at k2
      · rename_i hz
        cases k2
        exact ⟨n, (r1.cv hv k1).int, hz, fun l hl => k3.ls r1.sub (IsL.rg 0 n) (by rw [lrng_len]; exact Nat.le_trans hz.2.2.2.2 (by decide)) hl⟩
      · cases k2
    · cases k2⟩
theorem de_lrg2 {f k : M R} {p p2 pos2 : Pos} (hc : X.calm = true) (hg : Gl X "list") (hm : X.mg "list" = none) (hg2 : Gl X "range") (hm2 : X.mg "range" = none) (ha : DE X Y W a f) (hb : DE X Y W b k)
    (na : starEach [a, b] X.env = (false, eval a X.env) :: starEach [b] X.env := by rfl) (nb : starEach [b] X.env = (false, eval b X.env) :: starEach [] X.env := by rfl) (hp : (backTo pos2 (starEach [b] X.env)).any (·.1) = false := by rfl)
    (nc : starEach [.Call (.Name "range" p2) [a, b] [] pos2] X.env = (false, eval (.Call (.Name "range" p2) [a, b] [] pos2) X.env) :: starEach [] X.env := by rfl) :
    DE X Y W (.Call (.Name "list" p) [.Call (.Name "range" p2) [a, b] [] pos2] [] pos) (eB bLrg2 f k) :=
  pe_mono (pe_listRg hc hg hm (prg_2 hg2 hm2 (de_pk ha) (de_pk hb) na nb hp) nc) fun σ H Q ⟨g, F, r, p⟩ => ⟨g, F, r, (p.bind).imp fun x g1 H1 F1 r1 s1 q v hv => ⟨g1, F1, r1, (q.bind).imp fun y g2 H2 F2 r2 s2 q2 u hu => by
    obtain ⟨da, db, r', e1, e2, k2, k3⟩ := Post.op2 q2 r2
    unfold bLrg2 at k2
    split at k2
    · rename_i a b
      split at k2
      · rename_i hz
        cases k2
        exact ⟨a, b, (r2.cv (hv.keep s2 (cont_ne e1)) e1).int, (r2.cv hu e2).int, hz, fun l hl => k3.ls r2.sub (IsL.rg a b) (by rw [lrng_len]; exact Nat.le_trans hz.2.2.2.2 (by decide)) hl⟩
      · cases k2
    · cases k2⟩⟩
/-- for all of a written list -/
def AllE {α : Type} : List α → (α → Prop) → Prop
  | [], _ => True
  | a :: r, p => p a ∧ AllE r p
theorem AllE.mem {α : Type} {p : α → Prop} : ∀ {l : List α}, AllE l p → ∀ a ∈ l, p a
  | b :: r, ⟨h, t⟩, a, hm => (List.mem_cons.mp hm).elim (fun e => e ▸ h) (AllE.mem t a)
end

section
variable {X : Cx} {Y : Ent} {W : WX} {pos : Pos} {x : Str}
theorem de_gS {s : Str} {t : Tok} (hm : X.mg x = some (.str s t)) (hg : Gl X x := by rfl) (h : s.length ≤ sizeLine := by decide) (hd : (x == ("__debug__" : Str)) = false := by decide) : DE X Y W (.Name x pos) (eC (.str s)) :=
  de_glob (v := .str s) hg hm ⟨t, rfl⟩ (fun _ => ⟨rfl, h⟩) hd
theorem de_gI {i : Int} {t : Tok} (hm : X.mg x = some (.int i t)) (hg : Gl X x := by rfl) (hd : (x == ("__debug__" : Str)) = false := by decide) : DE X Y W (.Name x pos) (eC (.int i)) :=
  de_glob (v := .int i) hg hm ⟨t, rfl⟩ (fun _ => rfl) hd
end
end DL

namespace DL
open PySem PySem.Spec L2

/-! ### sorted, of ints or texts -/
def leS (a b : Str) : Bool := !ltCps b.cps.toList a.cps.toList
def srtS (ns : List Str) : List Str := ns.mergeSort leS
theorem ltCps_iff : ∀ (a b : List Nat), ltCps a b = true ↔ a < b := by
  intro a b
  first
    | exact decide_eq_true_iff
    | (induction a generalizing b with
      | nil => cases b <;> simp [ltCps]
      | cons x r ih => cases b with
        | nil => simp [ltCps]
        | cons y t => simp [ltCps, ih, List.cons_lt_cons_iff])
theorem leS_iff {a b : Str} : leS a b = true ↔ a.cps.toList ≤ b.cps.toList := by
  unfold leS
  rw [Bool.not_eq_true', ← Bool.not_eq_true, ltCps_iff, List.not_lt]
theorem leS_trans (a b c : Str) (h1 : leS a b = true) (h2 : leS b c = true) : leS a c = true := leS_iff.mpr (List.le_trans (leS_iff.mp h1) (leS_iff.mp h2))
theorem leS_total (a b : Str) : (leS a b || leS b a) = true := by
  rw [Bool.or_eq_true, leS_iff, leS_iff]; exact List.le_total _ _
theorem leS_anti (a b : Str) (h1 : leS a b = true) (h2 : leS b a = true) : a = b := by
  have := List.le_antisymm (leS_iff.mp h1) (leS_iff.mp h2)
  cases a; cases b; congr 1; exact Array.toList_inj.mp this
theorem srtS_perm (ns : List Str) : (srtS ns).Perm ns := List.mergeSort_perm ns _
theorem srtS_pw (ns : List Str) : (srtS ns).Pairwise (fun a b => leS a b = true) := List.pairwise_mergeSort leS_trans leS_total ns
theorem risingS_pw : ∀ (r : List Str) (x : Str), PyProof.Rows.risingS x r = true → (x :: r).Pairwise (fun a b => leS a b = true)
  | [], x, _ => List.pairwise_singleton _ _
  | y :: r, x, h => by
    have h' : (!ltCps y.cps.toList x.cps.toList && PyProof.Rows.risingS y r) = true := h
    rw [Bool.and_eq_true] at h'
    have ih := risingS_pw r y h'.2
    have hxy : leS x y = true := h'.1
    refine List.pairwise_cons.mpr ⟨fun z hz => ?_, ih⟩
    rcases List.mem_cons.mp hz with rfl | hz
    · exact hxy
    · exact leS_trans _ _ _ hxy ((List.pairwise_cons.mp ih).1 z hz)
theorem srtS_of {ns ms : List Str} (h1 : ms.Perm ns) (h2 : PyProof.Rows.sortedS ms = true) : ms = srtS ns := by
  refine List.Perm.eq_of_pairwise (fun a b _ _ => leS_anti a b) ?_ (srtS_pw ns) (h1.trans (srtS_perm ns).symm)
  cases ms with
  | nil => exact List.Pairwise.nil
  | cons x r => exact risingS_pw r x h2
section
variable {X : Cx}
def rSortedSA (K : KW) : List V → Hp → VK → Prop := fun vs H Q => ∃ (a : Addr) (xs : List Str), vs = [V.ref a] ∧ SqL K H a (xs.map V.str) ∧
  ∀ (p : Addr), H p = none → Q (.ref p) (upd H p (.lst ((srtS xs).map V.str)))
theorem cr_sortedSA : CallR X (.builtin "sorted") (rSortedSA X.kw) := by
  intro pins s σ H vs us Q I r h
  obtain ⟨a, xs, rfl, hs, q⟩ := h
  obtain ⟨its, rv, hl, hz⟩ := I.list hs
  rw [Vals.ref1 r]
  refine PyProof.Rows.sorted_strsAny hl.isList rv.strs (by rw [← rv.length]; exact hz) fun out ys h1 h2 h3 => ?_
  obtain ⟨ep, he'⟩ := PyProof.Rows.sortedAll_at s.heap its out
  have e := srtS_of h2 h3
  have hlen : (ys.map V.str).length ≤ sizeLine := by rw [List.length_map, h2.length_eq]; rw [List.length_map] at hz; exact hz
  subst e
  exact ⟨.ref _, upd H (s.heap.objs.size + 1) (.lst ((srtS xs).map V.str)), I.laid (t' := s.toks) (fun _ _ => PyProof.Rows.sortedAll_old) (Nat.le_succ _) ⟨hlen, out.toList, ep, vals_of_strs h1, he'⟩, rfl, q _ (I.hok.fresh (Nat.le_succ _))⟩
def fSort : List D → Option R
  | [.lst xs] => match intsOf xs with
    | some ns => some (.ow (.ls ((srt ns).map D.int)))
    | none => (strsOf xs).map fun ns => .ow (.ls ((srtS ns).map D.str))
  | _ => none
theorem cd_sort : CallD X (.builtin "sorted") fSort := by
  intro pins s σ H xs us Q I r ⟨F, ds, r', sm, hc, ho, hr⟩
  unfold fSort at ho
  split at ho
  · rename_i ds
    split at ho
    · rename_i ns e
      cases ho
      exact cd_sorted pins s σ H xs us Q I r ⟨F, [.lst ds], _, sm, hc, by show (intsOf ds).map _ = _; rw [e]; rfl, hr⟩
    · cases e : strsOf ds with
      | none => rw [e] at ho; cases ho
      | some ns =>
        rw [e] at ho; cases ho
        obtain ⟨p, vs, rfl, h1, h2, h3⟩ := lst_one sm hc
        have e' := strsOf_eq e
        subst e'
        obtain ⟨e1, e2⟩ := h3.strs' 
        subst e1
        refine cr_sortedSA pins s σ H _ us Q I r ⟨p, ns, rfl, h1, fun l hl => ?_⟩
        exact hr.ls sm (IsL.strs _ fun z hz => e2 z ((srtS_perm ns).mem_iff.mp hz)) (by rw [List.length_map, (srtS_perm ns).length_eq]; rw [List.length_map] at h2; exact h2) hl
  · cases ho
end

/-! ### xs[i] = v -/
def StD (X : Cx) (op : O → D → D → Option O) : Prop :=
  PSet X fun o i v H Q => ∃ F a ob ob' di dv, o = .ref a ∧ OwAt X.kw F H a ob ∧ F a = none ∧ Same F H ∧ CV X.kw F H i di ∧ Is X.kw F v dv ∧ op ob di dv = some ob' ∧ ∀ u, OwAt X.kw F (upd H a u) a ob' → Q (upd H a u)
def stL : O → D → D → Option O
  | .ls xs, .int k, d => (ixN xs.length k).map fun j => .ls (xs.set j d)
  | _, _, _ => none
/-- an operation on leaves -/
class LeafSt (op : O → D → D → Option O) : Prop where
  h : ∀ o i v o', op o i v = some o' → o.leaf = true ∧ o'.leaf = true
instance : LeafSt stL := ⟨fun o i v o' e => by
  unfold stL at e
  split at e
  · obtain ⟨j, _, e⟩ := Option.map_eq_some_iff.mp e; cases e; exact ⟨rfl, rfl⟩
  · cases e⟩
def opSet (op : O → D → D → Option O) (v o i : R) : M Unit := fun g => match v, o with
  | .fz dv, .at j => match g[j]?, cont g i with
    | some (some (.ow l ob)), some di => match op ob di dv with
      | some ob' => .ok () (g.set j (some (.ow l ob')))
      | none => .bad
    | _, _ => .bad
  | .fz dv, .sub j f => match g[j]?, cont g i with
    | some (some (.ow l (.ob c fs))), some di => match fs.get f with
      | some (.inr ob) => match op ob di dv with
        | some ob' => .ok () (g.set j (some (.ow l (.ob c (fs.put f ob')))))
        | none => .bad
      | _ => .bad
    | _, _ => .bad
  | _, _ => .bad
def sSet (op : O → D → D → Option O) (o i v : M R) : M Fl := mb (esc v) fun rv => mb o fun ro => mb (pk i) fun ri => mb (opSet op rv ro ri) fun _ => mp .nx
section
variable {X : Cx} {Y : Ent} {W : WX} {pos pos' : Pos} {o i v : Expr}
theorem sd_list : StD X stL := by
  intro pins s σ H ov iv vv o i v Q I ro ri rv h
  obtain ⟨F, a, ob, ob', di, dv, rfl, q1, q2, sm, qi, qv, ho, q⟩ := h
  cases ob with
  | dk _ => cases ho
  | dt _ => cases ho
  | dd _ => cases ho
  | ob _ _ => cases ho
  | ls xs =>
    cases di with
    | int k =>
      have ho' : (ixN xs.length k).map (fun j => O.ls (xs.set j dv)) = some ob' := ho
      cases e : ixN xs.length k with
      | none => rw [e] at ho'; cases ho'
      | some j =>
        rw [e] at ho'; cases ho'
        obtain ⟨vs, h1, h2, h3⟩ := q1
        have := qi.int
        subst this
        exact set_list pins s σ H _ _ _ _ _ _ Q I ro ri rv ⟨a, vs, k, j, rfl, rfl, h1, by rw [h3.length]; exact e, q _ ⟨_, upd_same, by rw [List.length_set]; exact h2, h3.set j qv⟩⟩
    | _ => cases ho
theorem Post.opSet {K : KW} {σ : St} {F H : Hp} {N : Ends} {g : G} {op : O → D → D → Option O} [lo : LeafSt op] {rv ro ri : R} {v o i : V} (h : PostS K Y W F N ((opSet op rv ro ri g).andThen fun _ => mp .nx)) (r : Rel K Y σ H g F)
    (hv : RV K Y σ F H g v rv) (ho : RV K Y σ F H g o ro) (hi : RV K Y σ F H g i ri) :
    ∃ F a ob ob' di dv, o = .ref a ∧ OwAt K F H a ob ∧ F a = none ∧ Same F H ∧ CV K F H i di ∧ Is K F v dv ∧ op ob di dv = some ob' ∧ ∀ u, OwAt K F (upd H a u) a ob' → N.nx σ (upd H a u) := by
  cases rv with
  | ow _ => exact h.elim
  | «at» _ => exact h.elim
  | sub _ _ => exact h.elim
  | fz dv =>
    cases ro with
    | ow _ => exact h.elim
    | fz _ => exact h.elim
    | «at» j =>
      unfold DL.opSet at h
      simp only at h
      split at h
      · rename_i l ob di eg ec
        split at h
        · rename_i ob' e3
          obtain ⟨l1, l2⟩ := lo.h _ _ _ _ e3
          obtain ⟨a, rfl, k1, _, k2, _⟩ := r.at_ eg ho
          exact ⟨F, a, ob, ob', di, dv, rfl, k1, (k2 a (by rw [foot_leaf l1]; simp)).1, r.sub, r.cv hi ec, hv, e3, fun u q1 => h _ _ F (r.mut eg ho l1 l2 q1) (Same.refl _)⟩
        · exact h.elim
      · exact h.elim
    | sub j f =>
      unfold DL.opSet at h
      simp only at h
      split at h
      · rename_i l c fs di eg ec
        split at h
        · rename_i ob eo
          split at h
          · rename_i ob' e3
            obtain ⟨l1, l2⟩ := lo.h _ _ _ _ e3
            obtain ⟨a, C, dx, vs, b, k1, rfl, k2, k3, k4, k5, t, ef⟩ := r.subAt eg ho eo
            have n1 : F b = none := ((r.at_ eg k1).cells b (show b ∈ foot F a (.ob c fs) by rw [ef]; exact k5 b (by rw [foot_leaf l1]; simp))).1
            exact ⟨F, b, ob, ob', di, dv, rfl, k4, n1, r.sub, r.cv hi ec, hv, e3, fun u q1 => h _ _ F (r.mutSub eg ho eo l1 l2 q1) (Same.refl _)⟩
          · exact h.elim
        · exact h.elim
      · exact h.elim
theorem ds_set {op : O → D → D → Option O} [LeafSt op] {f k j : M R} (hop : StD X op) (ho : DE X Y W o f) (hi : DE X Y W i k) (hv : DE X Y W v j)
    (hs : swapsWithSole [.Subscript o i pos'] v pos.line X.env = pure false := by rfl) (hw : swappedStores [.Subscript o i pos'] v X.env = pure none := by rfl)
    (h1 : (assignEach [.Subscript o i pos'] X.env).map (·.2) = [assign (.Subscript o i pos') X.env] := by rfl)
    (ha : ∀ v, assign (.Subscript o i pos') X.env v = (do
      let ov ← holding [v] (eval o X.env)
      let iv ← holding [v, ov] (eval i X.env)
      standAt pos'
      holding [v, ov, iv] (setItem ov iv v)
      release [v, ov, iv] []) := by intro _; rfl) : DS X Y W (.Assign [.Subscript o i pos'] v pos) (sSet op f k j) :=
  ps_mono (ps_asg (de_esc hv) (pg_sub ho (de_pk hi) hop ha) hs hw h1) fun N σ H ⟨g, F, r, p⟩ => ⟨g, F, r, (p.bind).imp fun rv g1 H1 F1 r1 s1 q v hv => ⟨g1, F1, r1, (q.bind).imp fun ro g2 H2 F2 r2 s2 q2 o ho =>
    ⟨g2, F2, r2, (q2.bind).imp fun ri g3 H3 F3 r3 s3 q3 i hi => by
      have n1 : ∀ o, rv ≠ .ow o := fun o e => by subst e; exact (show PostS X.kw Y W F3 N Rs.bad from q3).elim
      have n2 : ∀ o, ro ≠ .ow o := fun o e => by
        subst e
        cases rv <;> exact (show PostS X.kw Y W F3 N Rs.bad from q3).elim
      exact Post.opSet q3 r3 ((hv.keep (H' := H2) (g' := g2) s2 n1).keep s3 n1) (ho.keep s3 n2) hi⟩⟩⟩
end
end DL

namespace DL
open PySem PySem.Spec L2

/-! ### dicts with ints and texts as keys -/
def keyD : D → Option Key
  | .int i => some (.inl i)
  | .str s => some (.inr s)
  | _ => none
def valD (kvs : List (Key × D)) (k : Key) : Option D := (kvs.find? fun kv => decide (kv.1 = k)).map (·.2)
def putD (kvs : List (Key × D)) (k : Key) (d : D) : List (Key × D) :=
  if (kvs.any fun kv => decide (kv.1 = k)) = true then kvs.map (fun kv => if kv.1 = k then (kv.1, d) else kv) else kvs ++ [(k, d)]
def eNewK : M R := mp (.ow (.dk []))
def stK : O → D → D → Option O
  | .dk kvs, i, d => (keyD i).bind fun k => if kvs.length < sizeLine then some (.dk (putD kvs k d)) else none
  | _, _, _ => none
instance : LeafSt stK := ⟨fun o i v o' e => by
  unfold stK at e
  split at e
  · obtain ⟨k, _, e⟩ := Option.bind_eq_some_iff.mp e
    split at e
    · cases e; exact ⟨rfl, rfl⟩
    · cases e
  · cases e⟩
def ixK : D → D → Option R
  | .dk kvs, i => (keyD i).bind fun k => (valD kvs k).map .fz
  | _, _ => none
section
variable {K : KW} {F H : Hp}
theorem CV.dk {v : V} {kvs : List (Key × D)} (s : Same F H) (h : CV K F H v (.dk kvs)) : ∃ a ks, v = .ref a ∧ H a = some (.dK ks) ∧ kvs.length ≤ sizeLine ∧ IsK K F ks kvs := by
  rcases h with h | ⟨a, o, e, q, eo⟩
  · obtain ⟨a, ks, e, h1, h2, h3⟩ := h
    exact ⟨a, ks, e, s _ _ h1, h2, h3⟩
  · cases o with
    | ls _ => cases eo
    | dt _ => cases eo
    | dd _ => cases eo
    | ob _ _ => cases eo
    | dk kvs' => cases eo; obtain ⟨ks, h1, h2, h3⟩ := q; exact ⟨a, ks, e, h1, h2, h3⟩
theorem keyD_V {v : V} {d : D} {k : Key} (h : keyD d = some k) (q : CV K F H v d) : v = kV k := by
  cases d with
  | int i => cases h; exact q.int
  | str s => cases h; exact q.str.1
  | _ => cases h
theorem IsK.len : ∀ {ks : List (Key × V)} {kvs : List (Key × D)}, IsK K F ks kvs → ks.length = kvs.length
  | _, [], h => by rw [show _ = [] from h]; rfl
  | _, (k, d) :: r, ⟨v, s, e, _, t⟩ => by rw [e, List.length_cons, List.length_cons, IsK.len t]
theorem IsK.any (k : Key) : ∀ {ks : List (Key × V)} {kvs : List (Key × D)}, IsK K F ks kvs → (ks.any fun kv => decide (kv.1 = k)) = (kvs.any fun kv => decide (kv.1 = k))
  | _, [], h => by rw [show _ = [] from h]; rfl
  | _, (k', d) :: r, ⟨v, s, e, _, t⟩ => by rw [e, List.any_cons, List.any_cons, IsK.any k t]
theorem IsK.val (k : Key) : ∀ {ks : List (Key × V)} {kvs : List (Key × D)} {d : D}, IsK K F ks kvs → valD kvs k = some d → ∃ v, valV ks k = some v ∧ Is K F v d
  | _, [], d, h, e => by cases e
  | _, (k', d') :: r, d, ⟨v, s, e, q, t⟩, h => by
    subst e
    by_cases ek : k' = k
    · have : valD ((k', d') :: r) k = some d' := by simp [valD, List.find?_cons, ek]
      rw [this] at h; cases h
      exact ⟨v, by simp [valV, List.find?_cons, ek], q⟩
    · have e1 : valD ((k', d') :: r) k = valD r k := by simp [valD, List.find?_cons, ek]
      rw [e1] at h
      obtain ⟨w, h1, h2⟩ := IsK.val k t h
      exact ⟨w, by rw [← h1]; simp [valV, List.find?_cons, ek], h2⟩
theorem IsK.map_put (k : Key) {v : V} {d : D} (q : Is K F v d) : ∀ {ks : List (Key × V)} {kvs : List (Key × D)}, IsK K F ks kvs → IsK K F (ks.map fun kv => if kv.1 = k then (kv.1, v) else kv) (kvs.map fun kv => if kv.1 = k then (kv.1, d) else kv)
  | _, [], h => by rw [show _ = [] from h]; rfl
  | _, (k', d') :: r, ⟨w, s, e, q', t⟩ => by
    subst e
    rw [List.map_cons, List.map_cons]
    by_cases ek : k' = k
    · rw [if_pos ek, if_pos ek]; exact ⟨v, _, rfl, q, IsK.map_put k q t⟩
    · rw [if_neg ek, if_neg ek]; exact ⟨w, _, rfl, q', IsK.map_put k q t⟩
theorem IsK.snoc {k : Key} {v : V} {d : D} (q : Is K F v d) : ∀ {ks : List (Key × V)} {kvs : List (Key × D)}, IsK K F ks kvs → IsK K F (ks ++ [(k, v)]) (kvs ++ [(k, d)])
  | _, [], h => by rw [show _ = [] from h]; exact ⟨v, [], rfl, q, rfl⟩
  | _, (k', d') :: r, ⟨w, s, e, q', t⟩ => by subst e; exact ⟨w, _, rfl, q', IsK.snoc q t⟩
theorem IsK.put (k : Key) {v : V} {d : D} (q : Is K F v d) {ks : List (Key × V)} {kvs : List (Key × D)} (h : IsK K F ks kvs) : IsK K F (putK ks k v) (putD kvs k d) := by
  unfold putK putD
  rw [IsK.any k h]
  split
  · exact h.map_put k q
  · exact h.snoc q
theorem putD_len (kvs : List (Key × D)) (k : Key) (d : D) : (putD kvs k d).length ≤ kvs.length + 1 := by
  unfold putD
  split
  · rw [List.length_map]; omega
  · rw [List.length_append]; exact Nat.le_refl _
end
section
variable {X : Cx} {Y : Ent} {W : WX} {pos : Pos}
theorem de_newK : DE X Y W (.Dict [] [] pos) eNewK :=
  pe_mono pe_dnewK fun σ H Q ⟨g, F, r, p⟩ q hq => by
    have hp : RP X.kw F H Q (.ow (.dk [])) := Post.rp (r := .ow (.dk [])) trivial r p
    exact hp q _ _ (ext_own r.sub hq) ⟨[], upd_same, Nat.zero_le _, rfl⟩ (by rw [foot_dk]; simp) (fun b hb => by rw [foot_dk, List.mem_singleton] at hb; subst hb; exact ⟨none_of_same r.sub hq, hq⟩)
theorem sd_dk (hu : X.A.units + 1 < cLine) : StD X stK := by
  intro pins s σ H ov iv vv o i v Q I ro ri rv h
  obtain ⟨F, a, ob, ob', di, dv, rfl, q1, q2, sm, qi, qv, ho, q⟩ := h
  cases ob with
  | ls _ => cases ho
  | dt _ => cases ho
  | dd _ => cases ho
  | ob _ _ => cases ho
  | dk kvs =>
    have ho' : ((keyD di).bind fun k => if kvs.length < sizeLine then some (O.dk (putD kvs k dv)) else none) = some ob' := ho
    cases ek : keyD di with
    | none => rw [ek] at ho'; cases ho'
    | some k =>
      rw [ek] at ho'
      have ho2 : (if kvs.length < sizeLine then some (O.dk (putD kvs k dv)) else none) = some ob' := ho'
      split at ho2
      · rename_i hz
        cases ho2
        obtain ⟨ks, h1, h2, h3⟩ := q1
        have e := keyD_V ek qi
        subst e
        cases (show o = Value.ref a from ro)
        exact d_setItem hu I (DPut.k h1 (by rw [h3.len]; exact hz)) ri rv fun s' I' => ⟨_, I', q _ ⟨_, upd_same, Nat.le_trans (putD_len kvs k dv) hz, h3.put k qv⟩⟩
      · cases ho2
theorem de_dget {o i : Expr} {f k : M R} (hu : X.A.units + 1 < cLine) (ho : DE X Y W o f) (hi : DE X Y W i k) (hs : NoSl i) : DE X Y W (.Subscript o i pos) (eB ixK f k) :=
  pe_mono (pe_dget hu (de_pk ho) (de_pk hi) hs) fun σ H Q h => by
    obtain ⟨g, F, r, p⟩ := two_args ho hi h
    refine ⟨g, F, r, p.imp fun x g1 H1 F1 r1 s1 q v hv => ?_⟩
    obtain ⟨g2, F2, r2, p2⟩ := q v hv
    refine ⟨g2, F2, r2, p2.imp fun y g3 H3 F3 r3 s3 q3 w hw => ?_⟩
    obtain ⟨F4, da, db, rr, sm, ha, hb, hop, hr⟩ := q3 w hw
    cases da with
    | dk kvs =>
      have hop' : ((keyD db).bind fun k => (valD kvs k).map R.fz) = some rr := hop
      cases ek : keyD db with
      | none => rw [ek] at hop'; cases hop'
      | some kk =>
        rw [ek] at hop'
        cases ev : valD kvs kk with
        | none => have := hop'.symm.trans (show (valD kvs kk).map R.fz = none by rw [ev]; rfl); cases this
        | some d =>
          have := hop'.symm.trans (show (valD kvs kk).map R.fz = some (.fz d) by rw [ev]; rfl)
          cases this
          obtain ⟨a, ks, rfl, h1, h2, h3⟩ := ha.dk sm
          have e := keyD_V ek hb
          subst e
          obtain ⟨v2, h4, h5⟩ := h3.val kk ev
          exact ⟨a, v2, rfl, by rw [← h4]; exact DGet.k h1, hr.now sm h5⟩
    | _ => cases hop
end
end DL

namespace DL
open PySem PySem.Spec L2
open PySem.AutoSeq1 (wpAny_loadPart')

/-! ### enumerate of a tuple -/
theorem meets_enumerate_newT (l : Addr) (items : Array Value) (n : Nat) (dct : Option Addr) (sl : Array (Option Value)) :
    Meets (Builtin.«enumerate.__new__» ⟨[.type "enumerate", .ref l], []⟩) (fun _ R s => s.heap.get? l = some { cls := .type "tuple", dict := dct, data := .seq items n, slots := sl } ∧
      R (.ok (.ret (.ref (s.heap.push { cls := .type "tuple_iterator", data := .fields #[.ref l, .int 0 0] }).objs.size)))
        { s with heap := (s.heap.push { cls := .type "tuple_iterator", data := .fields #[.ref l, .int 0 0] }).push { cls := .type "enumerate", data := .fields #[.none, .bool false, .ref s.heap.objs.size, rawInt 0, .none, .none] } }) :=
  .of_wp fun prog w A R s h => by
    obtain ⟨hp, g, d, tk, os⟩ := s; obtain ⟨hl, h⟩ := h
    have hsub := sub_enumerate
    have hL : Heap.IsTuple (Shared.heap ⟨hp, g, d, tk, os⟩) l items := ⟨_, hl, rfl, n, rfl⟩
    wp_walk using wpAny_loadPart' hl
    refine wpAny_stack_any fun st => wpAny_pure ?_
    split
    · rename_i c _ _ _ _ _
      cases (c == Value.type "enumerate")
      · wp_walk using wpAny_loadPart' hl, wpAny_pyIter_tuple hL
        exact ⟨_, rfl, h⟩
      · wp_walk using wpAny_loadPart' hl, wpAny_pyIter_tuple hL
        exact ⟨_, rfl, h⟩
    · wp_walk using wpAny_loadPart' hl, wpAny_pyIter_tuple hL
      exact ⟨_, rfl, h⟩
section
variable {prog : Program} {w : World} {A : Around} {E : Value → Shared → Prop} {s : Shared}
theorem call_enumerate_tuple {l : Addr} {items : Array Value} {Q : Value → Shared → Prop} (hL : s.heap.IsTuple l items)
    (h : ∀ h', IsEnum h' (s.heap.objs.size + 1) s.heap.objs.size 0 .none → h'.IsTupleIter s.heap.objs.size l 0 → h'.objs.size = s.heap.objs.size + 2 →
      (∀ b o, s.heap.get? b = some o → h'.get? b = some o) → Q (.ref (s.heap.objs.size + 1)) { s with heap := h' }) :
    wpAny (model prog w) A (call (.type "enumerate") [.ref l]) Q E s := by
  obtain ⟨⟨c, dct, dt, sl⟩, hl, hc, n, hd⟩ := hL
  replace hc : c = .type "tuple" := hc
  replace hd : dt = .seq items n := hd
  subst hc hd
  refine callType_new F.called_enumerate (by decide) (F.typeCall_enumerate_1 _) (F.newCall_enumerate_1 _) (fun obj => F.args_object_init_2 obj _) F.entry_enumerate_new
    (meets_enumerate_newT l items n dct sl) ⟨hl, ?_⟩
  have hz : (s.heap.push { cls := .type "tuple_iterator", data := .fields #[.ref l, .int 0 0] }).objs.size = s.heap.objs.size + 1 := Heap.size_push ..
  show _ ∧ _
  rw [hz]
  have he : IsEnum ((s.heap.push { cls := .type "tuple_iterator", data := .fields #[.ref l, .int 0 0] }).push
      { cls := .type "enumerate", data := .fields #[.none, .bool false, .ref s.heap.objs.size, rawInt 0, .none, .none] }) (s.heap.objs.size + 1) s.heap.objs.size 0 .none := by
    have := Heap.get?_push_size (s.heap.push { cls := .type "tuple_iterator", data := .fields #[.ref l, .int 0 0] })
      (o := { cls := .type "enumerate", data := .fields #[.none, .bool false, .ref s.heap.objs.size, rawInt 0, .none, .none] }) rfl
    rw [hz] at this; exact this
  refine ⟨⟨_, he, rfl⟩, h _ he ⟨_, Heap.get?_push_of_some _ (Heap.get?_push_size _ rfl), rfl, rfl⟩ (by rw [Heap.size_push, hz]) fun b o x => Heap.get?_push_of_some _ (Heap.get?_push_of_some _ x)⟩
end
/-- nothing is left to be drawn -/
theorem end_draws {prog : Program} {w : World} {A : Around} (hh : A.handled = none) (it t : Addr) (i : Nat) (items : Array Value) (hi : items.size ≤ i) :
    Draws prog w A it [it, t] i (fun _ _ => False) (fun j h => j = i ∧ h.IsTupleIter it t i ∧ h.IsTuple t items) where
  live := fun _ _ st => by obtain ⟨_, ⟨o, ho, _⟩, _⟩ := st; exact ⟨o, ho⟩
  frame := fun _ _ _ st hk => ⟨st.1, st.2.1.at fun o e => hk it (by simp) o e, st.2.2.at fun o e => hk t (by simp) o e⟩
  item := fun j s Q E hj st => absurd st.1 (by omega)
  done := fun s Q E st hE => wpAny_nextOf_tuple_end hh st.2.1 st.2.2 (by simp; omega) hE
/-- the tuple at a as it stands at each turn, each item in a new pair -/
def Itn (K : PySem.W.Frag) (a : Addr) : It :=
  ⟨fun i H => ∃ (xs : List V) (x : V), SqT K H a xs ∧ xs[i]? = some x, fun i H v H' => ∃ T x y, v = .ref T ∧ H T = none ∧ y = x ∧ H' = upd H T (.tup [.int (i : Nat), x]) ∧ ∀ xs, SqT K H a xs → xs[i]? = some x, fun i H => ∃ xs : List V, SqT K H a xs ∧ xs.length ≤ i⟩
theorem turn_enumT {P : Program} {w : World} {K : PySem.W.Frag} {elts : List Expr} {kk : Nat} {tpos : Pos} (a e it : Addr) :
    Turn P w K (.Tuple elts kk tpos) (Itn K a) [e, it] e (fun i h => (∃ old, IsEnum h e it ((i : Nat) : Int) old) ∧ h.IsTupleIter it a i ∧ e ≠ it ∧ e ≠ a ∧ a ≠ it) where
  mem := by simp
  obj := fun i h st b hb => by
    obtain ⟨⟨old, he⟩, ⟨o, ho, hc, hd⟩, _⟩ := st
    have e' : b = e ∨ b = it := by simpa using hb
    rcases e' with z | z
    · rw [z]; exact ⟨_, he, fun v q => nomatch q⟩
    · rw [z]; exact ⟨o, ho, fun v q => by rw [hd] at q; cases q⟩
  keep := fun i h h' st k => let ⟨⟨old, he⟩, hi, hne⟩ := st; ⟨⟨old, k e (by simp) _ he⟩, hi.at fun o q => k it (by simp) o q, hne⟩
  item := by
    intro X hP hw hK hc i pins s σ H E I hf st hg
    subst hP hw hK
    obtain ⟨⟨old, he⟩, hit, hne, hea, hai⟩ := st
    obtain ⟨xs, x, hq, hx⟩ := hg
    obtain ⟨its, rv, p, hz⟩ := I.tuple hq
    obtain ⟨u, hu, ru⟩ := rv.get hx
    have hel : e < s.heap.objs.size := Heap.lt_size he
    have hil : it < s.heap.objs.size := by obtain ⟨_, q, _⟩ := hit; exact Heap.lt_size q
    have hlt : i < its.toArray.size := by
      have := (List.getElem?_eq_some_iff.mp hu).1
      simpa using this
    refine wpAny_pyNext_enum_itemC (Draws.tuple (A := X.A.in1) (I.ok.hd hc) it a hai its.toArray) he ⟨hit, p⟩ hlt hne (by simp [hne, hea]) fun y h' tk hy ho st' hT hsz hk => ?_
    have hyu : y = u := by
      have : its.toArray[i]? = some u := by simpa using hu
      exact Option.some.inj (hy.symm.trans this)
    subst hyu
    obtain ⟨hit', p'⟩ := st'
    refine ⟨_, rfl, wpAny_letOwnedTupleGo_enum (s := { s with heap := h', toks := tk + 1 }) ho fun h'' he' sb => ?_⟩
    have hT2 : h''.get? s.heap.objs.size = some { cls := .type "tuple", data := .seq #[.int i tk, y] } := (sb.2 _ (Nat.ne_of_gt hel)).trans hT
    have new : ObjOk X.prog X.w (upd H s.heap.objs.size (.tup [.int (i : Nat), x])) h'' s.heap.objs.size (.tup [.int (i : Nat), x]) :=
      ⟨by show 2 ≤ sizeLine; decide, [.int i tk, y], .cons ⟨_, rfl⟩ (.cons ru .nil), ⟨_, hT2, rfl, _, rfl⟩⟩
    have I1 : Inv X pins σ (upd H s.heap.objs.size (.tup [.int (i : Nat), x])) { s with heap := h'', toks := tk + 1 } :=
      I.turnedNew (ch := [e, it]) (fun b ob hb q => (sb.2 b (fun z => hb (by simp [z]))).trans (hk b ob (fun z => hb (by simp [z])) (fun z => hb (by simp [z])) q)) hf (Nat.le_refl _) new
    refine ⟨.ref s.heap.objs.size, _, I1, rfl, ⟨_, x, x, rfl, I.hok.fresh (Nat.le_refl _), rfl, rfl, fun ys hy => by rw [I.tuple_inj hy hq]; exact hx⟩, ⟨⟨y, ?_⟩, hit'.at fun o q => (sb.2 it (Ne.symm hne)).trans q, hne, hea, hai⟩, fun b hb => ?_⟩
    · have e1 : ((i + 1 : Nat) : Int) = (i : Int) + 1 := by omega
      rw [e1]; exact he'
    · have hb' : b < s.heap.objs.size := by
        have e' : b = e ∨ b = it := by simpa using hb
        rcases e' with z | z
        · rw [z]; exact hel
        · rw [z]; exact hil
      rw [upd_ne (Nat.ne_of_lt hb')]
      exact (hf b hb).1
  done := by
    intro X hP hw hK hc i pins s σ H E I hf st hg
    subst hP hw hK
    obtain ⟨⟨old, he⟩, hit, hne, hea, hai⟩ := st
    obtain ⟨xs, hq, hx⟩ := hg
    obtain ⟨its, rv, p, hz⟩ := I.tuple hq
    obtain ⟨f0, f1, f2, f3, f4, f5⟩ := hf it (by simp)
    have hl := rv.length
    refine wpAny_pyNext_enum_endD (end_draws (A := X.A.in1) (I.ok.hd hc) it a i its.toArray (by simp; omega)) he ⟨rfl, hit, p⟩ fun h' eb => ⟨rfl, ?_⟩
    exact I.turned (t' := s.toks) (fun b o hb q => eb b o hb q) f0 f1 f3 f4 f5
  self := fun A i s Q E st h => let ⟨⟨_, he⟩, _⟩ := st; wpAny_pyIter_enum he h
def iEnumT (K : PySem.W.Frag) (ta : TA) : TI := fun σ H R => ta σ H fun vs H1 => ∃ a xs, vs = [.ref a] ∧ SqT K H1 a xs ∧ R (Itn K a) H1
theorem pi_enumT {X : Cx} {e : Expr} {ta : TA} {p pos tpos : Pos} {elts : List Expr} {kk : Nat} (hg : Gl X "enumerate") (hm : X.mg "enumerate" = none) (ha : PA X [e] ta) (hs : starEach [e] X.env = [(false, eval e X.env)] := by rfl) :
    PI X (.Tuple elts kk tpos) (.Call (.Name "enumerate" p) [e] [] pos) (iEnumT X.K ta) := by
  refine ⟨fun pins s σ H R I h => PyProof.Rows.Call_ (ld_blt I hg hm PyProof.Rows.boot_enumerate (PyProof.Rows.callWith_type1 (thn (ha.run pos pins s σ H _ I h) fun us s1 ⟨vs, H1, I1, r1, q1⟩ => ?_) hs rfl))⟩
  obtain ⟨a, xs, rfl, hq, q⟩ := q1
  cases r1 with
  | cons r rr =>
    cases rr
    cases r
    obtain ⟨its, rv, p', hz⟩ := I1.tuple hq
    have hsz0 : a < s1.heap.objs.size := by obtain ⟨_, e, _⟩ := p'; exact Heap.lt_size e
    refine call_enumerate_tuple p' fun h' he hit hsz hk => wpAny_pyIter_enum he ?_
    have I2 : Inv X pins σ H1 { s1 with heap := h' } := I1.kept (t' := s1.toks) hk
    refine ⟨s1.heap.objs.size + 1, [s1.heap.objs.size + 1, s1.heap.objs.size], _, _, H1, rfl, I2, turn_enumT a (s1.heap.objs.size + 1) s1.heap.objs.size, ⟨⟨.none, he⟩, hit, Nat.succ_ne_self _, Nat.ne_of_gt (Nat.lt_succ_of_lt hsz0), Nat.ne_of_lt hsz0⟩, fun b hb => ?_, q⟩
    have hle : s1.heap.objs.size ≤ b := by
      rcases (show b = s1.heap.objs.size + 1 ∨ b = s1.heap.objs.size by simpa using hb) with z | z
      · exact z ▸ Nat.le_succ _
      · exact z ▸ Nat.le_refl _
    exact I1.fpOk hle (I1.hok.fresh hle)
end DL

namespace DL
open PySem PySem.Spec L2

/-! ### a name's own object is frozen between statements -/
def frz (i : Nat) (g : G) : G := match g[i]? with
  | some (some (.ow false o)) => g.set i (some (.fz o.d))
  | _ => g
def frzS (i : Nat) : M Fl := fun g => .ok .nx (frz i g)
section
variable {X : Cx} {Y : Ent} {W : WX}
theorem Rel.frz {K : KW} {σ : St} {H F : Hp} {g : G} (r : Rel K Y σ H g F) (i : Nat) : ∃ F', Rel K Y σ H (DL.frz i g) F' ∧ Same F F' := by
  unfold DL.frz
  split
  · rename_i o e
    obtain ⟨a, h1, _⟩ := r.ow i _ _ e
    obtain ⟨F', r', s', _⟩ := r.freezeSlot e h1
    exact ⟨F', r', s'⟩
  · exact ⟨F, r, Same.refl _⟩
theorem sSeq_frz (f : M Fl) (i : Nat) (g : G) : sSeq f (frzS i) g = match f g with
    | .ok .nx g' => .ok .nx (DL.frz i g')
    | r => r := rfl
theorem PostS.frz {K : KW} {F : Hp} {D : Ends} {i : Nat} {x : Rs Fl} (h : PostS K Y W F D (match x with
    | .ok .nx g' => .ok .nx (DL.frz i g')
    | r => r)) : PostS K Y W F D x := by
  cases x with
  | bad => exact h
  | ex e g => exact h
  | ok fl g =>
    cases fl with
    | rt r => exact h
    | bk => exact h
    | ct => exact h
    | nx =>
      intro σ' H' F' r s
      obtain ⟨F2, r2, s2⟩ := r.frz i
      exact h σ' H' F2 r2 (s.trans s2)
theorem ds_aft {st : Stmt} {f : M Fl} (i : Nat) (h : DS X Y W st f) : DS X Y W st (sSeq f (frzS i)) :=
  ps_mono h fun D σ H ⟨g, F, r, p⟩ => ⟨g, F, r, PostS.frz (i := i) (by rw [sSeq_frz] at p; exact p)⟩
theorem ds_bef {st : Stmt} {f : M Fl} (i : Nat) (h : DS X Y W st f) : DS X Y W st (sSeq (frzS i) f) :=
  ps_mono h fun D σ H ⟨g, F, r, p⟩ => by
    obtain ⟨F2, r2, s2⟩ := r.frz i
    refine ⟨DL.frz i g, F2, r2, ?_⟩
    have p' : PostS X.kw Y W F D (f (DL.frz i g)) := p
    revert p'
    cases f (DL.frz i g) with
    | bad => exact id
    | ok fl g' => exact fun q σ' H' F' r' s' => q σ' H' F' r' (s2.trans s')
    | ex e g' => exact fun q d σ' H' F' r' s' => q d σ' H' F' r' (s2.trans s')
end
end DL

namespace DL
open PySem PySem.Spec L2

/-! # the plain side: what the functions of data compute -/
variable {α β : Type}
@[simp] theorem ev_mb (m : M α) (k : α → M β) (g : G) : mb m k g = (m g).andThen k := rfl
@[simp] theorem ev_mp (a : α) (g : G) : mp a g = .ok a g := rfl
@[simp] theorem ev_c (d : D) (g : G) : eC d g = .ok (.fz d) g := rfl
@[simp] theorem ev_var (i : Nat) (g : G) : eVar i g = match g[i]? with
  | some (some (.fz d)) => .ok (.fz d) g
  | some (some (.ow _ _)) => .ok (.at i) g
  | some (some (.op _ _)) => .ok (.at i) g
  | _ => .bad := rfl
@[simp] theorem ct_fz (g : G) (d : D) : cont g (.fz d) = some d := rfl
@[simp] theorem ct_at (g : G) (i : Nat) : cont g (.at i) = match g[i]? with
    | some (some (.ow _ o)) => some o.d
    | some (some (.fz d)) => some d
    | _ => none := rfl
@[simp] theorem ev_done_fz (d : D) (g : G) : done (some (.fz d)) g = .ok (.fz d) g := rfl
@[simp] theorem ev_done_ow (o : O) (g : G) : done (some (.ow o)) g = .ok (.ow o) g := rfl
@[simp] theorem od_ls (xs : List D) : O.d (.ls xs) = .lst xs := rfl
@[simp] theorem od_dk (xs : List (Key × D)) : O.d (.dk xs) = .dk xs := rfl
@[simp] theorem od_dt (xs : List (List Key × D)) : O.d (.dt xs) = .dt xs := rfl
@[simp] theorem then_ite (c : Prop) [Decidable c] (a b : Rs α) (k : α → G → Rs β) : (if c then a else b).andThen k = if c then a.andThen k else b.andThen k := by split <;> rfl
@[simp] theorem ev_op2 (op : D → D → Option R) (x y : R) (g : G) : op2 op x y g = match cont g x, cont g y with
  | some a, some b => done (op a b) g
  | _, _ => .bad := rfl
@[simp] theorem ev_eB (op : D → D → Option R) (f k : M R) (g : G) : eB op f k g = (pk f g).andThen fun x g1 => (pk k g1).andThen fun y => op2 op x y := rfl
@[simp] theorem ev_toB (b : Bool) (g : G) : toB (.fz (.bl b)) g = .ok b g := rfl
@[simp] theorem ev_test (f : M R) (g : G) : eTest f g = (f g).andThen toB := rfl
@[simp] theorem ev_tAnd (f k : M Bool) (g : G) : tAndM f k g = (f g).andThen fun c => if c = true then k else mp false := rfl
@[simp] theorem ev_tOr (f k : M Bool) (g : G) : tOrM f k g = (f g).andThen fun c => if c = true then mp true else k := rfl
@[simp] theorem ev_tNot (f : M Bool) (g : G) : tNotM f g = (f g).andThen fun c => mp (!c) := rfl
@[simp] theorem ev_vAnd (f k : M R) (g : G) : vAnd f k g = (f g).andThen fun x g1 => (toB x g1).andThen fun c => if c = true then k else eC (.bl false) := rfl
@[simp] theorem ev_vOr (f k : M R) (g : G) : vOr f k g = (f g).andThen fun x g1 => (toB x g1).andThen fun c => if c = true then eC (.bl true) else k := rfl
@[simp] theorem ev_vNot (f : M R) (g : G) : vNot f g = (f g).andThen fun x g1 => (toB x g1).andThen fun c => eC (.bl (!c)) := rfl
@[simp] theorem ev_if (c : M Bool) (f k : M R) (g : G) : eIf c f k g = (c g).andThen fun b => if b = true then f else k := rfl
@[simp] theorem ev_ite {γ : Type} (c : Prop) [Decidable c] (a b : M γ) (g : G) : (if c then a else b) g = if c then a g else b g := by split <;> rfl
@[simp] theorem ev_tru (f : M R) (g : G) : eTru f g = (pk f g).andThen toTru := rfl
@[simp] theorem ev_toTru (x : R) (g : G) : toTru x g = match (cont g x).bind truD with
  | some b => .ok b g
  | none => .bad := rfl
@[simp] theorem ev_pk (f : M R) (g : G) : pk f g = (f g).andThen pkR := rfl
@[simp] theorem ev_pkR_fz (d : D) (g : G) : pkR (.fz d) g = .ok (.fz d) g := rfl
@[simp] theorem ev_pkR_at (i : Nat) (g : G) : pkR (.at i) g = .ok (.at i) g := rfl
@[simp] theorem ev_pkR_ow (o : O) (g : G) : pkR (.ow o) g = .ok (.fz o.d) g := rfl
@[simp] theorem ev_esc (f : M R) (g : G) : esc f g = (f g).andThen escR := rfl
@[simp] theorem ev_escR_fz (d : D) (g : G) : escR (.fz d) g = .ok (.fz d) g := rfl
@[simp] theorem ev_escR_ow (o : O) (g : G) : escR (.ow o) g = .ok (.fz o.d) g := rfl
@[simp] theorem ev_escR_at (i : Nat) (g : G) : escR (.at i) g = match g[i]? with
  | some (some (.ow false o)) => .ok (.fz o.d) (g.set i (some (.fz o.d)))
  | some (some (.fz d)) => .ok (.fz d) g
  | _ => .bad := rfl
@[simp] theorem ev_aNil (g : G) : aNil g = .ok [] g := rfl
@[simp] theorem ev_aCons (f : M R) (k : M (List R)) (g : G) : aCons f k g = (f g).andThen fun x g1 => (k g1).andThen fun xs => aPush x xs := rfl
@[simp] theorem ev_aPush_fz (d : D) (xs : List R) (g : G) : aPush (.fz d) xs g = .ok (.fz d :: xs) g := rfl
@[simp] theorem ev_aPush_at (i : Nat) (xs : List R) (g : G) : aPush (.at i) xs g = .ok (.at i :: xs) g := rfl
@[simp] theorem ct_nil (g : G) : conts g [] = some [] := rfl
@[simp] theorem ct_cons (g : G) (r : R) (rs : List R) : conts g (r :: rs) = match cont g r, conts g rs with
    | some d, some ds => some (d :: ds)
    | _, _ => none := rfl
@[simp] theorem af_nil : allFz [] = some [] := rfl
@[simp] theorem af_cons (d : D) (r : List R) : allFz (.fz d :: r) = (allFz r).map (d :: ·) := rfl
@[simp] theorem ev_opN (op : List D → Option R) (rs : List R) (g : G) : opN op rs g = match conts g rs with
  | some ds => done (op ds) g
  | none => .bad := rfl
@[simp] theorem ev_callB (op : List D → Option R) (k : M (List R)) (g : G) : eCallB op k g = (k g).andThen (opN op) := rfl
@[simp] theorem ev_chkT (T : String) (x : R) (g : G) : chkT T x g = match cont g x with
  | some d => if kindD d = T then .ok () g else .bad
  | none => .bad := rfl
@[simp] theorem ev_opM (op : D → List D → Option R) (x : R) (ys : List R) (g : G) : opM op x ys g = match cont g x, conts g ys with
  | some d, some ds => done (op d ds) g
  | _, _ => .bad := rfl
@[simp] theorem ev_meth (T : String) (op : D → List D → Option R) (f : M R) (k : M (List R)) (g : G) : eMeth T op f k g = (pk f g).andThen fun x g1 => (chkT T x g1).andThen fun _ g2 => (k g2).andThen fun ys => opM op x ys := rfl
@[simp] theorem ev_opMut (op : O → List D → Option (O × D)) (i : Nat) (ys : List R) (g : G) : opMut op (.at i) ys g = match g[i]?, allFz ys with
    | some (some (.ow l o)), some ds => match op o ds with
      | some (o', d) => .ok (.fz d) (g.set i (some (.ow l o')))
      | none => .bad
    | _, _ => .bad := rfl
@[simp] theorem ev_mut (T : String) (op : O → List D → Option (O × D)) (f : M R) (k : M (List R)) (g : G) : eMut T op f k g = (f g).andThen fun x g1 => (chkT T x g1).andThen fun _ g2 => (k g2).andThen fun ys => opMut op x ys := rfl
@[simp] theorem ev_mkTup (rs : List R) (g : G) : mkTup rs g = match allFz rs with
  | some ds => if ds.length ≤ 1000 then .ok (.fz (.tup ds)) g else .bad
  | none => .bad := rfl
@[simp] theorem ev_mkLst (rs : List R) (g : G) : mkLst rs g = match allFz rs with
  | some ds => if ds.length ≤ 1000 then .ok (.ow (.ls ds)) g else .bad
  | none => .bad := rfl
@[simp] theorem ev_eTup (k : M (List R)) (g : G) : eTup k g = (k g).andThen mkTup := rfl
@[simp] theorem ev_eLst (k : M (List R)) (g : G) : eLst k g = (k g).andThen mkLst := rfl
@[simp] theorem kd_str (s : Str) : kindD (.str s) = "str" := rfl
@[simp] theorem kd_lst (s : List D) : kindD (.lst s) = "list" := rfl
@[simp] theorem kd_dk (s : List (Key × D)) : kindD (.dk s) = "dict" := rfl
@[simp] theorem kd_dt (s : List (List Key × D)) : kindD (.dt s) = "dict" := rfl
@[simp] theorem tr_bl (b : Bool) : truD (.bl b) = some b := rfl
@[simp] theorem tr_non : truD .non = some false := rfl
@[simp] theorem tr_int (i : Int) : truD (.int i) = some (i != 0) := rfl
@[simp] theorem tr_str (s : Str) : truD (.str s) = some ((s.length : Int) != 0) := rfl
@[simp] theorem tr_lst (s : List D) : truD (.lst s) = some (!s.isEmpty) := rfl
@[simp] theorem tr_tup (s : List D) : truD (.tup s) = some (!s.isEmpty) := rfl

/-! operators -/
@[simp] theorem bn_add (i j : Int) : bAdd (.int i) (.int j) = some (.fz (.int (i + j))) := rfl
@[simp] theorem bn_adds (a b : Str) : bAdd (.str a) (.str b) = if a.length + b.length ≤ sizeLine then some (.fz (.str (a ++ b))) else none := rfl
@[simp] theorem bn_addl (xs ys : List D) : bAdd (.lst xs) (.lst ys) = if xs.length + ys.length ≤ sizeLine then some (.ow (.ls (xs ++ ys))) else none := rfl
@[simp] theorem bn_addt (xs ys : List D) : bAdd (.tup xs) (.tup ys) = if xs.length + ys.length ≤ sizeLine then some (.fz (.tup (xs ++ ys))) else none := rfl
@[simp] theorem bn_sub (i j : Int) : bSub (.int i) (.int j) = some (.fz (.int (i - j))) := rfl
theorem bn_mul (i j : Int) : bMul (.int i) (.int j) = if (-(2 ^ 64) < i ∧ i < 2 ^ 64) ∨ (-(2 ^ 64) < j ∧ j < 2 ^ 64) then some (.fz (.int (i * j))) else none := rfl
theorem two64 : (2 : Int) ^ 64 = 18446744073709551616 := by decide
theorem two62 : (2 : Int) ^ 62 = 4611686018427387904 := by decide
@[simp] theorem bn_mulR (i j : Int) (h1 : -18446744073709551616 < j) (h2 : j < 18446744073709551616) : bMul (.int i) (.int j) = some (.fz (.int (i * j))) := by
  rw [bn_mul, two64, if_pos (.inr ⟨h1, h2⟩)]
theorem bn_mulL (i j : Int) (h1 : -18446744073709551616 < i) (h2 : i < 18446744073709551616) : bMul (.int i) (.int j) = some (.fz (.int (i * j))) := by
  rw [bn_mul, two64, if_pos (.inl ⟨h1, h2⟩)]
@[simp] theorem bn_fdiv (i j : Int) : bFdiv (.int i) (.int j) = if 0 < j ∧ j < 1073741824 then some (.fz (.int (i / j))) else none := rfl
@[simp] theorem bn_mod (i j : Int) : bMod (.int i) (.int j) = if 0 < j then some (.fz (.int (i % j))) else none := rfl
@[simp] theorem bn_pow (i j : Int) : bPow (.int i) (.int j) = if 0 ≤ j ∧ j ≤ 1000000 ∧ i.natAbs < 2 ^ 64 then some (.fz (.int (i ^ j.toNat))) else none := rfl
@[simp] theorem cn_eqi (i j : Int) : cEq (.int i) (.int j) = some (.fz (.bl (i == j))) := rfl
@[simp] theorem cn_eqs (i j : Str) : cEq (.str i) (.str j) = some (.fz (.bl (i == j))) := rfl
@[simp] theorem cn_eqb (i j : Bool) : cEq (.bl i) (.bl j) = some (.fz (.bl (i == j))) := rfl
@[simp] theorem cn_nei (i j : Int) : cNe (.int i) (.int j) = some (.fz (.bl (!(i == j)))) := rfl
@[simp] theorem cn_nes (i j : Str) : cNe (.str i) (.str j) = some (.fz (.bl (!(i == j)))) := rfl
@[simp] theorem cn_neb (i j : Bool) : cNe (.bl i) (.bl j) = some (.fz (.bl (!(i == j)))) := rfl
@[simp] theorem cn_lt (i j : Int) : cLt (.int i) (.int j) = some (.fz (.bl (decide (i < j)))) := rfl
@[simp] theorem cn_le (i j : Int) : cLe (.int i) (.int j) = some (.fz (.bl (decide (i ≤ j)))) := rfl
@[simp] theorem cn_gt (i j : Int) : cGt (.int i) (.int j) = some (.fz (.bl (decide (j < i)))) := rfl
@[simp] theorem cn_ge (i j : Int) : cGe (.int i) (.int j) = some (.fz (.bl (decide (j ≤ i)))) := rfl
@[simp] theorem cn_ins (neg : Bool) (i j : Str) : cIn neg (.str i) (.str j) = some (.fz (.bl (if neg then !subS i j else subS i j))) := rfl
@[simp] theorem cn_inl (neg : Bool) (x : D) (xs : List D) (h : ∀ s, x = .str s → True) : cIn neg x (.lst xs) = if flatI x && xs.all flatI then some (.fz (.bl (if neg then !memD x xs else memD x xs))) else none := by cases x <;> rfl
@[simp] theorem cn_int (neg : Bool) (x : D) (xs : List D) : cIn neg x (.tup xs) = if flatI x && xs.all flatI then some (.fz (.bl (if neg then !memD x xs else memD x xs))) else none := by cases x <;> rfl
@[simp] theorem sub_sign (c : Nat) (z : Str) : subS ⟨#[c]⟩ z = decide (c ∈ z.cps.toList) := StrLaws.found_one z c
@[simp] theorem ix_lst (xs : List D) (i : Int) : ixD (.lst xs) (.int i) = (atI xs i).map .fz := rfl
@[simp] theorem ix_tup (xs : List D) (i : Int) : ixD (.tup xs) (.int i) = (atI xs i).map .fz := rfl
@[simp] theorem ix_str (z : Str) (i : Int) : ixD (.str z) (.int i) = (atI z.cps.toList i).map fun c => .fz (.str ⟨#[c]⟩) := rfl
@[simp] theorem ix_scr (z : List Int) (i : Int) : ixD (.scr z) (.int i) = (atI z i).map fun n => .fz (.int n) := rfl
@[simp] theorem ln_str (s : Str) : fLen [.str s] = some (.fz (.int s.length)) := rfl
@[simp] theorem ln_tup (s : List D) : fLen [.tup s] = some (.fz (.int s.length)) := rfl
@[simp] theorem ln_lst (s : List D) : fLen [.lst s] = some (.fz (.int s.length)) := rfl
@[simp] theorem ln_scr (s : List Int) : fLen [.scr s] = some (.fz (.int s.length)) := rfl
@[simp] theorem fn_int (i : Int) : fInt [.int i] = some (.fz (.int i)) := rfl
@[simp] theorem fn_all (xs : List D) : fAll [.lst xs] = (bolsOf xs).map fun ns => .fz (.bl (ns.all id)) := rfl
@[simp] theorem fn_any (xs : List D) : fAny [.lst xs] = (bolsOf xs).map fun ns => .fz (.bl (ns.any id)) := rfl
@[simp] theorem fn_tuple (xs : List D) : fTuple [.lst xs] = some (.fz (.tup xs)) := rfl
@[simp] theorem fn_tuple' (xs : List D) : fTuple [.tup xs] = some (.fz (.tup xs)) := rfl
@[simp] theorem fn_sum (xs : List D) : fSum [.lst xs] = (intsOf xs).map fun ns => .fz (.int ns.sum) := rfl
@[simp] theorem fn_repr (d : D) : fRepr [d] = if okRepr d = true then some (.fz (.str d.py.shown)) else none := rfl
@[simp] theorem ua_app (xs : List D) (d : D) : uAppend (.ls xs) [d] = if xs.length < sizeLine then some (.ls (xs ++ [d]), .non) else none := rfl

/-! statements -/
theorem sSeq_nx {a b : M Fl} {g g1 : G} (h : a g = .ok .nx g1) : sSeq a b g = b g1 := by unfold sSeq; rw [h]
theorem sSeq_rt {a b : M Fl} {g g1 : G} {r : R} (h : a g = .ok (.rt r) g1) : sSeq a b g = .ok (.rt r) g1 := by unfold sSeq; rw [h]
theorem sSeq_ex {a b : M Fl} {g g1 : G} {e : Ex} (h : a g = .ex e g1) : sSeq a b g = .ex e g1 := by unfold sSeq; rw [h]
def seqK (x : Rs Fl) (b : M Fl) : Rs Fl := match x with
  | .ok .nx g' => b g'
  | r => r
@[simp] theorem ev_seq (a b : M Fl) (g : G) : sSeq a b g = seqK (a g) b := rfl
@[simp] theorem sk_nx (g : G) (b : M Fl) : seqK (.ok .nx g) b = b g := rfl
@[simp] theorem sk_rt (r : R) (g : G) (b : M Fl) : seqK (.ok (.rt r) g) b = .ok (.rt r) g := rfl
@[simp] theorem sk_bk (g : G) (b : M Fl) : seqK (.ok .bk g) b = .ok .bk g := rfl
@[simp] theorem sk_ct (g : G) (b : M Fl) : seqK (.ok .ct g) b = .ok .ct g := rfl
@[simp] theorem sk_ex (e : Ex) (g : G) (b : M Fl) : seqK (.ex e g) b = .ex e g := rfl
@[simp] theorem sk_bad (b : M Fl) : seqK .bad b = .bad := rfl
@[simp] theorem sk_ite (c : Prop) [Decidable c] (x y : Rs Fl) (b : M Fl) : seqK (if c then x else y) b = if c then seqK x b else seqK y b := by split <;> rfl
@[simp] theorem ev_nil (g : G) : sNil g = .ok .nx g := rfl
@[simp] theorem ev_pass (g : G) : sPass g = .ok .nx g := rfl
@[simp] theorem ev_brk (g : G) : sBrk g = .ok .bk g := rfl
@[simp] theorem ev_cont (g : G) : sCont g = .ok .ct g := rfl
@[simp] theorem ev_retN (g : G) : sRetN g = .ok (.rt (.fz .non)) g := rfl
@[simp] theorem ev_expr (f : M R) (g : G) : sExpr f g = (f g).andThen fun _ => mp .nx := rfl
@[simp] theorem ev_ret (f : M R) (g : G) : sRet f g = (f g).andThen retR := rfl
@[simp] theorem ev_retR_fz (d : D) (g : G) : retR (.fz d) g = .ok (.rt (.fz d)) g := rfl
@[simp] theorem ev_retR_ow (d : O) (g : G) : retR (.ow d) g = .ok (.rt (.ow d)) g := rfl
@[simp] theorem ev_retR_at (i : Nat) (g : G) : retR (.at i) g = match g[i]? with
    | some (some (.ow false o)) => .ok (.rt (.ow o)) (g.set i none)
    | some (some (.fz d)) => .ok (.rt (.fz d)) g
    | _ => .bad := rfl
@[simp] theorem ev_sIf (c : M Bool) (a b : M Fl) (g : G) : sIf c a b g = (c g).andThen fun t => if t = true then a else b := rfl
@[simp] theorem ev_set_fz (i : Nat) (d : D) (g : G) : setSl i (.fz d) g = .ok () (g.set i (some (.fz d))) := rfl
@[simp] theorem ev_set_ow (i : Nat) (d : O) (g : G) : setSl i (.ow d) g = .ok () (g.set i (some (.ow false d))) := rfl
@[simp] theorem ev_asg (f : M R) (t : R → M Unit) (g : G) : sAsg f t g = (eA f g).andThen fun r g => (noEx (t r g)).andThen fun _ => mp .nx := rfl
@[simp] theorem ev_eA (f : M R) (g : G) : eA f g = (f g).andThen escA := rfl
@[simp] theorem ev_escA_fz (d : D) (g : G) : escA (.fz d) g = .ok (.fz d) g := rfl
@[simp] theorem ev_escA_ow (d : O) (g : G) : escA (.ow d) g = .ok (.ow d) g := rfl
@[simp] theorem ev_escA_at (i : Nat) (g : G) : escA (.at i) g = escR (.at i) g := rfl
@[simp] theorem ne_ok (a : α) (g : G) : noEx (.ok a g) = .ok a g := rfl
@[simp] theorem ev_chkN (n : Nat) (a : M (List R)) (g : G) : chkN n a g = (a g).andThen fun rs g => if rs.length = n then .ok rs g else .bad := rfl
/-- what a call's end gives -/
def callK (x : Res) (g : G) : Rs R := match x with
      | .ok (.fz d) none => .ok (.fz d) g
      | .ok (.ow o) none => .ok (.ow o) g
      | .ex e none => .ex e g
      | _ => .bad
@[simp] theorem ck_fz (d : D) (g : G) : callK (.ok (.fz d) none) g = .ok (.fz d) g := rfl
@[simp] theorem ck_ow (d : O) (g : G) : callK (.ok (.ow d) none) g = .ok (.ow d) g := rfl
@[simp] theorem ck_ex (e : Ex) (g : G) : callK (.ex e none) g = .ex e g := rfl
@[simp] theorem ck_ite (c : Prop) [Decidable c] (x y : Res) (g : G) : callK (if c then x else y) g = if c then callK x g else callK y g := by split <;> rfl
@[simp] theorem ev_opCall (sem : FSem) (rs : List R) (g : G) : opCall none sem rs g = match allFz rs with
    | some ds => callK (sem none ds) g
    | none => .bad := rfl
@[simp] theorem ev_call (lp : Option Nat) (sem : FSem) (k : M (List R)) (g : G) : eCall lp sem k g = (k g).andThen (opCall lp sem) := rfl
/-- the end of a def without a lent list -/
def endF (x : Rs Fl) : Res := match x with
    | .ok (.rt (.fz d)) g => .ok (.fz d) none
    | .ok (.rt (.ow o)) g => .ok (.ow o) none
    | .ok .nx g => .ok (.fz .non) none
    | .ex e g => .ex e none
    | _ => .bad
theorem bodyF_none (n : Nat) (b : M Fl) (ds : List D) : bodyF n none b none ds = endF (b (fill n (ds.map fun d => some (.fz d)))) := by
  unfold bodyF endF
  show (match b (fill n (ds.map fun d => some (.fz d))) with | _ => _) = _
  cases b (fill n (ds.map fun d => some (.fz d))) with
  | bad => rfl
  | ex e g => rfl
  | ok f g => cases f with
    | rt r => cases r <;> rfl
    | nx => rfl
    | bk => rfl
    | ct => rfl
@[simp] theorem ef_fz (d : D) (g : G) : endF (.ok (.rt (.fz d)) g) = .ok (.fz d) none := rfl
@[simp] theorem ef_ow (d : O) (g : G) : endF (.ok (.rt (.ow d)) g) = .ok (.ow d) none := rfl
@[simp] theorem ef_nx (g : G) : endF (.ok .nx g) = .ok (.fz .non) none := rfl
@[simp] theorem ef_ex (e : Ex) (g : G) : endF (.ex e g) = .ex e none := rfl
@[simp] theorem ef_ite (c : Prop) [Decidable c] (x y : Rs Fl) : endF (if c then x else y) = if c then endF x else endF y := by split <;> rfl

/-! iterators, loops -/
@[simp] theorem ev_iSeq (f : M R) (g : G) : iSeq f g = (esc f g).andThen toIt := rfl
@[simp] theorem ev_toIt (d : D) (g : G) : toIt (.fz d) g = match itemsD d with
    | some ds => .ok ds g
    | none => .bad := rfl
@[simp] theorem it_lst (ds : List D) : itemsD (.lst ds) = some ds := rfl
@[simp] theorem it_tup (ds : List D) : itemsD (.tup ds) = some ds := rfl
@[simp] theorem it_str (z : Str) : itemsD (.str z) = some (Str.signs z) := rfl
@[simp] theorem it_scr (ns : List Int) : itemsD (.scr ns) = some (ns.map D.int) := rfl
@[simp] theorem ev_iRng1 (k : M (List R)) (g : G) : iRng1 k g = (k g).andThen toRng1 := rfl
@[simp] theorem ev_toRng1 (n : Int) (g : G) : toRng1 [.fz (.int n)] g = if -(2 ^ 62) ≤ n ∧ n < 2 ^ 62 then .ok (rngI 0 n.toNat) g else .bad := rfl
@[simp] theorem ev_iRng2 (k : M (List R)) (g : G) : iRng2 k g = (k g).andThen toRng2 := rfl
@[simp] theorem ev_toRng2 (a b : Int) (g : G) : toRng2 [.fz (.int a), .fz (.int b)] g = if -(2 ^ 62) ≤ a ∧ a < 2 ^ 62 ∧ -(2 ^ 62) ≤ b ∧ b < 2 ^ 62 then .ok (rngI a (b - a).toNat) g else .bad := rfl
@[simp] theorem ev_for (it : M (List D)) (t : R → M Unit) (body : M Fl) (g : G) : sFor it t body g = (it g).andThen fun ds => forL t body ds := rfl
@[simp] theorem ev_yes (g : G) : cYes g = .ok true g := rfl
@[simp] theorem for_nil (t : R → M Unit) (body : M Fl) (g : G) : forL t body [] g = .ok .nx g := rfl
/-- one turn -/
def turn (t : R → M Unit) (body : M Fl) (d : D) (g : G) : Rs Fl := (noEx (t (.fz d) g)).andThen fun _ g1 => body g1
theorem for_cons (t : R → M Unit) (body : M Fl) (d : D) (ds : List D) (g : G) : forL t body (d :: ds) g = match turn t body d g with
    | .ok .nx g2 => forL t body ds g2
    | .ok .ct g2 => forL t body ds g2
    | .ok .bk g2 => .ok .nx g2
    | r => r := by
  show ((noEx (t (.fz d) g)).andThen fun _ g1 => match body g1 with
    | .ok .nx g2 => forL t body ds g2
    | .ok .ct g2 => forL t body ds g2
    | .ok .bk g2 => .ok .nx g2
    | r => r) = _
  unfold turn
  cases noEx (t (.fz d) g) <;> rfl
/-- a loop that ends -/
theorem for_inv {t : R → M Unit} {body : M Fl} (I : List D → G → Prop) : ∀ (ds pre : List D) (g : G), I pre g →
    (∀ p d s g, pre ++ ds = p ++ d :: s → I p g → ∃ g2, (turn t body d g = .ok .nx g2 ∨ turn t body d g = .ok .ct g2) ∧ I (p ++ [d]) g2) → ∃ g', forL t body ds g = .ok .nx g' ∧ I (pre ++ ds) g'
  | [], pre, g, h, _ => ⟨g, rfl, by rwa [List.append_nil]⟩
  | d :: ds, pre, g, h, st => by
    obtain ⟨g2, h1, h2⟩ := st pre d ds g rfl h
    obtain ⟨g', h3, h4⟩ := for_inv I ds (pre ++ [d]) g2 h2 fun p d' s g e => st p d' s g (by rw [← e, List.append_assoc]; rfl)
    refine ⟨g', ?_, by rw [show pre ++ d :: ds = pre ++ [d] ++ ds by rw [List.append_assoc]; rfl]; exact h4⟩
    rw [for_cons]
    rcases h1 with h1 | h1 <;> rw [h1] <;> exact h3
/-- a loop that may return early -/
theorem for_find {t : R → M Unit} {body : M Fl} (I : G → Prop) (p : D → Bool) (r : D → R) : ∀ (ds : List D) (g : G), I g →
    (∀ d ∈ ds, ∀ g, I g → (p d = true → ∃ g2, turn t body d g = .ok (.rt (r d)) g2 ∧ I g2) ∧ (p d = false → ∃ g2, (turn t body d g = .ok .nx g2 ∨ turn t body d g = .ok .ct g2) ∧ I g2)) →
    match ds.find? p with
    | some d => ∃ g', forL t body ds g = .ok (.rt (r d)) g' ∧ I g'
    | none => ∃ g', forL t body ds g = .ok .nx g' ∧ I g'
  | [], g, h, _ => ⟨g, rfl, h⟩
  | d :: ds, g, h, st => by
    obtain ⟨h1, h2⟩ := st d List.mem_cons_self g h
    cases e : p d with
    | true =>
      rw [List.find?_cons_of_pos e]
      obtain ⟨g2, h3, h4⟩ := h1 e
      exact ⟨g2, by rw [for_cons, h3], h4⟩
    | false =>
      rw [List.find?_cons_of_neg (by rw [e]; decide)]
      obtain ⟨g2, h3, h4⟩ := h2 e
      have ih := for_find I p r ds g2 h4 fun d' hd => st d' (List.mem_cons_of_mem _ hd)
      have e2 : forL t body (d :: ds) g = forL t body ds g2 := by rw [for_cons]; rcases h3 with h3 | h3 <;> rw [h3]
      rw [e2]; exact ih

/-! comprehensions -/
/-- one turn of a comprehension -/
def lcStep (t : R → M Unit) (c : M Bool) (e : M R) (d : D) (g : G) : Rs (Option D) :=
  (noEx (t (.fz d) g)).andThen fun _ g1 => (noEx (c g1)).andThen fun b g2 =>
      if b = true then (noEx (esc e g2)).andThen fun x g3 => match x with
        | .fz y => .ok (some y) g3
        | _ => .bad
      else .ok none g2
theorem lcL_cons (t : R → M Unit) (c : M Bool) (e : M R) (vs : List Nat) (d : D) (ds acc : List D) (g : G) :
    lcL t c e vs (d :: ds) acc g = (lcStep t c e d (wipeG g vs)).andThen fun y g3 => match y with
      | some y => lcL t c e vs ds (acc ++ [y]) g3
      | none => lcL t c e vs ds acc g3 := by
  show ((noEx (t (.fz d) (wipeG g vs))).andThen fun _ g1 => (noEx (c g1)).andThen fun b g2 =>
      if b = true then (noEx (esc e g2)).andThen fun x g3 => match x with
        | .fz y => lcL t c e vs ds (acc ++ [y]) g3
        | _ => .bad
      else lcL t c e vs ds acc g2) = _
  unfold lcStep
  cases noEx (t (.fz d) (wipeG g vs)) with
  | bad => rfl
  | ex _ _ => rfl
  | ok _ g1 =>
    show (noEx (c g1)).andThen _ = ((noEx (c g1)).andThen _).andThen _
    cases noEx (c g1) with
    | bad => rfl
    | ex _ _ => rfl
    | ok b g2 =>
      cases b with
      | false => rfl
      | true =>
        show (noEx (esc e g2)).andThen _ = ((noEx (esc e g2)).andThen _).andThen _
        cases noEx (esc e g2) with
        | bad => rfl
        | ex _ _ => rfl
        | ok x g3 => cases x <;> rfl
theorem wipeG_at (g : G) (i : Nat) : ∀ vs : List Nat, (wipeG g vs)[i]? = if i ∈ vs ∧ i < g.length then some none else g[i]?
  | [] => by simp [wipeG]
  | v :: vs => by
    have ih := wipeG_at g i vs
    unfold wipeG
    rw [List.getElem?_set, ih, wipeG_len]
    by_cases e : v = i
    · subst e
      by_cases l : v < g.length
      · simp [l]
      · simp [l, List.getElem?_eq_none (Nat.le_of_not_lt l)]
    · simp [e, Ne.symm e, List.mem_cons, show (i = v) = False from eq_false fun z => e z.symm]
theorem backG_leng (g0 g : G) : ∀ vs : List Nat, (backG g0 g vs).length = g.length
  | [] => rfl
  | v :: vs => by unfold backG; rw [List.length_set, backG_leng g0 g vs]
theorem backG_at (g0 g : G) (i : Nat) : ∀ vs : List Nat, (backG g0 g vs)[i]? = if i ∈ vs ∧ i < g.length then some (keepFz g0[i]?) else g[i]?
  | [] => by simp [backG]
  | v :: vs => by
    have ih := backG_at g0 g i vs
    unfold backG
    rw [List.getElem?_set, ih, backG_leng]
    by_cases e : v = i
    · subst e
      by_cases l : v < g.length
      · simp [l]
      · simp [l, List.getElem?_eq_none (Nat.le_of_not_lt l)]
    · simp [e, Ne.symm e, List.mem_cons, show (i = v) = False from eq_false fun z => e z.symm]
theorem backG_wipe (g0 g : G) (vs : List Nat) : backG g0 g vs = backG g0 (wipeG g vs) vs := by
  apply List.ext_getElem?
  intro i
  rw [backG_at, backG_at, wipeG_at, wipeG_len]
  split <;> rename_i h
  · rfl
  · rfl
theorem wipeG_twice (g : G) (vs : List Nat) : wipeG (wipeG g vs) vs = wipeG g vs := by
  apply List.ext_getElem?
  intro i
  rw [wipeG_at, wipeG_at, wipeG_len]
  split <;> rfl
theorem lcL_pure {t : R → M Unit} {c : M Bool} {e : M R} {vs : List Nat} {g : G} {ψ : D → Option D} : ∀ (ds acc : List D) (g1 : G), wipeG g1 vs = wipeG g vs →
    (∀ d ∈ ds, ∃ g3, lcStep t c e d (wipeG g vs) = .ok (ψ d) g3 ∧ wipeG g3 vs = wipeG g vs) → ∃ g', lcL t c e vs ds acc g1 = .ok (acc ++ ds.filterMap ψ) g' ∧ wipeG g' vs = wipeG g vs
  | [], acc, g1, h, _ => ⟨g1, by simp [lcL], h⟩
  | d :: ds, acc, g1, h, st => by
    obtain ⟨g3, h1, h2⟩ := st d List.mem_cons_self
    rw [lcL_cons, h, h1]
    have ih := fun acc => lcL_pure (t := t) (c := c) (e := e) (ψ := ψ) ds acc g3 h2 fun d' hd => st d' (List.mem_cons_of_mem _ hd)
    cases hy : ψ d with
    | none =>
      obtain ⟨g', h3, h4⟩ := ih acc
      exact ⟨g', by rw [List.filterMap_cons_none hy]; exact h3, h4⟩
    | some y =>
      obtain ⟨g', h3, h4⟩ := ih (acc ++ [y])
      exact ⟨g', by rw [List.filterMap_cons_some hy, then_ok]; simpa using h3, h4⟩
/-- a comprehension whose items leave the names outside as they are -/
theorem eLc_pure {it : M (List D)} {t : R → M Unit} {c : M Bool} {e : M R} {vs : List Nat} {g g0 : G} {ds : List D} (ψ : D → Option D) (hi : it g0 = .ok ds g) (hl : ds.length ≤ sizeLine)
    (st : ∀ d ∈ ds, ∃ g3, lcStep t c e d (wipeG g vs) = .ok (ψ d) g3 ∧ wipeG g3 vs = wipeG g vs) : eLc it t c e vs g0 = .ok (.ow (.ls (ds.filterMap ψ))) (backG g (wipeG g vs) vs) := by
  obtain ⟨g', h1, h2⟩ := lcL_pure (ψ := ψ) ds [] g rfl st
  show (it g0).andThen _ = _
  rw [hi, then_ok, if_pos hl, h1, then_ok, backG_wipe, h2]
  rfl
/-- .. with an item for each turn -/
theorem eLc_map {it : M (List D)} {t : R → M Unit} {c : M Bool} {e : M R} {vs : List Nat} {g g0 : G} {ds : List D} (ψ : D → D) (hi : it g0 = .ok ds g) (hl : ds.length ≤ sizeLine)
    (st : ∀ d ∈ ds, ∃ g3, lcStep t c e d (wipeG g vs) = .ok (some (ψ d)) g3 ∧ wipeG g3 vs = wipeG g vs) : eLc it t c e vs g0 = .ok (.ow (.ls (ds.map ψ))) (backG g (wipeG g vs) vs) := by
  rw [eLc_pure (fun d => some (ψ d)) hi hl st, List.filterMap_eq_map']
theorem for_inv_e {t : R → M Unit} {body : M Fl} {ds : List D} {g : G} {F : Rs Fl} (hf : forL t body ds g = F) (I : List D → G → Prop) (h0 : I [] g)
    (st : ∀ p d s g, ds = p ++ d :: s → I p g → ∃ g2, (turn t body d g = .ok .nx g2 ∨ turn t body d g = .ok .ct g2) ∧ I (p ++ [d]) g2) : ∃ g', F = .ok .nx g' ∧ I ds g' := by
  subst hf
  exact for_inv I ds [] g h0 st
theorem for_find_e {t : R → M Unit} {body : M Fl} {ds : List D} {g : G} {F : Rs Fl} (hf : forL t body ds g = F) (I : G → Prop) (p : D → Bool) (r : D → R) (h0 : I g)
    (st : ∀ d ∈ ds, ∀ g, I g → (p d = true → ∃ g2, turn t body d g = .ok (.rt (r d)) g2 ∧ I g2) ∧ (p d = false → ∃ g2, (turn t body d g = .ok .nx g2 ∨ turn t body d g = .ok .ct g2) ∧ I g2)) :
    match ds.find? p with
    | some d => ∃ g', F = .ok (.rt (r d)) g' ∧ I g'
    | none => ∃ g', F = .ok .nx g' ∧ I g' := by
  subst hf
  exact for_find I p r ds g h0 st
theorem eLc_pure_e {it : M (List D)} {t : R → M Unit} {c : M Bool} {e : M R} {vs : List Nat} {g g0 : G} {ds : List D} {F : Rs R} (hf : eLc it t c e vs g0 = F) (ψ : D → Option D) (hi : it g0 = .ok ds g) (hl : ds.length ≤ sizeLine)
    (st : ∀ d ∈ ds, ∃ g3, lcStep t c e d (wipeG g vs) = .ok (ψ d) g3 ∧ wipeG g3 vs = wipeG g vs) : F = .ok (.ow (.ls (ds.filterMap ψ))) (backG g (wipeG g vs) vs) := by
  subst hf; exact eLc_pure ψ hi hl st
theorem eLc_map_e {it : M (List D)} {t : R → M Unit} {c : M Bool} {e : M R} {vs : List Nat} {g g0 : G} {ds : List D} {F : Rs R} (hf : eLc it t c e vs g0 = F) (ψ : D → D) (hi : it g0 = .ok ds g) (hl : ds.length ≤ sizeLine)
    (st : ∀ d ∈ ds, ∃ g3, lcStep t c e d (wipeG g vs) = .ok (some (ψ d)) g3 ∧ wipeG g3 vs = wipeG g vs) : F = .ok (.ow (.ls (ds.map ψ))) (backG g (wipeG g vs) vs) := by
  subst hf; exact eLc_map ψ hi hl st

/-! drawn numbers -/
theorem atI_some {α : Type} (xs : List α) (k : Int) (h0 : 0 ≤ k) (h : k < xs.length) : ∃ x, atI xs k = some x ∧ xs[k.toNat]? = some x := by
  have e : k.toNat < xs.length := by omega
  refine ⟨xs[k.toNat], ?_, List.getElem?_eq_getElem e⟩
  unfold atI ixN
  rw [if_pos h0, if_pos h]
  exact List.getElem?_eq_getElem e
theorem rngI_len (a : Int) (n : Nat) : (rngI a n).length = n := by simp [rngI]
theorem rngI_mem {a : Int} {n : Nat} {d : D} (h : d ∈ rngI a n) : ∃ i : Nat, i < n ∧ d = .int (a + i) := by
  unfold rngI at h
  rw [List.mem_map] at h
  obtain ⟨i, hi, e⟩ := h
  exact ⟨i, List.mem_range.mp hi, e.symm⟩
theorem rngI_mem' {a : Int} {n : Nat} {d : D} (h : d ∈ rngI a n) : ∃ i : Int, a ≤ i ∧ i < a + n ∧ d = .int i := by
  obtain ⟨i, hi, rfl⟩ := rngI_mem h
  exact ⟨a + i, by omega, by omega, rfl⟩
def cellI (ns : List Int) (k : Int) : Int := if k < ns.length then (atI ns k).getD 0 else 0
def Dr (m : Int) (xs : List Int) : Prop := ∀ x ∈ xs, 0 ≤ x ∧ x < m
theorem Dr.snoc {m : Int} {xs : List Int} (h : Dr m xs) (hm : 0 < m) (x : Int) : Dr m (xs ++ [x % m]) := by
  intro y hy
  rcases List.mem_append.mp hy with q | q
  · exact h y q
  · rw [List.mem_singleton.mp q]; exact ⟨Int.emod_nonneg _ (by omega), Int.emod_lt_of_pos _ hm⟩
/-! texts -/
theorem Str.ext {a b : Str} (h : a.cps.toList = b.cps.toList) : a = b := by
  cases a; cases b; congr 1; exact Array.toList_inj.mp h
theorem join_len1 (sep : Str) (hs : sep.length = 0) : ∀ ys : List Str, (∀ y ∈ ys, y.length = 1) → (Txt.join sep ys).length = ys.length := by
  intro ys h
  show (Builtin.Str.glued sep ys).length = _
  rw [StrLaws.glued_eq_join]
  cases ys with
  | nil => rfl
  | cons a l =>
    rw [PyProof.Rows.len_join_cons, hs]
    have : ∀ zs : List Str, (∀ y ∈ zs, y.length = 1) → (zs.map (·.length)).sum = zs.length := by
      intro zs
      induction zs with
      | nil => intro _; rfl
      | cons z r ih => intro h; rw [List.map_cons, List.sum_cons, ih fun y hy => h y (List.mem_cons_of_mem _ hy), h z List.mem_cons_self, List.length_cons]; omega
    rw [this _ h]; omega
theorem len_le_sum : ∀ (zs : List Str), ∀ y ∈ zs, y.length ≤ (zs.map (·.length)).sum
  | z :: r, y, hy => by
    rw [List.map_cons, List.sum_cons]
    rcases List.mem_cons.mp hy with rfl | h
    · omega
    · have := len_le_sum r y h; omega
/-- the pieces of a text are fewer and shorter than it is long -/
theorem split_small (x y : Str) (hy : 1 ≤ y.length) : (Txt.split x y).length ≤ x.length + 1 ∧ (∀ z ∈ Txt.split x y, z.length ≤ x.length + 1) ∧ ((Txt.split x y).map (·.length)).sum ≤ x.length + 1 := by
  have h := PyProof.Rows.split_weight x y hy
  exact ⟨by omega, fun z hz => by have := len_le_sum _ z hz; omega, by omega⟩
theorem split_ok (x y : Str) (hy : 1 ≤ y.length) (hx : x.length + 2 ≤ sizeLine) : mSplit (.str x) [.str y] = some (.ow (.ls ((Txt.split x y).map .str))) := by
  obtain ⟨h1, h2, _⟩ := split_small x y hy
  show (if _ ∧ _ ∧ _ ∧ _ then _ else _) = _
  rw [if_pos]
  exact ⟨by simp; omega, hx, by omega, List.all_eq_true.mpr fun z hz => decide_eq_true (by have := h2 z hz; omega)⟩
/-- a repr's guard, of a list of plain texts -/
theorem weight_strs : ∀ zs : List Str, PyData.weightAll (pyL (zs.map D.str)) = (zs.map (·.length)).sum + zs.length
  | [] => rfl
  | z :: r => by
    show z.cps.size + 1 + PyData.weightAll (pyL (r.map D.str)) = z.length + (r.map (·.length)).sum + (r.length + 1)
    rw [weight_strs r]; show z.length + 1 + _ = _; omega
theorem short_strs (B : Nat) : ∀ zs : List Str, (∀ z ∈ zs, ∀ c ∈ z.cps.toList, c < 16 ^ 8) → PyData.leavesShortAll B (pyL (zs.map D.str)) = true
  | [], _ => rfl
  | z :: r, h => by
    show (PyData.leavesShort B (.str z) && PyData.leavesShortAll B (pyL (r.map D.str))) = true
    rw [short_strs B r fun z hz => h z (List.mem_cons_of_mem _ hz), Bool.and_true]
    show (z.cps.toList.all fun c => decide (c < 16 ^ 8)) = true
    exact List.all_eq_true.mpr fun c hc => decide_eq_true (h z List.mem_cons_self c hc)
theorem flat_strs : ∀ zs : List Str, flatL (zs.map D.str) = true
  | [] => rfl
  | z :: r => by show (true && flatL (r.map D.str)) = true; rw [flat_strs r]; rfl
theorem show_strs : ∀ zs : List Str, PyData.showableAll (pyL (zs.map D.str)) = true
  | [] => rfl
  | z :: r => by show (true && PyData.showableAll (pyL (r.map D.str))) = true; rw [show_strs r]; rfl
theorem depth_strs : ∀ zs : List Str, PyData.depthAll (pyL (zs.map D.str)) ≤ 1
  | [] => Nat.zero_le _
  | z :: r => by
    have := depth_strs r
    show max (PyData.depth (.str z)) (PyData.depthAll (pyL (r.map D.str))) ≤ 1
    have e : PyData.depth (.str z) ≤ 1 := by first | exact Nat.le_refl 1 | exact Nat.zero_le 1
    omega
theorem okRepr_strs (zs : List Str) (h1 : ∀ z ∈ zs, ∀ c ∈ z.cps.toList, c < 16 ^ 8) (h2 : (zs.map (·.length)).sum + zs.length ≤ 100000) : okRepr (.lst (zs.map D.str)) = true := by
  have a := PyData.shown_le 8 (Nat.le_refl _) (.list (pyL (zs.map D.str))) (short_strs 8 zs h1)
  have b : PyData.weight (.list (pyL (zs.map D.str))) = PyData.weightAll (pyL (zs.map D.str)) := rfl
  rw [b, weight_strs] at a
  have d := depth_strs zs
  unfold okRepr
  rw [Bool.and_eq_true, Bool.and_eq_true, Bool.and_eq_true]
  refine ⟨⟨⟨flat_strs zs, show_strs zs⟩, decide_eq_true ?_⟩, decide_eq_true ?_⟩
  · show PyData.depthAll (pyL (zs.map D.str)) + 1 ≤ 64
    omega
  · show (PyData.shown (.list (pyL (zs.map D.str)))).length ≤ 16777216
    omega

/-! signs of a text -/
theorem signs_len (z : Str) : (Str.signs z).length = z.length := by unfold Str.signs; rw [List.length_map]; rfl
theorem signs_mem {z : Str} {d : D} (h : d ∈ Str.signs z) : ∃ c, c ∈ z.cps.toList ∧ d = .str ⟨#[c]⟩ := by
  unfold Str.signs at h
  rw [List.mem_map] at h
  obtain ⟨c, hc, e⟩ := h
  exact ⟨c, hc, e.symm⟩
def inS (S : Str) : D → D
  | .str z => .bl (subS z S)
  | _ => .non
def inB (S z : Str) : List Bool := z.cps.toList.map fun c => decide (c ∈ S.cps.toList)
/-- all signs of z are in S -/
def okC (S z : Str) : Bool := (inB S z).all id
theorem okC_iff {S z : Str} : okC S z = true ↔ ∀ c ∈ z.cps.toList, c ∈ S.cps.toList := by
  unfold okC inB
  rw [List.all_eq_true]
  constructor
  · intro h c hc; exact of_decide_eq_true (h _ (List.mem_map_of_mem hc))
  · intro h b hb
    obtain ⟨c, hc, rfl⟩ := List.mem_map.mp hb
    exact decide_eq_true (h c hc)
@[simp high] theorem fn_all_in (S z : Str) : fAll [.lst ((inB S z).map D.bl)] = some (.fz (.bl (okC S z))) := by rw [fn_all, bolsOf_map]; rfl
theorem signs_in (z S : Str) : (Str.signs z).map (inS S) = (inB S z).map D.bl := by
  unfold Str.signs inB
  rw [List.map_map, List.map_map]
  apply List.map_congr_left
  intro c _
  show D.bl (subS ⟨#[c]⟩ S) = _
  rw [sub_sign]
  rfl
/-- [c in S for c in z] -/
theorem lc_in {g : G} {i v : Nat} {z S : Str} {e : M R} (hg : g[i]? = some (some (.fz (.str z)))) (hv : v < g.length) (hz : z.length ≤ sizeLine) (he : ∀ g', e g' = .ok (.fz (.str S)) g') :
    eLc (iSeq (eVar i)) (setSl v) cYes (eB (cIn false) (eVar v) e) [v] g = .ok (.ow (.ls ((inB S z).map D.bl))) (g.set v (keepFz g[v]?)) := by
  have hb : backG g (wipeG g [v]) [v] = g.set v (keepFz g[v]?) := by simp [backG, wipeG]
  rw [← signs_in, ← hb]
  refine eLc_map (inS S) (by simp [hg]) (by rw [signs_len]; exact hz) fun d hd => ?_
  obtain ⟨c, _, rfl⟩ := signs_mem hd
  refine ⟨g.set v (some (.fz (.str ⟨#[c]⟩))), ?_, ?_⟩
  · simp [lcStep, wipeG, hv, inS, he]
  · simp [wipeG]

@[simp] theorem ev_eCh (op op' : D → D → Option R) (f k j : M R) (g : G) : eCh op op' f k j g = (pk f g).andThen fun x g1 => (pk k g1).andThen fun y g2 => (op2 op x y g2).andThen fun z g3 => (toB z g3).andThen fun t => if t = true then mb (pk j) fun w => op2 op' y w else eC (.bl false) := rfl
theorem fn_str {i : Int} (h : i.natAbs.log2 < 1920 ∧ (toString i : Str).length ≤ sizeLine) : fStr [.int i] = some (.fz (.str (toString i))) := by
  show (if _ then _ else _) = _
  rw [if_pos h]
theorem mem_strs (z : Str) (l : List Str) : memD (.str z) (l.map D.str) = decide (z ∈ l) := by
  unfold memD inV
  rw [List.map_map, List.any_map]
  show l.any (fun a => a == z) = _
  rw [Bool.eq_iff_iff, List.any_eq_true, decide_eq_true_eq]
  constructor
  · rintro ⟨a, ha, e⟩; rw [← eq_of_beq e]; exact ha
  · intro h; exact ⟨z, h, beq_self_eq_true z⟩
theorem flat_all (l : List Str) : (l.map D.str).all flatI = true := by
  rw [List.all_map]; exact List.all_eq_true.mpr fun _ _ => rfl

theorem seq_step {P : Rs Fl → Prop} {a b : M Fl} {g : G} (g1 : G) (h : a g = .ok .nx g1) (k : P (b g1)) : P (sSeq a b g) := by
  rw [sSeq_nx h]; exact k
/-- [e(x) for x in numbers], one sign each -/
theorem lc_pick {it : M (List D)} {e : M R} {v : Nat} {g g0 : G} {xs : List Int} (f : Int → Nat) (hi : it g0 = .ok (xs.map D.int) g) (hl : xs.length ≤ 1000) (hv : v < g.length)
    (he : ∀ x ∈ xs, e (g.set v (some (.fz (.int x)))) = .ok (.fz (.str ⟨#[f x]⟩)) (g.set v (some (.fz (.int x))))) :
    eLc it (setSl v) cYes e [v] g0 = .ok (.ow (.ls ((xs.map fun x => (⟨#[f x]⟩ : Str)).map D.str))) (g.set v (keepFz g[v]?)) := by
  have hb : backG g (wipeG g [v]) [v] = g.set v (keepFz g[v]?) := by simp [backG, wipeG]
  have e1 : (xs.map fun x => (⟨#[f x]⟩ : Str)).map D.str = (xs.map D.int).map fun d => match d with
      | .int x => .str ⟨#[f x]⟩
      | _ => .non := by rw [List.map_map, List.map_map]; rfl
  rw [e1, ← hb]
  refine eLc_map _ hi (by rw [List.length_map]; exact Nat.le_trans hl (by decide)) fun d hd => ?_
  obtain ⟨x, hx, rfl⟩ := List.mem_map.mp hd
  have q := he x hx
  refine ⟨g.set v (some (.fz (.int x))), ?_, by simp [wipeG]⟩
  simp [lcStep, wipeG, q]
/-- the text of single signs -/
def oneS (f : Int → Nat) (xs : List Int) : Str := Txt.join "" (xs.map fun x => (⟨#[f x]⟩ : Str))
theorem oneS_len (f : Int → Nat) (xs : List Int) : (oneS f xs).length = xs.length := by
  unfold oneS
  rw [join_len1 "" rfl _ (by intro y hy; obtain ⟨x, _, rfl⟩ := List.mem_map.mp hy; rfl), List.length_map]
theorem sum_len1 : ∀ ys : List Str, (∀ y ∈ ys, y.length = 1) → (ys.map (·.length)).sum = ys.length
  | [], _ => rfl
  | z :: r, h => by rw [List.map_cons, List.sum_cons, sum_len1 r fun y hy => h y (List.mem_cons_of_mem _ hy), h z List.mem_cons_self, List.length_cons]; omega
theorem join_ok (sep : Str) (ys : List Str) (h : (ys.map (·.length)).sum + ys.length * sep.length ≤ 16777216) : mJoin (.str sep) [.lst (ys.map D.str)] = some (.fz (.str (Txt.join sep ys))) := by
  show (strsOf (ys.map D.str)).bind _ = _
  rw [strsOf_map]
  show (if _ then _ else _) = _
  rw [if_pos h]
theorem join_one (f : Int → Nat) (xs : List Int) (hl : xs.length ≤ 1000) : mJoin (.str (Str.ofString "")) [.lst ((xs.map fun x => (⟨#[f x]⟩ : Str)).map D.str)] = some (.fz (.str (oneS f xs))) := by
  refine join_ok _ _ ?_
  rw [sum_len1 _ (by intro y hy; obtain ⟨x, _, rfl⟩ := List.mem_map.mp hy; rfl), List.length_map]
  have : (Str.ofString "").length = 0 := rfl
  rw [this]; omega
/-- a filtered join is short -/
theorem sum_filter (p : Str → Bool) : ∀ ys : List Str, ((ys.filter p).map (·.length)).sum ≤ (ys.map (·.length)).sum
  | [] => Nat.le_refl _
  | y :: r => by
    have := sum_filter p r
    rw [List.filter_cons]
    split
    · rw [List.map_cons, List.sum_cons, List.map_cons, List.sum_cons]; omega
    · rw [List.map_cons, List.sum_cons]; omega
theorem join_len_le (sep : Str) (ys : List Str) : (Txt.join sep ys).length ≤ (ys.map (·.length)).sum + ys.length * sep.length := by
  show (Builtin.Str.glued sep ys).length ≤ _
  rw [StrLaws.glued_eq_join]
  exact StrLaws.join_length_le sep ys

theorem seq_stepE {P : Rs Fl → Prop} {a b : M Fl} {g : G} (Q : G → Prop) (h : ∃ g1, a g = .ok .nx g1 ∧ Q g1) (k : ∀ g1, Q g1 → P (b g1)) : P (sSeq a b g) := by
  obtain ⟨g1, h1, h2⟩ := h
  rw [sSeq_nx h1]; exact k g1 h2
@[simp] theorem kf_none : keepFz (some none) = none := rfl
@[simp] theorem kf_fz (d : D) : keepFz (some (some (.fz d))) = some (.fz d) := rfl
/-- [w for w in texts if w != ''] -/
theorem lc_ne {it : M (List D)} {v : Nat} {g g0 : G} {ys : List Str} (hi : it g0 = .ok (ys.map D.str) g) (hl : ys.length ≤ 1000) (hv : v < g.length) :
    eLc it (setSl v) (eTest (eB cNe (eVar v) (eC (.str "")))) (eVar v) [v] g0 = .ok (.ow (.ls ((ys.filter fun y => !(y == ("" : Str))).map D.str))) (g.set v (keepFz g[v]?)) := by
  have hb : backG g (wipeG g [v]) [v] = g.set v (keepFz g[v]?) := by simp [backG, wipeG]
  have e1 : (ys.filter fun y => !(y == ("" : Str))).map D.str = (ys.map D.str).filterMap fun d => match d with
      | .str y => if y = "" then none else some (.str y)
      | _ => none := by
    rw [List.filterMap_map]
    induction ys with
    | nil => rfl
    | cons y r ih =>
      have ih' : ∀ r : List Str, (r.filter fun y => !(y == ("" : Str))).map D.str = r.filterMap ((fun d => match d with
        | .str y => if y = "" then none else some (.str y)
        | _ => none) ∘ D.str) := by
        intro r
        induction r with
        | nil => rfl
        | cons y r ih =>
          rw [List.filter_cons, List.filterMap_cons]
          by_cases h : y = ""
          · simp only [h, Function.comp_apply]; simpa using ih
          · simp only [h, Function.comp_apply]; simpa [h] using ih
      exact ih' (y :: r)
  rw [e1, ← hb]
  refine eLc_pure _ hi (by rw [List.length_map]; exact Nat.le_trans hl (by decide)) fun d hd => ?_
  obtain ⟨x, hx, rfl⟩ := List.mem_map.mp hd
  refine ⟨g.set v (some (.fz (.str x))), ?_, by simp [wipeG]⟩
  by_cases h : x = ""
  · simp [lcStep, wipeG, hv, h]
  · simp [lcStep, wipeG, hv, h]
theorem join_cps0 : ∀ ys : List Str, (Str.join ("" : Str) ys).cps.toList = (ys.map fun y => y.cps.toList).flatten
  | [] => rfl
  | [a] => by simp [Str.join]
  | a :: b :: r => by
    have ih := join_cps0 (b :: r)
    show ((a ++ ("" : Str)) ++ Str.join ("" : Str) (b :: r)).cps.toList = _
    rw [Str.cps_append, Str.cps_append, Array.toList_append, Array.toList_append, ih]
    have : (Str.ofString "").cps.toList = [] := rfl
    rw [this, List.append_nil]
    rfl
theorem oneS_cps (f : Int → Nat) (xs : List Int) : (oneS f xs).cps.toList = xs.map f := by
  unfold oneS
  show (Builtin.Str.glued ("" : Str) _).cps.toList = _
  rw [StrLaws.glued_eq_join, join_cps0, List.map_map]
  show (xs.map fun x => [f x]).flatten = _
  induction xs with
  | nil => rfl
  | cons x r ih => rw [List.map_cons, List.flatten_cons, ih]; rfl
end DL

namespace DL
open PySem PySem.Spec L2

/-! # more plain side: comparisons of lists, ranges, slices -/
theorem flat_ints : ∀ xs : List Int, flatL (xs.map D.int) = true
  | [] => rfl
  | z :: r => by show (true && flatL (r.map D.int)) = true; rw [flat_ints r]; rfl
theorem lay_ints : ∀ xs : List Int, PyData.canLayAll0 (pyL (xs.map D.int)) = true
  | [] => rfl
  | z :: r => by show (true && PyData.canLayAll0 (pyL (r.map D.int))) = true; rw [lay_ints r]; rfl
theorem depth_ints : ∀ zs : List Int, PyData.depthAll (pyL (zs.map D.int)) ≤ 1
  | [] => Nat.zero_le _
  | z :: r => by
    have := depth_ints r
    show max (PyData.depth (.int z)) (PyData.depthAll (pyL (r.map D.int))) ≤ 1
    have e : PyData.depth (.int z) ≤ 1 := by first | exact Nat.le_refl 1 | exact Nat.zero_le 1
    omega
theorem lay_strs : ∀ xs : List Str, (∀ x ∈ xs, PyData.strOk x = true) → PyData.canLayAll0 (pyL (xs.map D.str)) = true
  | [], _ => rfl
  | z :: r, h => by
    show (PyData.strOk z && PyData.canLayAll0 (pyL (r.map D.str))) = true
    rw [lay_strs r fun x hx => h x (List.mem_cons_of_mem _ hx), h z List.mem_cons_self]; rfl
theorem eqv_ints : ∀ xs ys : List Int, PyData.eqvAll (pyL (xs.map D.int)) (pyL (ys.map D.int)) = (xs == ys)
  | [], [] => rfl
  | [], y :: ys => rfl
  | x :: xs, [] => rfl
  | x :: xs, y :: ys => by
    show ((x == y) && PyData.eqvAll (pyL (xs.map D.int)) (pyL (ys.map D.int))) = _
    rw [eqv_ints xs ys]; rfl
theorem eqv_strs : ∀ xs ys : List Str, PyData.eqvAll (pyL (xs.map D.str)) (pyL (ys.map D.str)) = (xs == ys)
  | [], [] => rfl
  | [], y :: ys => rfl
  | x :: xs, [] => rfl
  | x :: xs, y :: ys => by
    show ((x == y) && PyData.eqvAll (pyL (xs.map D.str)) (pyL (ys.map D.str))) = _
    rw [eqv_strs xs ys]; rfl
theorem okEq_li (xs ys : List Int) : okEq (.lst (xs.map D.int)) (.lst (ys.map D.int)) = true := by
  have k : ∀ zs : List Int, SeqAt.shaped (D.py (.lst (zs.map D.int))) = true := fun zs => by
    have := depth_ints zs
    show (PyData.canLayAll0 (pyL (zs.map D.int)) && decide (PyData.depthAll (pyL (zs.map D.int)) + 1 ≤ 64)) = true
    rw [lay_ints, Bool.true_and]; exact decide_eq_true (by omega)
  show (flatL (xs.map D.int) && flatL (ys.map D.int) && _ && _) = true
  rw [flat_ints, flat_ints, k, k]; rfl
theorem okEq_ti (xs ys : List Int) : okEq (.tup (xs.map D.int)) (.tup (ys.map D.int)) = true := by
  have k : ∀ zs : List Int, SeqAt.shaped (D.py (.tup (zs.map D.int))) = true := fun zs => by
    have := depth_ints zs
    show (PyData.canLayAll0 (pyL (zs.map D.int)) && decide (PyData.depthAll (pyL (zs.map D.int)) + 1 ≤ 64)) = true
    rw [lay_ints, Bool.true_and]; exact decide_eq_true (by omega)
  show (flatL (xs.map D.int) && flatL (ys.map D.int) && _ && _) = true
  rw [flat_ints, flat_ints, k, k]; rfl
theorem okEq_ls (xs ys : List Str) (hx : ∀ x ∈ xs, PyData.strOk x = true) (hy : ∀ x ∈ ys, PyData.strOk x = true) : okEq (.lst (xs.map D.str)) (.lst (ys.map D.str)) = true := by
  have k : ∀ zs : List Str, (∀ x ∈ zs, PyData.strOk x = true) → SeqAt.shaped (D.py (.lst (zs.map D.str))) = true := fun zs h => by
    have := depth_strs zs
    show (PyData.canLayAll0 (pyL (zs.map D.str)) && decide (PyData.depthAll (pyL (zs.map D.str)) + 1 ≤ 64)) = true
    rw [lay_strs zs h, Bool.true_and]; exact decide_eq_true (by omega)
  show (flatL (xs.map D.str) && flatL (ys.map D.str) && _ && _) = true
  rw [flat_strs, flat_strs, k xs hx, k ys hy]; rfl
theorem cNe_li (xs ys : List Int) : cNe (.lst (xs.map D.int)) (.lst (ys.map D.int)) = some (.fz (.bl (!(xs == ys)))) := by
  show (if okEq _ _ = true then _ else _) = _
  rw [if_pos (okEq_li xs ys)]
  show some (R.fz (.bl (!PyData.eqvAll _ _))) = _
  rw [eqv_ints]
theorem cEq_li (xs ys : List Int) : cEq (.lst (xs.map D.int)) (.lst (ys.map D.int)) = some (.fz (.bl (xs == ys))) := by
  show (if okEq _ _ = true then _ else _) = _
  rw [if_pos (okEq_li xs ys)]
  show some (R.fz (.bl (PyData.eqvAll _ _))) = _
  rw [eqv_ints]
theorem cNe_ti (xs ys : List Int) : cNe (.tup (xs.map D.int)) (.tup (ys.map D.int)) = some (.fz (.bl (!(xs == ys)))) := by
  show (if okEq _ _ = true then _ else _) = _
  rw [if_pos (okEq_ti xs ys)]
  show some (R.fz (.bl (!PyData.eqvAll _ _))) = _
  rw [eqv_ints]
theorem cNe_ls (xs ys : List Str) (hx : ∀ x ∈ xs, PyData.strOk x = true) (hy : ∀ x ∈ ys, PyData.strOk x = true) : cNe (.lst (xs.map D.str)) (.lst (ys.map D.str)) = some (.fz (.bl (!(xs == ys)))) := by
  show (if okEq _ _ = true then _ else _) = _
  rw [if_pos (okEq_ls xs ys hx hy)]
  show some (R.fz (.bl (!PyData.eqvAll _ _))) = _
  rw [eqv_strs]
/-! ranges -/
def rngZ (n : Int) : List Int := (List.range n.toNat).map fun (i : Nat) => (0 : Int) + (i : Int)
theorem rngI_Z (n : Int) : rngI 0 n.toNat = (rngZ n).map D.int := by unfold rngI rngZ; rw [List.map_map]; rfl
theorem lrng_Z (n : Int) : lrng 0 n = (rngZ n).map D.int := by unfold lrng rngZ; rw [List.map_map, Int.sub_zero]; rfl
theorem rngZ_len (n : Int) : (rngZ n).length = n.toNat := by simp [rngZ]
theorem rngZ_mem {n i : Int} : i ∈ rngZ n ↔ 0 ≤ i ∧ i < n := by
  unfold rngZ
  rw [List.mem_map]
  constructor
  · rintro ⟨a, ha, rfl⟩; have := List.mem_range.mp ha; omega
  · rintro ⟨h1, h2⟩; exact ⟨i.toNat, List.mem_range.mpr (by omega), by omega⟩
theorem rngZ_nodup (n : Int) : (rngZ n).Nodup := by
  unfold rngZ
  refine List.pairwise_map.mpr (List.nodup_range.imp fun {a b} h e => h (by omega))
theorem bLrg1_ok (n : Int) (h0 : 0 ≤ n) (h1 : n ≤ 1000) : bLrg1 (.int n) = some (.ow (.ls ((rngZ n).map D.int))) := by
  show (if okRg 0 n then _ else _) = _
  rw [if_pos ⟨by omega, by omega, by omega, by omega, by omega⟩, lrng_Z]
@[simp] theorem ev_op1 (op : D → Option R) (x : R) (g : G) : op1 op x g = match cont g x with
  | some d => done (op d) g
  | none => .bad := rfl
@[simp] theorem ev_eU (op : D → Option R) (f : M R) (g : G) : eU op f g = (pk f g).andThen (op1 op) := rfl
@[simp] theorem ev_neg (i : Int) : bNeg (.int i) = some (.fz (.int (-i))) := rfl
/-! slices -/
@[simp] theorem ev_eSl (f : M R) (l h : M (Option Int)) (g : G) : eSl f l h g = (pk f g).andThen fun x g1 => (l g1).andThen fun lo g2 => (h g2).andThen fun hi => opSl x lo hi := rfl
@[simp] theorem ev_ePart (f : M R) (g : G) : ePart f g = (f g).andThen toI := rfl
@[simp] theorem ev_toI (i : Int) (g : G) : toI (.fz (.int i)) g = .ok (some i) g := rfl
@[simp] theorem ev_noPart (g : G) : eNoPart g = .ok none g := rfl
@[simp] theorem ev_opSl (x : R) (lo hi : Option Int) (g : G) : opSl x lo hi g = match cont g x with
  | some d => done (slD lo hi d) g
  | none => .bad := rfl
@[simp] theorem sl_lst (lo hi : Option Int) (xs : List D) : slD lo hi (.lst xs) = some (.ow (.ls (cutL xs lo hi))) := rfl
@[simp] theorem sl_tup (lo hi : Option Int) (xs : List D) : slD lo hi (.tup xs) = some (.fz (.tup (cutL xs lo hi))) := rfl
@[simp] theorem sl_str (lo hi : Option Int) (xs : Str) : slD lo hi (.str xs) = some (.fz (.str (cutS xs lo hi))) := rfl
theorem sIx_pos {n d : Nat} {j : Int} (h : 0 ≤ j) : HT.sIx n d (some j) = min j.toNat n := by
  show (if j < 0 then _ else _) = _
  rw [if_neg (by omega)]
theorem sIx_no {n d : Nat} : HT.sIx n d none = d := rfl
theorem cutL_to {α : Type} (xs : List α) (j : Int) (h : 0 ≤ j) : cutL xs none (some j) = xs.take j.toNat := by
  unfold cutL
  rw [sIx_pos h, sIx_no]
  simp only [List.drop_zero, Nat.sub_zero]
  rw [List.take_eq_take_iff]; omega
theorem cutL_from {α : Type} (xs : List α) (j : Int) (h : 0 ≤ j) : cutL xs (some j) none = xs.drop j.toNat := by
  unfold cutL
  rw [sIx_pos h, sIx_no]
  by_cases q : j.toNat ≤ xs.length
  · rw [Nat.min_eq_left q, List.take_of_length_le (by rw [List.length_drop]; omega)]
  · rw [Nat.min_eq_right (by omega), List.drop_length, List.drop_eq_nil_of_le (by omega)]; simp
theorem cutL_mid {α : Type} (xs : List α) (i j : Int) (h : 0 ≤ i) (h2 : 0 ≤ j) : cutL xs (some i) (some j) = (xs.drop i.toNat).take (j.toNat - i.toNat) := by
  unfold cutL
  rw [sIx_pos h, sIx_pos h2]
  by_cases q : i.toNat ≤ xs.length
  · rw [Nat.min_eq_left q, List.take_eq_take_iff, List.length_drop]; omega
  · rw [Nat.min_eq_right (show xs.length ≤ i.toNat by omega), List.drop_length, List.drop_eq_nil_of_le (by omega)]; simp
theorem cutL_map {α β : Type} (f : α → β) (xs : List α) (lo hi : Option Int) : cutL (xs.map f) lo hi = (cutL xs lo hi).map f := by
  unfold cutL
  rw [List.length_map, List.map_take, List.map_drop]
theorem atI_map {α β : Type} (f : α → β) (xs : List α) (i : Int) : atI (xs.map f) i = (atI xs i).map f := by
  unfold atI
  rw [List.length_map]
  cases ixN xs.length i with
  | none => rfl
  | some j => exact List.getElem?_map
/-! unpacking -/
@[simp] theorem ev_gUn (n : Nat) (t : List D → M Unit) (ds : List D) (g : G) : gUn n t (.fz (.tup ds)) g = if ds.length = n then t ds g else .bad := rfl
@[simp] theorem ev_gsNil (g : G) : gsNil [] g = .ok () g := rfl
@[simp] theorem ev_gsCons (t : R → M Unit) (u : List D → M Unit) (d : D) (ds : List D) (g : G) : gsCons t u (d :: ds) g = (t (.fz d) g).andThen fun _ => u ds := rfl

/-- a loop; each turn is shown under an unknown predicate, so that simp can find the state behind it -/
theorem for_inv_P {t : R → M Unit} {body : M Fl} {ds : List D} {g : G} {F : Rs Fl} (hf : forL t body ds g = F) (I : List D → G → Prop) (h0 : I [] g)
    (st : ∀ p d s g, ds = p ++ d :: s → I p g → ∀ P : Rs Fl → Prop, (∀ g2, I (p ++ [d]) g2 → P (.ok .nx g2)) → P (turn t body d g)) : ∃ g', F = .ok .nx g' ∧ I ds g' :=
  for_inv_e hf I h0 fun p d s g e h => st p d s g e h (fun r => ∃ g2, (r = .ok .nx g2 ∨ r = .ok .ct g2) ∧ I (p ++ [d]) g2) fun g2 h2 => ⟨g2, .inl rfl, h2⟩
end DL

namespace DL
open PySem PySem.Spec L2

/-! ### enumerate -/
def enD (ds : List D) : List D := (List.range ds.length).map fun i => .tup [.int (i : Nat), ds.getD i .non]
def toEn : List R → M (List D) := fun rs g => match rs with
  | [.fz (.lst ds)] => .ok (enD ds) g
  | [.fz (.tup ds)] => .ok (enD ds) g
  | _ => .bad
def iEn (k : M (List R)) : M (List D) := mb k toEn
section
variable {X : Cx} {Y : Ent} {W : WX} {pos : Pos}
theorem enD_get {ds : List D} {i : Nat} {d : D} (h : (enD ds)[i]? = some d) : ∃ x, ds[i]? = some x ∧ d = .tup [.int (i : Nat), x] := by
  unfold enD at h
  rw [List.getElem?_map] at h
  rcases Nat.lt_or_ge i ds.length with k | k
  · rw [List.getElem?_range k] at h
    cases h
    exact ⟨ds[i], List.getElem?_eq_getElem k, by simp [List.getD_eq_getElem?_getD, k]⟩
  · rw [List.getElem?_eq_none (by rw [List.length_range]; exact k)] at h; cases h
theorem enD_len (ds : List D) : (enD ds).length = ds.length := by unfold enD; rw [List.length_map, List.length_range]
theorem srv_pair {K : KW} {F0 : Hp} {J : It} {ds : List D} {vs : List V} (hl : IsL K F0 vs ds) (go : ∀ i H, (∃ x, vs[i]? = some x) → (∀ F, Same F0 F → Same F H → J.go i H)) (yl : ∀ i H F x H', Same F0 F → Same F H → J.yld i H x H' → ∃ T y, x = .ref T ∧ H T = none ∧ H' = upd H T (.tup [.int (i : Nat), y]) ∧ vs[i]? = some y)
    (st : ∀ H F, Same F0 F → Same F H → J.stop vs.length H) : Srv K F0 J (enD ds) := by
  refine fun H F s0 s1 => ⟨fun i d e => ?_, ?_⟩
  · obtain ⟨x, hx, rfl⟩ := enD_get e
    obtain ⟨v, h1, h2⟩ := hl.get hx
    refine ⟨go i H ⟨v, h1⟩ F s0 s1, fun z H' hy => ?_⟩
    obtain ⟨T, y, rfl, hT, rfl, hy2⟩ := yl i H F z H' s0 s1 hy
    rw [h1] at hy2; cases hy2
    have hv : IsL K F [.int (i : Nat), v] [.int (i : Nat), x] := ⟨_, _, rfl, rfl, ⟨_, _, rfl, h2.mono s0, rfl⟩⟩
    exact ⟨_, ext_tup s1 hT, T, _, rfl, .inl (.inl upd_same), by show (2 : Nat) ≤ sizeLine; decide, IsL.mono (ext_tup s1 hT).ff _ _ hv⟩
  · rw [enD_len, ← hl.length]; exact st H F s0 s1
theorem di_en {e : Expr} {p tpos : Pos} {elts : List Expr} {kk : Nat} {k : M (List R)} (hg : Gl X "enumerate") (hm : X.mg "enumerate" = none) (ha : DA X Y W [e] k) (hs : starEach [e] X.env = [(false, eval e X.env)] := by rfl) :
    DI X Y W (.Tuple elts kk tpos) (.Call (.Name "enumerate" p) [e] [] pos) (iEn k) := by
  refine pi_mono (pi_or (pi_enum hg hm ha hs) (pi_enumT hg hm ha hs)) fun σ H R ⟨g, F, r, p⟩ => ?_
  have p' : Post X.kw Y W σ F _ ((k g).andThen toEn) := p
  cases ek : k g with
  | bad => rw [ek] at p'; exact p'.elim
  | ex e g1 =>
    rw [ek] at p'
    refine .inl ⟨g, F, r, ?_⟩
    rw [ek]
    exact p'
  | ok rs g1 =>
    rw [ek] at p'
    have p2 : Post X.kw Y W σ F _ (toEn rs g1) := p'
    unfold toEn at p2
    split at p2
    · rename_i ds
      refine .inl ⟨g, F, r, ?_⟩
      rw [ek]
      intro H1 F1 r1 s1 vs ⟨v, us, e1, ⟨a, xs, e2, k1, k2, k3⟩, e3⟩
      subst e1 e2
      have e3 : us = [] := e3
      subst e3
      refine ⟨a, xs, rfl, SqL.of (r1.sub _ _ k1), p2 H1 F1 r1 s1 _ H1 F1 r1 (Same.refl _) ?_⟩
      have gd : ∀ H F, Same F1 F → Same F H → SqL X.kw H a xs := fun H F s0 s1 => SqL.of (s1 _ _ (s0 _ _ k1))
      exact srv_pair k3 (fun i H ⟨x, hx⟩ F s0 s1 => ⟨xs, x, gd H F s0 s1, hx⟩) (fun i H F x H' s0 s1 ⟨T, y, h1, h2, h3, h4⟩ => ⟨T, y, h1, h2, h3, h4 xs (gd H F s0 s1)⟩) (fun H F s0 s1 => ⟨xs, gd H F s0 s1, Nat.le_refl _⟩)
    · rename_i ds
      refine .inr ⟨g, F, r, ?_⟩
      rw [ek]
      intro H1 F1 r1 s1 vs ⟨v, us, e1, ⟨a, xs, e2, k1, k2, k3⟩, e3⟩
      subst e1 e2
      have e3 : us = [] := e3
      subst e3
      refine ⟨a, xs, rfl, sqT_mono r1.sub k1, p2 H1 F1 r1 s1 _ H1 F1 r1 (Same.refl _) ?_⟩
      have gd : ∀ H F, Same F1 F → Same F H → SqT X.kw H a xs := fun H F s0 s1 => sqT_mono s1 (sqT_mono s0 k1)
      exact srv_pair k3 (fun i H ⟨x, hx⟩ F s0 s1 => ⟨xs, x, gd H F s0 s1, hx⟩) (fun i H F x H' s0 s1 ⟨T, y, z, h1, h2, e, h3, h4⟩ => ⟨T, z, h1, h2, e ▸ h3, e ▸ h4 xs (gd H F s0 s1)⟩) (fun H F s0 s1 => ⟨xs, gd H F s0 s1, Nat.le_refl _⟩)
    · exact p2.elim
end
end DL

namespace DL
open PySem PySem.Spec L2
open PyProof.Rows (envOfC)

/-! ### defs that raise nothing may be called within an except suite -/
structure FnQ (P : Program) (w : World) (K : PySem.W.Frag) (mg : Str → Option Value) (base : Heap) (k : Nat) (f : Addr) (fd : FuncData) (ps : List Str) (sp : Sp) : Prop where
  len : ∀ vs H Q E, sp vs H Q E → vs.length = ps.length
  run : ∀ (A : Around) (outer : List Env) (s : Shared) (H : Hp) (args : Args) (us : List Value) (vs : List V) (Q : VK) (E : XK),
    L2H.RoomH k A → A.guards = some [] → Env0 P w K mg base A outer s H → BindsTo s fd args (ps.zip us) → Vals vs us → sp vs H Q E →
      codeAny (model P w) A (.call (.ref f) args) (CR (L2.CX P w) outer P w H s Q E) s
theorem FnQ.g {P : Program} {w : World} {K : PySem.W.Frag} {mg : Str → Option Value} {base : Heap} {k : Nat} {f : Addr} {fd : FuncData} {ps : List Str} {sp : Sp} (G : FnQ P w K mg base k f fd ps sp) : FnG P w K mg base k f fd ps sp :=
  ⟨G.len, fun A o s H args us vs Q E r => G.run A o s H args us vs Q E (L2H.roomH_of r)⟩
def cxQ (P : Program) (w : World) (K : PySem.W.Frag) (mg : Str → Option Value) (base : Heap) (N : List Str) (qual : Str) (scope : Scope) (f : Addr) (cd : Value) (A : Around) (outer : List Env) (s : Shared) (H : Hp) (E : XK) : Cx :=
  { cxOf (L2.CX P w) P w K mg base N qual scope f cd A outer s H E with calm := false }
theorem inv_startQ {P : Program} {w : World} {K : PySem.W.Frag} {mg : Str → Option Value} {base : Heap} {N ps : List Str} {qual : Str} {scope : Scope} {f : Addr} {cd : Value} {A : Around} {outer : List Env} {s s1 : Shared} {H : Hp} {E : XK} {us : List Value} {vs : List V}
    (S : FnScope N ps scope) (e0 : Env0 P w K mg base A outer s H) (hl : vs.length = ps.length) (r : Vals vs us)
    (x : InCallC s s.heap.objs.size (bindL (envOfC qual scope s.heap.objs.size f cd).kindOf (ps.zip us) fun _ => none) (cellsFrom (s.heap.objs.size + 1) scope.names []) (bindC (envOfC qual scope s.heap.objs.size f cd).kindOf (ps.zip us) fun _ => none) s1) :
    Inv (cxQ P w K mg base N qual scope f cd A outer s H E) [] (start N vs) H s1 := by
  have e1 : Env0 P w K mg base { A with handled := none } outer s H := ⟨e0.frames, e0.mod, e0.bs, e0.bsz, e0.funs, e0.frf, e0.hok, e0.bare⟩
  have I := inv_start (CX := L2.CX P w) (mg := mg) (E := E) (cd := cd) S (rfl : ({ A with handled := none } : Around).handled = none) e1 hl r x
  have ok := I.ok
  exact ⟨⟨ok.mod, ok.kind, ok.glob, ok.blt, ok.above, ok.inj, ok.has, ok.cab, (fun z => Bool.noConfusion (show false = true from z)), ok.frames, ok.stk, ok.exf, ok.bs, ok.bsz, ok.noex, ok.exfs, ok.funs, ok.frf⟩,
    I.os, I.bare, I.base, I.loc, I.cell, I.free, I.freeC, I.pin, I.hok, I.len⟩
section
variable {P : Program} {w : World} {K : PySem.W.Frag} {mg : Str → Option Value} {base : Heap} {cls : Str → Value}
theorem fnQ_ok {x qual : Str} {st : Stmt} {f : Addr} {fd : FuncData} {N ps : List Str} {k : Nat} {sp : Sp} (F : Fun K x qual st f fd) (S : FnScope N ps (defScope st)) (len : ∀ vs H Q E, sp vs H Q E → vs.length = ps.length)
    (body : ∀ (cdv : Value) (A : Around) (outer : List Env) (s : Shared) (H : Hp) (vs : List V) (Q : VK) (E : XK), L2H.RoomH k (A.deeper (envOfC qual (defScope st) s.heap.objs.size f cdv)) → A.guards = some [] → sp vs H Q E →
      ∃ t, PSs (cxQ P w K mg base N qual (defScope st) f cdv A outer s H E) (defBody st) t ∧ t { nx := fun _ H' => Q .non H', rt := Q } (start N vs) H) : FnQ P w K mg base (k + 1) f fd ps sp := by
  obtain ⟨oc, od, kV, doc, pm, an, cdv, ct, osl, rfl, lk, hcd⟩ := F.ex
  constructor
  · exact len
  intro A outer s H args us vs Q E room gd e0 bd rv want
  have inK : K.In s.heap := W.Frag.In.keeps e0.mod.kin fun b o e => (e0.bs b o e).1
  have noLim : s.heap.NoLimit := Heap.NoLimit.keeps e0.mod.nolimit fun b o e => (e0.bs b o e).1
  have kinds : ∀ y ∈ ps.zip us, (defScope st).names.lookup y.1 = some .local ∨
      ((defScope st).names.lookup y.1 = some .cell ∧ ((cellsFrom (s.heap.objs.size + 1) (defScope st).names []).lookup y.1).isSome = true) := by
    intro y hy
    obtain ⟨n, v⟩ := y
    exact (S.par n (List.of_mem_zip hy).1).elim .inl fun q => .inr ⟨q, PySem.W.cellsFrom_some _ _ _ (.inl q)⟩
  apply codeAny_call_function room.depth (inK _ _ lk) rfl S.co S.gen rfl (PySem.W.codeRec_of inK hcd)
  apply bd
  apply wpAny_newFunctionEnv_cells S.kind kinds
  intro env he s1 x1
  subst he
  refine ⟨Heap.NoLimit.keeps noLim x1.toInCall.keep, codeAny_func ?_⟩
  obtain ⟨t, ht, hq⟩ := body cdv A outer s H vs Q E (room.deeper _) gd want
  have I := inv_startQ (mg := mg) (E := E) S e0 (len _ _ _ _ want) rv x1
  refine wpAny_mono (ht.run [] s1 (start N vs) H _ I hq) ?_ fun _ _ z => z
  intro fl s' hs
  cases fl with
  | ret u => obtain ⟨v, σ', H', J, r, q⟩ := hs; exact ⟨v, H', J.os, J.bare, J.base, J.hok, r, q⟩
  | next => obtain ⟨σ', H', J, q⟩ := hs; exact ⟨V.non, H', J.os, J.bare, J.base, J.hok, rfl, q⟩
  | brk => exact hs.elim fun _ z => z.elim fun _ z => z.2.elim
  | cont => exact hs.elim fun _ z => z.elim fun _ z => z.2.elim
theorem fn_DQ {x qual : Str} {st : Stmt} {f : Addr} {fd : FuncData} {N ps : List Str} {k : Nat} (lp : Option Nat) {b : M Fl} (F : Fun K x qual st f fd) (S : FnScope N ps (defScope st)) (hps : ps.length ≤ N.length)
    (body : ∀ (cdv : Value) (A : Around) (outer : List Env) (s : Shared) (H : Hp) (E : XK), L2H.RoomH k (A.deeper (envOfC qual (defScope st) s.heap.objs.size f cdv)) → (A.deeper (envOfC qual (defScope st) s.heap.objs.size f cdv)).guards = some [] → ∀ Y : Ent, Y.cls = cls →
      DSs (cxQ P w K mg base N qual (defScope st) f cdv A outer s H E) Y (fun c d _ H => E c d H) (defBody st) b) : FnQ P w K mg base (k + 1) f fd ps (spD ⟨K, w⟩ cls lp ps.length (bodyF N.length lp b)) := by
  refine fnQ_ok F S (fun vs H Q E h => ?_) fun cdv A outer s H vs Q E hr gd h => ?_
  · obtain ⟨_, _, _, _, _, e, _⟩ := h; exact e
  · obtain ⟨F0, lr, la, lo, ds, hl, sm, ha, hp⟩ := h
    refine ⟨_, body cdv A outer s H E hr gd (entOf cls lr la F0 H) rfl, ?_⟩
    unfold bodyF at hp
    cases eg : mkG N.length lp lo ds with
    | none => rw [eg] at hp; exact hp.elim
    | some g0 =>
      rw [eg] at hp
      have rl : Rel ⟨K, w⟩ (entOf cls lr la F0 H) (start N vs) H g0 F0 := rel_start sm ha (by rw [hl]; exact hps) eg
      refine ⟨g0, F0, rl, ?_⟩
      simp only at hp
      cases eb : b g0 with
      | bad => rw [eb] at hp; exact hp.elim
      | ex e g =>
        rw [eb] at hp
        exact fun d σ' H' F' r s xd => hp d H' F' (rel_endX r) xd
      | ok fl g =>
        rw [eb] at hp
        cases fl with
        | bk => exact hp.elim
        | ct => exact hp.elim
        | nx =>
          simp only at hp
          cases eo : outG lp g with
          | none => rw [eo] at hp; exact hp.elim
          | some lo' =>
            rw [eo] at hp
            exact fun σ' H' F' r s => hp .non H' F' (rel_end ha r eo).1 rfl
        | rt rr =>
          simp only at hp
          cases eo : outG lp g with
          | none => rw [eo] at hp; cases rr <;> exact hp.elim
          | some lo' =>
            rw [eo] at hp
            cases rr with
            | fz d => exact fun σ' H' F' r s v hv => hp v H' F' (rel_end ha r eo).1 (RVr.of hv (rel_end ha r eo).2 trivial)
            | ow o => exact fun σ' H' F' r s v hv => hp v H' F' (rel_end ha r eo).1 (RVr.of hv (rel_end ha r eo).2 trivial)
            | «at» i => exact hp.elim
            | sub i f => exact hp.elim
end
theorem _root_.L2H.RoomH.units {k : Nat} {A : Around} (r : L2H.RoomH k A) : A.units + 64 < cLine := by have := r.un; omega
theorem hot_mark {k : Nat} {A : Around} {v : Option Value} (r : Room k A) : L2H.RoomH k (A.mark v) := ⟨r.dp, r.un⟩
theorem hot_markH {k : Nat} {A : Around} {v : Option Value} (r : L2H.RoomH k A) : L2H.RoomH k (A.mark v) := ⟨r.dp, r.un⟩
section
variable {X : Cx} {Y : Ent} {W : WX} {k : Nat} {f : Addr} {fd : FuncData} {ps : List Str} {sp : Sp} {dvs : List V} {ds : List Value} {x : Str} {p pos : Pos} {e : Expr} {es : List Expr} {t : TA}
theorem run_fnQ {pins : List (Addr × Obj)} {σ : St} {H : Hp} {s : Shared} {Q : VK} {us : List Value} {vs : List V} (G : FnQ X.prog X.w X.kw X.mg X.base k f fd ps sp) (hr : L2H.RoomH k X.A) (gd : X.A.guards = some []) (hb : Binds X.kw fd ps ds) (hd : Vals dvs ds) (tk : Takes X W)
    (I : Inv X pins σ H s) (r : Vals vs us) (h : sp (vs ++ dvs) H Q fun c d H' => W c d σ H') : wpAny (model X.prog X.w) X.A (call (.ref f) us) (EP X pins σ Q) X.xe s := by
  have r2 := r.append hd
  have n2 : (us ++ ds).length = ps.length := r2.length.symm.trans (G.len _ _ _ _ h)
  apply wpAny_call
  refine codeAny_mono (G.run X.A X.stack s H ⟨us, []⟩ (us ++ ds) (vs ++ dvs) Q _ hr gd I.env0 (hb s us I.kIn n2) r2 h) ?_
  intro res s' hq
  cases res with
  | error e => exact takes_at tk pins σ H s e s' I hq
  | ok fl =>
    cases fl with
    | ret u => exact I.after hq
    | next => cases hq
    | brk => cases hq
    | cont => cases hq
theorem de_callQ {cls : Str → Value} {lp : Option Nat} {sem : FSem} {a : M (List R)} {n : Nat} (G : FnQ X.prog X.w X.kw X.mg X.base k f fd ps (spD X.kw cls lp n sem)) (hr : L2H.RoomH k X.A) (gd : X.A.guards = some []) (hg : Gl X x) (hm : X.mg x = some (.ref f)) (hk : PySem.W.keepIn X.kw (.ref f) = true) (hb : Binds X.kw fd ps []) (tk : Takes X W) (hc : Y.cls = cls)
    (ha : DA X Y W (e :: es) a) (hdb : (x == ("__debug__" : Str)) = false := by decide) (he : starEach (e :: es) X.env = (false, eval e X.env) :: starEach es X.env := by rfl) (hpl : (backTo pos (starEach es X.env)).any (·.1) = false := by rfl) :
    DE X Y W (.Call (.Name x p) (e :: es) [] pos) (eCall lp sem (chkN n a)) := by
  have pe : PE X (.Call (.Name x p) (e :: es) [] pos) (tCallG (spD X.kw cls lp n sem) [] W (tA X.kw Y W a)) := by
    constructor
    intro pins s σ H Q I h
    apply wpAny_Call_Name_kw
    refine ld_glob I hg hm ?_ hdb
    apply PySem.W.callWith_K (h₀ := X.base) I.ok.mod.kin hk (thn (PA.run ha pos pins s σ H _ I h) ?_) he hpl
    rintro us s1 ⟨vs, H1, I1, r, q⟩
    exact ⟨I1.kIn, run_fnQ (dvs := []) G hr gd hb .nil tk I1 r q⟩
  refine pe_mono pe fun σ H Q ⟨g, F, r, q⟩ => ?_
  have q' : Post X.kw Y W σ F (JV X.kw Y σ Q) ((a g).andThen fun rs g => (if rs.length = n then Rs.ok rs g else .bad : Rs (List R)).andThen (opCall lp sem)) := by
    have : (eCall lp sem (chkN n a)) g = (a g).andThen fun rs g => (if rs.length = n then Rs.ok rs g else .bad : Rs (List R)).andThen (opCall lp sem) := by
      unfold eCall chkN mb
      cases a g <;> rfl
    rw [← this]; exact q
  refine ⟨g, F, r, (Post.bind q').imp fun rs g1 H1 F1 r1 s1 q1 vs hv => ?_⟩
  split at q1
  · rename_i hn
    rw [List.append_nil, ← hc]
    exact opCall_of q1 r1 hv hn
  · exact q1.elim
end

/-! ### a caught error is tracked -/
section
variable {X : Cx} {pins : List (Addr × Obj)} {σ : St} {H : Hp} {s : Shared}
theorem inv_track {a : Addr} {oe : Obj} {vs : Array Value} {cls : Value} (I : Inv X pins σ H s) (hp : s.heap.get? a = some oe) (hz : Zc cls none oe) (hd : oe.data = .fields vs) (hn : H a = none) (n0 : X.s_0.heap.get? a = none) (nL : a ≠ X.env.locals)
    (nP : ∀ p ∈ X.pn ++ pins, p.1 ≠ a) : Inv X pins σ (upd H a (ExA cls a)) s := by
  have ne0 : ∀ b o, X.s_0.heap.get? b = some o → b ≠ a := fun b o e z => by rw [z, n0] at e; cases e
  have st : ∀ {b : Addr} {o : HO}, H b = some o → upd H a (ExA cls a) b = some o := fun {b o} e => by rw [upd_ne (ne_of_none e hn)]; exact e
  refine ⟨I.ok, I.os, I.bare, ⟨I.base.keep, I.base.slot, fun b o e n hq => ?_, I.base.there, fun b xs e => st (I.base.tups b xs e), fun b o u e => st (I.base.frzs b o u e), fun b ps e => ?_⟩, I.loc, I.cell, ?_, fun x c e => ?_, fun p hp => ?_, fun b u e => ?_, I.len⟩
  · rw [upd_ne (ne0 b o e)]; exact I.base.free b o e n hq
  · obtain ⟨m, q⟩ := I.base.tbls b ps e; exact ⟨m, st q⟩
  · rw [upd_ne (Ne.symm nL)]; exact I.free
  · have : c ≠ a := fun z => by
      obtain ⟨v, o, ho, hc⟩ := I.cell x c e
      rw [z, hp] at ho; cases ho
      rw [hd] at hc; cases hc
    rw [upd_ne this]; exact I.freeC x c e
  · obtain ⟨e, n, ne, nf, d⟩ := I.pin p hp
    exact ⟨e, by rw [upd_ne (nP p hp)]; exact n, ne, nf, d⟩
  · by_cases hb : b = a
    · subst hb
      rw [upd_same] at e
      cases e
      exact ⟨⟨oe, vs, hp, hz, hd⟩, ⟨oe, hp⟩, fun _ _ ⟨o, v, q, r⟩ k => ⟨o, v, k o q, r⟩⟩
    · rw [upd_ne hb] at e
      exact (I.hok b u e).stay (fun c v _ q => q) (fun c q => st q) fun c xs q => st q
theorem inv_suite0 (I : Inv X pins σ H s) (a : Addr) : Inv (X.suite a (X.pn ++ pins)) [] σ H s :=
  ⟨I.ok.suite _ _, I.os, I.bare, I.base, I.loc, I.cell, I.free, I.freeC, fun p hp => I.pin p (by rw [List.append_nil] at hp; exact hp), I.hok, I.len⟩
theorem inv_unsuite0 {a : Addr} {pn' : List (Addr × Obj)} (I : Inv (X.suite a (X.pn ++ pins)) pn' σ H s) (ok : X.Ok) : Inv X pins σ H s :=
  ⟨ok, I.os, I.bare, I.base, I.loc, I.cell, I.free, I.freeC, fun p hp => I.pin p (List.mem_append_left _ hp), I.hok, I.len⟩
end
def dropD (i : Nat) (D : Ends) : Ends := { nx := fun σ' H' => D.nx (σ'.set i none) H', rt := D.rt, bk := fun σ' H' => D.bk (σ'.set i none) H', ct := fun σ' H' => D.ct (σ'.set i none) H' }
/-- clauses: without a name; with the name of slot i -/
inductive Cl where
  | u (c : Value) (t : TS) | n (c : Value) (i : Nat) (t : TS)
def wAll (K : KW) (Wout : WX) (D : Ends) : List Cl → WX
  | [] => Wout
  | .u c t :: r => fun cls d σ H => ∃ b, PySem.W.exmOne K cls c = some b ∧ (b = true → t D σ H) ∧ (b = false → wAll K Wout D r cls d σ H)
  | .n c i t :: r => fun cls d σ H => ∃ b, PySem.W.exmOne K cls c = some b ∧ (b = true → d = none ∧ ∀ a, H a = none → t (dropD i D) (σ.set i (some (.ref a))) (upd H a (ExA cls a))) ∧ (b = false → wAll K Wout D r cls d σ H)
inductive ClsOk (X : Cx) : List ExceptHandler → List Cl → Prop
  | nil : ClsOk X [] []
  | u {x : Str} {c : Value} {t : TS} {b₀ : Stmt} {suite : List Stmt} {np pos' : Pos} {hds : List ExceptHandler} {l : List Cl} (hc : Names X x c)
      (hsu : ∀ (a : Addr) (pn : List (Addr × Obj)), PSs (X.suite a pn) (b₀ :: suite) t) (r : ClsOk X hds l) : ClsOk X (.ExceptHandler (some (.Name x np)) none (b₀ :: suite) pos' :: hds) (.u c t :: l)
  | n {x nm : Str} {i : Nat} {c : Value} {t : TS} {b₀ : Stmt} {suite : List Stmt} {np pos' : Pos} {hds : List ExceptHandler} {l : List Cl} (hc : Names X x c) (hi : X.N[i]? = some nm) (hl : X.env.kindOf nm = some .local)
      (hsu : ∀ (a : Addr) (pn : List (Addr × Obj)), PSs (X.suite a pn) (b₀ :: suite) t) (r : ClsOk X hds l) : ClsOk X (.ExceptHandler (some (.Name x np)) (some nm) (b₀ :: suite) pos' :: hds) (.n c i t :: l)
section
variable {X : Cx} {body : List Stmt} {h₀ : ExceptHandler} {hds : List ExceptHandler} {l : List Cl} {pos : Pos} {tb : WX → TS} {Wout : WX}
theorem ps_try_all (hs : X.stack = X.env :: X.outer) (hf : X.env.frame = some X.env.locals) (hN : X.N.Nodup) (hex : X.ex = []) (tk : Takes X Wout)
    (hb : ∀ (W : WX) (pn : List (Addr × Obj)) (xe : Value → Shared → Prop), Takes (X.tr pn xe) W → PassesOwn (model X.prog X.w) X.A X.env xe → PSs (X.tr pn xe) body (tb W))
    (hh : ClsOk X (h₀ :: hds) l) : PS X (.Try body (h₀ :: hds) [] [] pos) (fun D σ H => tb (wAll X.kw Wout D l) D σ H) := by
  refine ⟨fun pins s σ H D I h => ?_⟩
  have ok := I.ok
  have hfr : X.A.frames = some (X.env :: X.outer) := by rw [ok.frames, hs]
  refine wpAny_Try_except ?_
  refine wpAny_mono ((hb (wAll X.kw Wout D l) (X.pn ++ pins) (fun e s₁ => wpAny (model X.prog X.w) X.A (noteFrame e X.env) (fun _ s₂ => wpAny (model X.prog X.w) X.A (setFlight e none) (fun _ s₃ =>
    wpAny (model X.prog X.w) X.A (handleBy e X.env (h₀ :: hds)) (SP X pins D) X.xe s₃) X.xe s₂) X.xe s₁) (fun u s' xx => ?_) PassesOwn.looking).run [] s σ H D (I.toTry _) h) (fun f s1 hsp => ?_) (fun e s1 he => he)
  · obtain ⟨a, B, sI, pins', σ', H', cls, d, rfl, J', nb, up, sky, na, os, ag, w⟩ := xx
    have J : Inv X pins σ' H' sI := J'.ofTry ok
    have sky' : Sky B (X.env :: X.outer) a (Zc cls d) X.env.locals s'.heap := by rw [← hs]; exact sky
    show wpAny (model X.prog X.w) X.A (noteFrame (.ref a) X.env) _ _ _
    refine Sky.land Zc.steady hfr hf sky' fun h3 fl3 up3 => ?_
    have J3 : Inv X pins σ' H' { s' with heap := h3 } := J.landed nb fl3.1 (up.trans up3) os ag
    obtain ⟨oe3, vs3, he3, hz3, hd3⟩ := fl3.there
    have nfr : a ∉ frs (X.env :: X.outer) := fun hm => by
      obtain ⟨_, o', e', hnf⟩ := fl3.2.2.1.mem hm
      rw [he3] at e'; cases e'
      exact hnf _ hd3
    have nL : a ≠ X.env.locals := fun z => nfr (List.mem_filterMap.mpr ⟨X.env, List.mem_cons_self, by rw [hf, z]⟩)
    have nI : sI.heap.get? a = none := by
      cases e : sI.heap.get? a with
      | none => rfl
      | some o =>
        have := nb a o e (by rw [hs]; exact nfr)
        rw [fl3.2.1] at this; cases this
    have n0 : X.s_0.heap.get? a = none := by
      cases e : X.s_0.heap.get? a with
      | none => rfl
      | some o =>
        obtain ⟨o', e'⟩ := J.base.there a o e (by rw [hex]; exact fun z => nomatch z)
        rw [nI] at e'; cases e'
    have nP : ∀ p ∈ X.pn ++ pins, p.1 ≠ a := fun p hp z => by
      have := (J.pin p hp).1
      rw [z, nI] at this; cases this
    have LT : PySem.W.Looks (model X.prog X.w) h3 (typeOf (.ref a)) cls := fun A Q E s k q => wpAny_typeOf_ref (k _ _ he3) (by rw [hz3.1]; exact q)
    have test : ∀ {x : Str} {c : Value} {np : Pos} {Q : Value → Shared → Prop} {E : Value → Shared → Prop}, Names X x c → Q c { s' with heap := h3 } → wpAny (model X.prog X.w) (X.A.mark (some (.ref a))) (eval (.Name x np) X.env) Q E { s' with heap := h3 } := fun {x c np Q E} hc q => by
      obtain ⟨hg, hdbg, hm | ⟨hm, hv, hnn⟩⟩ := hc
      · exact ld_glob (X := X.suite a (X.pn ++ pins)) (inv_suite0 J3 a) hg hm q hdbg
      · exact ld_blt (X := X.suite a (X.pn ++ pins)) (inv_suite0 J3 a) hg hm hv q hnn hdbg
    have go : ∀ {hds' : List ExceptHandler} {l' : List Cl}, ClsOk X hds' l' → wAll X.kw Wout D l' cls d σ' H' → wpAny (model X.prog X.w) X.A (handleBy (.ref a) X.env hds') (SP X pins D) X.xe { s' with heap := h3 } := by
      intro hds' l' hk
      induction hk with
      | nil =>
        intro w
        refine wpAny_handleBy_nil ?_
        obtain ⟨k1, k2, k3, oe, vs, T, oT, ts', he, hz, hd, h1, hr⟩ := id fl3
        unfold PySem.passOn
        refine wpAny_bind (wpAny_field he hd h1 ?_)
        rw [if_neg (show ¬ ((Value.ref T == Value.none) = true) from by simp)]
        have fin : wpAny (model X.prog X.w) X.A (setFlight (.ref a) X.env.frame) (fun _ s4 => wpAny (model X.prog X.w) X.A (throw (.ref a) : Sem Flow) (SP X pins D) X.xe s4) X.xe { s' with heap := h3 } := by
          rw [hf]
          refine HandSPX.setFlight_upZ fl3 fun h4 hh4 up4 => wpAny_throw (tk _ _ ?_)
          exact ⟨a, B, sI, pins, σ', H', cls, d, rfl, J, nb, (up.trans up3).trans up4, .inr (.inr (by rw [hs]; exact hh4)), na, os, ag, w⟩
        first
          | exact wpAny_bind (wpAny_pure (wpAny_bind fin))
          | exact wpAny_bind fin
      | @u x c t b₀ suite np pos' hds2 l2 hc hsu r ih =>
        intro w
        obtain ⟨b, hb1, hyes, hno⟩ := w
        refine wpAny_handleBy_cons (codeAny_handlers_test ?_) (by intro q; cases q)
        refine test hc ((PySem.W.exm_one (M := model X.prog X.w) J3.kIn LT hb1).here ?_)
        cases b with
        | true =>
          refine codeAny_handlers_suite ?_
          refine HandSPX.lands_againZ fl3 fun h4 fl4 up4 => ?_
          have J4 : Inv X pins σ' H' { s' with heap := h4 } := J.landed nb fl4.1 ((up.trans up3).trans up4) os ag
          refine wpAny_mono ((hsu a (X.pn ++ pins)).run [] _ _ H' _ (inv_suite0 J4 a) (hyes rfl)) (fun f s6 hsp => ?_) (fun _ _ z => False.elim z)
          cases f with
          | next => obtain ⟨σ6, H6, S6, q6⟩ := hsp; exact ⟨_, _, inv_unsuite0 S6 ok, q6⟩
          | brk => obtain ⟨σ6, H6, S6, q6⟩ := hsp; exact ⟨_, _, inv_unsuite0 S6 ok, q6⟩
          | cont => obtain ⟨σ6, H6, S6, q6⟩ := hsp; exact ⟨_, _, inv_unsuite0 S6 ok, q6⟩
          | ret u => obtain ⟨v6, σ6, H6, S6, r6, q6⟩ := hsp; exact ⟨_, _, _, inv_unsuite0 S6 ok, r6, q6⟩
        | false =>
          show wpAny _ X.A (handleBy (.ref a) X.env hds2) _ _ _
          exact ih (hno rfl)
      | @n x nm i c t b₀ suite np pos' hds2 l2 hc hi hln hsu r ih =>
        intro w
        obtain ⟨b, hb1, hyes, hno⟩ := w
        refine wpAny_handleBy_cons (codeAny_handlers_test ?_) (by intro q; cases q)
        refine test hc ((PySem.W.exm_one (M := model X.prog X.w) J3.kIn LT hb1).here ?_)
        cases b with
        | true =>
          obtain ⟨rfl, hyes2⟩ := hyes rfl
          refine codeAny_handlers_suite_as ?_
          refine HandSPX.lands_againZ fl3 fun h4 fl4 up4 => ?_
          have J4 : Inv X pins σ' H' { s' with heap := h4 } := J.landed nb fl4.1 ((up.trans up3).trans up4) os ag
          obtain ⟨oe4, vs4, he4, hz4, hd4⟩ := fl4.there
          have J5 := inv_suite0 (inv_track (cls := cls) J4 he4 hz4 hd4 na n0 nL nP) a
          refine store_ok (X := X.suite a (X.pn ++ pins)) (v := .ref a) J5 hN hi (.inl hln) rfl (fun s5 S5 => ?_) (.inr hln)
          refine wpAny_mono ((hsu a (X.pn ++ pins)).run [] s5 _ _ _ S5 (hyes2 a na)) (fun f s6 hsp => ?_) (fun _ _ z => False.elim z)
          have end_ : ∀ {σ6 : St} {H6 : Hp} {Q : Shared → Prop}, Inv (X.suite a (X.pn ++ pins)) [] σ6 H6 s6 → (∀ s7, Inv X pins (σ6.set i none) H6 s7 → Q s7) →
              wpAny (model X.prog X.w) X.A (do bindName X.env nm .none; unbindBehindTheSuite X.env nm pos') (fun _ s7 => Q s7) X.xe s6 := fun {σ6 H6 Q} S6 hq => gone_ok (inv_unsuite0 S6 ok) hN hi hln hq
          cases f with
          | next => obtain ⟨σ6, H6, S6, q6⟩ := hsp; exact end_ S6 fun s7 J7 => ⟨_, _, J7, q6⟩
          | brk => obtain ⟨σ6, H6, S6, q6⟩ := hsp; exact end_ S6 fun s7 J7 => ⟨_, _, J7, q6⟩
          | cont => obtain ⟨σ6, H6, S6, q6⟩ := hsp; exact end_ S6 fun s7 J7 => ⟨_, _, J7, q6⟩
          | ret u => obtain ⟨v6, σ6, H6, S6, r6, q6⟩ := hsp; exact end_ S6 fun s7 J7 => ⟨_, _, _, J7, r6, q6⟩
        | false =>
          show wpAny _ X.A (handleBy (.ref a) X.env hds2) _ _ _
          exact ih (hno rfl)
    exact go hh w
  · cases f with
    | next => obtain ⟨σ', H', J', q⟩ := hsp; exact wpAny_execs_nil ⟨σ', H', J'.ofTry ok, q⟩
    | brk => obtain ⟨σ', H', J', q⟩ := hsp; exact ⟨σ', H', J'.ofTry ok, q⟩
    | cont => obtain ⟨σ', H', J', q⟩ := hsp; exact ⟨σ', H', J'.ofTry ok, q⟩
    | ret u => obtain ⟨v, σ', H', J', r, q⟩ := hsp; exact ⟨v, σ', H', J'.ofTry ok, r, q⟩
end

/-! ### try with named clauses, over plain data -/
def dropS (i : Nat) : Rs Fl → Rs Fl
  | .ok (.rt r) g => .ok (.rt r) g
  | .ok fl g => .ok fl (g.set i none)
  | r => r
def handleA : List (Str × Option Nat × M Fl) → Ex → M Fl
  | [], e => fun g => .ex e g
  | (h, none, f) :: r, e => fun g => if subE e.c h = true then noEx (f g) else handleA r e g
  | (h, some i, f) :: r, e => fun g => if subE e.c h = true then (match e.p with | [] => dropS i (noEx (f (g.set i (some (.fz (.exc e.c)))))) | _ => .bad) else handleA r e g
def sTryA (ns : List Str) (b : M Fl) (hs : List (Str × Option Nat × M Fl)) : M Fl := fun g => match b g with
  | .ex e g' => if e.c ∈ ns then handleA hs e g' else .bad
  | r => r
theorem rel_gone {K : KW} {Y : Ent} {σ : St} {H F : Hp} {g : G} (r : Rel K Y σ H g F) (i : Nat) : Rel K Y (σ.set i none) H (g.set i none) F := by
  have ne : ∀ {j : Nat} {x : Sl}, (g.set i none)[j]? = some (some x) → j ≠ i ∧ g[j]? = some (some x) := fun {j x} e => by
    rcases get_set e with ⟨_, e'⟩ | z
    · cases e'
    · exact z
  have ss : ∀ {j : Nat}, j ≠ i → (σ.set i none)[j]? = σ[j]? := fun n => List.getElem?_set_ne (Ne.symm n)
  exact r.mask (by rw [List.length_set, List.length_set]; exact r.len) fun j s e => ⟨(ne e).2, ss (ne e).1⟩
theorem ext_any {F H : Hp} {p : Addr} {u : HO} (s : Same F H) (hp : H p = none) : Ext F H (upd F p u) (upd H p u) :=
  ⟨same_new hp, same_new (none_of_same s hp), fun b o e => by
    by_cases q : b = p
    · subst q; rw [upd_same] at e ⊢; exact e
    · rw [upd_ne q] at e ⊢; exact s _ _ e, fun a h => by
    by_cases q : a = p
    · subst q; exact .inr hp
    · rw [upd_ne q] at h; exact .inl h⟩
theorem PostS.noEx {K : KW} {Y : Ent} {W W' : WX} {F : Hp} {D : Ends} {x : Rs Fl} (h : PostS K Y W F D (noEx x)) : PostS K Y W' F D x := by
  cases x with
  | bad => exact h
  | ex e g => exact h.elim
  | ok fl g => exact h
theorem PostS.dropS {K : KW} {Y : Ent} {W : WX} {F : Hp} {D : Ends} {x : Rs Fl} {i : Nat} (h : PostS K Y W F D (dropS i x)) : PostS K Y W F (dropD i D) x := by
  cases x with
  | bad => exact h
  | ex e g => exact h
  | ok fl g =>
    cases fl with
    | rt r => exact h
    | nx => exact fun σ' H' F' r s => h (σ'.set i none) H' F' (rel_gone r i) s
    | bk => exact fun σ' H' F' r s => h (σ'.set i none) H' F' (rel_gone r i) s
    | ct => exact fun σ' H' F' r s => h (σ'.set i none) H' F' (rel_gone r i) s
inductive HdsA (X : Cx) (Y : Ent) : List ExceptHandler → List (Str × Option Nat × M Fl) → Prop
  | nil : HdsA X Y [] []
  | u {x : Str} {b₀ : Stmt} {suite : List Stmt} {np pos' : Pos} {hds : List ExceptHandler} {l : List (Str × Option Nat × M Fl)} {f : M Fl} (hc : Names X x (Y.cls x))
      (hsu : ∀ (a : Addr) (pn : List (Addr × Obj)), DSs (X.suite a pn) Y W0 (b₀ :: suite) f) (r : HdsA X Y hds l) : HdsA X Y (.ExceptHandler (some (.Name x np)) none (b₀ :: suite) pos' :: hds) ((x, none, f) :: l)
  | n {x nm : Str} {i : Nat} {b₀ : Stmt} {suite : List Stmt} {np pos' : Pos} {hds : List ExceptHandler} {l : List (Str × Option Nat × M Fl)} {f : M Fl} (hc : Names X x (Y.cls x)) (hi : X.N[i]? = some nm) (hl : X.env.kindOf nm = some .local)
      (hsu : ∀ (a : Addr) (pn : List (Addr × Obj)), DSs (X.suite a pn) Y W0 (b₀ :: suite) f) (r : HdsA X Y hds l) : HdsA X Y (.ExceptHandler (some (.Name x np)) (some nm) (b₀ :: suite) pos' :: hds) ((x, some i, f) :: l)
def clOf (K : KW) (Y : Ent) : Str × Option Nat × M Fl → Cl
  | (h, none, f) => .u (Y.cls h) (tS K Y W0 f)
  | (h, some i, f) => .n (Y.cls h) i (tS K Y W0 f)
theorem HdsA.ok {X : Cx} {Y : Ent} : ∀ {hds : List ExceptHandler} {l : List (Str × Option Nat × M Fl)}, HdsA X Y hds l → ClsOk X hds (l.map (clOf X.kw Y))
  | _, _, .nil => .nil
  | _, _, .u hc hsu r => .u hc hsu (HdsA.ok r)
  | _, _, .n hc hi hl hsu r => .n hc hi hl hsu (HdsA.ok r)
section
variable {X : Cx} {Y : Ent} {W : WX} {pos : Pos}
theorem ds_tryA {body : List Stmt} {h₀ : ExceptHandler} {hds : List ExceptHandler} {b : M Fl} {l : List (Str × Option Nat × M Fl)} (ns : List Str) (hs : X.stack = X.env :: X.outer) (hf : X.env.frame = some X.env.locals) (hN : X.N.Nodup) (hex : X.ex = []) (tk : Takes X W)
    (hx : ∀ c ∈ ns, ∀ h ∈ l.map (·.1), PySem.W.exmOne X.kw (Y.cls c) (Y.cls h) = some (subE c h))
    (hn : ∀ c ∈ ns, PySem.W.nsIn X.kw mainGlobals c = some (some (Y.cls c)))
    (hb : ∀ (W' : WX) (pn : List (Addr × Obj)) (xe : Value → Shared → Prop), Takes (X.tr pn xe) W' → PassesOwn (model X.prog X.w) X.A X.env xe → DSs (X.tr pn xe) Y W' body b)
    (hh : HdsA X Y (h₀ :: hds) l) : DS X Y W (.Try body (h₀ :: hds) [] [] pos) (sTryA ns b l) :=
  ps_mono (ps_try_all (tb := fun W' => tS X.kw Y W' b) hs hf hN hex tk hb hh.ok) fun D σ H ⟨g, F, r, p⟩ => by
    refine ⟨g, F, r, ?_⟩
    have p' : PostS X.kw Y W F D (match b g with
      | .ex e g' => if e.c ∈ ns then handleA l e g' else .bad
      | r => r) := p
    revert p'
    cases b g with
    | bad => exact id
    | ok fl g' => exact id
    | ex e g' =>
      simp only
      split
      · rename_i hm
        intro p' d σ' H' F' r' s' xd
        have go : ∀ l' : List (Str × Option Nat × M Fl), (∀ hf ∈ l', hf ∈ l) → PostS X.kw Y W F D (handleA l' e g') → wAll X.kw W D (l'.map (clOf X.kw Y)) (Y.cls e.c) d σ' H' := by
          intro l'
          induction l' with
          | nil => exact fun _ q => q d σ' H' F' r' s' xd
          | cons hf l' ih =>
            obtain ⟨h, oi, f⟩ := hf
            intro sub q
            have ex := hx e.c hm h (List.mem_map.mpr ⟨(h, oi, f), sub _ List.mem_cons_self, rfl⟩)
            have nx := ih (fun hf hm => sub hf (List.mem_cons_of_mem _ hm))
            cases oi with
            | none =>
              have q' : PostS X.kw Y W F D (if subE e.c h = true then noEx (f g') else handleA l' e g') := q
              refine ⟨subE e.c h, ex, fun hb => ?_, fun hb => ?_⟩
              · rw [if_pos hb] at q'
                exact ⟨g', F', r', (PostS.weak s' q').noEx⟩
              · rw [if_neg (by rw [hb]; simp)] at q'
                exact nx q'
            | some i =>
              have q' : PostS X.kw Y W F D (if subE e.c h = true then (match e.p with | [] => dropS i (noEx (f (g'.set i (some (.fz (.exc e.c)))))) | _ => .bad) else handleA l' e g') := q
              refine ⟨subE e.c h, ex, fun hb => ?_, fun hb => ?_⟩
              · rw [if_pos hb] at q'
                split at q'
                · rename_i e0
                  rw [e0] at xd
                  refine ⟨xd, fun a ha => ?_⟩
                  have r1 := (r'.ext (ext_any (u := ExA (Y.cls e.c) a) r'.sub ha)).put (i := i) (v := .ref a) (r := .fz (.exc e.c)) (show Is X.kw _ (.ref a) (.exc e.c) from ⟨a, _, rfl, upd_same, hn e.c hm⟩) rfl
                  exact ⟨_, _, r1, (PostS.weak (s'.trans (same_new (none_of_same r'.sub ha))) q').dropS.noEx⟩
                · exact q'.elim
              · rw [if_neg (by rw [hb]; simp)] at q'
                exact nx q'
        exact go l (fun _ h => h) p'
      · exact fun p' => p'.elim
/-- isinstance of a caught error -/
def bIsE (ns : List Str) (h : Str) : D → Option R
  | .exc c => if c ∈ ns then some (.fz (.bl (subE c h))) else none
  | _ => none
theorem call_isT : CallR X (.builtin "isinstance") (fun xs H Q => ∃ (a D : Addr) (c : V) (cv : Value) (b : Bool), xs = [.ref a, c] ∧ ExcC X.kw D ∧ H a = some (ExA (.ref D) a) ∧ (∀ u, RelV c u → u = cv) ∧ PySem.W.kitOne X.kw (.ref D) cv = some b ∧ Q (.bl b) H) := by
  intro pins s σ H xs us Q I r h
  obtain ⟨a, D, c, cv, b, rfl, C, ha, hcv, e, q⟩ := h
  cases r with
  | cons rx rr =>
    cases rr with
    | cons rt rr =>
      cases rr
      cases rx
      have ec := hcv _ rt
      subst ec
      obtain ⟨⟨oe, vs, hget, hz, hv⟩, _⟩ := I.hok a _ ha
      have J : PySem.W.InstAt s.heap a oe D none := by
        obtain ⟨oc, od, oda, osl⟩ := oe
        obtain ⟨h1, h2⟩ := hz
        dsimp only at h1 h2 hv
        subst h1 h2 hv
        exact ⟨hget, rfl, rfl, trivial⟩
      exact PySem.W.kia_one (PySem.W.handS_kitx_exc C.hg C.hk C.hs C.hd C.ha C.hn C.ht C.hm) I.kIn J e (fun z => nomatch z) fun tk => ⟨.bl b, H, I.kept (t' := tk) fun _ _ z => z, rfl, q⟩
theorem CV.exc {K : KW} {F H : Hp} {v : V} {c : Str} (h : CV K F H v (.exc c)) : ∃ a cls, v = .ref a ∧ F a = some (ExA cls a) ∧ PySem.W.nsIn K mainGlobals c = some (some cls) := by
  rcases h with h | ⟨a, o, _, _, e⟩
  · exact h
  · cases o <;> cases e
theorem de_isE {x : Str} {C : Addr} {e : Expr} {f : M R} {p q : Pos} (ns : List Str) (hx : ∀ c ∈ ns, ∃ D, PySem.W.nsIn X.kw mainGlobals c = some (some (.ref D)) ∧ ExcC X.kw D ∧ PySem.W.kitOne X.kw (.ref D) (.ref C) = some (subE c x))
    (hg : Gl X "isinstance") (hm : X.mg "isinstance" = none) (hgT : Gl X x) (hmT : X.mg x = some (.ref C)) (ha : DE X Y W e f) (hdT : (x == ("__debug__" : Str)) = false := by decide)
    (h1 : starEach [e, .Name x q] X.env = (false, eval e X.env) :: starEach [.Name x q] X.env := by rfl) (h2 : (backTo pos (starEach [.Name x q] X.env)).any (·.1) = false := by rfl) (h3 : starEach [.Name x q] X.env = (false, eval (.Name x q) X.env) :: starEach [] X.env := by rfl) :
    DE X Y W (.Call (.Name "isinstance" p) [e, .Name x q] [] pos) (eU (bIsE ns x) f) :=
  pe_mono (pe_callB call_isT hg hm (PyProof.Rows.boot_isinstance) (pa_cons (de_pk ha) (pa_cons (pe_glob (v := .ref C) hgT hmT rfl hdT) pa_nil h3) h1) (by decide) (by decide) h1 h2) fun σ H Q ⟨g, F, r, p⟩ => ⟨g, F, r, (p.bind).imp fun x1 g1 H1 F1 r1 s1 q v hv => by
    obtain ⟨d, r', k1, k2, k3⟩ := Post.op1 q r1
    unfold bIsE at k2
    split at k2
    · split at k2
      · rename_i c hc
        cases k2
        obtain ⟨D, n1, n2, n3⟩ := hx c hc
        obtain ⟨a, cls, rfl, e1, e2⟩ := CV.exc (r1.cv hv k1)
        rw [n1] at e2
        cases e2
        exact ⟨a, D, .ref C, .ref C, _, rfl, n2, r1.sub _ _ e1, fun u hu => hu, n3, k3.now r1.sub rfl⟩
      · cases k2
    · cases k2⟩
end
end DL

namespace DL
open PySem PySem.Spec L2

/-! ### a < b of data that are alike -/
def isSq : D → Bool
  | .tup _ => true
  | .lst _ => true
  | _ => false
def okLt (a b : D) : Bool := isSq a && a.flat && b.flat && PySem.W.alike a.py b.py && decide (a.py.depth ≤ 60)
def cLtD (a b : D) : Option R := if okLt a b = true then some (.fz (.bl (PySem.W.dataLt a.py b.py))) else none
def cLtG (a b : D) : Option R := match cLt a b with
  | some r => some r
  | none => cLtD a b
section
variable {X : Cx}
theorem od_ltG (hu : X.A.units + 64 < cLine) : OpD X (compareOp .Lt) cLtG := by
  intro pins s σ H x y v u Q I rx ry ⟨F, a, b, r, sm, ha, hb, ho, hr⟩
  unfold cLtG at ho
  cases e : cLt a b with
  | some r' =>
    rw [e] at ho
    cases ho
    exact od_lt pins s σ H x y v u Q I rx ry ⟨F, a, b, r, sm, ha, hb, e, hr⟩
  | none =>
    rw [e] at ho
    have ho' : cLtD a b = some r := ho
    unfold cLtD at ho'
    split at ho'
    · rename_i hz
      cases ho'
      unfold okLt at hz
      simp only [Bool.and_eq_true, decide_eq_true_eq] at hz
      obtain ⟨⟨⟨⟨h0, h1⟩, h2⟩, h3⟩, h4⟩ := hz
      obtain ⟨as, ra⟩ := Dp.reads I _ _ _ (ha.dp sm h1) rx
      obtain ⟨bs, rb⟩ := Dp.reads I _ _ _ (hb.dp sm h2) ry
      have hn : a.py ≠ .none := by
        cases a with
        | tup _ => exact fun z => nomatch z
        | lst _ => exact fun z => nomatch z
        | _ => cases h0
      have R := PySem.W.rcLt_alike a.py b.py X.A s v u as bs ra rb h3 hn (by omega)
      have z : wpAny (model X.prog X.w) X.A (compareOp .Lt v u) (EP X pins σ Q) X.xe s := R X.prog X.w X.xe (EP X pins σ Q) ⟨.bl _, H, I, rfl, hr.now sm rfl⟩
      exact z
    · cases ho'
end
end DL

namespace DL
open PySem PySem.Spec L2 PyProof.Rows
open Builtin.Str

/-! ### s[::-1] of texts and lists -/
theorem rev_made (z : Str) (t u : Tok) : sliceMade z t none none (some (-1, u)) = .str ⟨z.cps.toList.reverse.toArray⟩ := by
  unfold sliceMade
  rw [if_neg (by simp)]
  congr 2
  congr 1
  unfold slicePicked strSliceIndices
  show (sliceRange ((z.length : Int) - 1) (-1) (-1)).filterMap (z.cps[·]?) = _
  show (sliceRange ((z.cps.size : Int) - 1) (-1) (-1)).filterMap (z.cps[·]?) = _
  rw [PySem.W.krv_sliceRange, PySem.W.krv_range, List.filterMap_reverse, PySem.W.krv_all]
section
variable {X : Cx} {Y : Ent} {W : WX} {pos : Pos}
theorem pe_rev {e : Expr} {te : TE} {k : Nat} {p1 p2 p3 pos : Pos} (he : PE X e te) :
    PE X (.Subscript e (.Slice none none (some (.UnaryOp .USub (.Constant (.int 1) k p1) p2)) p3) pos)
      (fun σ H Q => te σ H fun x H1 => (∃ a xs, x = .ref a ∧ SqL X.kw H1 a xs ∧ ∀ p, H1 p = none → Q (.ref p) (upd H1 p (.lst xs.reverse))) ∨ (∃ z : Str, x = .str z ∧ z.length ≤ sizeLine ∧ Q (.str ⟨z.cps.toList.reverse.toArray⟩) H1)) := by
  refine ⟨fun pins s σ H Q I h => ?_⟩
  refine Subscript_ (thn (he.run pins s σ H _ I h) fun v s1 ⟨x, H1, I1, r1, q1⟩ => ?_)
  have hst : PO X (some (.UnaryOp .USub (.Constant (.int 1) k p1) p2)) (tPart (tUn (rU fun i => .int (-i)) (tC (.int 1)))) := po_some (pe_un un_neg pe_int)
  refine wpAny_Slice (thn (po_none.run pins s1 σ H1 (fun o H2 => o = none ∧ H2 = H1) I1 ⟨rfl, rfl⟩) fun vl s2 ⟨l, H2, I2, pl, el, e2⟩ => ?_)
  subst el e2
  refine thn (po_none.run pins s2 σ H2 (fun o H3 => o = none ∧ H3 = H2) I2 ⟨rfl, rfl⟩) fun vu s3 ⟨u, H3, I3, pu, eu, e3⟩ => ?_
  subst eu e3
  refine thn (hst.run pins s3 σ H3 (fun o H4 => o = some (-1) ∧ H4 = H3) I3 ⟨1, rfl, -1, rfl, rfl, rfl⟩) fun vs s4 ⟨o, H4, I4, ps, eo, e4⟩ => ?_
  subst eo e4
  have I5 : Inv X pins σ H4 { s4 with heap := s4.heap.push { cls := .type "slice", data := .fields #[vl, vu, vs] } } := I4.kept (t' := s4.toks) fun b ob q => Heap.get?_push_of_some _ q
  rcases q1 with ⟨a, xs, ex, hx, q⟩ | ⟨z, ex, hzl, q⟩
  · subst ex
    cases r1
    obtain ⟨its, r, ht, hz⟩ := I5.list hx
    have hlen := r.length
    show wpAny (model X.prog X.w) X.A (subscriptTail e (.Slice none none (some (.UnaryOp .USub (.Constant (.int 1) k p1) p2)) p3) (.ref a) (.ref s4.heap.objs.size)) (EP X pins σ Q) X.xe { s4 with heap := s4.heap.push { cls := .type "slice", data := .fields #[vl, vu, vs] } }
    refine tail_any (ops := [.ref a, .ref s4.heap.objs.size]) ht.isList.typeIs (PySem.slot_list_getitem.lookup) ?_ (by with_unfolding_all rfl)
    refine wpAny_getItem_list_slice ht.isList (Heap.IsSliceOf.new _ vl vu vs) pl pu ps (by decide) ?_ (by rw [List.size_toArray]; omega)
    rw [PySem.W.krv_pick]
    refine ⟨.ref _, _, I5.laid (t' := s4.toks) (o := .lst xs.reverse) (fun b ob q => Heap.get?_push_of_some _ q) (Nat.le_refl _) ?_, rfl, q _ (I5.hok.fresh (Nat.le_refl _))⟩
    exact ⟨by rw [List.length_reverse]; exact hz, _, 0, r.reverse, Heap.get?_push_size _ rfl⟩
  · subst ex
    obtain ⟨t, rfl⟩ := r1
    show wpAny (model X.prog X.w) X.A (subscriptTail e (.Slice none none (some (.UnaryOp .USub (.Constant (.int 1) k p1) p2)) p3) (.str z t) (.ref s4.heap.objs.size)) (EP X pins σ Q) X.xe { s4 with heap := s4.heap.push { cls := .type "slice", data := .fields #[vl, vu, vs] } }
    refine tail_any (ops := [.str z t, .ref s4.heap.objs.size]) (typeIs_str _ _ _) (PySem.F.slot_str_getitem.lookup) ?_ (by with_unfolding_all rfl)
    obtain ⟨tk, evs⟩ : ∃ tk, vs = .int (-1) tk := by cases ps; exact ⟨_, rfl⟩
    have evl : vl = .none := by cases pl; rfl
    have evu : vu = .none := by cases pu; rfl
    refine wpAny_getItem_str_slice (l := none) (u := none) (st := some (-1, tk)) ⟨_, Heap.get?_push_size _ rfl, rfl, by rw [evs, evl, evu]; rfl⟩ rfl ?_
    rw [rev_made]
    refine ⟨?_, .str _, H4, I5.tok _, ⟨_, rfl⟩, q⟩
    show _ ≤ sizeLine
    have : (⟨z.cps.toList.reverse.toArray⟩ : Str).length = z.length := by show (List.toArray _).size = z.cps.size; simp
    rw [this]; exact hzl
def slRevG : D → Option R
  | .lst xs => some (.ow (.ls xs.reverse))
  | .str z => some (.fz (.str ⟨z.cps.toList.reverse.toArray⟩))
  | _ => none
def opRevG (x : R) : M R := fun g => match cont g x with
  | some d => done (slRevG d) g
  | none => .bad
def eRevG (f : M R) : M R := mb (pk f) opRevG
theorem de_revG {e : Expr} {f : M R} {k : Nat} {p1 p2 p3 : Pos} (he : DE X Y W e f) : DE X Y W (.Subscript e (.Slice none none (some (.UnaryOp .USub (.Constant (.int 1) k p1) p2)) p3) pos) (eRevG f) :=
  pe_mono (pe_rev (de_pk he)) fun σ H Q ⟨g, F, r, p⟩ => ⟨g, F, r, (p.bind).imp fun x g1 H1 F1 r1 s1 q v hv => by
    unfold opRevG at q
    split at q
    · rename_i d e
      obtain ⟨r', k1, k2⟩ := Post.done q r1
      unfold slRevG at k1
      split at k1
      · cases k1
        obtain ⟨p, vs, rfl, h1, h2, h3⟩ := (r1.cv hv e).lst r1.sub
        exact .inl ⟨p, vs, rfl, SqL.of h1, fun l hl => k2.ls r1.sub h3.reverse (by rw [List.length_reverse]; exact h2) hl⟩
      · rename_i z
        cases k1
        obtain ⟨h1, h2⟩ := (r1.cv hv e).str
        refine .inr ⟨z, h1, h2, k2.now r1.sub ⟨rfl, ?_⟩⟩
        have : (⟨z.cps.toList.reverse.toArray⟩ : Str).length = z.length := by show (List.toArray _).size = z.cps.size; simp
        rw [this]; exact h2
      · cases k1
    · exact q.elim⟩
end
end DL

namespace DL
open PySem PySem.Spec L2

/-! ### tuple(range(..)) -/
def bTrg1 : D → Option R
  | .int n => if okRg 0 n then some (.fz (.tup (lrng 0 n))) else none
  | _ => none
def bTrg2 : D → D → Option R
  | .int a, .int b => if okRg a b then some (.fz (.tup (lrng a b))) else none
  | _, _ => none
section
variable {X : Cx} {Y : Ent} {W : WX} {pos : Pos} {a b e : Expr}
theorem de_trg1 {f : M R} {p p2 pos2 : Pos} (hc : X.calm = true) (hg : Gl X "tuple") (hm : X.mg "tuple" = none) (hg2 : Gl X "range") (hm2 : X.mg "range" = none) (ha : DE X Y W a f)
    (na : starEach [a] X.env = (false, eval a X.env) :: starEach [] X.env := by rfl) (nb : starEach [.Call (.Name "range" p2) [a] [] pos2] X.env = (false, eval (.Call (.Name "range" p2) [a] [] pos2) X.env) :: starEach [] X.env := by rfl) :
    DE X Y W (.Call (.Name "tuple" p) [.Call (.Name "range" p2) [a] [] pos2] [] pos) (eU bTrg1 f) :=
  pe_mono (pe_tupRg hc hg hm (prg_1 hg2 hm2 (de_pk ha) na) nb) fun σ H Q ⟨g, F, r, p⟩ => ⟨g, F, r, (p.bind).imp fun x g1 H1 F1 r1 s1 q v hv => by
    obtain ⟨d, r', k1, k2, k3⟩ := Post.op1 q r1
    unfold bTrg1 at k2
    split at k2
    · rename_i n
      split at k2
      · rename_i hz
        cases k2
        exact ⟨n, (r1.cv hv k1).int, hz, fun l hl => k3.tup r1.sub (IsL.rg 0 n) (by rw [lrng_len]; exact Nat.le_trans hz.2.2.2.2 (by decide)) hl⟩
      · cases k2
    · cases k2⟩
theorem de_trg2 {f k : M R} {p p2 pos2 : Pos} (hc : X.calm = true) (hg : Gl X "tuple") (hm : X.mg "tuple" = none) (hg2 : Gl X "range") (hm2 : X.mg "range" = none) (ha : DE X Y W a f) (hb : DE X Y W b k)
    (na : starEach [a, b] X.env = (false, eval a X.env) :: starEach [b] X.env := by rfl) (nb : starEach [b] X.env = (false, eval b X.env) :: starEach [] X.env := by rfl) (hp : (backTo pos2 (starEach [b] X.env)).any (·.1) = false := by rfl)
    (nc : starEach [.Call (.Name "range" p2) [a, b] [] pos2] X.env = (false, eval (.Call (.Name "range" p2) [a, b] [] pos2) X.env) :: starEach [] X.env := by rfl) :
    DE X Y W (.Call (.Name "tuple" p) [.Call (.Name "range" p2) [a, b] [] pos2] [] pos) (eB bTrg2 f k) :=
  pe_mono (pe_tupRg hc hg hm (prg_2 hg2 hm2 (de_pk ha) (de_pk hb) na nb hp) nc) fun σ H Q ⟨g, F, r, p⟩ => ⟨g, F, r, (p.bind).imp fun x g1 H1 F1 r1 s1 q v hv => ⟨g1, F1, r1, (q.bind).imp fun y g2 H2 F2 r2 s2 q2 u hu => by
    obtain ⟨da, db, r', e1, e2, k2, k3⟩ := Post.op2 q2 r2
    unfold bTrg2 at k2
    split at k2
    · rename_i a b
      split at k2
      · rename_i hz
        cases k2
        exact ⟨a, b, (r2.cv (hv.keep s2 (cont_ne e1)) e1).int, (r2.cv hu e2).int, hz, fun l hl => k3.tup r2.sub (IsL.rg a b) (by rw [lrng_len]; exact Nat.le_trans hz.2.2.2.2 (by decide)) hl⟩
      · cases k2
    · cases k2⟩⟩
/-! ### s.lower() -/
def mLower : D → List D → Option R
  | .str a, [] => if a.length ≤ 5592405 ∧ (Txt.lower a).length ≤ sizeLine then some (.fz (.str (Txt.lower a))) else none
  | _, _ => none
theorem md_lower : MtD X "str.lower" mLower := by
  intro pins s σ H x xs v us Q I rx rs ⟨F, d, ds, r, sm, hd, hc, ho, hr⟩
  unfold mLower at ho
  split at ho
  · split at ho
    · rename_i a hz
      cases ho
      have hx : xs = [] := hc
      subst hx
      exact mt_lower pins s σ H x [] v us Q I rx rs ⟨a, hd.str.1, rfl, hz.1, hr.now sm ⟨rfl, hz.2⟩⟩
    · cases ho
  · cases ho
/-! ### for .. in range(a, b, c) -/
def rngC (lo c : Int) (n : Nat) : List D := (List.range n).map fun i => .int (lo + (i : Nat) * c)
def okRg3 (i j c : Int) : Prop := c ≠ 0 ∧ c.natAbs < 1073741824 ∧ Builtin.Range.small i j c = true ∧ Builtin.Range.rangeSize i j c = ((Builtin.Range.rangeSize i j c).toNat : Int)
instance (i j c : Int) : Decidable (okRg3 i j c) := by unfold okRg3; infer_instance
def toRng3 : List R → M (List D) := fun rs g => match rs with
  | [.fz (.int i), .fz (.int j), .fz (.int c)] => if okRg3 i j c then .ok (rngC i c (Builtin.Range.rangeSize i j c).toNat) g else .bad
  | _ => .bad
def iRn3 (k : M (List R)) : M (List D) := mb k toRng3
theorem srv_rngC {K : KW} {F0 : Hp} {lo c : Int} {n : Nat} : Srv K F0 (Itc lo c n) (rngC lo c n) := by
  have ln : (rngC lo c n).length = n := by unfold rngC; rw [List.length_map, List.length_range]
  refine fun H F s0 s1 => ⟨fun i d e => ?_, ?_⟩
  · have hi := len_of_get e
    rw [ln] at hi
    refine ⟨hi, fun x H' ⟨h1, h2⟩ => ?_⟩
    subst h1 h2
    unfold rngC at e
    rw [List.getElem?_map, List.getElem?_range hi] at e
    cases e
    exact ⟨F, Ext.refl s1, rfl⟩
  · rw [ln]; exact Nat.le_refl n
theorem di_rng3 {tg a b c : Expr} {p : Pos} {k : M (List R)} (hg : Gl X "range") (hm : X.mg "range" = none) (ha : DA X Y W [a, b, c] k)
    (hs : starEach [a, b, c] X.env = (false, eval a X.env) :: starEach [b, c] X.env := by rfl) (hpl : (backTo pos (starEach [b, c] X.env)).any (·.1) = false := by rfl) :
    DI X Y W tg (.Call (.Name "range" p) [a, b, c] [] pos) (iRn3 k) :=
  pi_mono (pi_range3 hg hm ha hs hpl) fun σ H Q ⟨g, F, r, p⟩ => ⟨g, F, r, (p.bind).imp fun rs g1 H1 F1 r1 s1 q vs hv => by
    unfold toRng3 at q
    split at q
    · rename_i i j c
      obtain ⟨v, us, e1, h1, w, us', e2, h2, z, us3, e3, h3, e4⟩ := hv
      subst e1 e2 e3
      rw [show us3 = [] from e4, show v = .int i from h1, show w = .int j from h2, show z = .int c from h3]
      split at q
      · rename_i hz
        exact ⟨i, j, c, _, rfl, hz, q H1 F1 r1 (Same.refl _) _ H1 F1 r1 (Same.refl _) srv_rngC⟩
      · exact q.elim
    · exact q.elim⟩
/-! ### xs.index(x) of flat things -/
def mIndexL : D → List D → Option R
  | .lst xs, [d] => if (flatI d && xs.all flatI) = true then ((xs.map toV).findIdx? fun z => eqV z (toV d)).map fun j => .fz (.int (j : Nat)) else none
  | _, _ => none
theorem md_indexL : MtD X "list.index" mIndexL := by
  intro pins s σ H x xs v us Q I rx rs ⟨F, d, ds, r, sm, hd, hc, ho, hr⟩
  unfold mIndexL at ho
  split at ho
  · rename_i ys y
    split at ho
    · rename_i hz
      rw [Bool.and_eq_true] at hz
      cases e : (ys.map toV).findIdx? fun z => eqV z (toV y) with
      | none => rw [e] at ho; cases ho
      | some j =>
        rw [e] at ho
        cases ho
        obtain ⟨p, vs, rfl, h1, h2, h3⟩ := hd.lst sm
        obtain ⟨w, rfl, hw⟩ := hc.one
        obtain ⟨e1, f1⟩ := flatI_V hz.1 hw
        obtain ⟨e2, f2⟩ := flatI_L (H := H) hz.2 h3
        obtain ⟨hj, k1, k2⟩ := List.findIdx?_eq_some_iff_getElem.mp e
        subst e1 e2
        refine mt_index pins s σ H _ _ v us Q I rx rs ⟨p, ys.map toV, toV y, j, (ys.map toV)[j], rfl, rfl, SqL.of h1, f1, f2, List.getElem?_eq_getElem hj, k1, fun m z' hm hz' => ?_, hr.now sm rfl⟩
        obtain ⟨hl, hg⟩ := List.getElem?_eq_some_iff.mp hz'
        have := k2 m hm
        rw [hg] at this
        exact Bool.eq_false_iff.mpr this
    · cases ho
  · cases ho
end
end DL

namespace DL
open PySem PySem.Spec L2
open PyProof.Rows (envOfC)

/-! # instances of the program's own classes -/
/-! ### fields -/
def opFld (c f : Str) (r : R) : M R := fun g => match r with
  | .fz (.obj c' fs) => if c' = c then (match fs.lookup f with
    | some d => .ok (.fz d) g
    | none => .bad) else .bad
  | .at i => (match g[i]? with
    | some (some (.ow _ (.ob c' fs))) => if c' = c then (match fs.get f with
      | some (.inl d) => .ok (.fz d) g
      | some (.inr _) => .ok (.sub i f) g
      | none => .bad) else .bad
    | some (some (.op c' fs)) => if c' = c then (match fs.get f with
      | some (.inl d) => .ok (.fz d) g
      | _ => .bad) else .bad
    | _ => .bad)
  | .sub i f0 => (match g[i]? with
    | some (some (.ow _ (.ob _ fs))) => (match fs.get f0 with
      | some (.inr (.ob c' fs')) => if c' = c then (match fs'.get f with
        | some (.inl d) => .ok (.fz d) g
        | _ => .bad) else .bad
      | _ => .bad)
    | _ => .bad)
  | _ => .bad
def eFld (c f : Str) (k : M R) : M R := mb k (opFld c f)
section
variable {K : KW} {Y : Ent} {W : WX} {σ : St} {H F H' F' : Hp} {g : G}
theorem IsF.look {f : Str} {d : D} : ∀ {fs : List (Str × D)} {vs : List (Str × V)}, IsF K F vs fs → fs.lookup f = some d → ∃ v, vs.lookup f = some v ∧ Is K F v d
  | [], _, _, e => by cases e
  | (k, d') :: r, _, ⟨v, us, e1, q, t⟩, e => by
    subst e1
    rw [List.lookup_cons] at e ⊢
    cases h : f == k with
    | true => rw [h] at e; cases e; exact ⟨v, rfl, q⟩
    | false => rw [h] at e; exact t.look e
theorem IsF.lookN {f : Str} : ∀ {fs : List (Str × D)} {vs : List (Str × V)}, IsF K F vs fs → fs.lookup f = none → vs.lookup f = none
  | [], _, q, _ => by rw [show _ = [] from q]; rfl
  | (k, d') :: r, _, ⟨v, us, e1, q, t⟩, e => by
    subst e1
    rw [List.lookup_cons] at e ⊢
    cases h : f == k with
    | true => rw [h] at e; cases e
    | false => rw [h] at e; exact t.lookN e
theorem FsAt.getN {f : Str} : ∀ {fs : Fs} {vs : List (Str × V)}, FsAt K F H vs fs → fs.get f = none → vs.lookup f = none
  | .nil, _, q, _ => by unfold FsAt at q; rw [q]; rfl
  | .fz k d r, vs, q, e => by
    unfold FsAt at q
    obtain ⟨v, us, rfl, _, t⟩ := q
    unfold Fs.get at e
    rw [List.lookup_cons]
    cases h : f == k with
    | true => rw [h] at e; cases e
    | false => rw [h] at e; exact t.getN e
  | .ow k o r, vs, q, e => by
    unfold FsAt at q
    obtain ⟨v, us, rfl, _, t⟩ := q
    unfold Fs.get at e
    rw [List.lookup_cons]
    cases h : f == k with
    | true => rw [h] at e; cases e
    | false => rw [h] at e; exact t.getN e
/-- an instance of the class c stands at the result: its place, its attributes -/
theorem opFld_of {c f : Str} {C : Addr} {r : R} {v : V} {Q : VK} (hc : PySem.W.nsIn K.K mainGlobals c = some (some (.ref C))) (h : Post K Y W σ F (JV K Y σ Q) (opFld c f r g)) (rl : Rel K Y σ H g F) (hv : RV K Y σ F H g v r) :
    ∃ a dx vs u, v = .ref a ∧ H a = some (.ins C dx vs) ∧ vs.lookup f = some u ∧ Q u H := by
  cases r with
  | ow o => exact h.elim
  | fz d =>
    unfold opFld at h
    split at h
    · rename_i c' fs e
      cases e
      split at h
      · rename_i e; subst e
        split at h
        · rename_i d e
          obtain ⟨a, C', dx, vs, rfl, h1, h2, h3⟩ := hv
          rw [hc] at h2; cases h2
          obtain ⟨u, h4, h5⟩ := h3.look e
          exact ⟨a, dx, vs, u, rfl, rl.sub _ _ h1, h4, h H F rl (Same.refl _) u h5⟩
        · exact h.elim
      · exact h.elim
    · rename_i e; cases e
    · rename_i e; cases e
    · exact h.elim
  | «at» i =>
    unfold opFld at h
    simp only at h
    split at h
    · rename_i l c' fs e
      split at h
      · rename_i ec; subst ec
        obtain ⟨a, rfl, q⟩ := rl.own e hv
        unfold OwAt at q
        obtain ⟨C', dx, vs, h1, h2, t⟩ := q
        rw [hc] at h2; cases h2
        split at h
        · rename_i d ed
          obtain ⟨u, h4, h5⟩ := t.getZ ed
          exact ⟨a, dx, vs, u, rfl, rl.sub _ _ h1, h4, h H F rl (Same.refl _) u h5⟩
        · rename_i o eo
          obtain ⟨b, h4, h5, _⟩ := t.get eo
          exact ⟨a, dx, vs, _, rfl, rl.sub _ _ h1, h4, h H F rl (Same.refl _) _ ⟨a, C, dx, vs, hv, h1, h4⟩⟩
        · exact h.elim
      · exact h.elim
    · rename_i c' fs e
      split at h
      · rename_i ec; subst ec
        obtain ⟨a, C', dx, vs, rfl, h1, h2, t, _⟩ := rl.at_ e hv
        rw [hc] at h2; cases h2
        split at h
        · rename_i d ed
          obtain ⟨u, h4, h5⟩ := t.getZ ed
          exact ⟨a, dx, vs, u, rfl, h1, h4, h H F rl (Same.refl _) u h5⟩
        · exact h.elim
      · exact h.elim
    · exact h.elim
  | sub i f0 =>
    unfold opFld at h
    simp only at h
    split at h
    · rename_i l c0 fs e
      split at h
      · rename_i c' fs' e0
        split at h
        · rename_i ec; subst ec
          obtain ⟨a, C0, dx0, vs0, b, k1, rfl, k2, k3, k4, _⟩ := rl.subAt e hv e0
          unfold OwAt at k4
          obtain ⟨C', dx, vs, h1, h2, t⟩ := k4
          rw [hc] at h2; cases h2
          split at h
          · rename_i d ed
            obtain ⟨u, h4, h5⟩ := t.getZ ed
            exact ⟨b, dx, vs, u, rfl, rl.sub _ _ h1, h4, h H F rl (Same.refl _) u h5⟩
          · exact h.elim
        · exact h.elim
      · exact h.elim
    · exact h.elim
end
section
variable {X : Cx} {Y : Ent} {W : WX} {pos pos' : Pos} {e o value : Expr} {c f : Str} {C : Addr}
theorem de_fld {k : M R} (hc : PySem.W.nsIn X.K mainGlobals c = some (some (.ref C))) (cl : Cls X.K C) (na : NoAttr X.K C f) (he : DE X Y W e k) (hb : attributeBase e f X.env (eval e X.env) = eval e X.env := by rfl) : DE X Y W (.Attribute e f pos) (eFld c f k) :=
  pe_mono (pe_fld he hb) fun σ H Q ⟨g, F, r, p⟩ => ⟨g, F, r, (p.bind).imp fun x g1 H1 F1 r1 s1 q v hv => by
    obtain ⟨a, dx, vs, u, h1, h2, h3, h4⟩ := opFld_of hc q r1 hv
    exact ⟨a, C, dx, vs, u, h1, h2, cl, na, h3, h4⟩⟩
end

/-! ### an instance under way gets a field -/
def Fs.add : Fs → Str → (D ⊕ O) → Fs
  | .nil, f, .inl d => .fz f d .nil
  | .nil, f, .inr o => .ow f o .nil
  | .fz g d r, f, x => .fz g d (r.add f x)
  | .ow g o r, f, x => .ow g o (r.add f x)
def Fs.len : Fs → Nat
  | .nil => 0
  | .fz _ _ r => r.len + 1
  | .ow _ _ r => r.len + 1
def opPut (i : Nat) (c f : Str) (r : R) : M Fl := fun g => match g[i]? with
  | some (some (.op c' fs)) => if c' = c ∧ fs.get f = none ∧ fs.len < 1000 then (match r with
    | .fz d => .ok .nx (g.set i (some (.op c (fs.add f (.inl d)))))
    | .ow o => .ok .nx (g.set i (some (.op c (fs.add f (.inr o)))))
    | _ => .bad) else .bad
  | _ => .bad
def sFldD (i : Nat) (c f : Str) (k : M R) : M Fl := mb (eA k) (opPut i c f)
section
variable {K : KW} {Y : Ent} {W : WX} {σ : St} {H F H' F' : Hp} {g : G}
theorem putF_new {f : Str} {v : V} : ∀ {vs : List (Str × V)}, vs.lookup f = none → putF f v vs = vs ++ [(f, v)]
  | [], _ => rfl
  | (k, x) :: r, h => by
    rw [List.lookup_cons] at h
    cases e : f == k with
    | true => rw [e] at h; cases h
    | false =>
      rw [e] at h
      have n : ¬ k = f := fun z => by rw [z] at e; simp at e
      show (if k = f then (k, v) :: r else (k, x) :: putF f v r) = _
      rw [if_neg n, putF_new h]; rfl
theorem FsAt.len : ∀ {fs : Fs} {vs : List (Str × V)}, FsAt K F H vs fs → vs.length = fs.len
  | .nil, _, q => by unfold FsAt at q; rw [q]; rfl
  | .fz k d r, vs, q => by unfold FsAt at q; obtain ⟨v, us, rfl, _, t⟩ := q; show us.length + 1 = _; rw [t.len]; rfl
  | .ow k o r, vs, q => by unfold FsAt at q; obtain ⟨v, us, rfl, _, t⟩ := q; show us.length + 1 = _; rw [t.len]; rfl
theorem FsAt.addZ {f : Str} {d : D} {u : V} (qd : Is K F u d) : ∀ {fs : Fs} {vs : List (Str × V)}, FsAt K F H vs fs → FsAt K F H (vs ++ [(f, u)]) (fs.add f (.inl d)) ∧ footF F (vs ++ [(f, u)]) (fs.add f (.inl d)) = footF F vs fs
  | .nil, _, q => by
    unfold FsAt at q; subst q
    refine ⟨?_, ?_⟩
    · show FsAt K F H [(f, u)] (.fz f d .nil)
      unfold FsAt; exact ⟨u, [], rfl, qd, by unfold FsAt; rfl⟩
    · rfl
  | .fz k d' r, vs, q => by
    unfold FsAt at q
    obtain ⟨v, us, rfl, q, t⟩ := q
    obtain ⟨h1, h2⟩ := FsAt.addZ qd t
    refine ⟨?_, ?_⟩
    · show FsAt K F H ((k, v) :: (us ++ [(f, u)])) (.fz k d' (r.add f (.inl d)))
      unfold FsAt; exact ⟨v, _, rfl, q, h1⟩
    · show footF F (us ++ [(f, u)]) (r.add f (.inl d)) = footF F us r
      exact h2
  | .ow k o r, vs, q => by
    unfold FsAt at q
    obtain ⟨b, us, rfl, q, t⟩ := q
    obtain ⟨h1, h2⟩ := FsAt.addZ qd t
    refine ⟨?_, ?_⟩
    · show FsAt K F H ((k, .ref b) :: (us ++ [(f, u)])) (.ow k o (r.add f (.inl d)))
      unfold FsAt; exact ⟨b, _, rfl, q, h1⟩
    · show foot F b o ++ footF F (us ++ [(f, u)]) (r.add f (.inl d)) = foot F b o ++ footF F us r
      rw [h2]
theorem FsAt.addO {f : Str} {o : O} {a : Addr} (qo : OwAt K F H a o) : ∀ {fs : Fs} {vs : List (Str × V)}, FsAt K F H vs fs → FsAt K F H (vs ++ [(f, .ref a)]) (fs.add f (.inr o)) ∧ footF F (vs ++ [(f, .ref a)]) (fs.add f (.inr o)) = footF F vs fs ++ foot F a o
  | .nil, _, q => by
    unfold FsAt at q; subst q
    refine ⟨?_, ?_⟩
    · show FsAt K F H [(f, .ref a)] (.ow f o .nil)
      unfold FsAt; exact ⟨a, [], rfl, qo, by unfold FsAt; rfl⟩
    · show footF F ((f, V.ref a) :: []) (.ow f o .nil) = _
      rw [footF_ow, show footF F [] Fs.nil = [] from rfl, List.append_nil]; rfl
  | .fz k d' r, vs, q => by
    unfold FsAt at q
    obtain ⟨v, us, rfl, q, t⟩ := q
    obtain ⟨h1, h2⟩ := FsAt.addO qo t
    refine ⟨?_, ?_⟩
    · show FsAt K F H ((k, v) :: (us ++ [(f, .ref a)])) (.fz k d' (r.add f (.inr o)))
      unfold FsAt; exact ⟨v, _, rfl, q, h1⟩
    · show footF F (us ++ [(f, .ref a)]) (r.add f (.inr o)) = footF F us r ++ _
      exact h2
  | .ow k o' r, vs, q => by
    unfold FsAt at q
    obtain ⟨b, us, rfl, q, t⟩ := q
    obtain ⟨h1, h2⟩ := FsAt.addO qo t
    refine ⟨?_, ?_⟩
    · show FsAt K F H ((k, .ref b) :: (us ++ [(f, .ref a)])) (.ow k o' (r.add f (.inr o)))
      unfold FsAt; exact ⟨b, _, rfl, q, h1⟩
    · show foot F b o' ++ footF F (us ++ [(f, .ref a)]) (r.add f (.inr o)) = (foot F b o' ++ footF F us r) ++ _
      rw [h2, List.append_assoc]
theorem sf_op {a C dx : Addr} {c : Str} {fs : Fs} {vs : List (Str × V)} (h : H a = some (.ins C dx vs)) : sf F H (.ref a) (.op c fs) = a :: footF F vs fs := by
  unfold sf; simp only; rw [h]
theorem opPut_of {N : Ends} {i : Nat} {c f : Str} {C : Addr} {r : R} {v : V} (hc : PySem.W.nsIn K.K mainGlobals c = some (some (.ref C))) (h : PostS K Y W F N (opPut i c f r g)) (rl : Rel K Y σ H g F) (hv : RV K Y σ F H g v r) :
    ∃ a dx vs, σ[i]? = some (some (.ref a)) ∧ H a = some (.ins C dx vs) ∧ vs.length < 1000 ∧ N.nx σ (upd H a (.ins C dx (putF f v vs))) := by
  unfold opPut at h
  split at h
  · rename_i c' fs e
    split at h
    · rename_i z
      obtain ⟨rfl, hn, hl⟩ := z
      obtain ⟨u, hu, a, C', dx, vs, rfl, h1, h2, t, nd, n, lr⟩ := rl.sl i _ e
      rw [hc] at h2; cases h2
      have es := sf_op (F := F) (c := c') (fs := fs) h1
      have na : a ∉ footF F vs fs := (List.nodup_cons.mp nd).1
      obtain ⟨n1, n2, n3⟩ := n a List.mem_cons_self
      have vl : vs.lookup f = none := t.getN hn
      have t' : FsAt K F (upd H a (.ins C dx (putF f v vs))) vs fs := FsAt.mono (Same.refl F) fs vs (fun b hb => upd_ne fun z => na (z ▸ hb)) t
      have go : ∀ (x : D ⊕ O) (L : List Addr), FsAt K F (upd H a (.ins C dx (putF f v vs))) (vs ++ [(f, v)]) (fs.add f x) → footF F (vs ++ [(f, v)]) (fs.add f x) = footF F vs fs ++ L → (a :: (footF F vs fs ++ L)).Nodup →
          (∀ b ∈ L, F b = none ∧ Y.B b = none ∧ Y.H0 b = none ∧ ∀ (j : Nat) (t : Sl) (u : V), g[j]? = some (some t) → σ[j]? = some (some u) → b ∉ sf F H u t) →
          Rel K Y σ (upd H a (.ins C dx (putF f v vs))) (g.set i (some (.op c' (fs.add f x)))) F := fun x L q1 q2 q3 q4 => by
        have es' : sf F (upd H a (.ins C dx (putF f v vs))) (.ref a) (.op c' (fs.add f x)) = a :: (footF F vs fs ++ L) := by
          rw [sf_op (upd_same), putF_new vl, q2]
        refine rl.chgG e hu (fun b y hb hy => ?_) (Same.refl _) (fun b y hb => ?_) (fun b hb => .inl hb) (fun b hb => ?_) ⟨a, C, dx, _, rfl, upd_same, hc, by rw [putF_new vl]; rw [putF_new vl] at q1; exact q1, by rw [putF_new vl, q2]; exact q3, fun b hb => ?_, lr⟩ (fun b hb => ?_)
        · rw [es] at hb
          rw [upd_ne (fun z => hb (by rw [z]; exact List.mem_cons_self))]; exact hy
        · rw [upd_ne (fun z => by subst z; rw [n1] at hb; cases hb)]; exact rl.sub _ _ hb
        · by_cases z : b = a
          · subst z; rw [upd_same]; simp
          · rw [upd_ne z]; exact hb
        · rw [putF_new vl, q2] at hb
          rcases List.mem_cons.mp hb with rfl | hb
          · exact ⟨n1, n2, n3⟩
          · rcases List.mem_append.mp hb with hb | hb
            · exact n b (List.mem_cons_of_mem _ hb)
            · exact ⟨(q4 b hb).1, (q4 b hb).2.1, .inl (q4 b hb).2.2.1⟩
        · rw [es'] at hb
          rw [es]
          rcases List.mem_cons.mp hb with rfl | hb
          · exact .inl List.mem_cons_self
          · rcases List.mem_append.mp hb with hb | hb
            · exact .inl (List.mem_cons_of_mem _ hb)
            · exact .inr fun j t u _ ej hj => (q4 b hb).2.2.2 j t u ej hj
      refine ⟨a, dx, vs, hu, h1, by rw [t.len]; exact hl, ?_⟩
      cases r with
      | «at» _ => exact h.elim
      | sub _ _ => exact h.elim
      | fz d =>
        obtain ⟨k1, k2⟩ := t'.addZ (f := f) (show Is K F v d from hv)
        exact h σ _ F (go (.inl d) [] k1 (by rw [List.append_nil]; exact k2) (by rw [List.append_nil]; exact nd) fun b hb => by cases hb) (Same.refl _)
      | ow o =>
        obtain ⟨b, rfl, qo, ndo, no⟩ := hv
        have nab : a ∉ foot F b o := fun z => (no a z).2.2.2 i _ _ e hu (by rw [es]; exact List.mem_cons_self)
        obtain ⟨k1, k2⟩ := t'.addO (f := f) (OwAt.mono (Same.refl F) o b (fun x hx => upd_ne fun z => nab (by rw [← z]; exact hx)) qo)
        refine h σ _ F (go (.inr o) (foot F b o) k1 k2 ?_ no) (Same.refl _)
        refine List.nodup_cons.mpr ⟨fun z => (List.mem_append.mp z).elim na nab, List.nodup_append.mpr ⟨(List.nodup_cons.mp nd).2, ndo, fun x hx y hy z => ?_⟩⟩
        subst z
        exact (no x hy).2.2.2 i _ _ e hu (by rw [es]; exact List.mem_cons_of_mem _ hx)
    · exact h.elim
  · exact h.elim
/-- no more fields: from now on the instance is as it is -/
def seal_ (i : Nat) (g : G) : G := match g[i]? with
  | some (some (.op c fs)) => g.set i (some (.ow true (.ob c fs)))
  | _ => g
def sSeal (i : Nat) : M Fl := fun g => .ok .nx (seal_ i g)
theorem Rel.seal (r : Rel K Y σ H g F) (i : Nat) : ∃ F', Rel K Y σ H (seal_ i g) F' ∧ Same F F' := by
  unfold seal_
  split
  · rename_i c fs e
    obtain ⟨u, hu, a, C, dx, vs, rfl, h1, h2, t, nd, n, lr⟩ := r.sl i _ e
    have na : a ∉ footF F vs fs := (List.nodup_cons.mp nd).1
    obtain ⟨n1, n2, n3⟩ := n a List.mem_cons_self
    have s : Same F (upd F a (.ins C dx vs)) := same_new n1
    have es := sf_op (F := F) (c := c) (fs := fs) h1
    have ef : foot (upd F a (.ins C dx vs)) a (.ob c fs) = footF F vs fs := by
      unfold foot; rw [upd_same]; exact footF_mono s fs vs t
    refine ⟨_, r.chg e hu (fun _ _ _ h => h) s (fun b y hb => ?_) (fun b hb => ?_) (fun _ h => h) ⟨a, rfl, ?_, by rw [ef]; exact (List.nodup_cons.mp nd).2, fun b hb => ?_, fun _ => lr⟩ (fun b hb => .inl ?_), s⟩
    · by_cases z : b = a
      · subst z; rw [upd_same] at hb; cases hb; exact h1
      · rw [upd_ne z] at hb; exact r.sub _ _ hb
    · by_cases z : b = a
      · subst z; rw [es]; exact .inr (.inr List.mem_cons_self)
      · rw [upd_ne z] at hb; exact .inl hb
    · unfold OwAt; exact ⟨C, dx, vs, upd_same, h2, FsAt.mono s fs vs (fun _ _ => rfl) t⟩
    · rw [ef] at hb
      obtain ⟨m1, m2, m3⟩ := n b (List.mem_cons_of_mem _ hb)
      have nb : b ≠ a := fun z => na (by rw [← z]; exact hb)
      exact ⟨by rw [upd_ne nb]; exact m1, m2, (fun z => nomatch z), m3⟩
    · have hb : b ∈ foot (upd F a (.ins C dx vs)) a (.ob c fs) := hb
      rw [ef] at hb
      rw [es]; exact List.mem_cons_of_mem _ hb
  · exact ⟨F, r, Same.refl _⟩
end
section
variable {X : Cx} {Y : Ent} {W : WX} {pos pos' px : Pos} {e o value : Expr} {c f x : Str} {C : Addr} {st : Stmt}
theorem ds_fld {i : Nat} {k : M R} (hc : PySem.W.nsIn X.K mainGlobals c = some (some (.ref C))) (cl : Cls X.K C) (na : NoAttr X.K C f) (he : DE X Y W value k) (hN : X.N[i]? = some x := by rfl) (hv : Vis X.env.scope x := by first | exact Or.inl rfl | exact Or.inr (Or.inl rfl) | exact Or.inr (Or.inr rfl))
    (hd : (x == ("__debug__" : Str)) = false := by decide) (hcd : (x == ("__classdict__" : Str)) = false := by decide) (hs : swapsWith value (some (.Attribute (.Name x px) f pos')) pos.line X.env = pure false := by rfl) : DS X Y W (.Assign [.Attribute (.Name x px) f pos'] value pos) (sFldD i c f k) :=
  ps_mono (ps_fld (pe_var hN hv hd hcd) (de_A he) hs) fun N σ H ⟨g, F, r, p⟩ => ⟨g, F, r, (PostS.bind (σ := σ) p).imp fun y g1 H1 F1 r1 s1 q v hv => by
    obtain ⟨a, dx, vs, h1, h2, h3, h4⟩ := opPut_of hc q r1 hv
    exact ⟨_, h1, a, C, dx, vs, rfl, h2, cl, na, h3, h4⟩⟩
theorem ds_seal {f : M Fl} (i : Nat) (h : DS X Y W st f) : DS X Y W st (sSeq (sSeal i) f) :=
  ps_mono h fun D σ H ⟨g, F, r, p⟩ => by
    obtain ⟨F2, r2, s2⟩ := r.seal i
    refine ⟨seal_ i g, F2, r2, ?_⟩
    have p' : PostS X.kw Y W F D (f (seal_ i g)) := p
    revert p'
    cases f (seal_ i g) with
    | bad => exact id
    | ok fl g' => exact fun q σ' H' F' r' s' => q σ' H' F' r' (s2.trans s')
    | ex e g' => exact fun q d σ' H' F' r' s' => q d σ' H' F' r' (s2.trans s')
theorem PostS.seal {K : KW} {F : Hp} {D : Ends} {i : Nat} {x : Rs Fl} (h : PostS K Y W F D (match x with
    | .ok .nx g' => .ok .nx (seal_ i g')
    | r => r)) : PostS K Y W F D x := by
  cases x with
  | bad => exact h
  | ex e g => exact h
  | ok fl g =>
    cases fl with
    | rt r => exact h
    | bk => exact h
    | ct => exact h
    | nx =>
      intro σ' H' F' r s
      obtain ⟨F2, r2, s2⟩ := r.seal i
      exact h σ' H' F2 r2 (s.trans s2)
theorem sSeq_seal (f : M Fl) (i : Nat) (g : G) : sSeq f (sSeal i) g = match f g with
    | .ok .nx g' => .ok .nx (seal_ i g')
    | r => r := rfl
theorem ds_sealA {f : M Fl} (i : Nat) (h : DS X Y W st f) : DS X Y W st (sSeq f (sSeal i)) :=
  ps_mono h fun D σ H ⟨g, F, r, p⟩ => ⟨g, F, r, PostS.seal (i := i) (by rw [sSeq_seal] at p; exact p)⟩
end
end DL

namespace DL
open PySem PySem.Spec L2
open PyProof.Rows (envOfC)

/-! ### __init__ -/
/-- what a class's __init__ makes, from its other arguments -/
abbrev ISem := List D → Res
def PostI (K : KW) (cls : Str → Value) (a : Addr) (F H : Hp) (Q : VK) (E : XK) : Res → Prop
  | .ok (.fz .non) (some o) => ∀ H' F', ExtL K (some a) [a] (some o) F H F' H' → Q .non H'
  | .ex e none => ∀ d H' F', ExtL K none [a] none F H F' H' → XD K F' H' d e.p → E (cls e.c) d H'
  | _ => False
def spI (K : KW) (cls : Str → Value) (c : Str) (n : Nat) (sem : ISem) : Sp := fun vs H Q E =>
  ∃ F a C dx us ds, vs = V.ref a :: us ∧ vs.length = n ∧ Same F H ∧ H a = some (.ins C dx []) ∧ F a = none ∧ PySem.W.nsIn K.K mainGlobals c = some (some (.ref C)) ∧ IsL K F us ds ∧ PostI K cls a F H Q E (sem ds)
def self0 (g : G) : Res := match g[(0 : Nat)]? with
  | some (some (.ow true o)) => .ok (.fz .non) (some o)
  | _ => .bad
def endI (r : Rs Fl) : Res := match r with
  | .ok .nx g => self0 g
  | .ok (.rt (.fz .non)) g => self0 g
  | .ex e _ => .ex e none
  | _ => .bad
def bodyI (n : Nat) (c : Str) (b : M Fl) : ISem := fun ds => endI (b (fill n (some (.op c .nil) :: ds.map fun d => some (.fz d))))
section
variable {K : KW} {cls : Str → Value} {H F : Hp}
theorem ext_any0 {lr : Option Addr} {la : List Addr} {σ : St} {H' F' : Hp} {g : G} (r : Rel K (entOf cls lr la F H) σ H' g F') : ExtL K none la none F H F' H' :=
  ⟨fun b x hb hx => r.keep b x (show (if b ∈ la then none else H b) = some x by rw [if_neg hb]; exact hx), r.base, r.sub, fun a h => r.fr a h, fun b h => r.dom b h, trivial⟩
theorem ext_lent {a : Addr} {la : List Addr} {σ : St} {H' F' : Hp} {g : G} {j : Nat} {o : O} (r : Rel K (entOf cls (some a) la F H) σ H' g F') (e : g[j]? = some (some (.ow true o))) : ExtL K (some a) la (some o) F H F' H' := by
  have x := ext_any0 r
  obtain ⟨v, hv, b, rfl, h2, nd, n, h6⟩ := r.sl j _ e
  have : b = a := (Option.some.inj (h6 rfl)).symm
  subst this
  exact ⟨x.hh, x.ff, x.fh, x.nw, x.dm, h2, nd, fun x hx => ⟨(n x hx).1, (n x hx).2.2.2.symm⟩⟩
theorem rel_init {N : List Str} {a C dx : Addr} {c : Str} {us : List V} {ds : List D} (sm : Same F H) (ha : H a = some (.ins C dx [])) (hf : F a = none) (hc : PySem.W.nsIn K.K mainGlobals c = some (some (.ref C))) (hl : IsL K F us ds) (hn : (V.ref a :: us).length ≤ N.length) :
    Rel K (entOf cls (some a) [a] F H) (start N (V.ref a :: us)) H (fill N.length (some (.op c .nil) :: ds.map fun d => some (.fz d))) F := by
  have ll := hl.length
  refine rel_begin sm hn (by simp [ll]) (fun b hb => by rw [List.mem_singleton] at hb; subst hb; rw [ha]; simp) (fun i s h => ?_) (fun i j s s' v v' n h1 h2 e1 e2 b hb => ?_)
  · cases i with
    | zero =>
      rw [List.getElem?_cons_zero] at h
      cases h
      refine ⟨_, rfl, a, C, dx, [], rfl, ha, hc, by unfold FsAt; rfl, by rw [show footF F [] Fs.nil = [] from rfl]; simp, fun b hb => ?_, rfl⟩
      rw [show footF F [] Fs.nil = [] from rfl, List.mem_singleton] at hb
      subst hb
      exact ⟨hf, if_pos (by simp), .inr (by show b ∈ [b]; simp)⟩
    | succ i =>
      rw [List.getElem?_cons_succ, List.getElem?_map] at h
      cases e : ds[i]? with
      | none => rw [e] at h; cases h
      | some d =>
        rw [e] at h; cases h
        obtain ⟨v, k1, k2⟩ := hl.get e
        exact ⟨v, by rw [List.getElem?_cons_succ]; exact k1, k2⟩
  · have fz : ∀ (i : Nat) (s : Sl), i ≠ 0 → ((some (Sl.op c .nil) :: ds.map fun d => some (Sl.fz d)) : G)[i]? = some (some s) → ∃ d, s = .fz d := fun i s hi h => by
      cases i with
      | zero => exact absurd rfl hi
      | succ i =>
        rw [List.getElem?_cons_succ, List.getElem?_map] at h
        cases e : ds[i]? with
        | none => rw [e] at h; cases h
        | some d => rw [e] at h; cases h; exact ⟨d, rfl⟩
    by_cases hi : i = 0
    · have hj : j ≠ 0 := fun z => n (hi.trans z.symm)
      obtain ⟨d, rfl⟩ := fz j s' hj h2
      rw [sf_fz]; simp
    · obtain ⟨d, rfl⟩ := fz i s hi h1
      rw [sf_fz] at hb; cases hb
end
section
variable {P : Program} {w : World} {K : PySem.W.Frag} {mg : Str → Option Value} {base : Heap} {cls : Str → Value}
theorem fn_I {x qual c : Str} {st : Stmt} {f : Addr} {fd : FuncData} {N ps : List Str} {k : Nat} {b : M Fl} (F : Fun K x qual st f fd) (S : FnScope N ps (defScope st)) (hps : ps.length ≤ N.length)
    (body : ∀ (cdv : Value) (A : Around) (outer : List Env) (s : Shared) (H : Hp) (E : XK), Room k (A.deeper (envOfC qual (defScope st) s.heap.objs.size f cdv)) → (A.deeper (envOfC qual (defScope st) s.heap.objs.size f cdv)).guards = some [] → ∀ Y : Ent, Y.cls = cls →
      DSs (cxOf (L2.CX P w) P w K mg base N qual (defScope st) f cdv A outer s H E) Y (fun c d _ H => E c d H) (defBody st) b) : FnG P w K mg base (k + 1) f fd ps (spI ⟨K, w⟩ cls c ps.length (bodyI N.length c b)) := by
  refine fnG_ok F S (fun vs H Q E h => ?_) fun cdv A outer s H vs Q E hr gd h => ?_
  · obtain ⟨_, _, _, _, _, _, _, e, _⟩ := h; exact e
  · obtain ⟨F0, a, C, dx, us, ds, rfl, hl, sm, h1, h2, h3, h4, hp⟩ := h
    refine ⟨_, body cdv A outer s H E hr gd (entOf cls (some a) [a] F0 H) rfl, ?_⟩
    have rl : Rel ⟨K, w⟩ (entOf cls (some a) [a] F0 H) (start N (V.ref a :: us)) H _ F0 := rel_init (c := c) sm h1 h2 h3 h4 (by rw [hl]; exact hps)
    refine ⟨_, F0, rl, ?_⟩
    unfold bodyI at hp
    revert hp
    cases b (fill N.length (some (.op c .nil) :: ds.map fun d => some (.fz d))) with
    | bad => exact fun hp => hp.elim
    | ex e g => exact fun hp d σ' H' F' r s xd => hp d H' F' (ext_any0 r) xd
    | ok fl g =>
      have key : ∀ (hp : PostI ⟨K, w⟩ cls a F0 H Q E (self0 g)), ∀ σ' H' F', Rel ⟨K, w⟩ (entOf cls (some a) [a] F0 H) σ' H' g F' → Q .non H' := fun hp σ' H' F' r => by
        unfold self0 at hp
        split at hp
        · rename_i o e; exact hp H' F' (ext_lent r e)
        · exact hp.elim
      cases fl with
      | bk => exact fun hp => hp.elim
      | ct => exact fun hp => hp.elim
      | nx => exact fun hp σ' H' F' r s => key hp σ' H' F' r
      | rt rr =>
        cases rr with
        | fz d =>
          cases d with
          | non =>
            intro hp σ' H' F' r s v hv
            have e : v = .non := hv
            subst e
            exact key hp σ' H' F' r
          | _ => exact fun hp => hp.elim
        | ow o => exact fun hp => hp.elim
        | «at» i => exact fun hp => hp.elim
        | sub i f => exact fun hp => hp.elim
end

/-! ### C(..) -/
def opMake (sem : ISem) (rs : List R) : M R := fun g => match allFz rs with
  | some ds => (match sem ds with
    | .ok (.fz .non) (some o) => .ok (.ow o) g
    | .ex e none => .ex e g
    | _ => .bad)
  | none => .bad
def eMake (sem : ISem) (k : M (List R)) : M R := mb k (opMake sem)
section
variable {X : Cx} {Y : Ent} {W : WX} {k n : Nat} {f C : Addr} {fd : FuncData} {ps : List Str} {sp : Sp} {x m c : Str} {p pos apos : Pos} {e o : Expr} {es : List Expr} {cls : Str → Value} {sem : ISem}
theorem run_makeG {pins : List (Addr × Obj)} {σ : St} {H : Hp} {s : Shared} {Q : VK} {us : List Value} {vs : List V} (M : Mk X.K C f) (G : FnG X.prog X.w X.K X.mg X.base k f fd ps sp) (hr : Room (k + 1) X.A) (gd : X.A.guards = some []) (hb : Binds X.K fd ps []) (tk : Takes X W)
    (I : Inv X pins σ H s) (r : Vals vs us) (h : ∀ a dx, H a = none → H dx = none → dx ≠ a → sp (.ref a :: vs) (upd (upd H dx (.own a)) a (.ins C dx [])) (fun v H2 => v = .non ∧ Q (.ref a) H2) fun c d H' => W c d σ H') :
    wpAny (model X.prog X.w) X.A (call (.ref C) us) (EP X pins σ Q) X.xe s := by
  have want := h (s.heap.objs.size + 1) s.heap.objs.size (I.hok.fresh (Nat.le_succ _)) (I.hok.fresh (Nat.le_refl _)) (Nat.ne_of_lt (Nat.lt_succ_self _))
  have made := Inv.made (C := C) I
  have args : Vals (V.ref (s.heap.objs.size + 1) :: vs) (Value.ref (s.heap.objs.size + 1) :: us) := .cons rfl r
  have few : (Value.ref (s.heap.objs.size + 1) :: us).length = ps.length := args.length.symm.trans (G.len _ _ _ _ want)
  have bd := hb _ (Value.ref (s.heap.objs.size + 1) :: us) made.kIn (by rw [List.append_nil]; exact few)
  rw [List.append_nil] at bd
  have run := G.run _ X.stack _ _ ⟨Value.ref (s.heap.objs.size + 1) :: us, []⟩ _ _ _ _ (hr.make C us []) gd (made.env0.make C us []) bd args want
  refine wpAny_call (make_map (f := f) I.kIn M.makes M.init (beq_iff_eq.mp M.fn) (codeAny_mono run fun res s' hq => ?_))
  cases res with
  | error e => exact takes_at tk pins σ _ _ e s' made hq
  | ok fl =>
    cases fl with
    | next => exact False.elim hq
    | brk => exact False.elim hq
    | cont => exact False.elim hq
    | ret u =>
      obtain ⟨v, H', J, rv, ev, q⟩ := made.after hq
      subst ev
      exact ⟨rv, ⟨V.ref (s.heap.objs.size + 1), H', J, rfl, q⟩⟩
theorem make_sem {K : KW} {σ : St} {F H : Hp} {g : G} {Q : VK} {rs : List R} {vs : List V} (hc : PySem.W.nsIn K.K mainGlobals c = some (some (.ref C))) (h : Post K Y W σ F (JV K Y σ Q) (opMake sem rs g)) (r : Rel K Y σ H g F) (hv : RVs K Y σ F H g vs rs) (hn : rs.length + 1 = n) :
    ∀ a dx, H a = none → H dx = none → dx ≠ a → spI K Y.cls c n sem (.ref a :: vs) (upd (upd H dx (.own a)) a (.ins C dx [])) (fun v H2 => v = .non ∧ Q (.ref a) H2) fun c d H' => W c d σ H' := by
  intro a dx ha hd nd
  unfold opMake at h
  split at h
  · rename_i ds e
    have s1 : Same H (upd (upd H dx (.own a)) a (.ins C dx [])) := (same_new hd).trans (same_new (by rw [upd_ne (Ne.symm nd)]; exact ha))
    have back : ∀ b, upd (upd H dx (.own a)) a (.ins C dx []) b = none → H b = none := fun b hb => (upd_none (upd_none hb).2).2
    have ext : ∀ {lr : Option Addr} {lo : Option O} {H' F' : Hp}, ExtL K lr [a] lo F (upd (upd H dx (.own a)) a (.ins C dx [])) F' H' → Ext F H F' H' := fun {lr lo H' F'} x =>
      ⟨fun b y hb => x.hh b y (fun z => by rw [List.mem_singleton] at z; subst z; rw [ha] at hb; cases hb) (s1 _ _ hb), x.ff, x.fh, fun b hb => (x.nw b hb).imp id fun z => z.elim (back b) fun z => by rw [List.mem_singleton] at z; rw [z]; exact ha⟩
    refine ⟨F, a, C, dx, vs, ds, rfl, by rw [List.length_cons, hv.len]; exact hn, r.sub.trans s1, upd_same, none_of_same r.sub ha, hc, hv.fz e, ?_⟩
    split at h
    · rename_i o es
      rw [es]
      intro H' F' x
      refine ⟨rfl, h H' F' (r.ext (ext x)) x.ff (.ref a) ⟨a, rfl, x.lo.1, x.lo.2.1, fun b hb => ?_⟩⟩
      obtain ⟨n1, n2⟩ := x.lo.2.2 b hb
      have hb0 : H b = none := n2.elim (fun z => by rw [List.mem_singleton] at z; rw [z]; exact ha) (back b)
      exact ⟨n1, (r.newB hb0).1, (r.newB hb0).2, fun i s u e hu z => r.cells_ext (ext x) i s u e hu b z hb0⟩
    · rename_i e es
      rw [es]
      exact fun d H' F' x xd => h d H' F' (r.ext (ext x)) x.ff xd
    · exact h.elim
  · exact h.elim
theorem de_make (hcl : PySem.W.nsIn X.K mainGlobals c = some (some (.ref C))) (M : Mk X.K C f) (G : FnG X.prog X.w X.K X.mg X.base k f fd ps (spI X.kw cls c (n + 1) sem)) (hr : Room (k + 1) X.A) (gd : X.A.guards = some []) (hg : Gl X x) (hm : X.mg x = some (.ref C)) (hb : Binds X.K fd ps []) (tk : Takes X W) (hc : Y.cls = cls) {a : DL.M (List R)}
    (ha : DA X Y W (e :: es) a) (hdb : (x == ("__debug__" : Str)) = false := by decide) (he : starEach (e :: es) X.env = (false, eval e X.env) :: starEach es X.env := by rfl) (hpl : (backTo pos (starEach es X.env)).any (·.1) = false := by rfl) :
    DE X Y W (.Call (.Name x p) (e :: es) [] pos) (eMake sem (chkN n a)) := by
  have pe : PE X (.Call (.Name x p) (e :: es) [] pos) (fun σ H Q => tA X.kw Y W a σ H fun vs H1 => ∀ b dx, H1 b = none → H1 dx = none → dx ≠ b → spI X.kw cls c (n + 1) sem (.ref b :: vs) (upd (upd H1 dx (.own b)) b (.ins C dx [])) (fun v H2 => v = .non ∧ Q (.ref b) H2) fun c d H' => W c d σ H') := by
    constructor
    intro pins s σ H Q I h
    apply wpAny_Call_Name_kw
    refine ld_glob I hg hm ?_ hdb
    apply PySem.W.callWith_K (h₀ := X.base) I.ok.mod.kin M.kp (thn (PA.run ha pos pins s σ H _ I h) ?_) he hpl
    rintro us s1 ⟨vs, H1, I1, r, q⟩
    exact ⟨I1.kIn, run_makeG M G hr gd hb tk I1 r q⟩
  refine pe_mono pe fun σ H Q ⟨g, F, r, q⟩ => ?_
  have q' : Post X.kw Y W σ F (JV X.kw Y σ Q) ((a g).andThen fun rs g => (if rs.length = n then Rs.ok rs g else .bad : Rs (List R)).andThen (opMake sem)) := by
    have : (eMake sem (chkN n a)) g = (a g).andThen fun rs g => (if rs.length = n then Rs.ok rs g else .bad : Rs (List R)).andThen (opMake sem) := by
      unfold eMake chkN mb
      cases a g <;> rfl
    rw [← this]; exact q
  refine ⟨g, F, r, (Post.bind q').imp fun rs g1 H1 F1 r1 s1 q1 vs hv => ?_⟩
  split at q1
  · rename_i hn
    rw [← hc]
    exact make_sem hcl q1 r1 hv (by rw [hn])
  · exact q1.elim

/-! ### o.m(..) -/
def chkRecv (c m : Str) (r : R) : DL.M Unit := fun g => match r with
  | .fz (.obj c' fs) => if c' = c ∧ fs.lookup m = none then .ok () g else .bad
  | .at i => (match g[i]? with
    | some (some (.ow _ (.ob c' fs))) => if c' = c ∧ fs.get m = none then .ok () g else .bad
    | _ => .bad)
  | .sub i f0 => (match g[i]? with
    | some (some (.ow _ (.ob _ fs))) => (match fs.get f0 with
      | some (.inr (.ob c' fs')) => if c' = c ∧ fs'.get m = none then .ok () g else .bad
      | _ => .bad)
    | _ => .bad)
  | _ => .bad
def eSelf (c m : Str) (lp : Option Nat) (sem : FSem) (o : DL.M R) (k : DL.M (List R)) : DL.M R := mb (pk o) fun r => mb (chkRecv c m r) fun _ => mb k fun rs => opCall lp sem (r :: rs)
theorem recv_of {α : Type} {K : KW} {σ : St} {F H : Hp} {J : α → G → Hp → Hp → Prop} {g : G} {r : R} {v : V} {j : Unit → DL.M α} (hc : PySem.W.nsIn K.K mainGlobals c = some (some (.ref C))) (h : Post K Y W σ F J (mb (chkRecv c m r) j g)) (rl : Rel K Y σ H g F) (hv : RV K Y σ F H g v r) :
    (∃ a dx vs, v = .ref a ∧ H a = some (.ins C dx vs) ∧ vs.lookup m = none) ∧ Post K Y W σ F J (j () g) := by
  have h' : Post K Y W σ F J ((chkRecv c m r g).andThen j) := h
  unfold chkRecv at h'
  cases r with
  | ow o => exact h'.elim
  | fz d =>
    split at h'
    · rename_i c' fs e
      cases e
      split at h'
      · rename_i z
        obtain ⟨rfl, hn⟩ := z
        obtain ⟨a, C', dx, vs, rfl, h1, h2, h3⟩ := hv
        rw [hc] at h2; cases h2
        exact ⟨⟨a, dx, vs, rfl, rl.sub _ _ h1, h3.lookN hn⟩, h'⟩
      · exact h'.elim
    · rename_i e; cases e
    · rename_i e; cases e
    · exact h'.elim
  | «at» i =>
    simp only at h'
    split at h'
    · rename_i l c' fs e
      split at h'
      · rename_i z
        obtain ⟨rfl, hn⟩ := z
        obtain ⟨a, rfl, q⟩ := rl.own e hv
        unfold OwAt at q
        obtain ⟨C', dx, vs, h1, h2, t⟩ := q
        rw [hc] at h2; cases h2
        exact ⟨⟨a, dx, vs, rfl, rl.sub _ _ h1, t.getN hn⟩, h'⟩
      · exact h'.elim
    · exact h'.elim
  | sub i f0 =>
    simp only at h'
    split at h'
    · rename_i l c0 fs e
      split at h'
      · rename_i c' fs' e0
        split at h'
        · rename_i z
          obtain ⟨rfl, hn⟩ := z
          obtain ⟨a, C0, dx0, vs0, b, k1, rfl, k2, k3, k4, _⟩ := rl.subAt e hv e0
          unfold OwAt at k4
          obtain ⟨C', dx, vs, h1, h2, t⟩ := k4
          rw [hc] at h2; cases h2
          exact ⟨⟨b, dx, vs, rfl, rl.sub _ _ h1, t.getN hn⟩, h'⟩
        · exact h'.elim
      · exact h'.elim
    · exact h'.elim
theorem chkRecv_ne {α : Type} {K : KW} {σ : St} {F : Hp} {J : α → G → Hp → Hp → Prop} {g : G} {r : R} {j : Unit → DL.M α} (h : Post K Y W σ F J (mb (chkRecv c m r) j g)) : ∀ o, r ≠ .ow o := fun o e => by subst e; exact (show False from h)
/-- the reading of a method's call -/
def tSelfG (C : Addr) (m : Str) (sp : Sp) (W : WX) (ta : TE) (t : TA) : TE := fun σ H Q => ta σ H fun x H1 => ∃ a dx fs, x = .ref a ∧ H1 a = some (.ins C dx fs) ∧ fs.lookup m = none ∧ t σ H1 fun vs H2 => sp (x :: vs) H2 Q fun c d H' => W c d σ H'
theorem self_sem {K : KW} {lp : Option Nat} {fs : FSem} {of : DL.M R} {a : DL.M (List R)} {σ : St} {H : Hp} {Q : VK} (hc : PySem.W.nsIn K.K mainGlobals c = some (some (.ref C))) (h : tD K Y W (eSelf c m lp fs of (chkN n a)) σ H Q) : tSelfG C m (spD K Y.cls lp (n + 1) fs) W (tD K Y W (pk of)) (tA K Y W a) σ H Q := by
  obtain ⟨g, F, r, p⟩ := h
  refine ⟨g, F, r, (p.bind).imp fun x g1 H1 F1 r1 s1 q v hv => ?_⟩
  have ne := chkRecv_ne q
  obtain ⟨⟨b, dx, vs, rfl, h1, h2⟩, q2⟩ := recv_of hc q r1 hv
  refine ⟨b, dx, vs, rfl, h1, h2, g1, F1, r1, ?_⟩
  have q3 : Post K Y W σ F1 (JV K Y σ Q) ((a g1).andThen fun rs g => (if rs.length = n then Rs.ok rs g else .bad : Rs (List R)).andThen fun rs => opCall lp fs (x :: rs)) := by
    have : mb (chkN n a) (fun rs => opCall lp fs (x :: rs)) g1 = (a g1).andThen fun rs g => (if rs.length = n then Rs.ok rs g else .bad : Rs (List R)).andThen fun rs => opCall lp fs (x :: rs) := by
      unfold chkN mb
      cases a g1 <;> rfl
    rw [← this]; exact q2
  refine (Post.bind q3).imp fun rs g2 H2 F2 r2 s2 q4 us hus => ?_
  split at q4
  · rename_i hn
    exact opCall_of (rs := x :: rs) q4 r2 ⟨_, us, rfl, hv.keep s2 ne, hus⟩ (by rw [List.length_cons, hn])
  · exact q4.elim
theorem de_self {lp : Option Nat} {fs : FSem} {of : DL.M R} {a : DL.M (List R)} {pl : Sem Bool} (hcl : PySem.W.nsIn X.K mainGlobals c = some (some (.ref C))) (cl : Cls X.K C) (hm : Meth X.K C m f) (G : FnG X.prog X.w X.K X.mg X.base k f fd ps (spD X.kw cls lp (n + 1) fs)) (hr : Room k X.A) (gd : X.A.guards = some [])
    (hb : Binds X.K fd ps []) (tk : Takes X W) (hc : Y.cls = cls) (ho : DE X Y W o of) (ha : DA X Y W (e :: es) a) (he : starEach (e :: es) X.env = (false, eval e X.env) :: starEach es X.env := by rfl) (hpl : (backTo pos (starEach es X.env)).any (·.1) = false := by rfl)
    (ht : eval (.Call (.Attribute o m apos) (e :: es) [] pos) X.env = (do
      let ov ← eval o X.env
      standAt apos.atName
      let (f, first) ← holding [ov] (getMethod ov m pl)
      callWith pos f first (backTo pos (starEach (e :: es) X.env)) (backToKw pos (keywordEach [] X.env))) := by rfl) :
    DE X Y W (.Call (.Attribute o m apos) (e :: es) [] pos) (eSelf c m lp fs of (chkN n a)) := by
  have pe : PE X (.Call (.Attribute o m apos) (e :: es) [] pos) (tSelfG C m (spD X.kw cls lp (n + 1) fs) W (tD X.kw Y W (pk of)) (tA X.kw Y W a)) := by
    constructor
    intro pins s σ H Q I h
    refine PySem.W.methodCall_KW (pl := pl) (thn ((de_pk ho).run pins s σ H _ I h) ?_) ht
    rintro u s1 ⟨x, H1, I1, rx, b, dx, as, rfl, hb1, hn1, q⟩
    cases (show u = Value.ref b from rx)
    refine getmeth_ok I1 hb1 cl hm hn1 (PySem.W.callWith_K (first := [.ref b]) (h₀ := X.base) I.ok.mod.kin hm.kp (thn (PA.run ha pos pins s1 σ H1 _ I1 q) ?_) he hpl)
    rintro us s2 ⟨vs, H2, I2, r, q2⟩
    exact ⟨I2.kIn, run_fnG (us := .ref b :: us) (vs := .ref b :: vs) (dvs := []) G hr gd hb .nil tk I2 (.cons rfl r) (by rw [List.append_nil]; exact q2)⟩
  exact pe_mono pe fun σ H Q h => by rw [← hc]; exact self_sem hcl h
theorem de_self0 {lp : Option Nat} {fs : FSem} {of : DL.M R} {pl : Sem Bool} (hcl : PySem.W.nsIn X.K mainGlobals c = some (some (.ref C))) (cl : Cls X.K C) (hm : Meth X.K C m f) (G : FnG X.prog X.w X.K X.mg X.base k f fd ps (spD X.kw cls lp 1 fs)) (hr : Room k X.A) (gd : X.A.guards = some [])
    (hb : Binds X.K fd ps []) (tk : Takes X W) (hc : Y.cls = cls) (ho : DE X Y W o of)
    (ht : eval (.Call (.Attribute o m apos) [] [] pos) X.env = (do
      let ov ← eval o X.env
      standAt apos.atName
      let (f, first) ← holding [ov] (getMethod ov m pl)
      callWith pos f first (backTo pos (starEach [] X.env)) (backToKw pos (keywordEach [] X.env))) := by rfl) :
    DE X Y W (.Call (.Attribute o m apos) [] [] pos) (eSelf c m lp fs of (chkN 0 aNil)) := by
  have pe : PE X (.Call (.Attribute o m apos) [] [] pos) (tSelfG C m (spD X.kw cls lp 1 fs) W (tD X.kw Y W (pk of)) tNil) := by
    constructor
    intro pins s σ H Q I h
    refine PySem.W.methodCall_KW (pl := pl) (thn ((de_pk ho).run pins s σ H _ I h) ?_) ht
    rintro u s1 ⟨x, H1, I1, rx, b, dx, as, rfl, hb1, hn1, q⟩
    cases (show u = Value.ref b from rx)
    exact getmeth_ok I1 hb1 cl hm hn1 (PySem.W.callWith_K0 (first := [.ref b]) I1.kIn hm.kp (run_fnG (us := [.ref b]) (vs := [.ref b]) (dvs := []) G hr gd hb .nil tk I1 (.cons rfl .nil) q))
  refine pe_mono pe fun σ H Q h => ?_
  rw [← hc]
  obtain ⟨g, F, r, p⟩ := self_sem (n := 0) hcl h
  refine ⟨g, F, r, p.imp fun x g1 H1 F1 r1 s1 q v hv => ?_⟩
  obtain ⟨b, dx, vs, e1, h1, h2, g2, F2, r2, p2⟩ := q v hv
  exact ⟨b, dx, vs, e1, h1, h2, p2 H1 F2 r2 (Same.refl _) [] rfl⟩
end
end DL

/-! # sorted of a tuple of ints -/
namespace DLS
open PySem PyProof.Rows
variable {prog : Program} {w : World} {A : Around} {E : Value → Shared → Prop} {s : Shared}
/-- a tuple's items, as sorted takes them -/
theorem takeT {a : Addr} {us : List Value} {Q : List Value → Shared → Prop} (ht : IsTup s.heap a us.toArray) (few : us.length ≤ sizeLine)
    (k : Q us { s with heap := (s.heap.push (seqObj "list" #[] 0)).update s.heap.objs.size (Obj.mapSeq fun z => z ++ us.toArray) }) : wpAny (model prog w) A (collect (.ref a)) Q E s := by
  obtain ⟨ob, hget, hcls, n, hseq⟩ := ht
  have hget' : (s.heap.push (seqObj "list" #[] 0)).get? a = some ob := Heap.get?_push_of_some _ hget
  have own : (s.heap.push (seqObj "list" #[] 0)).get? s.heap.objs.size = some (seqObj "list" #[] 0) := Heap.get?_push_size _ rfl
  unfold collect
  refine wpAny_bind (wpAny_runValue (codeAny_builtin entry_proto_collect' ?_))
  refine wpAny_bind (wpAny_newList (wpAny_pure ⟨Code.quiet_builtin _ (by decide +kernel), codeAny_builtin entry_list_iadd' ?_⟩))
  unfold Builtin.«list.__iadd__»
  show wpAny (model prog w) _ (Builtin.List.listExtendWith _ (.ref a) _) _ _ _
  unfold Builtin.List.listExtendWith
  refine wpAny_bind (wpAny_typeOf (T := "tuple") ⟨ob, hget', hcls⟩ ?_)
  have isT : (Value.type "tuple" == Value.type "tuple") = true := by rfl
  rw [if_pos (by rw [isT]; simp)]
  refine wpAny_bind (listItems_at hget' hseq ?_)
  refine wpAny_bind (listItems_at (n := 0) (xs := #[]) own rfl ?_)
  rw [if_neg (by simp)]
  have room : ((#[] : Array Value) ++ us.toArray).size ≤ sizeLine + 1 := by simp; omega
  refine wpAny_bind (listUpdate_at (n := 0) (xs := #[]) own rfl (wpAny_pure ?_) (Nat.zero_le _) room)
  refine wpAny_bind (wpAny_load (get?_update_seq own _) ?_)
  refine wpAny_pure ?_
  have e : ((#[] : Array Value) ++ us.toArray).toList = us := by simp
  show Q ((#[] : Array Value) ++ us.toArray).toList _
  rw [e]; exact k
theorem sortT {a : Addr} {us : List Value} {ns : List Int} {Q : Value → Shared → Prop} (ht : IsTup s.heap a us.toArray) (hI : IntsAre us ns) (few : us.length ≤ sizeLine)
    (k : ∀ (out : Array Value) (ms : List Int), IntsAre out.toList ms → ms.Perm ns → ms.Pairwise (· ≤ ·) → Q (.ref (s.heap.objs.size + 1)) { s with heap := sortedAll s.heap us out }) : wpAny (model prog w) A (call (.builtin "sorted") [.ref a]) Q E s := by
  have two : ((s.heap.push (seqObj "list" #[] 0)).update s.heap.objs.size (Obj.mapSeq fun z => z ++ us.toArray)).objs.size = s.heap.objs.size + 1 := (Heap.size_update ..).trans (size_push' ..)
  have there : (((s.heap.push (seqObj "list" #[] 0)).update s.heap.objs.size (Obj.mapSeq fun z => z ++ us.toArray)).push (seqObj "list" us.toArray 0)).get? (s.heap.objs.size + 1) = some (seqObj "list" us.toArray 0) :=
    two ▸ Heap.get?_push_size _ rfl
  apply Calls.call_function_entry kind_sorted plain_sorted entry_sorted (args_sorted1 _)
  unfold Builtin.«sorted»
  apply wpAny_bind (m := checkCount "sorted" 1 1 _)
  apply wpAny_pure
  apply wpAny_bind
  apply takeT ht few
  apply wpAny_bind
  refine wpAny_newList ?_ (hsz := few)
  show wpAny (model prog w) _ _ _ _ { s with heap := ((s.heap.push (seqObj "list" #[] 0)).update s.heap.objs.size (Obj.mapSeq fun z => z ++ us.toArray)).push (seqObj "list" us.toArray 0) }
  rw [two]
  apply wpAny_bind
  apply wpAny_holding
  refine wpAny_call_entry slot_list_sort ⟨_, there, rfl⟩ entry_list_sort (list_sort_treeAny there hI few fun out ms h1 h2 h3 => ?_) (args_list_sort _)
  exact ⟨_, rfl, wpAny_pure ⟨_, rfl, k out ms h1 h2 h3⟩⟩
end DLS
namespace DL
open PySem PySem.Spec L2
section
variable {X : Cx}
theorem call_sortT : CallR X (.builtin "sorted") (fun vs H Q => ∃ (a : Addr) (ns : List Int), vs = [V.ref a] ∧ SqT X.K H a (ns.map V.int) ∧ ns.length ≤ sizeLine ∧ ∀ (p : Addr), H p = none → Q (.ref p) (upd H p (.lst ((srt ns).map V.int)))) := by
  intro pins s σ H vs us Q I r ⟨a, ns, e, hs, few, q⟩
  subst e
  rw [Vals.ref1 r]
  obtain ⟨its, rv, ht, _⟩ := I.tuple hs
  have hI := rv.ints
  have few' : its.length ≤ sizeLine := by have := rv.length; rw [List.length_map] at this; omega
  refine DLS.sortT ht hI few' fun out ms h1 h2 h3 => ?_
  obtain ⟨ep, he⟩ := PyProof.Rows.sortedAll_at s.heap its out
  have e : ms = srt ns := srt_of h2 h3
  subst e
  exact ⟨.ref _, upd H (s.heap.objs.size + 1) (.lst ((srt ns).map V.int)), I.laid (t' := s.toks) (fun _ _ => PyProof.Rows.sortedAll_old) (Nat.le_succ _) ⟨by rw [List.length_map, h2.length_eq]; exact few, out.toList, ep, vals_ints h1, he⟩, rfl, q _ (I.hok.fresh (Nat.le_succ _))⟩
def fSortG : List D → Option R
  | [.tup xs] => (intsOf xs).map fun ns => .ow (.ls ((srt ns).map D.int))
  | ds => fSort ds
theorem cd_sortG : CallD X (.builtin "sorted") fSortG := by
  intro pins s σ H xs us Q I r ⟨F, ds, r', sm, hc, ho, hr⟩
  unfold fSortG at ho
  split at ho
  · rename_i ds
    cases e : intsOf ds with
    | none => rw [e] at ho; cases ho
    | some ns =>
      rw [e] at ho; cases ho
      obtain ⟨v, rfl, q⟩ := hc.one
      obtain ⟨a, vs, rfl, h1, h2, h3⟩ := q.tup
      have e' := intsOf_eq e
      subst e'
      have e2 := h3.ints'
      subst e2
      rw [List.length_map] at h2
      exact call_sortT pins s σ H _ us Q I r ⟨a, ns, rfl, sqT_mono sm h1, h2, fun p hp => hr.ls sm (IsL.ints _) (by rw [List.length_map, (srt_perm ns).length_eq]; exact h2) hp⟩
  · exact cd_sort pins s σ H xs us Q I r ⟨F, ds, r', sm, hc, ho, hr⟩
end
end DL

namespace DL
open PySem PySem.Spec L2

/-! # typed functions, and that the functions of data compute them -/
/-- a typed result -/
inductive T (α : Type) where
  | ok (a : α) | ex (e : Ex) | bad
def tb {α β : Type} (x : T α) (k : α → T β) : T β := match x with
  | .ok a => k a
  | .ex e => .ex e
  | .bad => .bad
@[simp] theorem tb_ok {α β : Type} (a : α) (k : α → T β) : tb (.ok a) k = k a := rfl
@[simp] theorem tb_ex {α β : Type} (e : Ex) (k : α → T β) : tb (.ex e) k = .ex e := rfl
@[simp] theorem tb_bad {α β : Type} (k : α → T β) : tb .bad k = .bad := rfl
/-- .. without exceptions -/
def tnx {α : Type} : T α → T α
  | .ok a => .ok a
  | _ => .bad
/-- a loop body's end -/
inductive St' (σ ρ : Type) where
  | nx (s : σ) | bk (s : σ) | rt (r : ρ)
/-- .. a loop's end -/
inductive Lp (σ ρ : Type) where
  | dn (s : σ) | rt (r : ρ)
def tfold {σ α : Type} : List α → σ → (σ → α → T σ) → T σ
  | [], s, _ => .ok s
  | x :: xs, s, f => tb (f s x) fun s' => tfold xs s' f
def tfor {σ ρ α : Type} : List α → σ → (σ → α → T (St' σ ρ)) → T (Lp σ ρ)
  | [], s, _ => .ok (.dn s)
  | x :: xs, s, f => match f s x with
    | .ok (.nx s') => tfor xs s' f
    | .ok (.bk s') => .ok (.dn s')
    | .ok (.rt r) => .ok (.rt r)
    | .ex e => .ex e
    | .bad => .bad
def twhL {σ ρ : Type} (c : σ → T Bool) (f : σ → T (St' σ ρ)) : Nat → σ → T (Lp σ ρ)
  | 0, _ => .bad
  | n + 1, s => match c s with
    | .ok false => .ok (.dn s)
    | .ok true => match f s with
      | .ok (.nx s') => twhL c f n s'
      | .ok (.bk s') => .ok (.dn s')
      | .ok (.rt r) => .ok (.rt r)
      | .ex e => .ex e
      | .bad => .bad
    | .ex e => .ex e
    | .bad => .bad
@[irreducible] def twh {σ ρ : Type} (s : σ) (c : σ → T Bool) (f : σ → T (St' σ ρ)) : T (Lp σ ρ) := twhL c f fuel s
def tlp {σ ρ : Type} (x : T (Lp σ ρ)) (k : σ → T ρ) : T ρ := match x with
  | .ok (.dn s) => k s
  | .ok (.rt r) => .ok r
  | .ex e => .ex e
  | .bad => .bad
@[simp] theorem tlp_dn {σ ρ : Type} (s : σ) (k : σ → T ρ) : tlp (.ok (.dn s)) k = k s := rfl
@[simp] theorem tlp_rt {σ ρ : Type} (s : ρ) (k : σ → T ρ) : tlp (.ok (.rt s)) k = .ok s := rfl
@[simp] theorem tlp_ex {σ ρ : Type} (e : Ex) (k : σ → T ρ) : tlp (.ex e) k = .ex e := rfl
@[simp] theorem tlp_bad {σ ρ : Type} (k : σ → T ρ) : tlp .bad k = .bad := rfl
def tmapA {α β : Type} (f : α → T β) : List α → T (List β)
  | [] => .ok []
  | x :: xs => tb (tnx (f x)) fun y => tb (tmapA f xs) fun ys => .ok (y :: ys)
def tfmA {α β : Type} (f : α → T (Option β)) : List α → T (List β)
  | [] => .ok []
  | x :: xs => tb (tnx (f x)) fun y => tb (tfmA f xs) fun ys => .ok (match y with
    | some y => y :: ys
    | none => ys)
/-- [f(x) for x in xs], and with a test -/
@[irreducible] def tMap {α β : Type} (xs : List α) (f : α → T β) : T (List β) := if xs.length ≤ 16777216 then tmapA f xs else .bad
@[irreducible] def tFm {α β : Type} (xs : List α) (f : α → T (Option β)) : T (List β) := if xs.length ≤ 16777216 then tfmA f xs else .bad

/-! ## layouts -/
abbrev Lay := List (Nat × Sl)
def lk : Lay → Nat → Option Sl
  | [], _ => none
  | (j, s) :: r, i => match Nat.beq j i with
    | true => some s
    | false => lk r i
def At (n : Nat) (L : Lay) (g : G) : Prop := g.length = n ∧ ∀ i s, lk L i = some s → g[i]? = some (some s)
def Sub (L : Lay) : Lay → Prop
  | [] => True
  | (i, s) :: r => lk L i = some s ∧ Sub L r
theorem lk_mem {L : Lay} {i : Nat} {s : Sl} (h : lk L i = some s) : (i, s) ∈ L := by
  induction L with
  | nil => cases h
  | cons p r ih =>
    obtain ⟨j, s'⟩ := p
    unfold lk at h
    split at h
    · rename_i e; cases h; rw [Nat.eq_of_beq_eq_true e]; exact List.mem_cons_self
    · exact List.mem_cons_of_mem _ (ih h)
theorem Sub.mem {L L' : Lay} (h : Sub L L') {i : Nat} {s : Sl} (m : (i, s) ∈ L') : lk L i = some s := by
  induction L' with
  | nil => cases m
  | cons p r ih =>
    obtain ⟨j, s'⟩ := p
    rcases List.mem_cons.mp m with e | m
    · cases e; exact h.1
    · exact ih h.2 m
theorem At.sub {n : Nat} {L L' : Lay} {g : G} (h : At n L g) (s : Sub L L') : At n L' g := ⟨h.1, fun i x e => h.2 i x (s.mem (lk_mem e))⟩
theorem At.set {n : Nat} {L : Lay} {g : G} (h : At n L g) {i : Nat} (hi : Nat.blt i n = true) (s : Sl) : At n ((i, s) :: L) (g.set i (some s)) := by
  have hi : i < n := by simpa using hi
  refine ⟨by rw [List.length_set]; exact h.1, fun j x e => ?_⟩
  unfold lk at e
  split at e
  · rename_i q; cases e; rw [Nat.eq_of_beq_eq_true q, List.getElem?_set_self (by rw [h.1]; rw [← Nat.eq_of_beq_eq_true q]; exact hi)]
  · rename_i q
    rw [List.getElem?_set_ne (by intro z; rw [z, Nat.beq_refl] at q; cases q)]
    exact h.2 j x e
def cnt (L : Lay) : R → Option D
  | .fz d => some d
  | .at i => match lk L i with
    | some (.ow _ o) => some o.d
    | some (.fz d) => some d
    | _ => none
  | .sub i f => match lk L i with
    | some (.ow _ (.ob _ fs)) => (match fs.get f with
      | some (.inr o) => some o.d
      | _ => none)
    | _ => none
  | .ow _ => none
theorem At.cnt {n : Nat} {L : Lay} {g : G} (h : At n L g) {r : R} {d : D} (e : cnt L r = some d) : cont g r = some d := by
  cases r with
  | fz x => exact e
  | ow o => cases e
  | «at» i =>
    unfold DL.cnt at e
    simp only at e
    split at e
    · rename_i q; unfold cont; simp only; rw [h.2 _ _ q]; exact e
    · rename_i q; unfold cont; simp only; rw [h.2 _ _ q]; exact e
    · cases e
  | sub i f =>
    unfold DL.cnt at e
    simp only at e
    split at e
    · rename_i q; unfold cont; simp only; rw [h.2 _ _ q]; exact e
    · cases e
def cnts (L : Lay) : List R → Option (List D)
  | [] => some []
  | r :: rs => match cnt L r, cnts L rs with
    | some d, some ds => some (d :: ds)
    | _, _ => none
theorem At.cnts {n : Nat} {L : Lay} {g : G} (h : At n L g) : ∀ {rs : List R} {ds : List D}, DL.cnts L rs = some ds → conts g rs = some ds
  | [], ds, e => e
  | r :: rs, ds, e => by
    unfold DL.cnts at e
    split at e
    · rename_i a b e1 e2; cases e; unfold conts; rw [h.cnt e1, h.cnts e2]
    · cases e

/-! ## judgements -/
section
variable {n : Nat} {L L' L1 L2 Lx : Lay} {α β γ ρ σ : Type}
/-- an end as the typed t says -/
def Wout (n : Nat) (Lx : Lay) (x : Rs β) (t : T ρ) (Φ : ρ → β → G → Prop) : Prop := match t with
  | .bad => True
  | .ex e => ∃ g', x = .ex e g' ∧ At n Lx g'
  | .ok r => ∃ b g', x = .ok b g' ∧ Φ r b g'
/-- m, at a state of the layout L, ends as the typed t says -/
structure W (n : Nat) (L Lx : Lay) (m : M β) (t : T ρ) (Φ : ρ → β → G → Prop) : Prop where
  run : ∀ g, At n L g → Wout n Lx (m g) t Φ
instance {m : M β} {t : T ρ} {Φ : ρ → β → G → Prop} : CoeFun (W n L Lx m t Φ) (fun _ => ∀ g, At n L g → Wout n Lx (m g) t Φ) := ⟨W.run⟩
/-- m changes nothing and gives a -/
def Px (n : Nat) (L : Lay) (m : M α) (a : α) : Prop := ∀ g, At n L g → m g = .ok a g
/-- m changes the layout -/
def Tg (n : Nat) (L : Lay) (m : M Unit) (L' : Lay) : Prop := ∀ g, At n L g → ∃ g', m g = .ok () g' ∧ At n L' g'
/-- .. and gives a -/
def Sx (n : Nat) (L : Lay) (m : M α) (a : α) (L' : Lay) : Prop := ∀ g, At n L g → ∃ g', m g = .ok a g' ∧ At n L' g'

theorem W.sub {m : M β} {t : T ρ} {Φ : ρ → β → G → Prop} (h : W n L' Lx m t Φ) (s : Sub L L') : W n L Lx m t Φ := ⟨fun g a => h g (a.sub s)⟩
theorem W.imp {m : M β} {t : T ρ} {Φ Ψ : ρ → β → G → Prop} (h : W n L Lx m t Φ) (i : ∀ r b g, Φ r b g → Ψ r b g) : W n L Lx m t Ψ := ⟨fun g a => by
  have := h g a
  cases t with
  | bad => trivial
  | ex e => exact this
  | ok r => obtain ⟨b, g', h1, h2⟩ := this; exact ⟨b, g', h1, i _ _ _ h2⟩⟩
theorem W.same {m m' : M β} {t : T ρ} {Φ : ρ → β → G → Prop} (e : ∀ g, At n L g → m' g = m g) (h : W n L Lx m t Φ) : W n L Lx m' t Φ := ⟨fun g a => by
  have := h g a
  rw [e g a]
  exact this⟩
theorem w_bad {m : M β} {Φ : ρ → β → G → Prop} : W n L Lx m (.bad : T ρ) Φ := ⟨fun _ _ => trivial⟩
theorem w_ok {b : β} {r : ρ} {Φ : ρ → β → G → Prop} (h : ∀ g, At n L g → Φ r b g) : W n L Lx (mp b) (.ok r) Φ := ⟨fun g a => ⟨b, g, rfl, h g a⟩⟩
/-- a pure part -/
theorem w_p {m : M α} {a : α} {k : α → M β} {t : T ρ} {Φ : ρ → β → G → Prop} (h : Px n L m a) (r : W n L Lx (k a) t Φ) : W n L Lx (mb m k) t Φ :=
  r.same fun g q => by show (m g).andThen k = _; rw [h g q]; rfl
/-- a part that changes the layout -/
theorem w_s {m : M α} {a : α} {k : α → M β} {t : T ρ} {Φ : ρ → β → G → Prop} (h : Sx n L m a L1) (r : W n L1 Lx (k a) t Φ) : W n L Lx (mb m k) t Φ := ⟨fun g q => by
  obtain ⟨g', h1, h2⟩ := h g q
  have := r g' h2
  have e : mb m k g = k a g' := by show (m g).andThen k = _; rw [h1]; rfl
  rw [e]; exact this⟩
/-- a typed part -/
theorem w_t {τ : Type} {m : M α} {k : α → M β} {tm : T τ} {tk : τ → T ρ} {f : τ → α} {LL : τ → Lay} {Φ : ρ → β → G → Prop}
    (h : W n L Lx m tm (fun v a g' => a = f v ∧ At n (LL v) g')) (r : ∀ v, W n (LL v) Lx (k (f v)) (tk v) Φ) : W n L Lx (mb m k) (tb tm tk) Φ := ⟨fun g q => by
  have := h g q
  cases tm with
  | bad => trivial
  | ex e => obtain ⟨g', h1, h2⟩ := this; exact ⟨g', by show (m g).andThen k = _; rw [h1]; rfl, h2⟩
  | ok v =>
    obtain ⟨a, g', h1, rfl, h3⟩ := this
    have := r v g' h3
    have e : mb m k g = k (f v) g' := by show (m g).andThen k = _; rw [h1]; rfl
    rw [e]; exact this⟩
theorem w_as {m : M α} {k : α → M γ} {j : γ → M β} {t : T ρ} {Φ : ρ → β → G → Prop} (h : W n L Lx (mb m fun x => mb (k x) j) t Φ) : W n L Lx (mb (mb m k) j) t Φ :=
  h.same fun g _ => by
    show ((m g).andThen k).andThen j = (m g).andThen fun x => mb (k x) j
    cases m g <;> rfl
theorem w_g {m : M Unit} {k : Unit → M β} {t : T ρ} {Φ : ρ → β → G → Prop} (h : Tg n L m L1) (r : W n L1 Lx (k ()) t Φ) : W n L Lx (mb m k) t Φ :=
  w_s (a := ()) h r
theorem w_if {c : Bool} {a b : M β} {ta tb' : T ρ} {Φ : ρ → β → G → Prop} (h1 : W n L Lx a ta Φ) (h2 : W n L Lx b tb' Φ) : W n L Lx (if c = true then a else b) (if c = true then ta else tb') Φ := by
  cases c with
  | true => exact h1
  | false => exact h2
/-- a case of the data -/
theorem w_opt {o : Option α} {m : M β} {t0 : T ρ} {t1 : α → T ρ} {Φ : ρ → β → G → Prop} (h0 : o = none → W n L Lx m t0 Φ) (h1 : ∀ a, o = some a → W n L Lx m (t1 a) Φ) : W n L Lx m (match o with | none => t0 | some a => t1 a) Φ := by
  cases o with
  | none => exact h0 rfl
  | some a => exact h1 a rfl

/-! ### pure expressions -/
def pkO : R → R
  | .ow o => .fz o.d
  | r => r
theorem px_c {d : D} : Px n L (eC d) (.fz d) := fun _ _ => rfl
theorem px_cs {z : Str} {y : List Nat} (h : z = ⟨y.toArray⟩ := by rfl) : Px n L (eC (.str z)) (.fz (.str ⟨y.toArray⟩)) := fun _ _ => by rw [← h]; rfl
theorem px_v {i : Nat} {d : D} (h : lk L i = some (.fz d)) : Px n L (eVar i) (.fz d) := fun g a => by
  unfold eVar; rw [a.2 _ _ h]
theorem px_vo {i : Nat} {l : Bool} {o : O} (h : lk L i = some (.ow l o)) : Px n L (eVar i) (.at i) := fun g a => by
  unfold eVar; rw [a.2 _ _ h]
theorem px_mb {m : M α} {a : α} {k : α → M β} {b : β} (h : Px n L m a) (r : Px n L (k a) b) : Px n L (mb m k) b := fun g q => by
  show (m g).andThen k = _; rw [h g q]; exact r g q
theorem px_mp {a : α} : Px n L (mp a) a := fun _ _ => rfl
theorem px_pk {f : M R} {r : R} (h : Px n L f r) : Px n L (pk f) (pkO r) := fun g q => by
  show (f g).andThen pkR = _; rw [h g q]; cases r <;> rfl
theorem px_esc {f : M R} {d : D} (h : Px n L f (.fz d)) : Px n L (esc f) (.fz d) := fun g q => by
  show (f g).andThen escR = _; rw [h g q]; rfl
theorem px_esco {f : M R} {o : O} (h : Px n L f (.ow o)) : Px n L (esc f) (.fz o.d) := fun g q => by
  show (f g).andThen escR = _; rw [h g q]; rfl
theorem px_eA {f : M R} {d : D} (h : Px n L f (.fz d)) : Px n L (eA f) (.fz d) := fun g q => by
  show (f g).andThen escA = _; rw [h g q]; rfl
theorem px_eAo {f : M R} {o : O} (h : Px n L f (.ow o)) : Px n L (eA f) (.ow o) := fun g q => by
  show (f g).andThen escA = _; rw [h g q]; rfl
/-- a slot's own object is frozen -/
theorem sx_esc {i : Nat} {o : O} (h : lk L i = some (.ow false o)) (hi : Nat.blt i n = true) : Sx n L (esc (eVar i)) (.fz o.d) ((i, .fz o.d) :: L) := fun g a => by
  refine ⟨_, ?_, a.set hi _⟩
  have e : eVar i g = .ok (.at i) g := px_vo h g a
  show (eVar i g).andThen escR = _
  rw [e]
  show escR (.at i) g = _
  unfold escR
  simp only
  rw [a.2 _ _ h]
theorem sx_eA {i : Nat} {o : O} (h : lk L i = some (.ow false o)) (hi : Nat.blt i n = true) : Sx n L (eA (eVar i)) (.fz o.d) ((i, .fz o.d) :: L) := fun g a => by
  obtain ⟨g', h1, h2⟩ := sx_esc h hi g a
  refine ⟨g', ?_, h2⟩
  rw [← h1]
  have e : eVar i g = .ok (.at i) g := px_vo h g a
  show (eVar i g).andThen escA = (eVar i g).andThen escR
  rw [e]; rfl
theorem px_op {op : D → D → Option R} {x y : R} {a b : D} {r : R} (h1 : cnt L x = some a) (h2 : cnt L y = some b) (h : op a b = some r) (hr : pkO r = .fz (match r with | .fz d => d | .ow o => o.d | _ => .non) := by rfl) : Px n L (op2 op x y) r := fun g q => by
  unfold op2
  rw [q.cnt h1, q.cnt h2]
  simp only
  rw [h]
  cases r with
  | fz d => rfl
  | ow o => rfl
  | «at» i => cases hr
  | sub i f => cases hr
theorem px_B {op : D → D → Option R} {f k : M R} {x y : R} {a b r' : D} (hf : Px n L f x) (hk : Px n L k y) (h1 : cnt L (pkO x) = some a) (h2 : cnt L (pkO y) = some b) (h : op a b = some (.fz r')) : Px n L (eB op f k) (.fz r') :=
  px_mb (px_pk hf) (px_mb (px_pk hk) (px_op h1 h2 h))
theorem px_Bo {op : D → D → Option R} {f k : M R} {x y : R} {a b : D} {o : O} (hf : Px n L f x) (hk : Px n L k y) (h1 : cnt L (pkO x) = some a) (h2 : cnt L (pkO y) = some b) (h : op a b = some (.ow o)) : Px n L (eB op f k) (.ow o) :=
  px_mb (px_pk hf) (px_mb (px_pk hk) (px_op h1 h2 h))
theorem px_U {op : D → Option R} {f : M R} {x : R} {a : D} {r : D} (hf : Px n L f x) (h1 : cnt L (pkO x) = some a) (h : op a = some (.fz r)) : Px n L (eU op f) (.fz r) :=
  px_mb (px_pk hf) fun g q => by
    unfold op1
    rw [q.cnt h1]
    simp only
    rw [h]; rfl
theorem px_Uo {op : D → Option R} {f : M R} {x : R} {a : D} {r : O} (hf : Px n L f x) (h1 : cnt L (pkO x) = some a) (h : op a = some (.ow r)) : Px n L (eU op f) (.ow r) :=
  px_mb (px_pk hf) fun g q => by
    unfold op1
    rw [q.cnt h1]
    simp only
    rw [h]; rfl
theorem px_toB {b : Bool} : Px n L (toB (.fz (.bl b))) b := fun _ _ => rfl
theorem px_test {f : M R} {b : Bool} (h : Px n L f (.fz (.bl b))) : Px n L (eTest f) b := px_mb h px_toB
theorem px_tru {f : M R} {x : R} {d : D} {b : Bool} (hf : Px n L f x) (h1 : cnt L (pkO x) = some d) (h : truD d = some b) : Px n L (eTru f) b :=
  px_mb (px_pk hf) fun g q => by
    unfold toTru
    rw [q.cnt h1, Option.bind_some, h]
theorem px_tAnd {f k : M Bool} {a b : Bool} (hf : Px n L f a) (hk : Px n L k b) : Px n L (tAndM f k) (a && b) := px_mb hf (by cases a; exact px_mp; exact hk)
theorem px_tOr {f k : M Bool} {a b : Bool} (hf : Px n L f a) (hk : Px n L k b) : Px n L (tOrM f k) (a || b) := px_mb hf (by cases a; exact hk; exact px_mp)
theorem px_tNot {f : M Bool} {a : Bool} (hf : Px n L f a) : Px n L (tNotM f) (!a) := px_mb hf px_mp
theorem px_vAnd {f k : M R} {a b : Bool} (hf : Px n L f (.fz (.bl a))) (hk : Px n L k (.fz (.bl b))) : Px n L (vAnd f k) (.fz (.bl (a && b))) := px_mb hf (px_mb px_toB (by cases a; exact px_c; exact hk))
theorem px_vOr {f k : M R} {a b : Bool} (hf : Px n L f (.fz (.bl a))) (hk : Px n L k (.fz (.bl b))) : Px n L (vOr f k) (.fz (.bl (a || b))) := px_mb hf (px_mb px_toB (by cases a; exact hk; exact px_c))
theorem px_vNot {f : M R} {a : Bool} (hf : Px n L f (.fz (.bl a))) : Px n L (vNot f) (.fz (.bl (!a))) := px_mb hf (px_mb px_toB px_c)
theorem px_if {c : M Bool} {f k : M R} {b : Bool} (e : α → D) {x y : α} (hc : Px n L c b) (hf : Px n L f (.fz (e x))) (hk : Px n L k (.fz (e y))) : Px n L (eIf c f k) (.fz (e (if b = true then x else y))) := px_mb hc (by cases b; exact hk; exact hf)
theorem px_ch {op op' : D → D → Option R} {f k j : M R} {x y z : R} {a b c : D} {p q : Bool} (hf : Px n L f x) (hk : Px n L k y) (hj : Px n L j z) (h1 : cnt L (pkO x) = some a) (h2 : cnt L (pkO y) = some b) (h3 : cnt L (pkO z) = some c)
    (h : op a b = some (.fz (.bl p))) (h' : op' b c = some (.fz (.bl q))) : Px n L (eCh op op' f k j) (.fz (.bl (p && q))) :=
  px_mb (px_pk hf) (px_mb (px_pk hk) (px_mb (px_op h1 h2 h) (px_mb px_toB (by cases p; exact px_c; exact px_mb (px_pk hj) (px_op h2 h3 h')))))
theorem px_nil : Px n L aNil [] := px_mp
theorem px_cons {f : M R} {k : M (List R)} {d : D} {xs : List R} (hf : Px n L f (.fz d)) (hk : Px n L k xs) : Px n L (aCons f k) (.fz d :: xs) := px_mb hf (px_mb hk fun _ _ => rfl)
theorem px_consA {f : M R} {k : M (List R)} {i : Nat} {xs : List R} (hf : Px n L f (.at i)) (hk : Px n L k xs) : Px n L (aCons f k) (.at i :: xs) := px_mb hf (px_mb hk fun _ _ => rfl)
theorem px_tup {k : M (List R)} {xs : List R} {ds : List D} (h : Px n L k xs) (e : allFz xs = some ds) (hl : Nat.ble ds.length 1000 = true) : Px n L (eTup k) (.fz (.tup ds)) :=
  px_mb h fun g _ => by
    unfold mkTup; rw [e]; simp only; rw [if_pos (Nat.le_of_ble_eq_true hl)]
theorem px_lst {k : M (List R)} {xs : List R} {ds : List D} (h : Px n L k xs) (e : allFz xs = some ds) (hl : Nat.ble ds.length 1000 = true) : Px n L (eLst k) (.ow (.ls ds)) :=
  px_mb h fun g _ => by
    unfold mkLst; rw [e]; simp only; rw [if_pos (Nat.le_of_ble_eq_true hl)]
theorem px_callB {op : List D → Option R} {k : M (List R)} {rs : List R} {ds : List D} {r : D} (h : Px n L k rs) (e : cnts L rs = some ds) (ho : op ds = some (.fz r)) : Px n L (eCallB op k) (.fz r) :=
  px_mb h fun g q => by unfold opN; rw [q.cnts e]; simp only; rw [ho]; rfl
theorem px_callBo {op : List D → Option R} {k : M (List R)} {rs : List R} {ds : List D} {r : O} (h : Px n L k rs) (e : cnts L rs = some ds) (ho : op ds = some (.ow r)) : Px n L (eCallB op k) (.ow r) :=
  px_mb h fun g q => by unfold opN; rw [q.cnts e]; simp only; rw [ho]; rfl
theorem px_meth {op : D → List D → Option R} {Ty : String} {f : M R} {k : M (List R)} {x : R} {d : D} {rs : List R} {ds : List D} {r : D} (hf : Px n L f x) (hk : Px n L k rs) (h1 : cnt L (pkO x) = some d) (hT : kindD d = Ty) (e : cnts L rs = some ds) (ho : op d ds = some (.fz r)) : Px n L (eMeth Ty op f k) (.fz r) :=
  px_mb (px_pk hf) (px_mb (a := ()) (fun g q => by unfold chkT; rw [q.cnt h1]; simp only; rw [if_pos hT]) (px_mb hk fun g q => by unfold opM; rw [q.cnt h1, q.cnts e]; simp only; rw [ho]; rfl))
theorem px_part {f : M R} {i : Int} (h : Px n L f (.fz (.int i))) : Px n L (ePart f) (some i) := px_mb h fun _ _ => rfl
theorem px_npart : Px n L eNoPart none := px_mp
theorem px_sl {f : M R} {l h : M (Option Int)} {x : R} {d : D} {lo hi : Option Int} {r : D} (hf : Px n L f x) (hl : Px n L l lo) (hh : Px n L h hi) (h1 : cnt L (pkO x) = some d) (ho : slD lo hi d = some (.fz r)) : Px n L (eSl f l h) (.fz r) :=
  px_mb (px_pk hf) (px_mb hl (px_mb hh fun g q => by unfold opSl; rw [q.cnt h1]; simp only; rw [ho]; rfl))
theorem px_slo {f : M R} {l h : M (Option Int)} {x : R} {d : D} {lo hi : Option Int} {r : O} (hf : Px n L f x) (hl : Px n L l lo) (hh : Px n L h hi) (h1 : cnt L (pkO x) = some d) (ho : slD lo hi d = some (.ow r)) : Px n L (eSl f l h) (.ow r) :=
  px_mb (px_pk hf) (px_mb hl (px_mb hh fun g q => by unfold opSl; rw [q.cnt h1]; simp only; rw [ho]; rfl))
theorem px_revS {f : M R} {x : R} {d r : D} (hf : Px n L f x) (h1 : cnt L (pkO x) = some d) (ho : slRevG d = some (.fz r)) : Px n L (eRevG f) (.fz r) :=
  px_mb (px_pk hf) fun g q => by unfold opRevG; rw [q.cnt h1]; simp only; rw [ho]; rfl
theorem px_rev {f : M R} {x : R} {d : D} {r : O} (hf : Px n L f x) (h1 : cnt L (pkO x) = some d) (ho : slRevG d = some (.ow r)) : Px n L (eRevG f) (.ow r) :=
  px_mb (px_pk hf) fun g q => by unfold opRevG; rw [q.cnt h1]; simp only; rw [ho]; rfl
theorem px_iSeq {f : M R} {d : D} {ds : List D} (h : Px n L (esc f) (.fz d)) (e : itemsD d = some ds) : Px n L (iSeq f) ds := px_mb h fun g _ => by
  unfold toIt; simp only; rw [e]
theorem px_chkN {k : Nat} {a : M (List R)} {rs : List R} (h : Px n L a rs) (e : Nat.beq rs.length k = true) : Px n L (chkN k a) rs := px_mb h fun g _ => by
  rw [if_pos (Nat.eq_of_beq_eq_true e)]
theorem px_yes : Px n L cYes true := px_mp
end
end DL

namespace DL
open PySem PySem.Spec L2

section
variable {n : Nat} {L L' L1 L2 Lx : Lay} {α β γ ρ σ τ : Type}
def nAt : R → Bool
  | .at _ => false
  | .sub _ _ => false
  | _ => true
/-- an operation gives what the typed t says -/
def OpT (o : Option R) (t : T γ) (rc : γ → R) : Prop := match t with
  | .bad => True
  | .ok v => o = some (rc v) ∧ nAt (rc v) = true
  | .ex _ => False
theorem done_of {r : R} (h : nAt r = true) (g : G) : done (some r) g = .ok r g := by cases r <;> first | rfl | cases h
theorem w_opt' {o : Option R} {t : T γ} {rc : γ → R} {j : R → M β} {tk : γ → T ρ} {Φ : ρ → β → G → Prop} {m : M R} (hm : ∀ g, At n L g → m g = done o g) (ho : OpT o t rc) (r : ∀ v, W n L Lx (j (rc v)) (tk v) Φ) : W n L Lx (mb m j) (tb t tk) Φ := by
  cases t with
  | bad => exact w_bad
  | ex e => exact ho.elim
  | ok v => exact w_p (a := rc v) (fun g q => by rw [hm g q, ho.1, done_of ho.2]) (r v)
theorem w_op2 {op : D → D → Option R} {x y : R} {a b : D} {t : T γ} {rc : γ → R} {j : R → M β} {tk : γ → T ρ} {Φ : ρ → β → G → Prop} (h1 : cnt L x = some a) (h2 : cnt L y = some b) (ho : OpT (op a b) t rc) (r : ∀ v, W n L Lx (j (rc v)) (tk v) Φ) :
    W n L Lx (mb (op2 op x y) j) (tb t tk) Φ := w_opt' (fun g q => by unfold op2; rw [q.cnt h1, q.cnt h2]) ho r
theorem w_op1 {op : D → Option R} {x : R} {a : D} {t : T γ} {rc : γ → R} {j : R → M β} {tk : γ → T ρ} {Φ : ρ → β → G → Prop} (h1 : cnt L x = some a) (ho : OpT (op a) t rc) (r : ∀ v, W n L Lx (j (rc v)) (tk v) Φ) :
    W n L Lx (mb (op1 op x) j) (tb t tk) Φ := w_opt' (fun g q => by unfold op1; rw [q.cnt h1]) ho r
theorem w_opN {op : List D → Option R} {rs : List R} {ds : List D} {t : T γ} {rc : γ → R} {j : R → M β} {tk : γ → T ρ} {Φ : ρ → β → G → Prop} (h1 : cnts L rs = some ds) (ho : OpT (op ds) t rc) (r : ∀ v, W n L Lx (j (rc v)) (tk v) Φ) :
    W n L Lx (mb (opN op rs) j) (tb t tk) Φ := w_opt' (fun g q => by unfold opN; rw [q.cnts h1]) ho r
theorem w_opM {op : D → List D → Option R} {x : R} {d : D} {rs : List R} {ds : List D} {t : T γ} {rc : γ → R} {j : R → M β} {tk : γ → T ρ} {Φ : ρ → β → G → Prop} (h1 : cnt L x = some d) (h2 : cnts L rs = some ds) (ho : OpT (op d ds) t rc) (r : ∀ v, W n L Lx (j (rc v)) (tk v) Φ) :
    W n L Lx (mb (opM op x rs) j) (tb t tk) Φ := w_opt' (fun g q => by unfold opM; rw [q.cnt h1, q.cnts h2]) ho r
theorem w_opSl {x : R} {d : D} {lo hi : Option Int} {t : T γ} {rc : γ → R} {j : R → M β} {tk : γ → T ρ} {Φ : ρ → β → G → Prop} (h1 : cnt L x = some d) (ho : OpT (slD lo hi d) t rc) (r : ∀ v, W n L Lx (j (rc v)) (tk v) Φ) :
    W n L Lx (mb (opSl x lo hi) j) (tb t tk) Φ := w_opt' (fun g q => by unfold opSl; rw [q.cnt h1]) ho r
theorem px_chkT {Ty : String} {x : R} {d : D} (h1 : cnt L x = some d) (hT : kindD d = Ty) : Px n L (chkT Ty x) () := fun g q => by unfold chkT; rw [q.cnt h1]; simp only; rw [if_pos hT]
theorem px_pkR {x : R} : Px n L (pkR x) (pkO x) := fun g q => by cases x <;> rfl
theorem px_pkRf {d : D} : Px n L (pkR (.fz d)) (.fz d) := fun g q => rfl
theorem px_pkRo {o : O} : Px n L (pkR (.ow o)) (.fz o.d) := fun g q => rfl
theorem px_escR {d : D} : Px n L (escR (.fz d)) (.fz d) := fun g q => rfl
theorem px_escRo {o : O} : Px n L (escR (.ow o)) (.fz o.d) := fun g q => rfl
theorem px_escA {d : D} : Px n L (escA (.fz d)) (.fz d) := fun g q => rfl
theorem px_escAo {o : O} : Px n L (escA (.ow o)) (.ow o) := fun g q => rfl
theorem px_push {d : D} {xs : List R} : Px n L (aPush (.fz d) xs) (.fz d :: xs) := fun g q => rfl
theorem px_mkTup {rs : List R} {ds : List D} (e : allFz rs = some ds) (hl : Nat.ble ds.length 1000 = true) : Px n L (mkTup rs) (.fz (.tup ds)) := fun g _ => by
    unfold mkTup; rw [e]; simp only; rw [if_pos (Nat.le_of_ble_eq_true hl)]
theorem px_mkLst {rs : List R} {ds : List D} (e : allFz rs = some ds) (hl : Nat.ble ds.length 1000 = true) : Px n L (mkLst rs) (.ow (.ls ds)) := fun g _ => by
    unfold mkLst; rw [e]; simp only; rw [if_pos (Nat.le_of_ble_eq_true hl)]
theorem px_toIt {d : D} {ds : List D} (e : itemsD d = some ds) : Px n L (toIt (.fz d)) ds := fun g _ => by unfold toIt; simp only; rw [e]
theorem px_toI {i : Int} : Px n L (toI (.fz (.int i))) (some i) := fun _ _ => rfl
theorem px_chkL {k : Nat} {rs : List R} (e : Nat.beq rs.length k = true) : Px n L (fun g => if rs.length = k then .ok rs g else .bad) rs := fun g _ => if_pos (Nat.eq_of_beq_eq_true e)

/-! ### tests with typed parts -/
theorem w_mbmp {m : M β} {t : T ρ} {Φ : ρ → β → G → Prop} (h : W n L Lx (mb m mp) t Φ) : W n L Lx m t Φ := h.same fun g _ => by show _ = (m g).andThen mp; cases m g <;> rfl
/-- c and d, d with typed parts -/
theorem w_tAnd {f k : M Bool} {j : Bool → M β} {a : Bool} {tb2 : T Bool} {tk : Bool → T ρ} {Φ : ρ → β → G → Prop} (hf : Px n L f a) (hk : W n L Lx k tb2 (fun v b g' => b = v ∧ At n L g')) (r : ∀ v, W n L Lx (j v) (tk v) Φ) :
    W n L Lx (mb (tAndM f k) j) (tb (if a = true then tb2 else .ok false) tk) Φ :=
  w_t (f := fun v => v) (LL := fun _ => L) (by
    refine W.same (m := if a = true then k else mp false) (fun g q => ?_) ?_
    · show (f g).andThen (fun c => if c = true then k else mp false) = _; rw [hf g q]; rfl
    · cases a with
      | true => exact hk
      | false => exact w_ok fun g q => ⟨rfl, q⟩) r
theorem w_tOr {f k : M Bool} {j : Bool → M β} {a : Bool} {tb2 : T Bool} {tk : Bool → T ρ} {Φ : ρ → β → G → Prop} (hf : Px n L f a) (hk : W n L Lx k tb2 (fun v b g' => b = v ∧ At n L g')) (r : ∀ v, W n L Lx (j v) (tk v) Φ) :
    W n L Lx (mb (tOrM f k) j) (tb (if a = true then .ok true else tb2) tk) Φ :=
  w_t (f := fun v => v) (LL := fun _ => L) (by
    refine W.same (m := if a = true then mp true else k) (fun g q => ?_) ?_
    · show (f g).andThen (fun c => if c = true then mp true else k) = _; rw [hf g q]; rfl
    · cases a with
      | false => exact hk
      | true => exact w_ok fun g q => ⟨rfl, q⟩) r
theorem w_tNot {f : M Bool} {j : Bool → M β} {t : T ρ} {Φ : ρ → β → G → Prop} (h : W n L Lx (mb f fun c => j (!c)) t Φ) : W n L Lx (mb (tNotM f) j) t Φ :=
  h.same fun g _ => by
    show ((f g).andThen fun c => mp (!c)).andThen j = (f g).andThen fun c => j (!c)
    cases f g <;> rfl
/-- the typed first part of an and, an or -/
theorem w_tAndT {f k : M Bool} {j : Bool → M β} {t : T ρ} {Φ : ρ → β → G → Prop} (h : W n L Lx (mb f fun c => mb (if c = true then k else mp false) j) t Φ) : W n L Lx (mb (tAndM f k) j) t Φ := w_as h
theorem w_tOrT {f k : M Bool} {j : Bool → M β} {t : T ρ} {Φ : ρ → β → G → Prop} (h : W n L Lx (mb f fun c => mb (if c = true then mp true else k) j) t Φ) : W n L Lx (mb (tOrM f k) j) t Φ := w_as h
/-- an if that is joined -/
theorem w_tif {c : Bool} {m m' : M α} {j : α → M β} {t1 t2 : T τ} {tk : τ → T ρ} {f : τ → α} {LL : τ → Lay} {Φ : ρ → β → G → Prop} (h1 : W n L Lx m t1 (fun v b g' => b = f v ∧ At n (LL v) g')) (h2 : W n L Lx m' t2 (fun v b g' => b = f v ∧ At n (LL v) g')) (r : ∀ v, W n (LL v) Lx (j (f v)) (tk v) Φ) :
    W n L Lx (mb (if c = true then m else m') j) (tb (if c = true then t1 else t2) tk) Φ :=
  w_t (f := f) (LL := LL) (w_if h1 h2) r
/-- values with and, or, if: typed parts -/
theorem w_vAnd {f k : M R} {j : R → M β} {t : T ρ} {Φ : ρ → β → G → Prop} (h : W n L Lx (mb f fun x => mb (toB x) fun c => mb (if c = true then k else eC (.bl false)) j) t Φ) : W n L Lx (mb (vAnd f k) j) t Φ := w_as (h.same fun g _ => by
  show (f g).andThen _ = (f g).andThen _
  cases f g with
  | ok x g1 =>
    show ((toB x g1).andThen fun c => if c = true then k else eC (.bl false)).andThen j = (toB x g1).andThen _
    cases toB x g1 <;> rfl
  | ex _ _ => rfl
  | bad => rfl)
theorem w_vOr {f k : M R} {j : R → M β} {t : T ρ} {Φ : ρ → β → G → Prop} (h : W n L Lx (mb f fun x => mb (toB x) fun c => mb (if c = true then eC (.bl true) else k) j) t Φ) : W n L Lx (mb (vOr f k) j) t Φ := w_as (h.same fun g _ => by
  show (f g).andThen _ = (f g).andThen _
  cases f g with
  | ok x g1 =>
    show ((toB x g1).andThen fun c => if c = true then eC (.bl true) else k).andThen j = (toB x g1).andThen _
    cases toB x g1 <;> rfl
  | ex _ _ => rfl
  | bad => rfl)
/-! ### statements -/
theorem sSeq_mb (m : M α) (k : α → M Fl) (b : M Fl) : sSeq (mb m k) b = mb m fun x => sSeq (k x) b := by
  funext g
  show (match (m g).andThen k with | .ok .nx g' => b g' | r => r) = (m g).andThen fun x => sSeq (k x) b
  cases m g <;> rfl
theorem sSeq_mp (b : M Fl) : sSeq (mp .nx) b = b := rfl
variable {Φ : ρ → Fl → G → Prop} {t : T ρ}
theorem w_last {a : M Fl} (h : W n L Lx (sSeq a sNil) t Φ) : W n L Lx a t Φ := h.same fun g _ => by
  show a g = match a g with | .ok .nx g' => sNil g' | r => r
  cases a g with
  | ok f g' => cases f <;> rfl
  | ex _ _ => rfl
  | bad => rfl
theorem w_sas {a b c : M Fl} (h : W n L Lx (sSeq a (sSeq b c)) t Φ) : W n L Lx (sSeq (sSeq a b) c) t Φ := h.same fun g _ => by
  show (match (match a g with | .ok .nx g' => b g' | r => r) with | .ok .nx g' => c g' | r => r) = (match a g with | .ok .nx g' => sSeq b c g' | r => r)
  cases a g with
  | ok f g' => cases f <;> rfl
  | ex _ _ => rfl
  | bad => rfl
theorem w_nil {r : ρ} (h : ∀ g, At n L g → Φ r .nx g) : W n L Lx sNil (.ok r) Φ := ⟨fun g q => ⟨.nx, g, rfl, h g q⟩⟩
theorem w_pass {b : M Fl} (h : W n L Lx b t Φ) : W n L Lx (sSeq sPass b) t Φ := h
theorem w_expr {f : M R} {b : M Fl} (h : W n L Lx (mb f fun _ => b) t Φ) : W n L Lx (sSeq (sExpr f) b) t Φ := by
  unfold sExpr; rw [sSeq_mb]; exact h
theorem w_brk {b : M Fl} {r : ρ} (h : ∀ g, At n L g → Φ r .bk g) : W n L Lx (sSeq sBrk b) (.ok r) Φ := ⟨fun g q => ⟨.bk, g, rfl, h g q⟩⟩
theorem w_cont {b : M Fl} {r : ρ} (h : ∀ g, At n L g → Φ r .ct g) : W n L Lx (sSeq sCont b) (.ok r) Φ := ⟨fun g q => ⟨.ct, g, rfl, h g q⟩⟩
theorem w_ret {f : M R} {b : M Fl} (h : W n L Lx (mb f fun r => sSeq (retR r) b) t Φ) : W n L Lx (sSeq (sRet f) b) t Φ := by
  unfold sRet; rw [sSeq_mb]; exact h
theorem w_retF {d : D} {b : M Fl} {r : ρ} (h : ∀ g, At n L g → Φ r (.rt (.fz d)) g) : W n L Lx (sSeq (retR (.fz d)) b) (.ok r) Φ := ⟨fun g q => ⟨.rt (.fz d), g, rfl, h g q⟩⟩
theorem w_retO {o : O} {b : M Fl} {r : ρ} (h : ∀ g, At n L g → Φ r (.rt (.ow o)) g) : W n L Lx (sSeq (retR (.ow o)) b) (.ok r) Φ := ⟨fun g q => ⟨.rt (.ow o), g, rfl, h g q⟩⟩
/-- without one slot -/
def rmL : Lay → Nat → Lay
  | [], _ => []
  | (j, s) :: r, i => match Nat.beq j i with
    | true => rmL r i
    | false => (j, s) :: rmL r i
theorem lk_rm {i : Nat} : ∀ {L : Lay} {j : Nat} {s : Sl}, lk (rmL L i) j = some s → lk L j = some s ∧ j ≠ i
  | [], _, _, h => by cases h
  | (k, x) :: r, j, s, h => by
    unfold rmL at h
    cases e : Nat.beq k i with
    | true =>
      simp only [e] at h
      obtain ⟨h1, h2⟩ := lk_rm h
      refine ⟨?_, h2⟩
      unfold lk
      have : Nat.beq k j = false := by
        cases q : Nat.beq k j with
        | false => rfl
        | true => exact absurd ((Nat.eq_of_beq_eq_true q).symm.trans (Nat.eq_of_beq_eq_true e)) h2
      simp only [this]; exact h1
    | false =>
      simp only [e] at h
      unfold lk at h ⊢
      cases q : Nat.beq k j with
      | true =>
        simp only [q] at h ⊢
        refine ⟨h, ?_⟩
        rintro rfl
        rw [← Nat.eq_of_beq_eq_true q, Nat.beq_refl] at e; cases e
      | false =>
        simp only [q] at h ⊢
        exact lk_rm h
theorem At.none {g : G} (h : At n L g) (i : Nat) : At n (rmL L i) (g.set i none) := by
  refine ⟨by rw [List.length_set]; exact h.1, fun j s e => ?_⟩
  obtain ⟨h1, h2⟩ := lk_rm e
  rw [List.getElem?_set_ne (Ne.symm h2)]
  exact h.2 _ _ h1
theorem w_retA {i : Nat} {o : O} {b : M Fl} {r : ρ} (hl : lk L i = some (.ow false o)) (h : ∀ g, At n (rmL L i) g → Φ r (.rt (.ow o)) g) : W n L Lx (sSeq (retR (.at i)) b) (.ok r) Φ := ⟨fun g q => by
  refine ⟨.rt (.ow o), g.set i none, ?_, h _ (q.none i)⟩
  unfold sSeq retR
  simp only
  rw [q.2 _ _ hl]⟩
theorem w_retN {b : M Fl} {r : ρ} (h : ∀ g, At n L g → Φ r (.rt (.fz .non)) g) : W n L Lx (sSeq sRetN b) (.ok r) Φ := ⟨fun g q => ⟨.rt (.fz .non), g, rfl, h g q⟩⟩
theorem w_raise {c : Str} {b : M Fl} (hx : Sub L Lx) : W n L Lx (sSeq (sRaise c) b) (.ex ⟨c, []⟩ : T ρ) Φ := ⟨fun g q => ⟨g, rfl, q.sub hx⟩⟩
/-- if: what follows is in both ways -/
theorem w_sIf {c : M Bool} {x y b : M Fl} (h : W n L Lx (mb c fun t => if t = true then sSeq x b else sSeq y b) t Φ) : W n L Lx (sSeq (sIf c x y) b) t Φ := by
  unfold sIf; rw [sSeq_mb]
  refine h.same fun g _ => ?_
  show (c g).andThen _ = (c g).andThen _
  cases c g with
  | ok t g' => cases t <;> rfl
  | ex _ _ => rfl
  | bad => rfl
/-- a part of its own -/
theorem w_blk {a b : M Fl} {ta : T σ} {tk : σ → T ρ} {LS : σ → Lay} (h : W n L Lx a ta (fun v fl g' => fl = .nx ∧ At n (LS v) g')) (r : ∀ v, W n (LS v) Lx b (tk v) Φ) : W n L Lx (sSeq a b) (tb ta tk) Φ := ⟨fun g q => by
  have := h g q
  cases ta with
  | bad => trivial
  | ex e => obtain ⟨g', h1, h2⟩ := this; exact ⟨g', by unfold sSeq; rw [h1], h2⟩
  | ok v =>
    obtain ⟨fl, g', h1, rfl, h3⟩ := this
    have := r v g' h3
    have e : sSeq a b g = b g' := by unfold sSeq; rw [h1]
    rw [e]; exact this⟩
/-- .. that may return -/
def isRt : Fl → Prop
  | .rt _ => True
  | _ => False
def ΦL (n : Nat) (LS : σ → Lay) (Φ : ρ → Fl → G → Prop) : Lp σ ρ → Fl → G → Prop := fun v fl g' => match v with
  | .dn s => fl = .nx ∧ At n (LS s) g'
  | .rt r => isRt fl ∧ Φ r fl g'
theorem w_blkR {a b : M Fl} {ta : T (Lp σ ρ)} {tk : σ → T ρ} {LS : σ → Lay} (h : W n L Lx a ta (ΦL n LS Φ)) (r : ∀ v, W n (LS v) Lx b (tk v) Φ) : W n L Lx (sSeq a b) (tlp ta tk) Φ := ⟨fun g q => by
  have := h g q
  cases ta with
  | bad => trivial
  | ex e => obtain ⟨g', h1, h2⟩ := this; exact ⟨g', by unfold sSeq; rw [h1], h2⟩
  | ok v =>
    cases v with
    | dn s =>
      obtain ⟨fl, g', h1, rfl, h3⟩ := this
      have := r s g' h3
      have e : sSeq a b g = b g' := by unfold sSeq; rw [h1]
      rw [e]; exact this
    | rt v =>
      obtain ⟨fl, g', h1, h2, h3⟩ := this
      refine ⟨fl, g', ?_, h3⟩
      unfold sSeq; rw [h1]
      cases fl <;> first | rfl | exact h2.elim⟩
/-- targets -/
abbrev nx' (m : M Unit) : M Unit := fun g => noEx (m g)
theorem w_gN {m : M Unit} {k : Unit → M β} {t : T ρ} {Φ : ρ → β → G → Prop} (h : Tg n L m L1) (r : W n L1 Lx (k ()) t Φ) : W n L Lx (mb (nx' m) k) t Φ :=
  w_g (L1 := L1) (fun g q => let ⟨g', h1, h2⟩ := h g q; ⟨g', by show noEx (m g) = _; rw [h1]; rfl, h2⟩) r
theorem w_asg {f : M R} {tg : R → M Unit} {b : M Fl} (h : W n L Lx (mb (eA f) fun r => mb (nx' (tg r)) fun _ => b) t Φ) : W n L Lx (sSeq (sAsg f tg) b) t Φ := by
  unfold sAsg; rw [sSeq_mb]
  refine h.same fun g _ => ?_
  show (eA f g).andThen _ = (eA f g).andThen _
  cases eA f g with
  | ok r g' =>
    show sSeq (mb (nx' (tg r)) fun _ => mp .nx) b g' = _
    rw [sSeq_mb]; rfl
  | ex _ _ => rfl
  | bad => rfl
theorem tg_fz {i : Nat} {d : D} (hi : Nat.blt i n = true) : Tg n L (setSl i (.fz d)) ((i, .fz d) :: L) := fun g q => ⟨_, rfl, q.set hi _⟩
theorem tg_ow {i : Nat} {o : O} (hi : Nat.blt i n = true) : Tg n L (setSl i (.ow o)) ((i, .ow false o) :: L) := fun g q => ⟨_, rfl, q.set hi _⟩
theorem tg_un {k : Nat} {tt : List D → M Unit} {ds : List D} (hk : Nat.beq ds.length k = true) (h : Tg n L (tt ds) L1) : Tg n L (gUn k tt (.fz (.tup ds))) L1 := fun g q => by
  unfold gUn; simp only; rw [if_pos (Nat.eq_of_beq_eq_true hk)]; exact h g q
theorem tg_unl {k : Nat} {tt : List D → M Unit} {ds : List D} (hk : Nat.beq ds.length k = true) (h : Tg n L (tt ds) L1) : Tg n L (gUn k tt (.fz (.lst ds))) L1 := fun g q => by
  unfold gUn; simp only; rw [if_pos (Nat.eq_of_beq_eq_true hk)]; exact h g q
theorem tg_cons {t1 : R → M Unit} {u : List D → M Unit} {d : D} {ds : List D} (h1 : Tg n L (t1 (.fz d)) L1) (h2 : Tg n L1 (u ds) L2) : Tg n L (gsCons t1 u (d :: ds)) L2 := fun g q => by
  obtain ⟨g1, e1, q1⟩ := h1 g q
  obtain ⟨g2, e2, q2⟩ := h2 g1 q1
  exact ⟨g2, by unfold gsCons; simp only; rw [e1]; exact e2, q2⟩
theorem tg_nil : Tg n L (gsNil []) L := fun g q => ⟨g, rfl, q⟩
theorem w_par {i j : Nat} {k : M (List R)} {a b : D} {c : M Fl} (hk : Px n L k [.fz a, .fz b]) (hi : Nat.blt i n = true) (hj : Nat.blt j n = true) (h : W n ((j, .fz b) :: (i, .fz a) :: L) Lx c t Φ) : W n L Lx (sSeq (sPar i j k) c) t Φ := ⟨fun g q => by
  have := h _ ((q.set hi (.fz a)).set hj (.fz b))
  have e : sSeq (sPar i j k) c g = c ((g.set i (some (.fz a))).set j (some (.fz b))) := by
    unfold sPar
    rw [sSeq_mb]
    show (k g).andThen _ = _
    rw [hk g q]; rfl
  rw [e]; exact this⟩
def augS (i : Nat) (op : D → D → Option R) (a : D) (y : R) : M Unit := fun g => match cont g y with
  | some b => match op a b with
    | some (.fz d) => .ok () (g.set i (some (.fz d)))
    | _ => .bad
  | none => .bad
def augF (i : Nat) (op : D → D → Option R) (a : D) (y : R) : M Fl := fun g => match cont g y with
  | some b => (match op a b with
    | some (.fz d) => .ok .nx (g.set i (some (.fz d)))
    | _ => .bad)
  | none => .bad
theorem aug_eq (i : Nat) (op : D → D → Option R) (a : D) (y : R) (b : M Fl) : sSeq (augF i op a y) b = mb (augS i op a y) fun _ => b := by
  funext g
  show (match augF i op a y g with | .ok .nx g' => b g' | r => r) = (augS i op a y g).andThen fun _ => b
  unfold augF augS
  cases cont g y with
  | none => rfl
  | some c =>
    simp only
    cases op a c with
    | none => rfl
    | some r => cases r <;> rfl
theorem w_aug {i : Nat} {op : D → D → Option R} {f : M R} {b : M Fl} {a : D} (hl : lk L i = some (.fz a)) (h : W n L Lx (mb (pk f) fun y => mb (augS i op a y) fun _ => b) t Φ) : W n L Lx (sSeq (sAug i op f) b) t Φ := h.same fun g q => by
  have es : sAug i op f = mb (chkFz i) fun a => mb (pk f) (augF i op a) := rfl
  have e : chkFz i g = .ok a g := by unfold chkFz; rw [q.2 _ _ hl]
  rw [es, sSeq_mb]
  show (chkFz i g).andThen _ = _
  rw [e]
  show sSeq (mb (pk f) _) b g = _
  rw [sSeq_mb]
  show (pk f g).andThen _ = (pk f g).andThen _
  cases pk f g with
  | ok y g' =>
    show sSeq (augF i op a y) b g' = _
    rw [aug_eq]; rfl
  | ex _ _ => rfl
  | bad => rfl
theorem w_augP {i : Nat} {op : D → D → Option R} {a b d : D} {y : R} {k : Unit → M Fl} (h2 : cnt L y = some b) (ho : op a b = some (.fz d)) (hi : Nat.blt i n = true) (h : W n ((i, .fz d) :: L) Lx (k ()) t Φ) : W n L Lx (mb (augS i op a y) k) t Φ :=
  w_g (L1 := (i, .fz d) :: L) (fun g q => ⟨_, by unfold augS; rw [q.cnt h2]; simp only; rw [ho], q.set hi _⟩) h
theorem w_augT {i : Nat} {op : D → D → Option R} {a b : D} {y : R} {k : Unit → M Fl} {to : T γ} {e : γ → D} {tk : γ → T ρ} (h2 : cnt L y = some b) (ho : OpT (op a b) to (fun v => .fz (e v))) (hi : Nat.blt i n = true) (h : ∀ v, W n ((i, .fz (e v)) :: L) Lx (k ()) (tk v) Φ) :
    W n L Lx (mb (augS i op a y) k) (tb to tk) Φ := by
  cases to with
  | bad => exact w_bad
  | ex x => exact ho.elim
  | ok v => exact w_augP h2 ho.1 hi (h v)
/-- stores -/
def OpS (o : Option O) (t : T γ) (rc : γ → O) : Prop := match t with
  | .bad => True
  | .ok v => o = some (rc v)
  | .ex _ => False
theorem w_set {op : O → D → D → Option O} {o i v : M R} {b : M Fl} (h : W n L Lx (mb (esc v) fun rv => mb o fun ro => mb (pk i) fun ri => mb (opSet op rv ro ri) fun _ => b) t Φ) : W n L Lx (sSeq (sSet op o i v) b) t Φ := by
  unfold sSet; rw [sSeq_mb]
  refine h.same fun g _ => ?_
  show (esc v g).andThen _ = (esc v g).andThen _
  cases esc v g with
  | ok r g' =>
    show sSeq (mb o _) b g' = _
    rw [sSeq_mb]
    show (o g').andThen _ = (o g').andThen _
    cases o g' with
    | ok r2 g2 =>
      show sSeq (mb (pk i) _) b g2 = _
      rw [sSeq_mb]
      show (pk i g2).andThen _ = (pk i g2).andThen _
      cases pk i g2 with
      | ok r3 g3 =>
        show sSeq (mb (opSet op r r2 r3) _) b g3 = _
        rw [sSeq_mb]; rfl
      | ex _ _ => rfl
      | bad => rfl
    | ex _ _ => rfl
    | bad => rfl
  | ex _ _ => rfl
  | bad => rfl
theorem w_opSet {op : O → D → D → Option O} {dv di : D} {j : Nat} {ri : R} {l : Bool} {ob : O} {k : Unit → M β} {ts : T γ} {rc : γ → O} {tk : γ → T ρ} {Φ : ρ → β → G → Prop} (hl : lk L j = some (.ow l ob)) (hi : cnt L ri = some di) (ho : OpS (op ob di dv) ts rc) (hj : Nat.blt j n = true)
    (h : ∀ v, W n ((j, .ow l (rc v)) :: L) Lx (k ()) (tk v) Φ) : W n L Lx (mb (opSet op (.fz dv) (.at j) ri) k) (tb ts tk) Φ := by
  cases ts with
  | bad => exact w_bad
  | ex x => exact ho.elim
  | ok v => exact w_g (L1 := (j, .ow l (rc v)) :: L) (fun g q => ⟨_, by unfold opSet; simp only; rw [q.2 _ _ hl, q.cnt hi]; simp only; rw [show op ob di dv = _ from ho], q.set hj _⟩) (h v)
/-- changes by methods -/
def OpMu (o : Option (O × D)) (t : T γ) (rc : γ → O) (rd : γ → D) : Prop := match t with
  | .bad => True
  | .ok v => o = some (rc v, rd v)
  | .ex _ => False
theorem w_opMut {op : O → List D → Option (O × D)} {i : Nat} {ys : List R} {ds : List D} {l : Bool} {o : O} {j : R → M β} {ts : T γ} {rc : γ → O} {rd : γ → D} {tk : γ → T ρ} {Φ : ρ → β → G → Prop} (hl : lk L i = some (.ow l o)) (hy : allFz ys = some ds) (ho : OpMu (op o ds) ts rc rd) (hi : Nat.blt i n = true)
    (h : ∀ v, W n ((i, .ow l (rc v)) :: L) Lx (j (.fz (rd v))) (tk v) Φ) : W n L Lx (mb (opMut op (.at i) ys) j) (tb ts tk) Φ := by
  cases ts with
  | bad => exact w_bad
  | ex x => exact ho.elim
  | ok v => exact w_s (L1 := (i, .ow l (rc v)) :: L) (a := .fz (rd v)) (fun g q => ⟨_, by unfold opMut; simp only; rw [q.2 _ _ hl, hy]; simp only; rw [show op o ds = _ from ho], q.set hi _⟩) (h v)

theorem w_frz {i : Nat} {o : O} {b : M Fl} (hl : lk L i = some (.ow false o)) (hi : Nat.blt i n = true) (h : W n ((i, .fz o.d) :: L) Lx b t Φ) : W n L Lx (sSeq (frzS i) b) t Φ := ⟨fun g q => by
  have e : sSeq (frzS i) b g = b (g.set i (some (.fz o.d))) := by
    show b (frz i g) = _
    unfold frz; rw [q.2 _ _ hl]
  rw [e]; exact h _ (q.set hi _)⟩
theorem w_frzF {i : Nat} {d : D} {b : M Fl} (hl : lk L i = some (.fz d)) (h : W n L Lx b t Φ) : W n L Lx (sSeq (frzS i) b) t Φ := ⟨fun g q => by
  have e : sSeq (frzS i) b g = b g := by
    show b (frz i g) = _
    unfold frz; rw [q.2 _ _ hl]
  rw [e]; exact h _ q⟩
/-- an exit: what follows does not matter -/
theorem w_exit {a b : M Fl} (h : ∀ b : M Fl, W n L Lx a t (fun r fl g => fl ≠ .nx ∧ Φ r fl g)) : W n L Lx (sSeq a b) t Φ := ⟨fun g q => by
  have := h b g q
  cases t with
  | bad => trivial
  | ex e => obtain ⟨g', h1, h2⟩ := this; exact ⟨g', by unfold sSeq; rw [h1], h2⟩
  | ok r =>
    obtain ⟨fl, g', h1, h2, h3⟩ := this
    refine ⟨fl, g', ?_, h3⟩
    unfold sSeq; rw [h1]
    cases fl <;> first | rfl | exact absurd rfl h2⟩
theorem w_let {m : M R} {r : R} {v : γ} {f : γ → R} {j : R → M β} {tk : γ → T ρ} {Φ : ρ → β → G → Prop} (h : Px n L m r) (e : r = f v) (k : ∀ x, W n L Lx (j (f x)) (tk x) Φ) : W n L Lx (mb m j) (tb (.ok v) tk) Φ := w_p h (by rw [e]; exact k v)
theorem w_letS {i : Nat} {r : R} {v : γ} {f : γ → R} {k : Unit → M β} {tk : γ → T ρ} {Φ : ρ → β → G → Prop} (e : r = f v) (h : ∀ x, W n L Lx (mb (nx' (setSl i (f x))) k) (tk x) Φ) : W n L Lx (mb (nx' (setSl i r)) k) (tb (.ok v) tk) Φ := by rw [e]; exact h v
theorem w_augL {i : Nat} {op : D → D → Option R} {a b d : D} {y : R} {k : Unit → M Fl} {v : γ} {f : γ → D} {tk : γ → T ρ} (h2 : cnt L y = some b) (ho : op a b = some (.fz d)) (e : d = f v) (hi : Nat.blt i n = true) (h : ∀ x, W n ((i, .fz (f x)) :: L) Lx (k ()) (tk x) Φ) : W n L Lx (mb (augS i op a y) k) (tb (.ok v) tk) Φ :=
  w_augP h2 ho hi (by rw [e]; exact h v)
open Classical in
/-- data that must be of a kind -/
@[irreducible] noncomputable def tCast {α : Type} (e : α → D) (d : D) : T α := if h : ∃ v, d = e v then .ok (choose h) else .bad
theorem tCast_ok {α : Type} {e : α → D} (hi : ∀ a b, e a = e b → a = b) (v : α) : tCast e (e v) = .ok v := by
  unfold tCast
  have h : ∃ w, e v = e w := ⟨v, rfl⟩
  rw [dif_pos h]
  exact congrArg T.ok (hi _ _ (Classical.choose_spec h)).symm
theorem w_cast {m : M β} {e : α → D} {d : D} {tk : α → T ρ} {Φ : ρ → β → G → Prop} (h : ∀ v, d = e v → W n L Lx m (tk v) Φ) : W n L Lx m (tb (tCast e d) tk) Φ := by
  unfold tCast
  by_cases q : ∃ v, d = e v
  · rw [dif_pos q]; exact h _ (Classical.choose_spec q)
  · rw [dif_neg q]; exact w_bad

/-! ### loops -/
theorem w_for {it : M (List D)} {tg : R → M Unit} {body b : M Fl} (h : W n L Lx (mb it fun ds => sSeq (forL tg body ds) b) t Φ) : W n L Lx (sSeq (sFor it tg body) b) t Φ := by
  unfold sFor; rw [sSeq_mb]; exact h
def isGo : Fl → Prop
  | .nx => True
  | .ct => True
  | _ => False
/-- the end of a turn -/
def ΦB (n : Nat) (LS : σ → Lay) (Φ : ρ → Fl → G → Prop) : St' σ ρ → Fl → G → Prop := fun v fl g' => match v with
  | .nx s => isGo fl ∧ At n (LS s) g'
  | .bk s => fl = .bk ∧ At n (LS s) g'
  | .rt r => isRt fl ∧ Φ r fl g'
def ΦF (n : Nat) (LS : σ → Lay) : σ → Fl → G → Prop := fun s fl g' => isGo fl ∧ At n (LS s) g'
theorem forL_turn (tg : R → M Unit) (body : M Fl) (d : D) (ds : List D) (g : G) : forL tg body (d :: ds) g = match (mb (nx' (tg (.fz d))) fun _ => body) g with
    | .ok .nx g2 => forL tg body ds g2
    | .ok .ct g2 => forL tg body ds g2
    | .ok .bk g2 => .ok .nx g2
    | r => r := for_cons tg body d ds g
theorem forL_go {tg : R → M Unit} {body : M Fl} {d : D} {ds : List D} {g g2 : G} {fl : Fl} (h : (mb (nx' (tg (.fz d))) fun _ => body) g = .ok fl g2) (k : isGo fl) : forL tg body (d :: ds) g = forL tg body ds g2 := by
  rw [forL_turn, h]
  cases fl <;> first | rfl | exact k.elim
theorem forL_fold {tg : R → M Unit} {body : M Fl} {LS : σ → Lay} {e : α → D} {f : σ → α → T σ} (hb : ∀ s x, W n (LS s) Lx (mb (nx' (tg (.fz (e x)))) fun _ => body) (f s x) (ΦF n LS)) :
    ∀ (xs : List α) (s : σ), W n (LS s) Lx (forL tg body (xs.map e)) (tfold xs s f) (fun v fl g' => fl = .nx ∧ At n (LS v) g')
  | [], s => ⟨fun g q => ⟨.nx, g, rfl, rfl, q⟩⟩
  | x :: xs, s => ⟨fun g q => by
    have h := hb s x g q
    unfold tfold
    cases e' : f s x with
    | bad => trivial
    | ex z =>
      rw [e'] at h
      obtain ⟨g', h1, h2⟩ := h
      exact ⟨g', by rw [List.map_cons, forL_turn, h1], h2⟩
    | ok s' =>
      rw [e'] at h
      obtain ⟨fl, g', h1, h2, h3⟩ := h
      have ih := forL_fold hb xs s' g' h3
      rw [List.map_cons, forL_go h1 h2]
      exact ih⟩
theorem w_fold {tg : R → M Unit} {body b : M Fl} {ds : List D} {xs : List α} {e : α → D} {s0 : σ} {LS : σ → Lay} {f : σ → α → T σ} {tk : σ → T ρ} (hd : ds = xs.map e) (h0 : Sub L (LS s0)) (hb : ∀ s x, W n (LS s) Lx (mb (nx' (tg (.fz (e x)))) fun _ => body) (f s x) (ΦF n LS))
    (r : ∀ s, W n (LS s) Lx b (tk s) Φ) : W n L Lx (sSeq (forL tg body ds) b) (tb (tfold xs s0 f) tk) Φ := by
  subst hd
  exact w_blk ((forL_fold hb xs s0).sub h0) r
theorem forL_for {tg : R → M Unit} {body : M Fl} {LS : σ → Lay} {e : α → D} {f : σ → α → T (St' σ ρ)} (hb : ∀ s x, W n (LS s) Lx (mb (nx' (tg (.fz (e x)))) fun _ => body) (f s x) (ΦB n LS Φ)) :
    ∀ (xs : List α) (s : σ), W n (LS s) Lx (forL tg body (xs.map e)) (tfor xs s f) (ΦL n LS Φ)
  | [], s => ⟨fun g q => ⟨.nx, g, rfl, rfl, q⟩⟩
  | x :: xs, s => ⟨fun g q => by
    have h := hb s x g q
    unfold tfor
    cases e' : f s x with
    | bad => trivial
    | ex z =>
      rw [e'] at h
      obtain ⟨g', h1, h2⟩ := h
      exact ⟨g', by rw [List.map_cons, forL_turn, h1], h2⟩
    | ok v =>
      rw [e'] at h
      cases v with
      | nx s' =>
        obtain ⟨fl, g', h1, h2, h3⟩ := h
        have ih := forL_for hb xs s' g' h3
        rw [List.map_cons, forL_go h1 h2]
        exact ih
      | bk s' =>
        obtain ⟨fl, g', h1, rfl, h3⟩ := h
        exact ⟨.nx, g', by rw [List.map_cons, forL_turn, h1], rfl, h3⟩
      | rt r =>
        obtain ⟨fl, g', h1, h2, h3⟩ := h
        refine ⟨fl, g', ?_, h2, h3⟩
        rw [List.map_cons, forL_turn, h1]
        cases fl <;> first | rfl | exact h2.elim⟩
theorem w_forT {tg : R → M Unit} {body b : M Fl} {ds : List D} {xs : List α} {e : α → D} {s0 : σ} {LS : σ → Lay} {f : σ → α → T (St' σ ρ)} {tk : σ → T ρ} (hd : ds = xs.map e) (h0 : Sub L (LS s0)) (hb : ∀ s x, W n (LS s) Lx (mb (nx' (tg (.fz (e x)))) fun _ => body) (f s x) (ΦB n LS Φ))
    (r : ∀ s, W n (LS s) Lx b (tk s) Φ) : W n L Lx (sSeq (forL tg body ds) b) (tlp (tfor xs s0 f) tk) Φ := by
  subst hd
  exact w_blkR ((forL_for hb xs s0).sub h0) r
theorem whileL_for {c : M Bool} {body : M Fl} {LS : σ → Lay} {tc : σ → T Bool} {f : σ → T (St' σ ρ)} (hc : ∀ s, W n (LS s) Lx c (tc s) (fun v b g' => b = v ∧ At n (LS s) g')) (hb : ∀ s, W n (LS s) Lx body (f s) (ΦB n LS Φ)) :
    ∀ (k : Nat) (s : σ), W n (LS s) Lx (whileL c body k) (twhL tc f k s) (ΦL n LS Φ)
  | 0, s => w_bad
  | k + 1, s => ⟨fun g q => by
    have h := hc s g q
    unfold twhL
    cases e1 : tc s with
    | bad => trivial
    | ex z =>
      rw [e1] at h
      obtain ⟨g', h1, h2⟩ := h
      exact ⟨g', by unfold whileL; rw [h1]; rfl, h2⟩
    | ok v =>
      rw [e1] at h
      obtain ⟨b, g', h1, rfl, h3⟩ := h
      cases b with
      | false => exact ⟨.nx, g', by unfold whileL; rw [h1]; rfl, rfl, h3⟩
      | true =>
        have h := hb s g' h3
        have ew : whileL c body (k + 1) g = match body g' with
          | .ok .nx g2 => whileL c body k g2
          | .ok .ct g2 => whileL c body k g2
          | .ok .bk g2 => .ok .nx g2
          | r => r := by
          show (c g).andThen _ = _
          rw [h1]; rfl
        cases e' : f s with
        | bad => trivial
        | ex z =>
          rw [e'] at h
          obtain ⟨g2, h1, h2⟩ := h
          exact ⟨g2, by rw [ew, h1], h2⟩
        | ok v =>
          rw [e'] at h
          cases v with
          | nx s' =>
            obtain ⟨fl, g2, h1, h2, h4⟩ := h
            have ih := whileL_for hc hb k s' g2 h4
            have : whileL c body (k + 1) g = whileL c body k g2 := by
              rw [ew, h1]
              cases fl <;> first | rfl | exact h2.elim
            rw [this]; exact ih
          | bk s' =>
            obtain ⟨fl, g2, h1, rfl, h4⟩ := h
            exact ⟨.nx, g2, by rw [ew, h1], rfl, h4⟩
          | rt r =>
            obtain ⟨fl, g2, h1, h2, h4⟩ := h
            refine ⟨fl, g2, ?_, h2, h4⟩
            rw [ew, h1]
            cases fl <;> first | rfl | exact h2.elim⟩
theorem w_while {c : M Bool} {body b : M Fl} {s0 : σ} {LS : σ → Lay} {tc : σ → T Bool} {f : σ → T (St' σ ρ)} {tk : σ → T ρ} (h0 : Sub L (LS s0)) (hc : ∀ s, W n (LS s) Lx c (tc s) (fun v b g' => b = v ∧ At n (LS s) g')) (hb : ∀ s, W n (LS s) Lx body (f s) (ΦB n LS Φ))
    (r : ∀ s, W n (LS s) Lx b (tk s) Φ) : W n L Lx (sSeq (sWhile c body) b) (tlp (twh s0 tc f) tk) Φ :=
  w_blkR (by unfold twh; exact (whileL_for hc hb fuel s0).sub h0) r
/-! ### comprehensions -/
def lcK (t : R → M Unit) (c : M Bool) (e : M R) (vs : List Nat) (ds : List D) : M R := fun g => if ds.length ≤ sizeLine then (lcL t c e vs ds [] g).andThen fun acc g2 => .ok (.ow (.ls acc)) (backG g g2 vs) else .bad
theorem w_lcU {it : M (List D)} {tg : R → M Unit} {c : M Bool} {e : M R} {vs : List Nat} {j : R → M β} {t : T ρ} {Φ : ρ → β → G → Prop} (h : W n L Lx (mb it fun ds => mb (lcK tg c e vs ds) j) t Φ) : W n L Lx (mb (eLc it tg c e vs) j) t Φ := w_as h
/-- without these slots -/
def rmLs (L : Lay) : List Nat → Lay
  | [] => L
  | v :: vs => rmL (rmLs L vs) v
theorem lk_rms {i : Nat} {x : Sl} : ∀ {vs : List Nat}, lk (rmLs L vs) i = some x → lk L i = some x ∧ i ∉ vs
  | [], h => ⟨h, List.not_mem_nil⟩
  | v :: vs, h => by
    obtain ⟨h1, h2⟩ := lk_rm h
    obtain ⟨h3, h4⟩ := lk_rms h1
    exact ⟨h3, fun m => (List.mem_cons.mp m).elim h2 h4⟩
/-- these slots hold nothing that is changed -/
def fzL (L : Lay) : List Nat → Bool
  | [] => true
  | v :: vs => (match lk L v with | some (.ow _ _) => false | some (.op _ _) => false | _ => true) && fzL L vs
theorem fzL_mem {i : Nat} {l : Bool} {o : O} : ∀ {vs : List Nat}, fzL L vs = true → i ∈ vs → lk L i ≠ some (.ow l o)
  | v :: vs, h, m => by
    unfold fzL at h
    rw [Bool.and_eq_true] at h
    rcases List.mem_cons.mp m with rfl | m
    · intro e; rw [e] at h; cases h.1
    · exact fzL_mem h.2 m
theorem fzL_memO {i : Nat} {c : Str} {fs : Fs} : ∀ {vs : List Nat}, fzL L vs = true → i ∈ vs → lk L i ≠ some (.op c fs)
  | v :: vs, h, m => by
    unfold fzL at h
    rw [Bool.and_eq_true] at h
    rcases List.mem_cons.mp m with rfl | m
    · intro e; rw [e] at h; cases h.1
    · exact fzL_memO h.2 m
theorem At.wipe {g : G} {vs : List Nat} (h : At n L g) : At n (rmLs L vs) (wipeG g vs) := by
  refine ⟨by rw [wipeG_len]; exact h.1, fun i s e => ?_⟩
  obtain ⟨h1, h2⟩ := lk_rms e
  rw [wipeG_at, if_neg fun q => h2 q.1]
  exact h.2 _ _ h1
theorem At.wipe' {g : G} {vs : List Nat} (h : At n (rmLs L vs) g) : At n (rmLs L vs) (wipeG g vs) := by
  refine ⟨by rw [wipeG_len]; exact h.1, fun i s e => ?_⟩
  rw [wipeG_at, if_neg fun q => (lk_rms e).2 q.1]
  exact h.2 _ _ e
theorem lk_rms_of {i : Nat} : ∀ {vs : List Nat}, i ∉ vs → lk (rmLs L vs) i = lk L i := by
  have key : ∀ {M : Lay} {v : Nat}, i ≠ v → lk (rmL M v) i = lk M i := by
    intro M v hv
    induction M with
    | nil => rfl
    | cons p r ih =>
      obtain ⟨j, s⟩ := p
      unfold rmL
      cases e : Nat.beq j v with
      | true =>
        simp only
        rw [ih]
        unfold lk
        have : Nat.beq j i = false := by
          cases q : Nat.beq j i with
          | false => rfl
          | true => exact absurd ((Nat.eq_of_beq_eq_true q).symm.trans (Nat.eq_of_beq_eq_true e)) hv
        simp only [this]
        cases r <;> rfl
      | false =>
        simp only
        unfold lk
        cases q : Nat.beq j i with
        | true => rfl
        | false => exact ih
  intro vs
  induction vs with
  | nil => intro _; rfl
  | cons v vs ih =>
    intro h
    show lk (rmL (rmLs L vs) v) i = _
    rw [key fun e => h (by rw [e]; exact List.mem_cons_self), ih fun m => h (List.mem_cons_of_mem _ m)]
theorem At.back {g g2 : G} {vs : List Nat} (h0 : At n L g) (h : At n (rmLs L vs) g2) (hv : fzL L vs = true) : At n L (backG g g2 vs) := by
  refine ⟨by rw [backG_leng]; exact h.1, fun i s e => ?_⟩
  rw [backG_at]
  by_cases q : i ∈ vs
  · have hl : i < n := by
      have := h0.2 _ _ e
      rcases Nat.lt_or_ge i g.length with k | k
      · rw [h0.1] at k; exact k
      · rw [List.getElem?_eq_none k] at this; cases this
    rw [if_pos ⟨q, by rw [h.1]; exact hl⟩, h0.2 _ _ e]
    cases s with
    | fz d => rfl
    | ow l o => exact absurd e (fzL_mem hv q)
    | op c fs => exact absurd e (fzL_memO hv q)
  · rw [if_neg fun z => q z.1]
    exact h.2 _ _ (by rw [lk_rms_of q]; exact e)
/-- what stands at these slots stands there before, frozen -/
def noX (L L' : Lay) : List Nat → Prop
  | [] => True
  | v :: vs => (match lk L' v with | none => True | some (.fz d) => lk L v = some (.fz d) | some _ => False) ∧ noX L L' vs
theorem noX_mem {i : Nat} {s : Sl} : ∀ {vs : List Nat}, noX L L' vs → i ∈ vs → lk L' i = some s → ∃ d, s = .fz d ∧ lk L i = some (.fz d)
  | v :: vs, h, m, e => by
    rcases List.mem_cons.mp m with rfl | m
    · have h1 := h.1
      rw [e] at h1
      cases s with
      | fz d => exact ⟨d, rfl, h1⟩
      | ow l o => exact h1.elim
      | op c fs => exact h1.elim
    · exact noX_mem h.2 m e
theorem At.backS {g g2 : G} {vs : List Nat} (h0 : At n L g) (h : At n (rmLs L' vs) g2) (hv : noX L L' vs) : At n L' (backG g g2 vs) := by
  refine ⟨by rw [backG_leng]; exact h.1, fun i s e => ?_⟩
  rw [backG_at]
  by_cases q : i ∈ vs
  · obtain ⟨d, rfl, e2⟩ := noX_mem hv q e
    have h3 := h0.2 _ _ e2
    have hl : i < n := by
      rcases Nat.lt_or_ge i g.length with k | k
      · rw [h0.1] at k; exact k
      · rw [List.getElem?_eq_none k] at h3; cases h3
    rw [if_pos ⟨q, by rw [h.1]; exact hl⟩, h3]; rfl
  · rw [if_neg fun z => q z.1]
    exact h.2 _ _ (by rw [lk_rms_of q]; exact e)
/-- one turn of a comprehension, typed -/
def LcOk (n : Nat) (L : Lay) (tg : R → M Unit) (c : M Bool) (e : M R) (d : D) (t : T (Option γ)) (e1 : γ → D) : Prop :=
  match tnx t with
  | .ok v => ∀ g, At n L g → ∃ g', lcStep tg c e d g = .ok (v.map e1) g' ∧ At n L g'
  | _ => True
theorem lcL_ok {tg : R → M Unit} {c : M Bool} {e : M R} {vs : List Nat} {e0 : α → D} {e1 : γ → D} {f : α → T (Option γ)} (hb : ∀ x, LcOk n (rmLs L vs) tg c e (e0 x) (f x) e1) :
    ∀ (xs : List α) (acc : List D) (g : G), At n (rmLs L vs) g → match tfmA f xs with
      | .ok ys => ∃ g', lcL tg c e vs (xs.map e0) acc g = .ok (acc ++ ys.map e1) g' ∧ At n (rmLs L vs) g'
      | _ => True
  | [], acc, g, q => ⟨g, by rw [List.map_nil, List.map_nil, List.append_nil]; rfl, q⟩
  | x :: xs, acc, g, q => by
    have h := hb x
    unfold LcOk at h
    unfold tfmA
    cases e' : tnx (f x) with
    | bad => trivial
    | ex z => trivial
    | ok v =>
      rw [e'] at h
      obtain ⟨g', h1, h2⟩ := h _ q.wipe'
      rw [List.map_cons, lcL_cons, h1]
      cases v with
      | none =>
        have ih := lcL_ok hb xs acc g' h2
        skip
        cases e2 : tfmA f xs with
        | bad => trivial
        | ex z => trivial
        | ok ys => rw [e2] at ih; exact ih
      | some y =>
        have ih := lcL_ok hb xs (acc ++ [e1 y]) g' h2
        skip
        cases e2 : tfmA f xs with
        | bad => trivial
        | ex z => trivial
        | ok ys =>
          rw [e2] at ih
          obtain ⟨g2, h3, h4⟩ := ih
          refine ⟨g2, ?_, h4⟩
          show lcL tg c e vs (xs.map e0) (acc ++ [e1 y]) g' = _
          rw [h3, List.append_assoc]; rfl
theorem At.rms {g : G} {vs : List Nat} (h : At n L g) : At n (rmLs L vs) g := ⟨h.1, fun i s e => h.2 _ _ (lk_rms e).1⟩
theorem w_fm {tg : R → M Unit} {c : M Bool} {e : M R} {vs : List Nat} {ds : List D} {xs : List α} {e0 : α → D} (e1 : γ → D) {f : α → T (Option γ)} {j : R → M β} {tk : List γ → T ρ} {Φ : ρ → β → G → Prop} (hd : ds = xs.map e0) (hv : fzL L vs = true)
    (hb : ∀ x, LcOk n (rmLs L vs) tg c e (e0 x) (f x) e1) (r : ∀ ys : List γ, W n L Lx (j (.ow (.ls (ys.map e1)))) (tk ys) Φ) : W n L Lx (mb (lcK tg c e vs ds) j) (tb (tFm xs f) tk) Φ := by
  subst hd
  unfold tFm
  by_cases hl : xs.length ≤ 16777216
  · rw [if_pos hl]
    cases e' : tfmA f xs with
    | bad => exact w_bad
    | ex z =>
      have : ∀ xs : List α, ∀ z, tfmA f xs ≠ .ex z := by
        intro xs
        induction xs with
        | nil => intro z h; cases h
        | cons x xs ih =>
          intro z h
          unfold tfmA at h
          cases e1 : f x with
          | bad => rw [e1] at h; cases h
          | ex _ => rw [e1] at h; cases h
          | ok _ =>
            rw [e1] at h
            cases e2 : tfmA f xs with
            | bad => rw [e2] at h; cases h
            | ex y => exact ih y e2
            | ok _ => rw [e2] at h; cases h
      exact absurd e' (this xs z)
    | ok ys =>
      refine w_s (a := .ow (.ls (ys.map e1))) (L1 := L) (fun g q => ?_) (r ys)
      have h := lcL_ok (f := f) hb xs [] g q.rms
      rw [e'] at h
      obtain ⟨g', h1, h2⟩ := h
      refine ⟨backG g g' vs, ?_, q.back h2 hv⟩
      unfold lcK
      rw [if_pos (by rw [List.length_map]; exact hl), h1]; rfl
  · rw [if_neg hl]; exact w_bad
theorem tfm_map {f : α → T γ} : ∀ xs : List α, tfmA (fun x => tb (f x) fun y => .ok (some y)) xs = tmapA f xs
  | [] => rfl
  | x :: xs => by
    unfold tfmA tmapA
    rw [tfm_map xs]
    cases f x with
    | bad => rfl
    | ex _ => rfl
    | ok y => cases tmapA f xs <;> rfl
theorem w_map {tg : R → M Unit} {c : M Bool} {e : M R} {vs : List Nat} {ds : List D} {xs : List α} {e0 : α → D} (e1 : γ → D) {f : α → T γ} {j : R → M β} {tk : List γ → T ρ} {Φ : ρ → β → G → Prop} (hd : ds = xs.map e0) (hv : fzL L vs = true)
    (hb : ∀ x, LcOk n (rmLs L vs) tg c e (e0 x) (tb (f x) fun y => .ok (some y)) e1) (r : ∀ ys : List γ, W n L Lx (j (.ow (.ls (ys.map e1)))) (tk ys) Φ) : W n L Lx (mb (lcK tg c e vs ds) j) (tb (tMap xs f) tk) Φ := by
  have : tMap xs f = tFm xs fun x => tb (f x) fun y => .ok (some y) := by unfold tMap tFm; rw [tfm_map]
  rw [this]
  exact w_fm e1 hd hv hb r
/-- a turn without a test -/
theorem lc_m {tg : R → M Unit} {e : M R} {d : D} {f : T γ} {e1 : γ → D} {L1 : Lay} (ht : Tg n L (tg (.fz d)) L1) (hL : ∀ g, At n L1 g → At n L g) (h : W n L1 [] (mb e escR) f (fun v r g' => r = .fz (e1 v) ∧ At n L1 g')) : LcOk n L tg cYes e d (tb f fun y => .ok (some y)) e1 := by
  unfold LcOk
  cases f with
  | bad => trivial
  | ex _ => trivial
  | ok v =>
    intro g q
    obtain ⟨g1, h1, h2⟩ := ht g q
    obtain ⟨r, g2, h3, rfl, h4⟩ := h g1 h2
    have h5 : esc e g1 = .ok (.fz (e1 v)) g2 := h3
    refine ⟨g2, ?_, hL _ h4⟩
    unfold lcStep
    rw [h1, ne_ok, then_ok, ev_yes, ne_ok, then_ok, if_pos rfl, h5]; rfl
/-- .. with one -/
theorem lc_f {tg : R → M Unit} {c : M Bool} {e : M R} {d : D} {tc : T Bool} {f : T γ} {e1 : γ → D} {L1 : Lay} (ht : Tg n L (tg (.fz d)) L1) (hL' : True) (hc : W n L1 [] c tc (fun v b g' => b = v ∧ At n L1 g')) (hL : ∀ g, At n L1 g → At n L g) (h : W n L1 [] (mb e escR) f (fun v r g' => r = .fz (e1 v) ∧ At n L1 g')) :
    LcOk n L tg c e d (tb tc fun b => if b = true then tb f fun y => .ok (some y) else .ok none) e1 := by
  unfold LcOk
  cases tc with
  | bad => trivial
  | ex _ => trivial
  | ok b =>
    cases b with
    | false =>
      intro g q
      obtain ⟨g1, h1, h2⟩ := ht g q
      obtain ⟨r, g2, h3, rfl, h4⟩ := hc g1 h2
      refine ⟨g2, ?_, hL _ h4⟩
      unfold lcStep
      rw [h1, ne_ok, then_ok, h3]; rfl
    | true =>
      cases f with
      | bad => trivial
      | ex _ => trivial
      | ok v =>
        intro g q
        obtain ⟨g1, h1, h2⟩ := ht g q
        obtain ⟨r, g2, h3, rfl, h4⟩ := hc g1 h2
        obtain ⟨r, g3, h5, rfl, h6⟩ := h g2 h4
        have h7 : esc e g2 = .ok (.fz (e1 v)) g3 := h5
        refine ⟨g3, ?_, hL _ h6⟩
        unfold lcStep
        rw [h1, ne_ok, then_ok, h3, ne_ok, then_ok, if_pos rfl, h7]; rfl
/-- one more fact about a slot of which nothing was known -/
theorem at_rm {v : Nat} {x : Sl} {g : G} (h : At n ((v, x) :: L) g) (hv : ∀ s, lk L v ≠ some s) : At n L g := ⟨h.1, fun i s e => h.2 i s (by
  unfold lk
  cases q : Nat.beq v i with
  | true => rw [Nat.eq_of_beq_eq_true q] at hv; exact absurd e (hv s)
  | false => exact e)⟩
theorem rms_no {v : Nat} {vs : List Nat} (m : v ∈ vs) : ∀ s, lk (rmLs L vs) v ≠ some s := fun s e => (lk_rms e).2 m
theorem lk_cons_no {v w : Nat} {x : Sl} (hw : Nat.beq w v = false) (h : ∀ s, lk L v ≠ some s) : ∀ s, lk ((w, x) :: L) v ≠ some s := fun s e => by
  unfold lk at e; rw [hw] at e; exact h s e
/-- .. with a state -/
def LcOkS (n : Nat) (LS : σ → Lay) (vs : List Nat) (tg : R → M Unit) (c : M Bool) (e : M R) (d : D) (s : σ) (t : T (σ × γ)) (e1 : γ → D) : Prop :=
  match tnx t with
  | .ok v => ∀ g, At n (rmLs (LS s) vs) g → ∃ g', lcStep tg c e d g = .ok (some (e1 v.2)) g' ∧ At n (rmLs (LS v.1) vs) g'
  | _ => True
def tmapS {σ α γ : Type} (f : σ → α → T (σ × γ)) : List α → σ → T (σ × List γ)
  | [], s => .ok (s, [])
  | x :: xs, s => tb (tnx (f s x)) fun p => tb (tmapS f xs p.1) fun q => .ok (q.1, p.2 :: q.2)
@[irreducible] def tMapS {σ α γ : Type} (xs : List α) (s : σ) (f : σ → α → T (σ × γ)) : T (σ × List γ) := if xs.length ≤ 16777216 then tmapS f xs s else .bad
theorem lcL_okS {tg : R → M Unit} {c : M Bool} {e : M R} {vs : List Nat} {LS : σ → Lay} {e0 : α → D} {e1 : γ → D} {f : σ → α → T (σ × γ)} (hb : ∀ s x, LcOkS n LS vs tg c e (e0 x) s (f s x) e1) :
    ∀ (xs : List α) (s : σ) (acc : List D) (g : G), At n (rmLs (LS s) vs) g → match tmapS f xs s with
      | .ok q => ∃ g', lcL tg c e vs (xs.map e0) acc g = .ok (acc ++ q.2.map e1) g' ∧ At n (rmLs (LS q.1) vs) g'
      | _ => True
  | [], s, acc, g, q => ⟨g, by rw [List.map_nil, List.map_nil, List.append_nil]; rfl, q⟩
  | x :: xs, s, acc, g, q => by
    have h := hb s x
    unfold LcOkS at h
    unfold tmapS
    cases e' : tnx (f s x) with
    | bad => trivial
    | ex z => trivial
    | ok v =>
      rw [e'] at h
      obtain ⟨g', h1, h2⟩ := h _ q.wipe'
      rw [List.map_cons, lcL_cons, h1]
      have ih := lcL_okS hb xs v.1 (acc ++ [e1 v.2]) g' h2
      rw [tb_ok]
      cases e2 : tmapS f xs v.1 with
      | bad => trivial
      | ex z => trivial
      | ok ys =>
        rw [e2] at ih
        obtain ⟨g2, h3, h4⟩ := ih
        refine ⟨g2, ?_, h4⟩
        show lcL tg c e vs (xs.map e0) (acc ++ [e1 v.2]) g' = _
        rw [h3, List.append_assoc]; rfl
theorem tmapS_noex {f : σ → α → T (σ × γ)} : ∀ (xs : List α) (s : σ) (z : Ex), tmapS f xs s ≠ .ex z
  | [], s, z, h => by cases h
  | x :: xs, s, z, h => by
    unfold tmapS at h
    cases e1 : f s x with
    | bad => rw [e1] at h; cases h
    | ex _ => rw [e1] at h; cases h
    | ok p =>
      rw [e1] at h
      cases e2 : tmapS f xs p.1 with
      | bad => simp only [tnx, tb_ok, e2] at h; cases h
      | ex y => exact tmapS_noex xs p.1 y e2
      | ok _ => simp only [tnx, tb_ok, e2] at h; cases h
theorem w_mapS {tg : R → M Unit} {c : M Bool} {e : M R} {vs : List Nat} {ds : List D} {xs : List α} {s0 : σ} {LS : σ → Lay} {e0 : α → D} (e1 : γ → D) {f : σ → α → T (σ × γ)} {j : R → M β} {tk : σ × List γ → T ρ} {Φ : ρ → β → G → Prop} (hd : ds = xs.map e0) (h0 : Sub L (LS s0)) (hv : ∀ s, fzL (LS s) vs = true) (hx : ∀ s, noX L (LS s) vs)
    (hb : ∀ s x, LcOkS n LS vs tg c e (e0 x) s (f s x) e1) (r : ∀ q : σ × List γ, W n (LS q.1) Lx (j (.ow (.ls (q.2.map e1)))) (tk q) Φ) : W n L Lx (mb (lcK tg c e vs ds) j) (tb (tMapS xs s0 f) tk) Φ := by
  subst hd
  unfold tMapS
  by_cases hl : xs.length ≤ 16777216
  · rw [if_pos hl]
    cases e' : tmapS f xs s0 with
    | bad => exact w_bad
    | ex z => exact absurd e' (tmapS_noex xs s0 z)
    | ok q =>
      refine w_s (a := .ow (.ls (q.2.map e1))) (L1 := LS q.1) (fun g k => ?_) (r q)
      have h := lcL_okS (f := f) hb xs s0 [] g (k.sub h0).rms
      rw [e'] at h
      obtain ⟨g', h1, h2⟩ := h
      refine ⟨backG g g' vs, ?_, k.backS h2 (hx q.1)⟩
      unfold lcK
      rw [if_pos (by rw [List.length_map]; exact hl), h1]; rfl
  · rw [if_neg hl]; exact w_bad
theorem lc_mS {tg : R → M Unit} {e : M R} {d : D} {vs : List Nat} {LS : σ → Lay} {s : σ} {f : T (σ × γ)} {e1 : γ → D} {L1 : Lay} {LB : σ → Lay} (ht : Tg n (rmLs (LS s) vs) (tg (.fz d)) L1) (hL : ∀ v g, At n (LB v) g → At n (rmLs (LS v) vs) g) (h : W n L1 [] (mb e escR) f (fun v r g' => r = .fz (e1 v.2) ∧ At n (LB v.1) g')) : LcOkS n LS vs tg cYes e d s f e1 := by
  unfold LcOkS
  cases f with
  | bad => trivial
  | ex _ => trivial
  | ok v =>
    intro g q
    obtain ⟨g1, h1, h2⟩ := ht g q
    obtain ⟨r, g2, h3, rfl, h4⟩ := h g1 h2
    have h5 : esc e g1 = .ok (.fz (e1 v.2)) g2 := h3
    refine ⟨g2, ?_, hL _ _ h4⟩
    unfold lcStep
    rw [h1, ne_ok, then_ok, ev_yes, ne_ok, then_ok, if_pos rfl, h5]; rfl
/-- an end's value -/
theorem w_endP {m : M R} {r : R} {v : γ} {f : γ → R} (h : Px n L m r) (e : r = f v) : W n L Lx m (.ok v) (fun v r g' => r = f v ∧ At n L g') := ⟨fun g q => ⟨r, g, h g q, e, q⟩⟩
theorem w_endPS {m : M R} {r : R} {v : σ × γ} {e1 : γ → D} {LB : σ → Lay} (h : Px n L m r) (e : r = .fz (e1 v.2)) (hs : Sub L (LB v.1)) : W n L Lx m (.ok v) (fun v r g' => r = .fz (e1 v.2) ∧ At n (LB v.1) g') := ⟨fun g q => ⟨r, g, h g q, e, q.sub hs⟩⟩
theorem px_pushA {i : Nat} {xs : List R} : Px n L (aPush (.at i) xs) (.at i :: xs) := fun g q => rfl
theorem w_endB {m : M Bool} {b : Bool} (h : Px n L m b) : W n L Lx m (.ok b) (fun v r g' => r = v ∧ At n L g') := ⟨fun g q => ⟨b, g, h g q, rfl, q⟩⟩
theorem w_endM {b : Bool} : W n L Lx (mp b) (.ok b) (fun v r g' => r = v ∧ At n L g') := ⟨fun g q => ⟨b, g, rfl, rfl, q⟩⟩
theorem w_endR {r : R} {v : γ} {f : γ → R} (e : r = f v) : W n L Lx (mp r) (.ok v) (fun v r g' => r = f v ∧ At n L g') := ⟨fun g q => ⟨r, g, rfl, e, q⟩⟩
theorem px_opN {op : List D → Option R} {rs : List R} {ds : List D} {r : R} (e : cnts L rs = some ds) (ho : op ds = some r) (hr : nAt r = true := by rfl) : Px n L (opN op rs) r := fun g q => by unfold opN; rw [q.cnts e]; simp only; rw [ho, done_of hr]
theorem px_opM {op : D → List D → Option R} {x : R} {d : D} {rs : List R} {ds : List D} {r : R} (h1 : cnt L x = some d) (e : cnts L rs = some ds) (ho : op d ds = some r) (hr : nAt r = true := by rfl) : Px n L (opM op x rs) r := fun g q => by unfold opM; rw [q.cnt h1, q.cnts e]; simp only; rw [ho, done_of hr]
theorem px_op1 {op : D → Option R} {x : R} {d : D} {r : R} (h1 : cnt L x = some d) (ho : op d = some r) (hr : nAt r = true := by rfl) : Px n L (op1 op x) r := fun g q => by unfold op1; rw [q.cnt h1]; simp only; rw [ho, done_of hr]
theorem px_op2 {op : D → D → Option R} {x y : R} {a b : D} {r : R} (h1 : cnt L x = some a) (h2 : cnt L y = some b) (ho : op a b = some r) (hr : nAt r = true := by rfl) : Px n L (op2 op x y) r := fun g q => by unfold op2; rw [q.cnt h1, q.cnt h2]; simp only; rw [ho, done_of hr]
theorem px_opSl {x : R} {d : D} {lo hi : Option Int} {r : R} (h1 : cnt L x = some d) (ho : slD lo hi d = some r) (hr : nAt r = true := by rfl) : Px n L (opSl x lo hi) r := fun g q => by unfold opSl; rw [q.cnt h1]; simp only; rw [ho, done_of hr]
theorem px_toTru {x : R} {d : D} {b : Bool} (h1 : cnt L x = some d) (h : truD d = some b) : Px n L (toTru x) b := fun g q => by unfold toTru; rw [q.cnt h1, Option.bind_some, h]
theorem w_nilS {b : M Fl} {t : T ρ} {Φ : ρ → Fl → G → Prop} (h : W n L Lx b t Φ) : W n L Lx (sSeq sNil b) t Φ := h
/-- an option is looked at -/
def optc {α ρ : Type} (o : Option α) (t0 : T ρ) (t1 : α → T ρ) : T ρ := match o with
  | none => t0
  | some a => t1 a
theorem w_optc {o : Option α} {m : M β} {t0 : T ρ} {t1 : α → T ρ} {Φ : ρ → β → G → Prop} (h0 : o = none → W n L Lx m t0 Φ) (h1 : ∀ a, o = some a → W n L Lx m (t1 a) Φ) : W n L Lx m (optc o t0 t1) Φ := by
  cases o with
  | none => exact h0 rfl
  | some a => exact h1 a rfl
theorem w_isT {c : M Bool} {b : Bool} {x y : M β} {t : T ρ} {Φ : ρ → β → G → Prop} (h : Px n L c b) (e : b = true) (r : W n L Lx x t Φ) : W n L Lx (mb c fun t => if t = true then x else y) t Φ := w_p h (by rw [e]; exact r)
theorem w_isF {c : M Bool} {b : Bool} {x y : M β} {t : T ρ} {Φ : ρ → β → G → Prop} (h : Px n L c b) (e : b = false) (r : W n L Lx y t Φ) : W n L Lx (mb c fun t => if t = true then x else y) t Φ := w_p h (by rw [e]; exact r)
theorem w_cv {i : Nat} {d d' : D} {m : M β} {t : T ρ} {Φ : ρ → β → G → Prop} (h : lk L i = some (.fz d)) (e : d = d') (r : W n ((i, .fz d') :: L) Lx m t Φ) : W n L Lx m t Φ := ⟨fun g q => r g ⟨q.1, fun j s k => by
  unfold lk at k
  cases z : Nat.beq i j with
  | true => rw [z] at k; cases k; rw [← Nat.eq_of_beq_eq_true z, ← e]; exact q.2 _ _ h
  | false => rw [z] at k; exact q.2 _ _ k⟩⟩
/-! ### defs -/
@[irreducible] def RF (f : FSem) (ds : List D) (t : T ρ) (eR : ρ → R) : Prop := match t with
  | .bad => True
  | .ex e => f none ds = .ex e none
  | .ok r => f none ds = .ok (eR r) none ∧ nAt (eR r) = true
def Fin (r : R) (fl : Fl) : Prop := fl = .rt r ∨ (fl = .nx ∧ r = .fz .non)
def ΦR (eR : ρ → R) : ρ → Fl → G → Prop := fun v fl _ => Fin (eR v) fl
def argL : Nat → List D → Lay
  | _, [] => []
  | i, d :: ds => (i, .fz d) :: argL (i + 1) ds
theorem lk_arg : ∀ {ds : List D} {i j : Nat} {s : Sl}, lk (argL i ds) j = some s → i ≤ j ∧ ∃ d, s = .fz d ∧ ds[j - i]? = some d
  | [], i, j, s, h => by cases h
  | d :: ds, i, j, s, h => by
    unfold argL lk at h
    cases e : Nat.beq i j with
    | true =>
      simp only [e] at h
      cases h
      have := Nat.eq_of_beq_eq_true e
      subst this
      exact ⟨Nat.le_refl _, d, rfl, by simp⟩
    | false =>
      simp only [e] at h
      obtain ⟨h1, d', h2, h3⟩ := lk_arg h
      refine ⟨by omega, d', h2, ?_⟩
      rw [show j - i = (j - (i + 1)) + 1 by omega, List.getElem?_cons_succ]
      exact h3
theorem rf_body {n : Nat} {b : M Fl} {ds : List D} {t : T ρ} {eR : ρ → R} (hn : Nat.ble ds.length n = true) (he : ∀ v, nAt (eR v) = true) (h : W n (argL 0 ds) [] b t (ΦR eR)) : RF (bodyF n none b) ds t eR := by
  have hn := Nat.le_of_ble_eq_true hn
  have q : At n (argL 0 ds) (fill n (ds.map fun d => some (.fz d))) := by
    refine ⟨by unfold fill; rw [List.length_append, List.length_map, List.length_replicate]; omega, fun i s e => ?_⟩
    obtain ⟨_, d, rfl, h3⟩ := lk_arg e
    unfold fill
    have hl : i < ds.length := by
      rcases Nat.lt_or_ge i ds.length with h | h
      · exact h
      · rw [List.getElem?_eq_none (by omega)] at h3; cases h3
    rw [List.getElem?_append_left (by rw [List.length_map]; exact hl), List.getElem?_map]
    rw [Nat.sub_zero] at h3
    rw [h3]; rfl
  have := h _ q
  unfold RF
  cases t with
  | bad => trivial
  | ex e =>
    obtain ⟨g', h1, _⟩ := this
    rw [bodyF_none, h1]; rfl
  | ok v =>
    obtain ⟨fl, g', h1, h2⟩ := this
    refine ⟨?_, he v⟩
    rw [bodyF_none, h1]
    rcases h2 with rfl | ⟨rfl, h3⟩
    · have := he v
      cases e : eR v with
      | fz d => rfl
      | ow o => rfl
      | «at» i => rw [e] at this; cases this
      | sub i f => rw [e] at this; cases this
    · rw [h3]; rfl
theorem w_call {sem : FSem} {rs : List R} {ds : List D} {tc : T γ} {rc : γ → R} {j : R → M β} {tk : γ → T ρ} {Φ : ρ → β → G → Prop} (hf : RF sem ds tc rc) (e : allFz rs = some ds) (hx : Sub L Lx) (r : ∀ v, W n L Lx (j (rc v)) (tk v) Φ) : W n L Lx (mb (opCall none sem rs) j) (tb tc tk) Φ := by
  unfold RF at hf
  have eo : ∀ g, opCall none sem rs g = callK (sem none ds) g := by intro g; rw [ev_opCall, e]
  cases tc with
  | bad => exact w_bad
  | ex z => exact ⟨fun g q => ⟨g, by show (opCall none sem rs g).andThen j = _; rw [eo, hf]; rfl, q.sub hx⟩⟩
  | ok v =>
    refine w_p (a := rc v) (fun g q => ?_) (r v)
    rw [eo, hf.1]
    have := hf.2
    cases e : rc v with
    | fz d => rfl
    | ow o => rfl
    | «at» i => rw [e] at this; cases this
    | sub i f => rw [e] at this; cases this
/-! ### lent lists -/
@[irreducible] def RFL (f : FSem) (lp : Nat) (o : O) (ds : List D) (t : T (ρ × σ)) (eR : ρ → R) (eO : σ → O) : Prop := match t with
  | .bad => True
  | .ex e => f (some o) ds = .ex e none
  | .ok v => f (some o) ds = .ok (eR v.1) (some (eO v.2)) ∧ nAt (eR v.1) = true
def ΦRL (n : Nat) (lp : Nat) (eR : ρ → R) (eO : σ → O) : ρ × σ → Fl → G → Prop := fun v fl g => Fin (eR v.1) fl ∧ g[lp]? = some (some (.ow true (eO v.2)))
def argLL (j : Nat) (o : O) (ds : List D) : Lay := (j, .ow true o) :: (argL 0 (ds.take j) ++ argL (j + 1) (ds.drop j))
theorem lk_app : ∀ {L L' : Lay} {i : Nat} {s : Sl}, lk (L ++ L') i = some s → lk L i = some s ∨ lk L' i = some s
  | [], L', i, s, h => .inr h
  | (j, x) :: r, L', i, s, h => by
    have hc : ∀ M : Lay, lk ((j, x) :: M) i = match Nat.beq j i with | true => some x | false => lk M i := fun M => rfl
    rw [List.cons_append, hc] at h
    rw [hc]
    cases e : Nat.beq j i with
    | true => rw [e] at h; exact .inl h
    | false => rw [e] at h; exact lk_app h
theorem rf_bodyL {n lp : Nat} {b : M Fl} {o : O} {ds : List D} {t : T (ρ × σ)} {eR : ρ → R} {eO : σ → O} (hn : Nat.blt ds.length n = true) (hj : Nat.ble lp ds.length = true) (he : ∀ v, nAt (eR v) = true) (h : W n (argLL lp o ds) [] b t (ΦRL n lp eR eO)) : RFL (bodyF n (some lp) b) lp o ds t eR eO := by
  have hn : ds.length < n := by simpa using hn
  have hj : lp ≤ ds.length := Nat.le_of_ble_eq_true hj
  have eg : mkG n (some lp) (some o) ds = some (fill n ((ds.take lp).map (fun d => some (.fz d)) ++ some (Sl.ow true o) :: (ds.drop lp).map fun d => some (Sl.fz d))) := rfl
  generalize hg0 : fill n ((ds.take lp).map (fun d => some (Sl.fz d)) ++ some (Sl.ow true o) :: (ds.drop lp).map fun d => some (Sl.fz d)) = g0 at eg
  have q : At n (argLL lp o ds) g0 := by
    subst hg0
    refine ⟨by unfold fill; simp; omega, fun i s e => ?_⟩
    unfold argLL lk at e
    have get : ∀ (i : Nat) (x : Option Sl), ((ds.take lp).map (fun d => some (Sl.fz d)) ++ some (Sl.ow true o) :: (ds.drop lp).map fun d => some (Sl.fz d))[i]? = some x → (fill n ((ds.take lp).map (fun d => some (Sl.fz d)) ++ some (Sl.ow true o) :: (ds.drop lp).map fun d => some (Sl.fz d)))[i]? = some x := by
      intro i x hx
      unfold fill
      rw [List.getElem?_append_left]
      · exact hx
      · rcases Nat.lt_or_ge i ((ds.take lp).map (fun d => some (Sl.fz d)) ++ some (Sl.ow true o) :: (ds.drop lp).map fun d => some (Sl.fz d)).length with k | k
        · exact k
        · rw [List.getElem?_eq_none k] at hx; cases hx
    apply get
    have hlen : ((ds.take lp).map (fun d => some (Sl.fz d))).length = lp := by rw [List.length_map, List.length_take]; omega
    cases e1 : Nat.beq lp i with
    | true =>
      rw [e1] at e; cases e
      have := Nat.eq_of_beq_eq_true e1
      subst this
      rw [List.getElem?_append_right (by omega), hlen, Nat.sub_self]; rfl
    | false =>
      rw [e1] at e
      rcases lk_app e with e | e
      · obtain ⟨_, d, rfl, h3⟩ := lk_arg e
        rw [Nat.sub_zero] at h3
        have hl : i < (ds.take lp).length := by
          rcases Nat.lt_or_ge i (ds.take lp).length with k | k
          · exact k
          · rw [List.getElem?_eq_none k] at h3; cases h3
        rw [List.getElem?_append_left (by rw [List.length_map]; exact hl), List.getElem?_map, h3]; rfl
      · obtain ⟨h2, d, rfl, h3⟩ := lk_arg e
        rw [List.getElem?_append_right (by omega), hlen, show i - lp = (i - (lp + 1)) + 1 by omega, List.getElem?_cons_succ, List.getElem?_map, h3]; rfl
  have := h _ q
  unfold RFL
  cases t with
  | bad => trivial
  | ex e =>
    obtain ⟨g', h1, _⟩ := this
    show bodyF _ _ _ _ _ = _
    unfold bodyF
    rw [eg]
    simp only
    rw [h1]
  | ok v =>
    obtain ⟨fl, g', h1, h2, h3⟩ := this
    refine ⟨?_, he v.1⟩
    have ho : outG (some lp) g' = some (some (eO v.2)) := by
      show (match g'[lp]? with | some (some (.ow true o)) => some (some o) | _ => none : Option (Option O)) = _
      rw [h3]
    unfold bodyF
    rw [eg]
    simp only
    rw [h1]
    rcases h2 with rfl | ⟨rfl, h4⟩
    · have := he v.1
      simp only [ho]
      cases e : eR v.1 with
      | fz d => rfl
      | ow o => rfl
      | «at» i => rw [e] at this; cases this
      | sub i f => rw [e] at this; cases this
    · simp only [ho, h4]
theorem w_callL {j : Nat} {sem : FSem} {rs : List R} {ds : List D} {i : Nat} {l : Bool} {o : O} {tc : T (γ × σ)} {rc : γ → R} {eO : σ → O} {jj : R → M β} {tk : γ × σ → T ρ} {Φ : ρ → β → G → Prop} (hf : RFL sem j o ds tc rc eO) (hr : rs[j]? = some (.at i)) (e : allFz (rs.eraseIdx j) = some ds) (hl : lk L i = some (.ow l o)) (hi : Nat.blt i n = true) (hx : Sub (rmL L i) Lx)
    (r : ∀ v : γ × σ, W n ((i, .ow l (eO v.2)) :: L) Lx (jj (rc v.1)) (tk v) Φ) : W n L Lx (mb (opCall (some j) sem rs) jj) (tb tc tk) Φ := by
  unfold RFL at hf
  cases tc with
  | bad => exact w_bad
  | ex z =>
    refine ⟨fun g q => ⟨g.set i none, ?_, (q.none i).sub hx⟩⟩
    have : opCall (some j) sem rs g = .ex z (g.set i none) := by
      unfold opCall
      simp only
      rw [hr, e]
      simp only
      rw [q.2 _ _ hl]
      simp only
      rw [hf]
    show (opCall (some j) sem rs g).andThen jj = _
    rw [this]; rfl
  | ok v =>
    refine w_s (a := rc v.1) (L1 := (i, .ow l (eO v.2)) :: L) (fun g q => ⟨_, ?_, q.set hi _⟩) (r v)
    unfold opCall
    simp only
    rw [hr, e]
    simp only
    rw [q.2 _ _ hl]
    simp only
    rw [hf.1]
    have := hf.2
    cases e : rc v.1 with
    | fz d => rfl
    | ow o => rfl
    | «at» i => rw [e] at this; cases this
    | sub i f => rw [e] at this; cases this
/-! ### try -/
/-- what catches -/
@[irreducible] def tTry (x : T ρ) (ns : List Str) (h : Ex → T ρ) : T ρ := match x with
  | .ex e => if e.c ∈ ns then h e else .bad
  | r => r
theorem w_try {ns : List Str} {x : M Fl} {hs : List (Str × M Fl)} {tx : T ρ} {th : Ex → T ρ} {Ly : Lay} (hb : W n L Ly x tx Φ) (hh : ∀ e, W n Ly Lx (handle hs e) (th e) Φ) : W n L Lx (sTry ns x hs) (tTry tx ns th) Φ := ⟨fun g q => by
  have := hb g q
  unfold tTry
  cases tx with
  | bad => trivial
  | ok v =>
    obtain ⟨b, g', h1, h2⟩ := this
    exact ⟨b, g', by unfold sTry; rw [h1], h2⟩
  | ex e =>
    obtain ⟨g', h1, h2⟩ := this
    have es : sTry ns x hs g = if e.c ∈ ns then handle hs e g' else .bad := by unfold sTry; rw [h1]
    show match (if e.c ∈ ns then th e else .bad) with | .bad => _ | .ex e => _ | .ok r => _
    by_cases m : e.c ∈ ns
    · rw [if_pos m] at es ⊢
      have := hh e g' h2
      rw [es]; exact this
    · rw [if_neg m]; trivial⟩
theorem h_nil {e : Ex} (hx : Sub L Lx) : W n L Lx (handle [] e) (.ex e : T ρ) Φ := ⟨fun g q => ⟨g, rfl, q.sub hx⟩⟩
theorem h_cons {c : Str} {f : M Fl} {r : List (Str × M Fl)} {e : Ex} {t1 t2 : T ρ} (h1 : W n L Lx f t1 Φ) (h2 : W n L Lx (handle r e) t2 Φ) : W n L Lx (handle ((c, f) :: r) e) (if subE e.c c = true then tnx t1 else t2) Φ := ⟨fun g q => by
  have e1 : handle ((c, f) :: r) e g = if subE e.c c = true then noEx (f g) else handle r e g := by
    show (if subE e.c c = true then noEx (f g) else handle r e g) = _; rfl
  cases hs : subE e.c c with
  | true =>
    rw [hs, if_pos rfl] at e1
    rw [if_pos rfl]
    have := h1 g q
    cases t1 with
    | bad => trivial
    | ex z => trivial
    | ok v => obtain ⟨b, g', h3, h4⟩ := this; exact ⟨b, g', by rw [e1, h3]; rfl, h4⟩
  | false =>
    rw [hs, if_neg (by decide)] at e1
    rw [if_neg (by decide)]
    have := h2 g q
    rw [e1]; exact this⟩
/-! ### try, clauses with names -/
theorem w_tryA {ns : List Str} {x : M Fl} {hs : List (Str × Option Nat × M Fl)} {tx : T ρ} {th : Ex → T ρ} {Ly : Lay} (hb : W n L Ly x tx Φ) (hh : ∀ e, W n Ly Lx (handleA hs e) (th e) Φ) : W n L Lx (sTryA ns x hs) (tTry tx ns th) Φ := ⟨fun g q => by
  have := hb g q
  unfold tTry
  cases tx with
  | bad => trivial
  | ok v =>
    obtain ⟨b, g', h1, h2⟩ := this
    exact ⟨b, g', by unfold sTryA; rw [h1], h2⟩
  | ex e =>
    obtain ⟨g', h1, h2⟩ := this
    have es : sTryA ns x hs g = if e.c ∈ ns then handleA hs e g' else .bad := by unfold sTryA; rw [h1]
    show match (if e.c ∈ ns then th e else .bad) with | .bad => _ | .ex e => _ | .ok r => _
    by_cases m : e.c ∈ ns
    · rw [if_pos m] at es ⊢
      have := hh e g' h2
      rw [es]; exact this
    · rw [if_neg m]; trivial⟩
theorem hA_nil {e : Ex} (hx : Sub L Lx) : W n L Lx (handleA [] e) (.ex e : T ρ) Φ := ⟨fun g q => ⟨g, rfl, q.sub hx⟩⟩
theorem hA_u {c : Str} {f : M Fl} {r : List (Str × Option Nat × M Fl)} {e : Ex} {t1 t2 : T ρ} (h1 : W n L Lx f t1 Φ) (h2 : W n L Lx (handleA r e) t2 Φ) : W n L Lx (handleA ((c, none, f) :: r) e) (if subE e.c c = true then tnx t1 else t2) Φ := ⟨fun g q => by
  have e1 : handleA ((c, none, f) :: r) e g = if subE e.c c = true then noEx (f g) else handleA r e g := by
    show (if subE e.c c = true then noEx (f g) else handleA r e g) = _; rfl
  cases hs : subE e.c c with
  | true =>
    rw [hs, if_pos rfl] at e1
    rw [if_pos rfl]
    have := h1 g q
    cases t1 with
    | bad => trivial
    | ex z => trivial
    | ok v => obtain ⟨b, g', h3, h4⟩ := this; exact ⟨b, g', by rw [e1, h3]; rfl, h4⟩
  | false =>
    rw [hs, if_neg (by decide)] at e1
    rw [if_neg (by decide)]
    have := h2 g q
    rw [e1]; exact this⟩
/-- a caught error without fields of its own -/
def tExc (e : Ex) (t : T ρ) : T ρ := match e.p with
  | [] => tnx t
  | _ => .bad
theorem hA_n {c : Str} {i : Nat} {f : M Fl} {r : List (Str × Option Nat × M Fl)} {e : Ex} {t1 t2 : T ρ} (hi : Nat.blt i n = true) (h1 : W n ((i, .fz (.exc e.c)) :: L) Lx f t1 (fun r fl g => (∃ x, fl = .rt x) ∧ Φ r fl g)) (h2 : W n L Lx (handleA r e) t2 Φ) :
    W n L Lx (handleA ((c, some i, f) :: r) e) (if subE e.c c = true then tExc e t1 else t2) Φ := ⟨fun g q => by
  have e1 : handleA ((c, some i, f) :: r) e g = if subE e.c c = true then (match e.p with | [] => dropS i (noEx (f (g.set i (some (.fz (.exc e.c)))))) | _ => .bad) else handleA r e g := by
    show (if subE e.c c = true then (match e.p with | [] => dropS i (noEx (f (g.set i (some (.fz (.exc e.c)))))) | _ => .bad) else handleA r e g) = _; rfl
  cases hs : subE e.c c with
  | true =>
    rw [hs, if_pos rfl] at e1
    rw [if_pos rfl]
    unfold tExc
    cases ep : e.p with
    | cons _ _ => trivial
    | nil =>
      rw [ep] at e1
      simp only at e1 ⊢
      have := h1 _ (q.set hi (.fz (.exc e.c)))
      cases t1 with
      | bad => trivial
      | ex z => trivial
      | ok v => obtain ⟨b, g', h3, ⟨x, rfl⟩, h4⟩ := this; exact ⟨.rt x, g', by rw [e1, h3]; rfl, h4⟩
  | false =>
    rw [hs, if_neg (by decide)] at e1
    rw [if_neg (by decide)]
    have := h2 g q
    rw [e1]; exact this⟩
end
end DL

namespace DL
open PySem PySem.Spec L2

/-! # typed operations -/
abbrev S := List Nat
abbrev eI : Int → D := D.int
abbrev eBl : Bool → D := D.bl
abbrev eS : S → D := fun z => .str ⟨z.toArray⟩
abbrev eGl : Nat → D := fun c => .str ⟨#[c]⟩
abbrev eN : Unit → D := fun _ => .non
abbrev eX : List Int → D := D.scr
abbrev eD : D → D := fun d => d
abbrev eEx : Str → D := D.exc
section
variable {α β γ δ : Type}
abbrev eL (e : α → D) : List α → D := fun xs => .lst (xs.map e)
abbrev eT (e : α → D) : List α → D := fun xs => .tup (xs.map e)
abbrev eP (e : α → D) (f : β → D) : α × β → D := fun p => .tup [e p.1, f p.2]
abbrev eP1 (e : α → D) : α → D := fun p => .tup [e p]
abbrev eP3 (e : α → D) (f : β → D) (g : γ → D) : α × β × γ → D := fun p => .tup [e p.1, f p.2.1, g p.2.2]
abbrev eP4 (e : α → D) (f : β → D) (g : γ → D) (h : δ → D) : α × β × γ × δ → D := fun p => .tup [e p.1, f p.2.1, g p.2.2.1, h p.2.2.2]
def eO (e : α → D) : Option α → D := fun o => match o with
  | none => .non
  | some a => e a
/-- results -/
abbrev rF (e : α → D) : α → R := fun v => .fz (e v)
abbrev rL (e : α → D) : List α → R := fun xs => .ow (.ls (xs.map e))
abbrev oL (e : α → D) : List α → O := fun xs => .ls (xs.map e)
theorem nF (e : α → D) (v : α) : nAt (rF e v) = true := rfl
theorem nL (e : α → D) (v : List α) : nAt (rL e v) = true := rfl

/-! ### pure operations -/
variable {x y z : Int} {s t : S}
theorem strExt {a b : Str} (h : a.cps.toList = b.cps.toList) : a = b := DL.Str.ext h
theorem str_inj {a b : S} : ((⟨a.toArray⟩ : Str) = ⟨b.toArray⟩) ↔ a = b := ⟨fun h => by have := congrArg (fun s : Str => s.cps.toList) h; simpa using this, fun h => by rw [h]⟩
theorem str_beq {a b : S} : ((⟨a.toArray⟩ : Str) == ⟨b.toArray⟩) = decide (a = b) := by
  rw [Bool.eq_iff_iff, beq_iff_eq, decide_eq_true_eq]; exact str_inj
theorem str_app {a b : S} : (⟨a.toArray⟩ : Str) ++ ⟨b.toArray⟩ = ⟨(a ++ b).toArray⟩ := by
  apply strExt
  show ((⟨a.toArray⟩ : Str).cps ++ (⟨b.toArray⟩ : Str).cps).toList = _
  simp
theorem str_len {a : S} : (⟨a.toArray⟩ : Str).length = a.length := by show a.toArray.size = _; simp
theorem po_addI : bAdd (eI x) (eI y) = some (.fz (eI (x + y))) := rfl
theorem po_subI : bSub (eI x) (eI y) = some (.fz (eI (x - y))) := rfl
theorem po_negI : bNeg (eI x) = some (.fz (eI (-x))) := rfl
theorem po_mulR (h1 : -18446744073709551616 < y := by decide) (h2 : y < 18446744073709551616 := by decide) : bMul (eI x) (eI y) = some (.fz (eI (x * y))) := bn_mulR x y h1 h2
theorem po_mulL (h1 : -18446744073709551616 < x := by decide) (h2 : x < 18446744073709551616 := by decide) : bMul (eI x) (eI y) = some (.fz (eI (x * y))) := bn_mulL x y h1 h2
theorem po_mulIL (h1 : -18446744073709551616 < x := by decide) (h2 : x < 18446744073709551616 := by decide) : bMulI (eI x) (eI y) = some (.fz (eI (x * y))) := bn_mulL x y h1 h2
theorem po_mulIR (h1 : -18446744073709551616 < y := by decide) (h2 : y < 18446744073709551616 := by decide) : bMulI (eI x) (eI y) = some (.fz (eI (x * y))) := bn_mulR x y h1 h2
theorem po_fdiv (h : 0 < y ∧ y < 1073741824 := by decide) : bFdiv (eI x) (eI y) = some (.fz (eI (x / y))) := if_pos h
theorem po_mod (h : 0 < y := by decide) : bMod (eI x) (eI y) = some (.fz (eI (x % y))) := if_pos h
theorem po_pow (h : 0 ≤ y ∧ y ≤ 1000000 ∧ x.natAbs < 2 ^ 64 := by decide) : bPow (eI x) (eI y) = some (.fz (eI (x ^ y.toNat))) := if_pos h
theorem po_addS : bAddS (eI x) (eI y) = some (.fz (eI (x + y))) := rfl
theorem po_lt : cLtG (eI x) (eI y) = some (.fz (.bl (decide (x < y)))) := rfl
theorem po_le : cLe (eI x) (eI y) = some (.fz (.bl (decide (x ≤ y)))) := rfl
theorem po_gt : cGt (eI x) (eI y) = some (.fz (.bl (decide (y < x)))) := rfl
theorem po_ge : cGe (eI x) (eI y) = some (.fz (.bl (decide (y ≤ x)))) := rfl
theorem po_eqI : cEq (eI x) (eI y) = some (.fz (.bl (decide (x = y)))) := rfl
theorem po_neI : cNe (eI x) (eI y) = some (.fz (.bl (!decide (x = y)))) := rfl
theorem po_eqB {x y : Bool} : cEq (eBl x) (eBl y) = some (.fz (.bl (decide (x = y)))) := rfl
theorem po_neB {x y : Bool} : cNe (eBl x) (eBl y) = some (.fz (.bl (!decide (x = y)))) := rfl
theorem po_eqS : cEq (eS s) (eS t) = some (.fz (.bl (decide (s = t)))) := by show some (R.fz (.bl (_ == _))) = _; rw [str_beq]
theorem po_neS : cNe (eS s) (eS t) = some (.fz (.bl (!decide (s = t)))) := by show some (R.fz (.bl (!(_ == _)))) = _; rw [str_beq]
theorem po_inC {c : Nat} : cIn false (eGl c) (eS t) = some (.fz (.bl (decide (c ∈ t)))) := by
  rw [cn_ins, if_neg (by decide)]
  show some (R.fz (.bl (subS ⟨#[c]⟩ ⟨t.toArray⟩))) = _
  rw [sub_sign]
theorem po_ninC {c : Nat} : cIn true (eGl c) (eS t) = some (.fz (.bl (!decide (c ∈ t)))) := by
  rw [cn_ins, if_pos rfl]
  show some (R.fz (.bl (!subS ⟨#[c]⟩ ⟨t.toArray⟩))) = _
  rw [sub_sign]
def subL (s t : S) : Bool := subS ⟨s.toArray⟩ ⟨t.toArray⟩
theorem po_inS : cIn false (eS s) (eS t) = some (.fz (.bl (subL s t))) := by rw [cn_ins, if_neg (by decide)]; rfl
theorem po_ninS : cIn true (eS s) (eS t) = some (.fz (.bl (!subL s t))) := by rw [cn_ins, if_pos rfl]; rfl
theorem subL_one {c : Nat} : subL [c] t = decide (c ∈ t) := by
  show subS ⟨#[c]⟩ ⟨t.toArray⟩ = _
  rw [sub_sign]
theorem po_isB {x y : Bool} : cIs false (eBl x) (eBl y) = some (.fz (.bl (decide (x = y)))) := rfl
theorem po_isnB {x y : Bool} : cIs true (eBl x) (eBl y) = some (.fz (.bl (!decide (x = y)))) := rfl
/-- encoders of what is never None -/
class NonN (e : α → D) : Prop where
  h : ∀ a, isNon (e a) = false
instance : NonN eI := ⟨fun _ => rfl⟩
instance : NonN eS := ⟨fun _ => rfl⟩
instance : NonN eBl := ⟨fun _ => rfl⟩
instance (e : α → D) : NonN (eL e) := ⟨fun _ => rfl⟩
instance (e : α → D) : NonN (eT e) := ⟨fun _ => rfl⟩
instance (e : α → D) (f : β → D) : NonN (eP e f) := ⟨fun _ => rfl⟩
instance (e : α → D) (f : β → D) (g : γ → D) : NonN (eP3 e f g) := ⟨fun _ => rfl⟩
theorem cIs_non (neg : Bool) (d : D) : cIs neg d .non = some (.fz (.bl (if neg then !isNon d else isNon d))) := by cases d <;> rfl
theorem po_isO (e : α → D) [h : NonN e] {o : Option α} : cIs false (eO e o) (eN ()) = some (.fz (.bl o.isNone)) := by
  rw [cIs_non]
  cases o with
  | none => rfl
  | some a => show some (R.fz (.bl (isNon (e a)))) = _; rw [h.h]; rfl
theorem po_isnO (e : α → D) [h : NonN e] {o : Option α} : cIs true (eO e o) (eN ()) = some (.fz (.bl o.isSome)) := by
  rw [cIs_non]
  cases o with
  | none => rfl
  | some a => show some (R.fz (.bl (!isNon (e a)))) = _; rw [h.h]; rfl
theorem po_isD {d : D} : cIs false d (eN ()) = some (.fz (.bl (isNon d))) := cIs_non _ _
theorem po_isnD {d : D} : cIs true d (eN ()) = some (.fz (.bl (!isNon d))) := cIs_non _ _
theorem po_lenS : fLen [eS s] = some (.fz (eI (s.length : Int))) := by show some (R.fz (.int ((⟨s.toArray⟩ : Str).length : Nat))) = _; rw [str_len]
theorem po_lenL (e : α → D) {xs : List α} : fLen [eL e xs] = some (.fz (eI (xs.length : Int))) := by show some (R.fz (.int ((xs.map e).length : Nat))) = _; rw [List.length_map]
theorem po_lenT (e : α → D) {xs : List α} : fLen [eT e xs] = some (.fz (eI (xs.length : Int))) := by show some (R.fz (.int ((xs.map e).length : Nat))) = _; rw [List.length_map]
theorem po_lenX {xs : List Int} : fLen [eX xs] = some (.fz (eI (xs.length : Int))) := rfl
theorem po_ix2a (e : α → D) (f : β → D) {p : α × β} : ixD (eP e f p) (eI 0) = some (.fz (e p.1)) := rfl
theorem po_ix2b (e : α → D) (f : β → D) {p : α × β} : ixD (eP e f p) (eI 1) = some (.fz (f p.2)) := rfl
theorem po_ix3a (e : α → D) (f : β → D) (g : γ → D) {p : α × β × γ} : ixD (eP3 e f g p) (eI 0) = some (.fz (e p.1)) := rfl
theorem po_ix3b (e : α → D) (f : β → D) (g : γ → D) {p : α × β × γ} : ixD (eP3 e f g p) (eI 1) = some (.fz (f p.2.1)) := rfl
theorem po_ix3c (e : α → D) (f : β → D) (g : γ → D) {p : α × β × γ} : ixD (eP3 e f g p) (eI 2) = some (.fz (g p.2.2)) := rfl
theorem po_slL (e : α → D) {xs : List α} {lo hi : Option Int} : slD lo hi (eL e xs) = some (.ow (.ls ((cutL xs lo hi).map e))) := by rw [sl_lst, cutL_map]
theorem po_slT (e : α → D) {xs : List α} {lo hi : Option Int} : slD lo hi (eT e xs) = some (.fz (eT e (cutL xs lo hi))) := by rw [sl_tup, cutL_map]
theorem po_slS {lo hi : Option Int} : slD lo hi (eS s) = some (.fz (eS (cutL s lo hi))) := by
  rw [sl_str]
  have : cutS ⟨s.toArray⟩ lo hi = (⟨(cutL s lo hi).toArray⟩ : Str) := by
    apply strExt
    show _ = (cutL s lo hi).toArray.toList
    unfold cutS cutL
    simp [Array.toList_extract]
    try (first | rfl | (congr 1))
  rw [this]
theorem po_revS {s : S} : slRevG (eS s) = some (.fz (eS s.reverse)) := by show some (R.fz (D.str ⟨(List.reverse (List.toArray s).toList).toArray⟩)) = _; simp
theorem po_revL (e : α → D) {xs : List α} : slRevG (eL e xs) = some (.ow (.ls (xs.reverse.map e))) := by show some (R.ow (.ls (xs.map e).reverse)) = _; rw [List.map_reverse]
theorem po_tupL (e : α → D) {xs : List α} : fTuple [eL e xs] = some (.fz (eT e xs)) := rfl
theorem po_tupT (e : α → D) {xs : List α} : fTuple [eT e xs] = some (.fz (eT e xs)) := rfl
theorem po_lstL (e : α → D) {xs : List α} : fList [eL e xs] = some (.ow (.ls (xs.map e))) := rfl
theorem po_lstT (e : α → D) {xs : List α} : fList [eT e xs] = some (.ow (.ls (xs.map e))) := rfl
theorem po_sortI {xs : List Int} : fSort [eL eI xs] = some (.ow (.ls ((srt xs).map eI))) := by
  show (match intsOf (xs.map D.int) with | some ns => _ | none => _) = _
  rw [intsOf_map]
def sortS (xs : List S) : List S := (srtS (xs.map fun z => (⟨z.toArray⟩ : Str))).map fun z => z.cps.toList
theorem eS_cps : ∀ ys : List Str, (ys.map fun z => z.cps.toList).map eS = ys.map D.str
  | [] => rfl
  | y :: ys => by rw [List.map_cons, List.map_cons, eS_cps ys]; simp [eS]
theorem po_sortS {xs : List S} (h : xs ≠ [] := by assumption) : fSort [eL eS xs] = some (.ow (.ls ((sortS xs).map eS))) := by
  have e1 : xs.map eS = (xs.map fun z => (⟨z.toArray⟩ : Str)).map D.str := by rw [List.map_map]; rfl
  have e2 : intsOf (xs.map eS) = none := by
    cases xs with
    | nil => exact absurd rfl h
    | cons a r => rfl
  show (match intsOf (xs.map eS) with | some ns => _ | none => _) = _
  rw [e2]
  show (strsOf (xs.map eS)).map _ = _
  rw [e1, strsOf_map, Option.map_some]
  unfold sortS
  rw [eS_cps]
@[irreducible] def tSortD (xs : List D) : T (List D) := match fSort [.lst xs] with
  | some (.ow (.ls ys)) => .ok ys
  | _ => .bad
theorem ot_sortD {xs : List D} : OpT (fSort [eL eD xs]) (tSortD xs) (rL eD) := by
  have e : eL eD xs = .lst xs := by show D.lst (xs.map id) = _; rw [List.map_id]
  unfold tSortD
  rw [e]
  split
  · rename_i ys h; exact ⟨by rw [h]; show _ = some (R.ow (.ls (ys.map id))); rw [List.map_id], rfl⟩
  · trivial
theorem po_sumI {xs : List Int} : fSum [eL eI xs] = some (.fz (eI xs.sum)) := by rw [fn_sum, intsOf_map]; rfl
theorem po_all {xs : List Bool} : fAll [eL eBl xs] = some (.fz (.bl (xs.all id))) := by rw [fn_all, bolsOf_map]; rfl
theorem po_any {xs : List Bool} : fAny [eL eBl xs] = some (.fz (.bl (xs.any id))) := by rw [fn_any, bolsOf_map]; rfl
theorem po_intI : fInt [eI x] = some (.fz (eI x)) := rfl
theorem po_strS : fStr [eS s] = some (.fz (eS s)) := rfl
theorem po_abs : fAbs [eI x] = some (.fz (eI (if x < 0 then -x else x))) := rfl
theorem po_max2 : fMax2 [eI x, eI y] = some (.fz (eI (if y > x then y else x))) := rfl
theorem po_min2 : fMin2 [eI x, eI y] = some (.fz (eI (if y < x then y else x))) := rfl
theorem po_truB {b : Bool} : truD (eBl b) = some b := rfl
theorem po_truI : truD (eI x) = some (!decide (x = 0)) := rfl
theorem po_truS : truD (eS s) = some (!s.isEmpty) := by
  show some ((((⟨s.toArray⟩ : Str).length : Nat) : Int) != 0) = _
  rw [str_len]
  cases s with
  | nil => rfl
  | cons a r => simp [bne]; omega
theorem po_truL (e : α → D) {xs : List α} : truD (eL e xs) = some (!xs.isEmpty) := by show some (!(xs.map e).isEmpty) = _; simp
theorem po_truT (e : α → D) {xs : List α} : truD (eT e xs) = some (!xs.isEmpty) := by show some (!(xs.map e).isEmpty) = _; simp
/-- items -/
theorem it_L (e : α → D) {xs : List α} : itemsD (eL e xs) = some (xs.map e) := rfl
theorem it_T (e : α → D) {xs : List α} : itemsD (eT e xs) = some (xs.map e) := rfl
theorem it_S : itemsD (eS s) = some (s.map eGl) := by
  rw [it_str]
  show some ((⟨s.toArray⟩ : Str).cps.toList.map _) = _
  simp
theorem it_X {xs : List Int} : itemsD (eX xs) = some (xs.map eI) := rfl
theorem it_P (e : α → D) {p : α × α} : itemsD (eP e e p) = some ([p.1, p.2].map e) := rfl
theorem it_P3 (e : α → D) {p : α × α × α} : itemsD (eP3 e e e p) = some ([p.1, p.2.1, p.2.2].map e) := rfl

/-! ### partial operations -/
@[irreducible] def tIdx {α : Type} (xs : List α) (i : Int) : T α := match atI xs i with
  | some a => .ok a
  | none => .bad
theorem ot_ixL (e : α → D) {xs : List α} : OpT (ixD (eL e xs) (eI x)) (tIdx xs x) (rF e) := by
  unfold tIdx
  show match (match atI xs x with | some a => T.ok a | none => .bad : T α) with | .bad => _ | .ok v => _ | .ex _ => _
  cases h : atI xs x with
  | none => trivial
  | some a => exact ⟨by rw [ix_lst, atI_map, h]; rfl, rfl⟩
theorem ot_ixT (e : α → D) {xs : List α} : OpT (ixD (eT e xs) (eI x)) (tIdx xs x) (rF e) := by
  unfold tIdx
  show match (match atI xs x with | some a => T.ok a | none => .bad : T α) with | .bad => _ | .ok v => _ | .ex _ => _
  cases h : atI xs x with
  | none => trivial
  | some a => exact ⟨by rw [ix_tup, atI_map, h]; rfl, rfl⟩
theorem ot_ixS : OpT (ixD (eS s) (eI x)) (tIdx s x) (rF eGl) := by
  unfold tIdx
  cases h : atI s x with
  | none => trivial
  | some a =>
    refine ⟨?_, rfl⟩
    rw [ix_str]
    have : (⟨s.toArray⟩ : Str).cps.toList = s := by simp
    rw [this, h]; rfl
theorem ot_ixX {xs : List Int} : OpT (ixD (eX xs) (eI x)) (tIdx xs x) (rF eI) := by
  unfold tIdx
  cases h : atI xs x with
  | none => trivial
  | some a => exact ⟨by rw [ix_scr, h]; rfl, rfl⟩
@[irreducible] def tCat {α : Type} (xs ys : List α) : T (List α) := if xs.length + ys.length ≤ 16777216 then .ok (xs ++ ys) else .bad
theorem ot_catL (e : α → D) {xs ys : List α} : OpT (bAdd (eL e xs) (eL e ys)) (tCat xs ys) (rL e) := by
  unfold tCat
  by_cases h : xs.length + ys.length ≤ 16777216
  · rw [if_pos h]; exact ⟨by rw [bn_addl, if_pos (by rw [List.length_map, List.length_map]; exact h)]; simp, rfl⟩
  · rw [if_neg h]; trivial
theorem ot_catT (e : α → D) {xs ys : List α} : OpT (bAdd (eT e xs) (eT e ys)) (tCat xs ys) (rF (eT e)) := by
  unfold tCat
  by_cases h : xs.length + ys.length ≤ 16777216
  · rw [if_pos h]; exact ⟨by rw [bn_addt, if_pos (by rw [List.length_map, List.length_map]; exact h)]; simp, rfl⟩
  · rw [if_neg h]; trivial
theorem ot_catS : OpT (bAdd (eS s) (eS t)) (tCat s t) (rF eS) := by
  unfold tCat
  by_cases h : s.length + t.length ≤ 16777216
  · rw [if_pos h]; exact ⟨by rw [bn_adds, if_pos (by rw [str_len, str_len]; exact h), str_app], rfl⟩
  · rw [if_neg h]; trivial
theorem ot_catSA : OpT (bAddS (eS s) (eS t)) (tCat s t) (rF eS) := by
  unfold tCat
  by_cases h : s.length + t.length ≤ 16777216
  · rw [if_pos h]; exact ⟨by show (if _ then _ else _) = _; rw [if_pos (by rw [str_len, str_len]; exact h), str_app], rfl⟩
  · rw [if_neg h]; trivial
@[irreducible] def tMulI (x y : Int) : T Int := if (-18446744073709551616 < x ∧ x < 18446744073709551616) ∨ (-18446744073709551616 < y ∧ y < 18446744073709551616) then .ok (x * y) else .bad
theorem ot_mulI : OpT (bMul (eI x) (eI y)) (tMulI x y) (rF eI) := by
  unfold tMulI
  by_cases h : (-18446744073709551616 < x ∧ x < 18446744073709551616) ∨ (-18446744073709551616 < y ∧ y < 18446744073709551616)
  · rw [if_pos h]; exact ⟨by rw [bn_mul, two64, if_pos h], rfl⟩
  · rw [if_neg h]; trivial
theorem ot_mulIA : OpT (bMulI (eI x) (eI y)) (tMulI x y) (rF eI) := ot_mulI
@[irreducible] def tFdiv (x y : Int) : T Int := if 0 < y ∧ y < 1073741824 then .ok (x / y) else .bad
theorem ot_fdiv : OpT (bFdiv (eI x) (eI y)) (tFdiv x y) (rF eI) := by
  unfold tFdiv
  by_cases h : 0 < y ∧ y < 1073741824
  · rw [if_pos h]; exact ⟨if_pos h, rfl⟩
  · rw [if_neg h]; trivial
@[irreducible] def tMod (x y : Int) : T Int := if 0 < y then .ok (x % y) else .bad
theorem ot_mod : OpT (bMod (eI x) (eI y)) (tMod x y) (rF eI) := by
  unfold tMod
  by_cases h : 0 < y
  · rw [if_pos h]; exact ⟨if_pos h, rfl⟩
  · rw [if_neg h]; trivial
@[irreducible] def tPow (x y : Int) : T Int := if 0 ≤ y ∧ y ≤ 1000000 ∧ x.natAbs < 2 ^ 64 then .ok (x ^ y.toNat) else .bad
theorem ot_pow : OpT (bPow (eI x) (eI y)) (tPow x y) (rF eI) := by
  unfold tPow
  by_cases h : 0 ≤ y ∧ y ≤ 1000000 ∧ x.natAbs < 2 ^ 64
  · rw [if_pos h]; exact ⟨if_pos h, rfl⟩
  · rw [if_neg h]; trivial
def repL {α : Type} (xs : List α) (k : Int) : List α := (List.replicate k.toNat xs).flatten
@[irreducible] def tRepT {α : Type} (xs : List α) (k : Int) : T (List α) := if xs ≠ [] ∧ 2 ≤ k ∧ k ≤ 1000 ∧ xs.length ≤ 1000 then .ok (repL xs k) else .bad
open Classical in
theorem ot_repT (e : α → D) {xs : List α} : OpT (bMul (eT e xs) (eI x)) (tRepT xs x) (rF (eT e)) := by
  unfold tRepT
  by_cases h : xs ≠ [] ∧ 2 ≤ x ∧ x ≤ 1000 ∧ xs.length ≤ 1000
  · rw [if_pos h]
    refine ⟨?_, rfl⟩
    show (if _ then _ else _) = _
    have hm : xs.length * x.toNat ≤ 1000 * 1000 := Nat.mul_le_mul h.2.2.2 (by omega)
    rw [if_pos ⟨by intro z; exact h.1 (List.map_eq_nil_iff.mp z), h.2.1, h.2.2.1, by rw [List.length_map]; exact h.2.2.2, by rw [List.length_map]; exact Nat.le_trans hm (by decide)⟩]
    unfold repL
    simp [List.map_flatten, List.map_replicate]
  · rw [if_neg h]; trivial
@[irreducible] def tRepS (s : S) (k : Int) : T S := if -9223372036854775808 ≤ k ∧ k < 9223372036854775808 ∧ s.length * k.toNat ≤ 16777216 then .ok (repL s k) else .bad
theorem ot_repS : OpT (bMul (eS s) (eI x)) (tRepS s x) (rF eS) := by
  unfold tRepS
  by_cases h : -9223372036854775808 ≤ x ∧ x < 9223372036854775808 ∧ s.length * x.toNat ≤ 16777216
  · rw [if_pos h]
    refine ⟨?_, rfl⟩
    show (if _ then _ else _) = _
    rw [if_pos ⟨by have := h.1; omega, by have := h.2.1; omega, by rw [str_len]; exact h.2.2⟩]
    rfl
  · rw [if_neg h]; trivial
@[irreducible] def tRepL {α : Type} (xs : List α) (k : Int) : T (List α) := if -9223372036854775808 ≤ k ∧ k < 9223372036854775808 ∧ xs.length * k.toNat ≤ 16777216 then .ok (repL xs k) else .bad
theorem ot_repL (e : α → D) {xs : List α} : OpT (bMul (eL e xs) (eI x)) (tRepL xs x) (rL e) := by
  unfold tRepL
  by_cases h : -9223372036854775808 ≤ x ∧ x < 9223372036854775808 ∧ xs.length * x.toNat ≤ 16777216
  · rw [if_pos h]
    refine ⟨?_, rfl⟩
    show (if _ then _ else _) = _
    rw [if_pos ⟨by have := h.1; omega, by have := h.2.1; omega, by rw [List.length_map]; exact h.2.2⟩]
    unfold repL
    simp [List.map_flatten, List.map_replicate]
  · rw [if_neg h]; trivial
@[irreducible] def tIntS (s : S) : T Int := if s.length ≤ 640 then (match PySem.intText? ⟨s.toArray⟩ with | some n => .ok n | none => .bad) else .bad
theorem ot_intS : OpT (fInt [eS s]) (tIntS s) (rF eI) := by
  unfold tIntS
  by_cases h : s.length ≤ 640
  · rw [if_pos h]
    cases e : PySem.intText? ⟨s.toArray⟩ with
    | none => trivial
    | some n =>
      refine ⟨?_, rfl⟩
      show (if _ then _ else _) = _
      rw [if_pos (by rw [str_len]; exact h), e]; rfl
  · rw [if_neg h]; trivial
@[irreducible] def tStrI (x : Int) : T S := if x.natAbs.log2 < 1920 ∧ (toString x : Str).length ≤ 16777216 then .ok (toString x : Str).cps.toList else .bad
@[irreducible] def tJoin (sep : S) (xs : List S) : T S := if (xs.map (·.length)).sum + xs.length * sep.length ≤ 16777216 then .ok (Txt.join ⟨sep.toArray⟩ (xs.map fun z => (⟨z.toArray⟩ : Str))).cps.toList else .bad
theorem eS_back {z : Str} : eS z.cps.toList = .str z := by
  show D.str ⟨z.cps.toList.toArray⟩ = _
  cases z; simp
theorem ot_strI : OpT (fStr [eI x]) (tStrI x) (rF eS) := by
  unfold tStrI
  by_cases h : x.natAbs.log2 < 1920 ∧ (toString x : Str).length ≤ 16777216
  · rw [if_pos h]; exact ⟨by rw [fn_str h], rfl⟩
  · rw [if_neg h]; trivial
theorem isi_opt {α : Type} (e : α → D) {T : String} {o : Option α} {b0 b1 : Bool} (h0 : bIsi T .non = some (.fz (.bl b0))) (h1 : ∀ a, bIsi T (e a) = some (.fz (.bl b1))) : bIsi T (eO e o) = some (.fz (.bl (if o.isSome = true then b1 else b0))) := by
  cases o with
  | none => exact h0
  | some a => exact h1 a
theorem strsOf_map' : ∀ xs : List Str, strsOf (xs.map D.str) = some xs
  | [] => rfl
  | x :: xs => by show (strsOf (xs.map D.str)).map (x :: ·) = _; rw [strsOf_map' xs]; rfl
theorem ot_joinL {xs : List S} : OpT (mJoin (eS s) [eL eS xs]) (tJoin s xs) (rF eS) := by
  unfold tJoin
  by_cases h : (xs.map (·.length)).sum + xs.length * s.length ≤ 16777216
  · rw [if_pos h]
    refine ⟨?_, rfl⟩
    have e1 : xs.map eS = (xs.map fun z => (⟨z.toArray⟩ : Str)).map D.str := by rw [List.map_map]; rfl
    show mJoin (.str ⟨s.toArray⟩) [.lst (xs.map eS)] = _
    rw [e1]
    show (strsOf _).bind _ = _
    rw [strsOf_map', Option.bind_some]
    have hc : ((xs.map fun z => (⟨z.toArray⟩ : Str)).map (·.length)).sum + (xs.map fun z => (⟨z.toArray⟩ : Str)).length * (⟨s.toArray⟩ : Str).length ≤ 16777216 := by
      rw [List.map_map, List.length_map, str_len]
      have : ((fun x : Str => x.length) ∘ fun z : S => (⟨z.toArray⟩ : Str)) = fun x : S => x.length := by funext z; exact str_len
      rw [this]; exact h
    rw [if_pos hc]
  · rw [if_neg h]; trivial
theorem ot_joinT {xs : List S} : OpT (mJoin (eS s) [eT eS xs]) (tJoin s xs) (rF eS) := ot_joinL
theorem eCh_S (xs : List Nat) : xs.map eGl = (xs.map fun c => [c]).map eS := by rw [List.map_map]; rfl
theorem ot_joinCL {xs : List Nat} : OpT (mJoin (eS s) [eL eGl xs]) (tJoin s (xs.map fun c => [c])) (rF eS) := by
  have e : eL eGl xs = eL eS (xs.map fun c => [c]) := by show D.lst _ = D.lst _; rw [eCh_S]
  rw [e]; exact ot_joinL
theorem ot_joinCT {xs : List Nat} : OpT (mJoin (eS s) [eT eGl xs]) (tJoin s (xs.map fun c => [c])) (rF eS) := ot_joinCL
@[irreducible] def tRepr (d : D) : T S := if okRepr d = true then .ok d.py.shown.cps.toList else .bad
theorem ot_repr {d : D} : OpT (fRepr [d]) (tRepr d) (rF eS) := by
  unfold tRepr
  by_cases h : okRepr d = true
  · rw [if_pos h]; exact ⟨by rw [fn_repr, if_pos h], rfl⟩
  · rw [if_neg h]; trivial
/-! equality of data -/
class EqE [DecidableEq α] (e : α → D) : Prop where
  flat : ∀ a, (e a).flat = true
  eqv : ∀ a b, PyData.eqv (e a).py (e b).py = decide (a = b)
@[irreducible] def tEqE [DecidableEq α] (e : α → D) (a b : α) : T Bool := if okEq (e a) (e b) = true then .ok (decide (a = b)) else .bad
@[irreducible] def tNeE [DecidableEq α] (e : α → D) (a b : α) : T Bool := if okEq (e a) (e b) = true then .ok (!decide (a = b)) else .bad
theorem cEq_eqv {a b : D} (h : okEq a b = true) : cEq a b = some (.fz (.bl (PyData.eqv a.py b.py))) := by
  unfold cEq; split <;> first | rfl | rw [if_pos h]
theorem cNe_eqv {a b : D} (h : okEq a b = true) : cNe a b = some (.fz (.bl (!PyData.eqv a.py b.py))) := by
  unfold cNe; split <;> first | rfl | rw [if_pos h]
theorem ot_eqE [DecidableEq α] (e : α → D) [q : EqE e] {a b : α} : OpT (cEq (e a) (e b)) (tEqE e a b) (rF eBl) := by
  unfold tEqE
  by_cases h : okEq (e a) (e b) = true
  · rw [if_pos h]; exact ⟨by rw [cEq_eqv h, q.eqv], rfl⟩
  · rw [if_neg h]; trivial
theorem ot_neE [DecidableEq α] (e : α → D) [q : EqE e] {a b : α} : OpT (cNe (e a) (e b)) (tNeE e a b) (rF eBl) := by
  unfold tNeE
  by_cases h : okEq (e a) (e b) = true
  · rw [if_pos h]; exact ⟨by rw [cNe_eqv h, q.eqv], rfl⟩
  · rw [if_neg h]; trivial
/-- .. of any data -/
@[irreducible] def tEqD (a b : D) : T Bool := if okEq a b = true then .ok (PyData.eqv a.py b.py) else .bad
@[irreducible] def tNeD (a b : D) : T Bool := if okEq a b = true then .ok (!PyData.eqv a.py b.py) else .bad
theorem ot_eqD {a b : D} : OpT (cEq a b) (tEqD a b) (rF eBl) := by
  unfold tEqD
  by_cases h : okEq a b = true
  · rw [if_pos h]; exact ⟨by rw [cEq_eqv h], rfl⟩
  · rw [if_neg h]; trivial
theorem ot_neD {a b : D} : OpT (cNe a b) (tNeD a b) (rF eBl) := by
  unfold tNeD
  by_cases h : okEq a b = true
  · rw [if_pos h]; exact ⟨by rw [cNe_eqv h], rfl⟩
  · rw [if_neg h]; trivial
instance : EqE eI := ⟨fun _ => rfl, fun _ _ => rfl⟩
instance : EqE eBl := ⟨fun _ => rfl, fun a b => by cases a <;> cases b <;> rfl⟩
instance : EqE eS := ⟨fun _ => rfl, fun a b => str_beq⟩
theorem eqvAll_map [DecidableEq α] (e : α → D) [q : EqE e] : ∀ xs ys : List α, PyData.eqvAll (pyL (xs.map e)) (pyL (ys.map e)) = decide (xs = ys)
  | [], [] => rfl
  | [], y :: ys => rfl
  | x :: xs, [] => rfl
  | x :: xs, y :: ys => by
    show (PyData.eqv (e x).py (e y).py && PyData.eqvAll (pyL (xs.map e)) (pyL (ys.map e))) = _
    rw [q.eqv, eqvAll_map e xs ys, Bool.eq_iff_iff, Bool.and_eq_true, decide_eq_true_eq, decide_eq_true_eq, decide_eq_true_eq, List.cons.injEq]
theorem flat_map [DecidableEq α] (e : α → D) [q : EqE e] : ∀ xs : List α, flatL (xs.map e) = true
  | [] => rfl
  | x :: xs => by show ((e x).flat && flatL (xs.map e)) = true; rw [q.flat, flat_map e xs]; rfl
instance [DecidableEq α] (e : α → D) [q : EqE e] : EqE (eL e) := ⟨fun a => flat_map e a, fun a b => eqvAll_map e a b⟩
instance [DecidableEq α] (e : α → D) [q : EqE e] : EqE (eT e) := ⟨fun a => flat_map e a, fun a b => eqvAll_map e a b⟩
instance [DecidableEq α] [DecidableEq β] (e : α → D) (f : β → D) [q : EqE e] [r : EqE f] : EqE (eP e f) :=
  ⟨fun a => by show ((e a.1).flat && ((f a.2).flat && true)) = true; rw [q.flat, r.flat]; rfl,
   fun a b => by
    show (PyData.eqv (e a.1).py (e b.1).py && (PyData.eqv (f a.2).py (f b.2).py && true)) = _
    rw [q.eqv, r.eqv, Bool.and_true, Bool.eq_iff_iff, Bool.and_eq_true, decide_eq_true_eq, decide_eq_true_eq, decide_eq_true_eq, Prod.ext_iff]⟩
instance [DecidableEq α] [DecidableEq β] [DecidableEq γ] (e : α → D) (f : β → D) (g : γ → D) [q : EqE e] [r : EqE f] [s : EqE g] : EqE (eP3 e f g) :=
  ⟨fun a => by show ((e a.1).flat && ((f a.2.1).flat && ((g a.2.2).flat && true))) = true; rw [q.flat, r.flat, s.flat]; rfl,
   fun a b => by
    show (PyData.eqv (e a.1).py (e b.1).py && (PyData.eqv (f a.2.1).py (f b.2.1).py && (PyData.eqv (g a.2.2).py (g b.2.2).py && true))) = _
    rw [q.eqv, r.eqv, s.eqv, Bool.and_true, Bool.eq_iff_iff, Bool.and_eq_true, Bool.and_eq_true, decide_eq_true_eq, decide_eq_true_eq, decide_eq_true_eq, decide_eq_true_eq, Prod.ext_iff, Prod.ext_iff]⟩
/-! members -/
theorem inV_dec [DecidableEq α] (e : α → D) (hi : ∀ a b : α, eqV (toV (e a)) (toV (e b)) = decide (a = b)) (x : α) (xs : List α) : memD (e x) (xs.map e) = decide (x ∈ xs) := by
  unfold memD inV
  rw [List.map_map, List.any_map]
  rw [Bool.eq_iff_iff, List.any_eq_true, decide_eq_true_eq]
  constructor
  · rintro ⟨a, ha, h⟩
    have : eqV (toV (e a)) (toV (e x)) = true := h
    rw [hi, decide_eq_true_eq] at this
    rw [← this]; exact ha
  · intro h
    exact ⟨x, h, by show eqV (toV (e x)) (toV (e x)) = true; rw [hi]; exact decide_eq_true rfl⟩
theorem memI {x : Int} {xs : List Int} : memD (eI x) (xs.map eI) = decide (x ∈ xs) := inV_dec eI (fun a b => rfl) x xs
theorem memS {x : S} {xs : List S} : memD (eS x) (xs.map eS) = decide (x ∈ xs) := by rw [inV_dec eS (fun a b => str_beq) x xs]; exact decide_eq_decide.mpr Iff.rfl
theorem flat_allI (xs : List Int) : (xs.map eI).all flatI = true := by rw [List.all_map]; exact List.all_eq_true.mpr fun _ _ => rfl
theorem flat_allS (xs : List S) : (xs.map eS).all flatI = true := by rw [List.all_map]; exact List.all_eq_true.mpr fun _ _ => rfl
theorem po_memIL {x : Int} {xs : List Int} : cIn false (eI x) (eL eI xs) = some (.fz (.bl (decide (x ∈ xs)))) := by
  show (if _ then _ else _) = _
  rw [flat_allI, memI]; rfl
theorem po_memIT {x : Int} {xs : List Int} : cIn false (eI x) (eT eI xs) = some (.fz (.bl (decide (x ∈ xs)))) := po_memIL
theorem po_nmemIL {x : Int} {xs : List Int} : cIn true (eI x) (eL eI xs) = some (.fz (.bl (!decide (x ∈ xs)))) := by
  show (if _ then _ else _) = _
  rw [flat_allI, memI]; rfl
theorem po_nmemIT {x : Int} {xs : List Int} : cIn true (eI x) (eT eI xs) = some (.fz (.bl (!decide (x ∈ xs)))) := po_nmemIL
theorem po_memSL {x : S} {xs : List S} : cIn false (eS x) (eL eS xs) = some (.fz (.bl (decide (x ∈ xs)))) := by
  show (if _ then _ else _) = _
  rw [flat_allS, memS]; rfl
theorem po_memST {x : S} {xs : List S} : cIn false (eS x) (eT eS xs) = some (.fz (.bl (decide (x ∈ xs)))) := po_memSL
theorem po_nmemSL {x : S} {xs : List S} : cIn true (eS x) (eL eS xs) = some (.fz (.bl (!decide (x ∈ xs)))) := by
  show (if _ then _ else _) = _
  rw [flat_allS, memS]; rfl
theorem po_nmemST {x : S} {xs : List S} : cIn true (eS x) (eT eS xs) = some (.fz (.bl (!decide (x ∈ xs)))) := po_nmemSL
/-! changes of lists -/
@[irreducible] def tApd (xs : List α) (x : α) : T (List α) := if xs.length < 16777216 then .ok (xs ++ [x]) else .bad
theorem om_apd (e : α → D) {xs : List α} {x : α} : OpMu (uAppend (oL e xs) [e x]) (tApd xs x) (oL e) (fun _ => .non) := by
  unfold tApd
  by_cases h : xs.length < 16777216
  · rw [if_pos h]
    show (if _ then _ else _) = _
    rw [if_pos (by rw [List.length_map]; exact h)]; simp
  · rw [if_neg h]; trivial
theorem om_ext (e : α → D) {xs ys : List α} : OpMu (uExtend (oL e xs) [eL e ys]) (tCat xs ys) (oL e) (fun _ => .non) := by
  unfold tCat
  by_cases h : xs.length + ys.length ≤ 16777216
  · rw [if_pos h]
    show (if _ then _ else _) = _
    rw [if_pos (by rw [List.length_map, List.length_map]; exact h)]; simp
  · rw [if_neg h]; trivial
@[irreducible] def tPop (xs : List α) : T (List α × α) := match xs.getLast? with
  | some d => .ok (xs.dropLast, d)
  | none => .bad
theorem om_pop (e : α → D) {xs : List α} : OpMu (uPop (oL e xs) []) (tPop xs) (fun v => oL e v.1) (fun v => e v.2) := by
  unfold tPop
  cases h : xs.getLast? with
  | none => trivial
  | some d =>
    show ((xs.map e).getLast?.map _) = _
    rw [List.getLast?_map, h]; simp
theorem om_rev (e : α → D) {xs : List α} : OpMu (uReverse (oL e xs) []) (.ok xs.reverse) (oL e) (fun _ => .non) := by
  show some (O.ls (xs.map e).reverse, D.non) = some (O.ls (xs.reverse.map e), D.non)
  rw [List.map_reverse]
@[irreducible] def tSet (xs : List α) (k : Int) (x : α) : T (List α) := match ixN xs.length k with
  | some j => .ok (xs.set j x)
  | none => .bad
theorem os_set (e : α → D) {xs : List α} {k : Int} {x : α} : OpS (stL (oL e xs) (eI k) (e x)) (tSet xs k x) (oL e) := by
  unfold tSet
  cases h : ixN xs.length k with
  | none => trivial
  | some j =>
    show (ixN (xs.map e).length k).map _ = _
    rw [List.length_map, h, Option.map_some]; simp
/-! ranges -/
def rngL (a b : Int) : List Int := (List.range (b - a).toNat).map fun (i : Nat) => a + (i : Int)
@[irreducible] def tRng (a b : Int) : T (List Int) := if -4611686018427387904 ≤ a ∧ a < 4611686018427387904 ∧ -4611686018427387904 ≤ b ∧ b < 4611686018427387904 then .ok (rngL a b) else .bad
theorem rngI_L (a b : Int) : rngI a (b - a).toNat = (rngL a b).map eI := by unfold rngI rngL; rw [List.map_map]; rfl
theorem w_rng1 {n : Nat} {L Lx : Lay} {ρ β : Type} {x : Int} {j : List D → M β} {tk : List Int → T ρ} {Φ : ρ → β → G → Prop} (r : ∀ v : List Int, W n L Lx (j (v.map eI)) (tk v) Φ) : W n L Lx (mb (toRng1 [.fz (eI x)]) j) (tb (tRng 0 x) tk) Φ := by
  unfold tRng
  by_cases h : -4611686018427387904 ≤ (0 : Int) ∧ (0 : Int) < 4611686018427387904 ∧ -4611686018427387904 ≤ x ∧ x < 4611686018427387904
  · rw [if_pos h]
    refine w_p (a := (rngL 0 x).map eI) (fun g q => ?_) (r _)
    show (if _ then _ else _ : Rs (List D)) = _
    rw [if_pos (by omega), ← rngI_L, Int.sub_zero]
  · rw [if_neg h]; exact w_bad
theorem w_rng2 {n : Nat} {L Lx : Lay} {ρ β : Type} {x y : Int} {j : List D → M β} {tk : List Int → T ρ} {Φ : ρ → β → G → Prop} (r : ∀ v : List Int, W n L Lx (j (v.map eI)) (tk v) Φ) : W n L Lx (mb (toRng2 [.fz (eI x), .fz (eI y)]) j) (tb (tRng x y) tk) Φ := by
  unfold tRng
  by_cases h : -4611686018427387904 ≤ x ∧ x < 4611686018427387904 ∧ -4611686018427387904 ≤ y ∧ y < 4611686018427387904
  · rw [if_pos h]
    refine w_p (a := (rngL x y).map eI) (fun g q => ?_) (r _)
    show (if _ then _ else _ : Rs (List D)) = _
    rw [if_pos (by omega), ← rngI_L]
  · rw [if_neg h]; exact w_bad
/-- list(range(a, b)) -/
@[irreducible] def tLrg (a b : Int) : T (List Int) := if okRg a b then .ok (rngL a b) else .bad
theorem lrng_L (a b : Int) : lrng a b = (rngL a b).map eI := by unfold lrng rngL; rw [List.map_map]; rfl
theorem ot_lrg1 {x : Int} : OpT (bLrg1 (eI x)) (tLrg 0 x) (rL eI) := by
  unfold tLrg
  by_cases h : okRg 0 x
  · rw [if_pos h]; exact ⟨by show (if _ then _ else _) = _; rw [if_pos h, lrng_L], rfl⟩
  · rw [if_neg h]; trivial
theorem ot_lrg2 {x y : Int} : OpT (bLrg2 (eI x) (eI y)) (tLrg x y) (rL eI) := by
  unfold tLrg
  by_cases h : okRg x y
  · rw [if_pos h]; exact ⟨by show (if _ then _ else _) = _; rw [if_pos h, lrng_L], rfl⟩
  · rw [if_neg h]; trivial
/-- isinstance of a caught error -/
@[irreducible] def tIsE (ns : List Str) (h c : Str) : T Bool := if c ∈ ns then .ok (subE c h) else .bad
theorem ot_isE {ns : List Str} {h c : Str} : OpT (bIsE ns h (eEx c)) (tIsE ns h c) (rF eBl) := by
  unfold tIsE
  by_cases m : c ∈ ns
  · rw [if_pos m]; exact ⟨if_pos m, rfl⟩
  · rw [if_neg m]; trivial
/-- isinstance of anything -/
@[irreducible] def tIsD (t : String) (d : D) : T Bool := match (kindT d).bind fun k => kitB k t with
  | some b => .ok b
  | none => .bad
theorem ot_isD {t : String} {d : D} : OpT (bIsi t (eD d)) (tIsD t d) (rF eBl) := by
  unfold tIsD bIsi
  show OpT ((kindT d).bind fun k => (kitB k t).map fun b => .fz (.bl b)) _ _
  cases kindT d with
  | none => trivial
  | some k =>
    simp only [Option.bind_some]
    cases kitB k t with
    | none => trivial
    | some b => exact ⟨rfl, rfl⟩
/-- len of anything -/
@[irreducible] def tLenD (d : D) : T Int := match d with
  | .str s => .ok s.length
  | .tup xs => .ok xs.length
  | .lst xs => .ok xs.length
  | _ => .bad
theorem ot_lenD {d : D} : OpT (fLen [eD d]) (tLenD d) (rF eI) := by
  unfold tLenD
  show OpT (fLen [d]) _ _
  cases d <;> first | trivial | exact ⟨rfl, rfl⟩
/-- a < b of data -/
@[irreducible] def tLtD (a b : D) : T Bool := if okLt a b = true then .ok (PySem.W.dataLt a.py b.py) else .bad
theorem ot_ltD {a b : D} (h : cLt a b = none := by rfl) : OpT (cLtG a b) (tLtD a b) (rF eBl) := by
  unfold tLtD cLtG cLtD
  rw [h]
  by_cases m : okLt a b = true
  · rw [if_pos m, if_pos m]; exact ⟨rfl, rfl⟩
  · rw [if_neg m, if_neg m]; trivial
/-- s.index(t) -/
@[irreducible] def tSIdx (s t : S) : T Int := match Builtin.Str.occurrences ⟨s.toArray⟩ ⟨t.toArray⟩ 0 (⟨s.toArray⟩ : Str).length 1 with
  | i :: _ => .ok (i : Nat)
  | [] => .bad
theorem ot_sidx {s t : S} : OpT (mIndex (eS s) [eS t]) (tSIdx s t) (rF eI) := by
  unfold tSIdx mIndex
  simp only
  cases Builtin.Str.occurrences ⟨s.toArray⟩ ⟨t.toArray⟩ 0 (⟨s.toArray⟩ : Str).length 1 with
  | nil => trivial
  | cons i r => exact ⟨rfl, rfl⟩
theorem ot_trg1 {x : Int} : OpT (bTrg1 (eI x)) (tLrg 0 x) (rF (eT eI)) := by
  unfold tLrg
  by_cases h : okRg 0 x
  · rw [if_pos h]; exact ⟨by show (if _ then _ else _) = _; rw [if_pos h, lrng_L], rfl⟩
  · rw [if_neg h]; trivial
theorem ot_trg2 {x y : Int} : OpT (bTrg2 (eI x) (eI y)) (tLrg x y) (rF (eT eI)) := by
  unfold tLrg
  by_cases h : okRg x y
  · rw [if_pos h]; exact ⟨by show (if _ then _ else _) = _; rw [if_pos h, lrng_L], rfl⟩
  · rw [if_neg h]; trivial
/-- s.lower() -/
@[irreducible] def tLow (s : S) : T S := if (⟨s.toArray⟩ : Str).length ≤ 5592405 ∧ (Txt.lower ⟨s.toArray⟩).length ≤ sizeLine then .ok (Txt.lower ⟨s.toArray⟩).cps.toList else .bad
theorem ot_low {s : S} : OpT (mLower (eS s) []) (tLow s) (rF eS) := by
  unfold tLow mLower
  by_cases h : (⟨s.toArray⟩ : Str).length ≤ 5592405 ∧ (Txt.lower ⟨s.toArray⟩).length ≤ sizeLine
  · rw [if_pos h]
    refine ⟨?_, rfl⟩
    show (if _ then _ else _) = _
    rw [if_pos h]
  · rw [if_neg h]; trivial
theorem po_intB {b : Bool} : fInt [eBl b] = some (.fz (eI (if b = true then 1 else 0))) := rfl
theorem eraseIdx_mp {β : Type} (f : α → β) : ∀ (xs : List α) (k : Nat), (xs.map f).eraseIdx k = (xs.eraseIdx k).map f
  | [], k => by simp
  | x :: xs, 0 => rfl
  | x :: xs, k + 1 => by simp [eraseIdx_mp f xs k]
/-- xs.pop(i) -/
@[irreducible] def tPopAt (xs : List α) (i : Int) : T (List α × α) := if -9223372036854775808 ≤ i ∧ i < 9223372036854775808 then (match ixN xs.length i with
  | some k => match xs[k]? with
    | some d => .ok (xs.eraseIdx k, d)
    | none => .bad
  | none => .bad) else .bad
theorem om_popAt (e : α → D) {xs : List α} {i : Int} : OpMu (uPopAt (oL e xs) [eI i]) (tPopAt xs i) (fun v => oL e v.1) (fun v => e v.2) := by
  unfold tPopAt
  by_cases h : -9223372036854775808 ≤ i ∧ i < 9223372036854775808
  · rw [if_pos h]
    cases h2 : ixN xs.length i with
    | none => trivial
    | some k =>
      cases h3 : xs[k]? with
      | none => simp only [h3]; trivial
      | some d =>
        simp only [h3]
        show (if -(2 ^ 63) ≤ i ∧ i < 2 ^ 63 then (ixN (xs.map e).length i).bind fun k => (xs.map e)[k]?.map fun d => (O.ls ((xs.map e).eraseIdx k), d) else none) = _
        rw [if_pos (by omega), List.length_map, h2, Option.bind_some, List.getElem?_map, h3, Option.map_some, Option.map_some, eraseIdx_mp]
  · rw [if_neg h]; trivial
/-- range(i, j, c) -/
def rngCL (i j c : Int) : List Int := (List.range (PySem.Builtin.Range.rangeSize i j c).toNat).map fun (k : Nat) => i + (k : Int) * c
@[irreducible] def tRng3 (i j c : Int) : T (List Int) := if okRg3 i j c then .ok (rngCL i j c) else .bad
theorem w_rng3 {n : Nat} {L Lx : Lay} {ρ β : Type} {x y c : Int} {j : List D → M β} {tk : List Int → T ρ} {Φ : ρ → β → G → Prop} (r : ∀ v : List Int, W n L Lx (j (v.map eI)) (tk v) Φ) : W n L Lx (mb (toRng3 [.fz (eI x), .fz (eI y), .fz (eI c)]) j) (tb (tRng3 x y c) tk) Φ := by
  unfold tRng3
  by_cases h : okRg3 x y c
  · rw [if_pos h]
    refine w_p (a := (rngCL x y c).map eI) (fun g q => ?_) (r _)
    show (if _ then _ else _ : Rs (List D)) = _
    rw [if_pos h]
    unfold rngC rngCL
    rw [List.map_map]; rfl
  · rw [if_neg h]; exact w_bad
/-- s.find(t) -/
def findL (s t : S) : Int := Txt.find ⟨s.toArray⟩ ⟨t.toArray⟩
theorem ot_find {s t : S} : OpT (mFind (eS s) [eS t]) (.ok (findL s t)) (rF eI) := ⟨rfl, rfl⟩
/-- xs.index(x) -/
@[irreducible] def tLIx (xs : List Int) (x : Int) : T Int := match xs.findIdx? fun y => y == x with
  | some j => .ok (j : Nat)
  | none => .bad
theorem ot_lix {xs : List Int} {x : Int} : OpT (mIndexL (eL eI xs) [eI x]) (tLIx xs x) (rF eI) := by
  unfold tLIx
  have hf : (flatI (eI x) && (xs.map eI).all flatI) = true := by
    rw [Bool.and_eq_true, List.all_map]
    exact ⟨rfl, List.all_eq_true.mpr fun _ _ => rfl⟩
  have e : mIndexL (eL eI xs) [eI x] = (xs.findIdx? fun y => y == x).map fun j => .fz (.int (j : Nat)) := by
    show (if (flatI (eI x) && (xs.map eI).all flatI) = true then (((xs.map eI).map toV).findIdx? fun z => eqV z (toV (eI x))).map fun j => R.fz (.int (j : Nat)) else none) = _
    rw [if_pos hf, List.map_map, List.findIdx?_map]; rfl
  rw [e]
  cases xs.findIdx? fun y => y == x with
  | none => trivial
  | some j => exact ⟨rfl, rfl⟩
end
end DL

namespace DL
open PySem PySem.Spec L2

/-! # proofs about typed functions -/
section
variable {α β γ ρ σ : Type}
/-- the end is a value with P -/
def Ok (t : T α) (P : α → Prop) : Prop := ∃ v, t = .ok v ∧ P v
theorem ok_ok {v : α} {P : α → Prop} (h : P v) : Ok (.ok v) P := ⟨v, rfl, h⟩
theorem ok_eq {t : T α} {v : α} {P : α → Prop} (e : t = .ok v) (h : P v) : Ok t P := ⟨v, e, h⟩
theorem ok_tb {x : T α} {k : α → T β} {P : α → Prop} {Q : β → Prop} (h : Ok x P) (r : ∀ v, P v → Ok (k v) Q) : Ok (tb x k) Q := by
  obtain ⟨v, rfl, p⟩ := h; exact r v p
theorem ok_tbe {x : T α} {k : α → T β} {v : α} {Q : β → Prop} (h : x = .ok v) (r : Ok (k v) Q) : Ok (tb x k) Q := by rw [h]; exact r
theorem tb_eq {x : T α} {k : α → T β} {v : α} {y : T β} (h : x = .ok v) (r : k v = y) : tb x k = y := by rw [h]; exact r
theorem tlp_eq {x : T (Lp σ ρ)} {k : σ → T ρ} {s : σ} {y : T ρ} (h : x = .ok (.dn s)) (r : k s = y) : tlp x k = y := by rw [h]; exact r
theorem ok_imp {t : T α} {P Q : α → Prop} (h : Ok t P) (i : ∀ v, P v → Q v) : Ok t Q := let ⟨v, e, p⟩ := h; ⟨v, e, i v p⟩
theorem ok_and {t : T α} {P Q : α → Prop} (h : Ok t P) (k : Ok t Q) : Ok t (fun v => P v ∧ Q v) := by
  obtain ⟨v, e, p⟩ := h
  obtain ⟨w, e', q⟩ := k
  rw [e] at e'; cases e'; exact ⟨v, e, p, q⟩
theorem ok_tlp {x : T (Lp σ ρ)} {k : σ → T ρ} {P : Lp σ ρ → Prop} {Q : ρ → Prop} (h : Ok x P) (r : ∀ s, P (.dn s) → Ok (k s) Q) (r' : ∀ v, P (.rt v) → Q v) : Ok (tlp x k) Q := by
  obtain ⟨v, rfl, p⟩ := h
  cases v with
  | dn s => exact r s p
  | rt v => exact ⟨v, rfl, r' v p⟩
@[simp] theorem tnx_ok (a : α) : tnx (.ok a) = .ok a := rfl
theorem ok_tnx {t : T α} {P : α → Prop} (h : Ok t P) : Ok (tnx t) P := by obtain ⟨v, rfl, p⟩ := h; exact ⟨v, rfl, p⟩
theorem tnx_eq {t : T α} {v : α} (h : t = .ok v) : tnx t = .ok v := by rw [h]; rfl
@[simp] theorem tb_eta (t : T α) : tb t (fun v => .ok v) = t := by cases t <;> rfl
@[simp] theorem tb_unit (t : T Unit) : tb t (fun _ => .ok ()) = t := by cases t <;> rfl
@[simp] theorem optc_none (t0 : T ρ) (t1 : α → T ρ) : optc none t0 t1 = t0 := rfl
@[simp] theorem optc_some (a : α) (t0 : T ρ) (t1 : α → T ρ) : optc (some a) t0 t1 = t1 a := rfl
theorem ok_if {c : Prop} [Decidable c] {a b : T α} {P : α → Prop} (h1 : c → Ok a P) (h2 : ¬ c → Ok b P) : Ok (if c then a else b) P := by
  by_cases h : c
  · rw [if_pos h]; exact h1 h
  · rw [if_neg h]; exact h2 h
theorem RF.good {f : FSem} {ds : List D} {t : T ρ} {eR : ρ → R} {v : ρ} (h : RF f ds t eR) (e : t = .ok v) : f none ds = .ok (eR v) none := by
  unfold RF at h; subst e; exact h.1

/-! ## loops -/
@[simp] theorem tfold_nil (s : σ) (f : σ → α → T σ) : tfold [] s f = .ok s := rfl
@[simp] theorem tfold_cons (x : α) (xs : List α) (s : σ) (f : σ → α → T σ) : tfold (x :: xs) s f = tb (f s x) fun s' => tfold xs s' f := rfl
theorem tfold_ok_aux {f : σ → α → T σ} (P : List α → σ → Prop) : ∀ (xs pre : List α) (s : σ), P pre s →
    (∀ p x r s, pre ++ xs = p ++ x :: r → P p s → Ok (f s x) (P (p ++ [x]))) → Ok (tfold xs s f) (P (pre ++ xs))
  | [], pre, s, h, _ => ⟨s, rfl, by rwa [List.append_nil]⟩
  | x :: xs, pre, s, h, st => by
    obtain ⟨s', e, h'⟩ := st pre x xs s rfl h
    obtain ⟨s2, e2, h2⟩ := tfold_ok_aux P xs (pre ++ [x]) s' h' fun p y r s e => st p y r s (by rw [← e, List.append_assoc]; rfl)
    exact ⟨s2, by rw [tfold_cons, e, tb_ok, e2], by rw [show pre ++ x :: xs = pre ++ [x] ++ xs by rw [List.append_assoc]; rfl]; exact h2⟩
/-- a loop by what holds behind a beginning of the items -/
theorem tfold_ok {f : σ → α → T σ} {xs : List α} {s : σ} (P : List α → σ → Prop) (h0 : P [] s) (st : ∀ p x r s, xs = p ++ x :: r → P p s → Ok (f s x) (P (p ++ [x]))) : Ok (tfold xs s f) (P xs) :=
  tfold_ok_aux P xs [] s h0 st
/-- .. by the number of turns -/
theorem tfold_okN {f : σ → α → T σ} {xs : List α} {s : σ} (P : Nat → σ → Prop) (h0 : P 0 s) (st : ∀ i x s, xs[i]? = some x → P i s → Ok (f s x) (P (i + 1))) : Ok (tfold xs s f) (P xs.length) :=
  tfold_ok (fun p s => P p.length s) h0 fun p x r s e h => by
    have := st p.length x s (by rw [e, List.getElem?_append_right (Nat.le_refl _), Nat.sub_self]; rfl) h
    exact ok_imp this fun v q => by rw [List.length_append]; exact q
/-- .. one state after the other -/
theorem tfold_eq {f : σ → α → T σ} {xs : List α} (S : List α → σ) {s : σ} (h0 : s = S []) (st : ∀ p x r, xs = p ++ x :: r → f (S p) x = .ok (S (p ++ [x]))) : tfold xs s f = .ok (S xs) := by
  obtain ⟨v, e, rfl⟩ := tfold_ok (f := f) (xs := xs) (s := s) (fun p s => s = S p) h0 fun p x r s e h => ⟨_, by rw [h]; exact st p x r e, rfl⟩
  exact e
theorem tfor_ok_aux {f : σ → α → T (St' σ ρ)} (P : List α → σ → Prop) (Q : Lp σ ρ → Prop) : ∀ (xs pre : List α) (s : σ), P pre s →
    (∀ p x r s, pre ++ xs = p ++ x :: r → P p s → Ok (f s x) (fun v => match v with | .nx s' => P (p ++ [x]) s' | .bk s' => Q (.dn s') | .rt r => Q (.rt r))) → (∀ s, P (pre ++ xs) s → Q (.dn s)) → Ok (tfor xs s f) Q
  | [], pre, s, h, _, en => ⟨.dn s, rfl, en s (by rwa [List.append_nil])⟩
  | x :: xs, pre, s, h, st, en => by
    obtain ⟨v, e, h'⟩ := st pre x xs s rfl h
    unfold tfor
    rw [e]
    cases v with
    | nx s' => exact tfor_ok_aux P Q xs (pre ++ [x]) s' h' (fun p y r s e => st p y r s (by rw [← e, List.append_assoc]; rfl)) (fun s q => en s (by rw [show pre ++ x :: xs = pre ++ [x] ++ xs by rw [List.append_assoc]; rfl]; exact q))
    | bk s' => exact ⟨_, rfl, h'⟩
    | rt r => exact ⟨_, rfl, h'⟩
/-- a loop with break, return -/
theorem tfor_ok {f : σ → α → T (St' σ ρ)} {xs : List α} {s : σ} (P : List α → σ → Prop) (Q : Lp σ ρ → Prop) (h0 : P [] s)
    (st : ∀ p x r s, xs = p ++ x :: r → P p s → Ok (f s x) (fun v => match v with | .nx s' => P (p ++ [x]) s' | .bk s' => Q (.dn s') | .rt r => Q (.rt r))) (en : ∀ s, P xs s → Q (.dn s)) : Ok (tfor xs s f) Q :=
  tfor_ok_aux P Q xs [] s h0 st en
theorem tfor_okN {f : σ → α → T (St' σ ρ)} {xs : List α} {s : σ} (P : Nat → σ → Prop) (Q : Lp σ ρ → Prop) (h0 : P 0 s)
    (st : ∀ i x s, xs[i]? = some x → P i s → Ok (f s x) (fun v => match v with | .nx s' => P (i + 1) s' | .bk s' => Q (.dn s') | .rt r => Q (.rt r))) (en : ∀ s, P xs.length s → Q (.dn s)) : Ok (tfor xs s f) Q :=
  tfor_ok (fun p s => P p.length s) Q h0 (fun p x r s e h => by
    have := st p.length x s (by rw [e, List.getElem?_append_right (Nat.le_refl _), Nat.sub_self]; rfl) h
    exact ok_imp this fun v q => by
      cases v with
      | nx s' => show P (p ++ [x]).length s'; rw [List.length_append]; exact q
      | bk s' => exact q
      | rt r => exact q) en
/-- a while by a measure -/
theorem twh_ok {c : σ → T Bool} {f : σ → T (St' σ ρ)} {s : σ} (P : σ → Prop) (m : σ → Nat) (Q : Lp σ ρ → Prop) (h0 : P s) (hm : m s < 100000000)
    (st : ∀ s, P s → Ok (c s) (fun b => (b = false → Q (.dn s)) ∧ (b = true → Ok (f s) (fun v => match v with | .nx s' => P s' ∧ m s' < m s | .bk s' => Q (.dn s') | .rt r => Q (.rt r))))) : Ok (twh s c f) Q := by
  unfold twh
  have key : ∀ (k : Nat) (s : σ), P s → m s < k → Ok (twhL c f k s) Q := by
    intro k
    induction k with
    | zero => intro s _ h; omega
    | succ k ih =>
      intro s hp hk
      obtain ⟨b, e, hF, hT⟩ := st s hp
      unfold twhL
      rw [e]
      cases b with
      | false => exact ⟨_, rfl, hF rfl⟩
      | true =>
        obtain ⟨v, e2, h2⟩ := hT rfl
        simp only
        rw [e2]
        cases v with
        | nx s' => exact ih s' h2.1 (by have := h2.2; omega)
        | bk s' => exact ⟨_, rfl, h2⟩
        | rt r => exact ⟨_, rfl, h2⟩
  exact key fuel s h0 hm

/-! ## comprehensions -/
/-- item by item -/
inductive All2 (P : α → β → Prop) : List α → List β → Prop
  | nil : All2 P [] []
  | cons {a : α} {b : β} {xs : List α} {ys : List β} (h : P a b) (t : All2 P xs ys) : All2 P (a :: xs) (b :: ys)
theorem All2.length {P : α → β → Prop} {xs : List α} {ys : List β} (h : All2 P xs ys) : ys.length = xs.length := by
  induction h with
  | nil => rfl
  | cons _ _ ih => rw [List.length_cons, List.length_cons, ih]
theorem All2.get {P : α → β → Prop} {xs : List α} {ys : List β} (h : All2 P xs ys) : ∀ {i : Nat} {x : α}, xs[i]? = some x → ∃ y, ys[i]? = some y ∧ P x y := by
  induction h with
  | nil => intro i x e; simp at e
  | cons h _ ih =>
    intro i x e
    cases i with
    | zero => simp at e; subst e; exact ⟨_, rfl, h⟩
    | succ i => simp at e; simpa using ih e
theorem All2.mem {P : α → β → Prop} {xs : List α} {ys : List β} (h : All2 P xs ys) {y : β} (m : y ∈ ys) : ∃ x ∈ xs, P x y := by
  induction h with
  | nil => cases m
  | cons h _ ih =>
    rcases List.mem_cons.mp m with rfl | m
    · exact ⟨_, List.mem_cons_self, h⟩
    · obtain ⟨x, hx, p⟩ := ih m; exact ⟨x, List.mem_cons_of_mem _ hx, p⟩
theorem All2.eq_map {g : α → β} {xs : List α} {ys : List β} (h : All2 (fun x y => y = g x) xs ys) : ys = xs.map g := by
  induction h with
  | nil => rfl
  | cons h _ ih => rw [List.map_cons, h, ih]
theorem tmapA_eq {f : α → T β} {g : α → β} : ∀ {xs : List α}, (∀ x ∈ xs, f x = .ok (g x)) → tmapA f xs = .ok (xs.map g)
  | [], _ => rfl
  | x :: xs, h => by
    unfold tmapA
    rw [h x List.mem_cons_self, tmapA_eq fun y hy => h y (List.mem_cons_of_mem _ hy)]; rfl
theorem tMap_eq {f : α → T β} (g : α → β) {xs : List α} (hl : xs.length ≤ 16777216) (h : ∀ x ∈ xs, f x = .ok (g x)) : tMap xs f = .ok (xs.map g) := by
  unfold tMap; rw [if_pos hl, tmapA_eq h]
@[simp] theorem tMap_pure {g : α → β} {xs : List α} (hl : xs.length ≤ 16777216) : tMap xs (fun x => .ok (g x)) = .ok (xs.map g) := tMap_eq g hl fun _ _ => rfl
theorem tmapA_ok {f : α → T β} {P : α → β → Prop} : ∀ {xs : List α}, (∀ x ∈ xs, Ok (f x) (P x)) → Ok (tmapA f xs) (fun ys => All2 P xs ys)
  | [], _ => ⟨[], rfl, .nil⟩
  | x :: xs, h => by
    obtain ⟨y, e, p⟩ := h x List.mem_cons_self
    obtain ⟨ys, e2, q⟩ := tmapA_ok fun z hz => h z (List.mem_cons_of_mem _ hz)
    exact ⟨y :: ys, by unfold tmapA; rw [e, e2]; rfl, .cons p q⟩
theorem tMap_ok {f : α → T β} {xs : List α} (P : α → β → Prop) (hl : xs.length ≤ 16777216) (h : ∀ x ∈ xs, Ok (f x) (P x)) : Ok (tMap xs f) (fun ys => All2 P xs ys) := by
  unfold tMap; rw [if_pos hl]; exact tmapA_ok h
theorem tfmA_eq {f : α → T (Option β)} {g : α → Option β} : ∀ {xs : List α}, (∀ x ∈ xs, f x = .ok (g x)) → tfmA f xs = .ok (xs.filterMap g)
  | [], _ => rfl
  | x :: xs, h => by
    unfold tfmA
    rw [h x List.mem_cons_self, tfmA_eq fun y hy => h y (List.mem_cons_of_mem _ hy)]
    cases hg : g x with
    | none => rw [List.filterMap_cons_none hg]; rfl
    | some y => rw [List.filterMap_cons_some hg]; rfl
theorem tFm_eq {f : α → T (Option β)} (g : α → Option β) {xs : List α} (hl : xs.length ≤ 16777216) (h : ∀ x ∈ xs, f x = .ok (g x)) : tFm xs f = .ok (xs.filterMap g) := by
  unfold tFm; rw [if_pos hl, tfmA_eq h]
theorem tmapS_ok {f : σ → α → T (σ × β)} (P : Nat → σ → List β → Prop) : ∀ (xs : List α) (i : Nat) (s : σ) (acc : List β), P i s acc →
    (∀ j x s acc, i ≤ j → xs[j - i]? = some x → P j s acc → Ok (f s x) (fun p => P (j + 1) p.1 (acc ++ [p.2]))) → Ok (tmapS f xs s) (fun q => P (i + xs.length) q.1 (acc ++ q.2))
  | [], i, s, acc, h, _ => ⟨(s, []), rfl, by simpa using h⟩
  | x :: xs, i, s, acc, h, st => by
    obtain ⟨p, e, hp⟩ := st i x s acc (Nat.le_refl _) (by rw [Nat.sub_self]; rfl) h
    obtain ⟨q, e2, hq⟩ := tmapS_ok P xs (i + 1) p.1 (acc ++ [p.2]) hp fun j y s acc hj hy => st j y s acc (by omega) (by rw [show j - i = (j - (i + 1)) + 1 by omega, List.getElem?_cons_succ]; exact hy)
    refine ⟨(q.1, p.2 :: q.2), by unfold tmapS; rw [e, tnx_ok, tb_ok, e2, tb_ok], ?_⟩
    rw [List.append_assoc] at hq
    rw [List.length_cons, show i + (xs.length + 1) = i + 1 + xs.length by omega]; exact hq
theorem tMapS_ok {f : σ → α → T (σ × β)} {xs : List α} {s : σ} (P : Nat → σ → List β → Prop) (hl : xs.length ≤ 16777216) (h0 : P 0 s [])
    (st : ∀ j x s acc, xs[j]? = some x → P j s acc → Ok (f s x) (fun p => P (j + 1) p.1 (acc ++ [p.2]))) : Ok (tMapS xs s f) (fun q => P xs.length q.1 q.2) := by
  unfold tMapS; rw [if_pos hl]
  exact ok_imp (tmapS_ok P xs 0 s [] h0 fun j x s acc _ hx hp => st j x s acc (by simpa using hx) hp) fun v q => by simpa using q

/-! ## operations -/
theorem tIdx_nat {xs : List α} {i : Nat} {a : α} (h : xs[i]? = some a) : tIdx xs (i : Int) = .ok a := by
  have hl : i < xs.length := by
    rcases Nat.lt_or_ge i xs.length with k | k
    · exact k
    · rw [List.getElem?_eq_none k] at h; cases h
  unfold tIdx atI ixN
  rw [if_pos (by omega), if_pos (by omega)]
  simp [h]
theorem tIdx_int {xs : List α} {i : Int} {a : α} (h0 : 0 ≤ i) (h : xs[i.toNat]? = some a) : tIdx xs i = .ok a := by
  have := tIdx_nat h
  rwa [Int.toNat_of_nonneg h0] at this
theorem tIdx_ok {xs : List α} {i : Int} (h0 : 0 ≤ i) (h : i < xs.length) : Ok (tIdx xs i) (fun a => xs[i.toNat]? = some a) := by
  have hl : i.toNat < xs.length := by omega
  exact ⟨xs[i.toNat], tIdx_int h0 (List.getElem?_eq_getElem hl), List.getElem?_eq_getElem hl⟩
theorem tIdx_neg {xs : List α} {i : Int} {a : α} (h0 : i < 0) (h1 : 0 ≤ i + xs.length) (h : xs[(i + xs.length).toNat]? = some a) : tIdx xs i = .ok a := by
  unfold tIdx atI ixN
  rw [if_neg (by omega), if_pos (by omega)]
  simp [h]
theorem tCat_eq {xs ys : List α} (h : xs.length + ys.length ≤ 16777216) : tCat xs ys = .ok (xs ++ ys) := by unfold tCat; rw [if_pos h]
theorem tApd_eq {xs : List α} {x : α} (h : xs.length < 16777216) : tApd xs x = .ok (xs ++ [x]) := by unfold tApd; rw [if_pos h]
theorem tMod_eq {x y : Int} (h : 0 < y) : tMod x y = .ok (x % y) := by unfold tMod; rw [if_pos h]
theorem tFdiv_eq {x y : Int} (h : 0 < y) (h2 : y < 1073741824) : tFdiv x y = .ok (x / y) := by unfold tFdiv; rw [if_pos ⟨h, h2⟩]
theorem tMulI_eqR {x y : Int} (h : -18446744073709551616 < y) (h2 : y < 18446744073709551616) : tMulI x y = .ok (x * y) := by unfold tMulI; rw [if_pos (.inr ⟨h, h2⟩)]
theorem tMulI_eqL {x y : Int} (h : -18446744073709551616 < x) (h2 : x < 18446744073709551616) : tMulI x y = .ok (x * y) := by unfold tMulI; rw [if_pos (.inl ⟨h, h2⟩)]
theorem tRng_eq {a b : Int} (h1 : -4611686018427387904 ≤ a) (h2 : a < 4611686018427387904) (h3 : -4611686018427387904 ≤ b) (h4 : b < 4611686018427387904) : tRng a b = .ok (rngL a b) := by unfold tRng; rw [if_pos ⟨h1, h2, h3, h4⟩]
theorem tLrg_eq {a b : Int} (h : okRg a b) : tLrg a b = .ok (rngL a b) := by unfold tLrg; rw [if_pos h]
theorem rngL_len (a b : Int) : (rngL a b).length = (b - a).toNat := by unfold rngL; rw [List.length_map, List.length_range]
theorem rngL_get {a b : Int} {i : Nat} {x : Int} (h : (rngL a b)[i]? = some x) : x = a + i ∧ (i : Int) < b - a := by
  unfold rngL at h
  rw [List.getElem?_map] at h
  cases e : (List.range (b - a).toNat)[i]? with
  | none => rw [e] at h; cases h
  | some k =>
    rw [e] at h
    have hk := List.getElem?_eq_some_iff.mp e
    obtain ⟨h1, h2⟩ := hk
    rw [List.getElem_range] at h2
    rw [List.length_range] at h1
    cases h
    subst h2
    exact ⟨rfl, by omega⟩
theorem rngL_mem {a b x : Int} : x ∈ rngL a b ↔ a ≤ x ∧ x < b := by
  unfold rngL
  rw [List.mem_map]
  constructor
  · rintro ⟨i, hi, rfl⟩; have := List.mem_range.mp hi; omega
  · rintro ⟨h1, h2⟩; exact ⟨(x - a).toNat, List.mem_range.mpr (by omega), by omega⟩
theorem rngL_snoc {a : Int} {n : Nat} : rngL a (a + (n : Int) + 1) = rngL a (a + n) ++ [a + n] := by
  unfold rngL
  rw [show (a + (n : Int) + 1 - a).toNat = n + 1 by omega, show (a + (n : Int) - a).toNat = n by omega, List.range_succ, List.map_append]; rfl
theorem tRepS_eq {s : S} {k : Int} (h1 : -9223372036854775808 ≤ k) (h2 : k < 9223372036854775808) (h3 : s.length * k.toNat ≤ 16777216) : tRepS s k = .ok (repL s k) := by unfold tRepS; rw [if_pos ⟨h1, h2, h3⟩]
theorem tRepL_eq {xs : List α} {k : Int} (h1 : -9223372036854775808 ≤ k) (h2 : k < 9223372036854775808) (h3 : xs.length * k.toNat ≤ 16777216) : tRepL xs k = .ok (repL xs k) := by unfold tRepL; rw [if_pos ⟨h1, h2, h3⟩]
theorem tRepT_eq {xs : List α} {k : Int} (h1 : xs ≠ []) (h2 : xs.length ≤ 1000) (h3 : 2 ≤ k) (h4 : k ≤ 1000) : tRepT xs k = .ok (repL xs k) := by unfold tRepT; rw [if_pos ⟨h1, h3, h4, h2⟩]
theorem repL_len (xs : List α) (k : Int) : (repL xs k).length = xs.length * k.toNat := by
  unfold repL
  rw [List.length_flatten, List.map_replicate]
  generalize k.toNat = n
  induction n with
  | zero => simp
  | succ n ih => rw [List.replicate_succ, List.sum_cons, ih, Nat.mul_succ, Nat.add_comm]
theorem tPop_eq {xs : List α} {a : α} : tPop (xs ++ [a]) = .ok (xs, a) := by unfold tPop; simp
theorem tPop_ok {xs : List α} (h : xs ≠ []) : Ok (tPop xs) (fun p => xs = p.1 ++ [p.2]) := by
  obtain ⟨ys, a, rfl⟩ : ∃ ys a, xs = ys ++ [a] := ⟨xs.dropLast, xs.getLast h, (List.dropLast_concat_getLast h).symm⟩
  exact ⟨_, tPop_eq, rfl⟩
theorem tSet_nat {xs : List α} {i : Nat} {x : α} (h : i < xs.length) : tSet xs (i : Int) x = .ok (xs.set i x) := by
  unfold tSet ixN
  rw [if_pos (by omega), if_pos (by omega)]; simp
theorem sum_one : ∀ xs : List Nat, ((xs.map fun c => [c]).map (·.length)).sum = xs.length
  | [] => rfl
  | x :: xs => by rw [List.map_cons, List.map_cons, List.sum_cons, sum_one xs, List.length_cons]; simp; omega
/-- ''.join(..) -/
theorem tJoin_nil {xs : List S} (h : (xs.map (·.length)).sum ≤ 16777216) : tJoin [] xs = .ok xs.flatten := by
  unfold tJoin
  rw [if_pos (by simpa using h)]
  congr 1
  show (Builtin.Str.glued _ _).cps.toList = _
  rw [StrLaws.glued_eq_join]
  have e : (⟨([] : S).toArray⟩ : Str) = ("" : Str) := rfl
  rw [e, join_cps0, List.map_map]
  congr 1
  have : ((fun y : Str => y.cps.toList) ∘ fun z : S => (⟨z.toArray⟩ : Str)) = id := by funext z; simp
  rw [this, List.map_id]
theorem flat_one : ∀ xs : List Nat, (xs.map fun c => [c]).flatten = xs
  | [] => rfl
  | x :: xs => by rw [List.map_cons, List.flatten_cons, flat_one xs]; rfl
theorem tJoin_one {xs : List Nat} (h : xs.length ≤ 16777216) : tJoin [] (xs.map fun c => [c]) = .ok xs := by
  rw [tJoin_nil (by rw [sum_one]; exact h), flat_one]
theorem cutL_len {α : Type} (xs : List α) (lo hi : Option Int) : (cutL xs lo hi).length ≤ xs.length := cutL_length xs lo hi
theorem tEqD_eq {a b : D} (h : okEq a b = true) : tEqD a b = .ok (PyData.eqv a.py b.py) := by unfold tEqD; rw [if_pos h]
theorem tNeD_eq {a b : D} (h : okEq a b = true) : tNeD a b = .ok (!PyData.eqv a.py b.py) := by unfold tNeD; rw [if_pos h]
theorem tEqE_eq [DecidableEq α] {e : α → D} {a b : α} (h : okEq (e a) (e b) = true) : tEqE e a b = .ok (decide (a = b)) := by unfold tEqE; rw [if_pos h]
theorem tNeE_eq [DecidableEq α] {e : α → D} {a b : α} (h : okEq (e a) (e b) = true) : tNeE e a b = .ok (!decide (a = b)) := by unfold tNeE; rw [if_pos h]

theorem subL_iff {s t : S} : subL s t = true ↔ ∃ i, i + s.length ≤ t.length ∧ (t.drop i).take s.length = s := by
  unfold subL subS
  rw [StrLaws.found_iff]
  constructor
  · rintro ⟨i, h1, h2⟩
    rw [StrLaws.subAt_eq] at h2
    rw [str_len, str_len] at h1
    refine ⟨i, h1, ?_⟩
    have := eq_of_beq h2
    rw [str_len] at this
    simpa using this
  · rintro ⟨i, h1, h2⟩
    refine ⟨i, by rw [str_len, str_len]; exact h1, ?_⟩
    rw [StrLaws.subAt_eq, beq_iff_eq, str_len]
    simpa using h2
/-! ### shapes for == and repr -/
/-- depth at most k, and all texts are texts -/
def Shp (k : Nat) (d : D) : Prop := d.flat = true ∧ PyData.canLay0 d.py = true ∧ PyData.depth d.py ≤ k
theorem okEq_of {k : Nat} {a b : D} (ha : Shp k a) (hb : Shp k b) (hk : k ≤ 64 := by decide) : okEq a b = true := by
  obtain ⟨h1, h2, h3⟩ := ha
  obtain ⟨h4, h5, h6⟩ := hb
  unfold okEq SeqAt.shaped
  rw [h1, h2, h4, h5, decide_eq_true (Nat.le_trans h3 hk), decide_eq_true (Nat.le_trans h6 hk)]; rfl
theorem shp_int {k : Nat} (i : Int) (hk : 1 ≤ k := by decide) : Shp k (.int i) := ⟨rfl, rfl, Nat.le_trans (by first | exact Nat.le_refl 1 | exact Nat.zero_le 1) hk⟩
theorem shp_bl {k : Nat} (i : Bool) (hk : 1 ≤ k := by decide) : Shp k (.bl i) := ⟨rfl, rfl, Nat.le_trans (by first | exact Nat.le_refl 1 | exact Nat.zero_le 1) hk⟩
theorem shp_non {k : Nat} (hk : 1 ≤ k := by decide) : Shp k .non := ⟨rfl, rfl, Nat.le_trans (by first | exact Nat.le_refl 1 | exact Nat.zero_le 1) hk⟩
/-- a text -/
def okS (s : S) : Prop := ∀ c ∈ s, c < 1114112
theorem shp_str {k : Nat} {s : S} (h : okS s) (hk : 1 ≤ k := by decide) : Shp k (eS s) := by
  refine ⟨rfl, ?_, Nat.le_trans (by first | exact Nat.le_refl 1 | exact Nat.zero_le 1) hk⟩
  show PyData.strOk _ = true
  unfold PyData.strOk
  rw [Array.all_eq_true]
  intro i hi
  simp at hi
  simpa using h s[i] (List.getElem_mem ..)
theorem shp_listL {k : Nat} (e : α → D) : ∀ {xs : List α}, (∀ x ∈ xs, Shp k (e x)) → flatL (xs.map e) = true ∧ PyData.canLayAll0 (pyL (xs.map e)) = true ∧ PyData.depthAll (pyL (xs.map e)) ≤ k
  | [], _ => ⟨rfl, rfl, Nat.zero_le _⟩
  | x :: xs, h => by
    obtain ⟨h1, h2, h3⟩ := h x List.mem_cons_self
    obtain ⟨h4, h5, h6⟩ := shp_listL e fun y hy => h y (List.mem_cons_of_mem _ hy)
    refine ⟨?_, ?_, ?_⟩
    · show ((e x).flat && flatL (xs.map e)) = true; rw [h1, h4]; rfl
    · show (PyData.canLay0 (e x).py && PyData.canLayAll0 (pyL (xs.map e))) = true; rw [h2, h5]; rfl
    · show max (PyData.depth (e x).py) (PyData.depthAll (pyL (xs.map e))) ≤ k; omega
theorem shp_L {k : Nat} (e : α → D) {xs : List α} (h : ∀ x ∈ xs, Shp k (e x)) : Shp (k + 1) (eL e xs) := by
  obtain ⟨h1, h2, h3⟩ := shp_listL e h
  exact ⟨h1, h2, by show PyData.depthAll _ + 1 ≤ _; omega⟩
theorem shp_T {k : Nat} (e : α → D) {xs : List α} (h : ∀ x ∈ xs, Shp k (e x)) : Shp (k + 1) (eT e xs) := by
  obtain ⟨h1, h2, h3⟩ := shp_listL e h
  exact ⟨h1, h2, by show PyData.depthAll _ + 1 ≤ _; omega⟩
theorem shp_P {k : Nat} {e : α → D} {f : β → D} {p : α × β} (h1 : Shp k (e p.1)) (h2 : Shp k (f p.2)) : Shp (k + 1) (eP e f p) := by
  obtain ⟨a1, a2, a3⟩ := h1
  obtain ⟨b1, b2, b3⟩ := h2
  refine ⟨?_, ?_, ?_⟩
  · show ((e p.1).flat && ((f p.2).flat && true)) = true; rw [a1, b1]; rfl
  · show (PyData.canLay0 (e p.1).py && (PyData.canLay0 (f p.2).py && true)) = true; rw [a2, b2]; rfl
  · show max (PyData.depth (e p.1).py) (max (PyData.depth (f p.2).py) 0) + 1 ≤ k + 1; omega
theorem shp_P3 {k : Nat} {e : α → D} {f : β → D} {g : γ → D} {p : α × β × γ} (h1 : Shp k (e p.1)) (h2 : Shp k (f p.2.1)) (h3 : Shp k (g p.2.2)) : Shp (k + 1) (eP3 e f g p) := by
  obtain ⟨a1, a2, a3⟩ := h1
  obtain ⟨b1, b2, b3⟩ := h2
  obtain ⟨c1, c2, c3⟩ := h3
  refine ⟨?_, ?_, ?_⟩
  · show ((e p.1).flat && ((f p.2.1).flat && ((g p.2.2).flat && true))) = true; rw [a1, b1, c1]; rfl
  · show (PyData.canLay0 (e p.1).py && (PyData.canLay0 (f p.2.1).py && (PyData.canLay0 (g p.2.2).py && true))) = true; rw [a2, b2, c2]; rfl
  · show max (PyData.depth (e p.1).py) (max (PyData.depth (f p.2.1).py) (max (PyData.depth (g p.2.2).py) 0)) + 1 ≤ k + 1; omega
theorem shp_O {k : Nat} {e : α → D} {o : Option α} (h : ∀ a, o = some a → Shp k (e a)) (hk : 1 ≤ k := by decide) : Shp k (eO e o) := by
  cases o with
  | none => exact shp_non hk
  | some a => exact h a rfl
theorem shp_mono {k l : Nat} {d : D} (h : Shp k d) (hk : k ≤ l := by decide) : Shp l d := ⟨h.1, h.2.1, Nat.le_trans h.2.2 hk⟩
theorem eqv_optI (a b : Option Int) : PyData.eqv (eO eI a).py (eO eI b).py = decide (a = b) := by
  cases a <;> cases b <;> first | rfl | (rename_i x y; show (x == y) = _; rw [Bool.eq_iff_iff, beq_iff_eq, decide_eq_true_eq, Option.some.injEq])
end
theorem tIsE_eq {ns : List Str} {h c : Str} (m : c ∈ ns) : tIsE ns h c = .ok (subE c h) := by unfold tIsE; rw [if_pos m]
theorem tIsD_eq {t : String} {d : D} {k : String} {b : Bool} (h1 : kindT d = some k) (h2 : kitB k t = some b) : tIsD t d = .ok b := by unfold tIsD; rw [h1, Option.bind_some, h2]
theorem tLenD_S {z : S} : tLenD (eS z) = .ok z.length := by unfold tLenD; show T.ok ((⟨z.toArray⟩ : Str).length : Int) = _; rw [str_len]
theorem tLtD_eq {a b : D} (h : okLt a b = true) : tLtD a b = .ok (PySem.W.dataLt a.py b.py) := by unfold tLtD; rw [if_pos h]
end DL

namespace DL
open PySem PySem.Spec L2

/-! # enumerate, dicts -/
section
variable {α β γ ρ σ : Type} {n : Nat} {L Lx : Lay}
def enumL (xs : List α) (s : Int) : List (Int × α) := xs.zipIdx.map fun p => (s + (p.2 : Int), p.1)
theorem enumL_len (xs : List α) (s : Int) : (enumL xs s).length = xs.length := by unfold enumL; simp
theorem enumL_get {xs : List α} {s : Int} {i : Nat} {p : Int × α} (h : (enumL xs s)[i]? = some p) : p.1 = s + i ∧ xs[i]? = some p.2 := by
  unfold enumL at h
  rw [List.getElem?_map, List.getElem?_zipIdx] at h
  cases e : xs[i]? with
  | none => rw [e] at h; cases h
  | some x => rw [e] at h; simp at h; subst h; simp
theorem enD_enum (e : α → D) (xs : List α) : enD (xs.map e) = (enumL xs 0).map (eP eI e) := by
  apply List.ext_getElem?
  intro i
  unfold enD enumL
  rw [List.getElem?_map, List.getElem?_map, List.getElem?_map, List.getElem?_zipIdx, List.length_map]
  rcases Nat.lt_or_ge i xs.length with k | k
  · rw [List.getElem?_range k, List.getElem?_eq_getElem k]
    simp [List.getD_eq_getElem?_getD, k]
  · rw [List.getElem?_eq_none (by rw [List.length_range]; exact k), List.getElem?_eq_none k]; rfl
theorem px_enL (e : α → D) {xs : List α} : Px n L (toEn [.fz (eL e xs)]) ((enumL xs 0).map (eP eI e)) := fun g _ => by
  show Rs.ok (enD (xs.map e)) g = _
  rw [enD_enum]
theorem px_enT (e : α → D) {xs : List α} : Px n L (toEn [.fz (eT e xs)]) ((enumL xs 0).map (eP eI e)) := fun g _ => by
  show Rs.ok (enD (xs.map e)) g = _
  rw [enD_enum]

/-! ## dicts -/
abbrev Dct (κ α : Type) := List (κ × α)
abbrev kI : Int → Key := Sum.inl
abbrev kS : S → Key := fun z => Sum.inr ⟨z.toArray⟩
abbrev eKI (e : α → D) : Dct Int α → D := fun kvs => .dk (kvs.map fun p => (kI p.1, e p.2))
abbrev eKS (e : α → D) : Dct S α → D := fun kvs => .dk (kvs.map fun p => (kS p.1, e p.2))
abbrev oKI (e : α → D) : Dct Int α → O := fun kvs => .dk (kvs.map fun p => (kI p.1, e p.2))
abbrev oKS (e : α → D) : Dct S α → O := fun kvs => .dk (kvs.map fun p => (kS p.1, e p.2))
section
variable {κ : Type} [DecidableEq κ]
def dget (d : Dct κ α) (k : κ) : Option α := (d.find? fun p => decide (p.1 = k)).map (·.2)
def dhas (d : Dct κ α) (k : κ) : Bool := d.any fun p => decide (p.1 = k)
def dput (d : Dct κ α) (k : κ) (a : α) : Dct κ α := if dhas d k = true then d.map (fun p => if p.1 = k then (p.1, a) else p) else d ++ [(k, a)]
@[irreducible] def tDGet (d : Dct κ α) (k : κ) : T α := match dget d k with
  | some a => .ok a
  | none => .bad
@[irreducible] def tDPut (d : Dct κ α) (k : κ) (a : α) : T (Dct κ α) := if d.length < 16777216 then .ok (dput d k a) else .bad
theorem dget_map (ek : κ → Key) (hk : ∀ a b, ek a = ek b ↔ a = b) (e : α → D) (d : Dct κ α) (k : κ) : valD (d.map fun p => (ek p.1, e p.2)) (ek k) = (dget d k).map e := by
  unfold valD dget
  induction d with
  | nil => rfl
  | cons p d ih =>
    rw [List.map_cons, List.find?_cons, List.find?_cons]
    by_cases h : p.1 = k
    · simp [h]
    · have : ek p.1 ≠ ek k := fun z => h ((hk _ _).mp z)
      simp only [decide_eq_false h, decide_eq_false this]; exact ih
theorem dhas_map (ek : κ → Key) (hk : ∀ a b, ek a = ek b ↔ a = b) (e : α → D) (d : Dct κ α) (k : κ) : ((d.map fun p => (ek p.1, e p.2)).any fun kv => decide (kv.1 = ek k)) = dhas d k := by
  unfold dhas
  rw [List.any_map]
  congr 1
  funext p
  show decide (ek p.1 = ek k) = _
  rw [decide_eq_decide]; exact hk _ _
theorem dput_map (ek : κ → Key) (hk : ∀ a b, ek a = ek b ↔ a = b) (e : α → D) (d : Dct κ α) (k : κ) (a : α) : putD (d.map fun p => (ek p.1, e p.2)) (ek k) (e a) = (dput d k a).map fun p => (ek p.1, e p.2) := by
  unfold putD dput
  rw [dhas_map ek hk e]
  split
  · rw [List.map_map, List.map_map]
    congr 1
    funext p
    show (if ek p.1 = ek k then (ek p.1, e a) else (ek p.1, e p.2)) = (fun p : κ × α => (ek p.1, e p.2)) (if p.1 = k then (p.1, a) else p)
    by_cases h : p.1 = k
    · rw [if_pos h, if_pos ((hk _ _).mpr h)]
    · rw [if_neg h, if_neg fun z => h ((hk _ _).mp z)]
  · simp
theorem dget_put (d : Dct κ α) (k k' : κ) (a : α) : dget (dput d k a) k' = if k = k' then some a else dget d k' := by
  unfold dput
  have fnd : ∀ d : Dct κ α, dhas d k = true → dget (d.map fun p => if p.1 = k then (p.1, a) else p) k' = if k = k' then some a else dget d k' := by
    intro d
    induction d with
    | nil => intro h; cases h
    | cons p d ih =>
      intro h
      unfold dget
      rw [List.map_cons, List.find?_cons, List.find?_cons]
      by_cases hp : p.1 = k
      · rw [if_pos hp]
        by_cases hk : k = k'
        · simp [hp, hk]
        · have h1 : ¬ p.1 = k' := fun z => hk (hp.symm.trans z)
          simp only [decide_eq_false h1, if_neg hk]
          by_cases hd : dhas d k = true
          · have := ih hd; unfold dget at this; rw [if_neg hk] at this; exact this
          · have hno : (d.map fun p => if p.1 = k then (p.1, a) else p) = d := by
              have : ∀ q ∈ d, q.1 ≠ k := fun q hq z => hd (List.any_eq_true.mpr ⟨q, hq, decide_eq_true z⟩)
              exact (List.map_congr_left fun q hq => if_neg (this q hq)).trans (List.map_id d)
            rw [hno]
      · rw [if_neg hp]
        have hd : dhas d k = true := by
          unfold dhas at h ⊢
          rw [List.any_cons, decide_eq_false hp, Bool.false_or] at h; exact h
        have := ih hd
        unfold dget at this
        by_cases hk' : p.1 = k'
        · have : k ≠ k' := fun z => hp (hk'.trans z.symm)
          simp [hk', this]
        · simp only [decide_eq_false hk']; exact this
  by_cases h : dhas d k = true
  · rw [if_pos h]; exact fnd d h
  · rw [if_neg h]
    unfold dget
    rw [List.find?_append]
    by_cases hk : k = k'
    · subst hk
      have : d.find? (fun p => decide (p.1 = k)) = none := by
        rw [List.find?_eq_none]
        intro p hp z
        exact h (List.any_eq_true.mpr ⟨p, hp, z⟩)
      rw [this]; simp
    · rw [if_neg hk]
      cases hf : d.find? (fun p => decide (p.1 = k')) with
      | some p => rfl
      | none => simp [hk]
theorem dhas_get (d : Dct κ α) (k : κ) : dhas d k = (dget d k).isSome := by
  unfold dhas dget
  rw [Option.isSome_map, List.isSome_find?]
theorem tDGet_eq {d : Dct κ α} {k : κ} {a : α} (h : dget d k = some a) : tDGet d k = .ok a := by unfold tDGet; rw [h]
theorem tDPut_eq {d : Dct κ α} {k : κ} {a : α} (h : d.length < 16777216) : tDPut d k a = .ok (dput d k a) := by unfold tDPut; rw [if_pos h]
theorem dput_len (d : Dct κ α) (k : κ) (a : α) : (dput d k a).length ≤ d.length + 1 := by
  unfold dput; split
  · rw [List.length_map]; omega
  · rw [List.length_append]; exact Nat.le_refl _
end
theorem kI_inj (a b : Int) : kI a = kI b ↔ a = b := ⟨fun h => Sum.inl.inj h, fun h => by rw [h]⟩
theorem kS_inj (a b : S) : kS a = kS b ↔ a = b := ⟨fun h => str_inj.mp (Sum.inr.inj h), fun h => by rw [h]⟩
theorem px_newK : Px n L eNewK (.ow (.dk [])) := fun _ _ => rfl
theorem os_putI (e : α → D) {d : Dct Int α} {k : Int} {a : α} : OpS (stK (oKI e d) (eI k) (e a)) (tDPut d k a) (oKI e) := by
  unfold tDPut
  by_cases h : d.length < 16777216
  · rw [if_pos h]
    show (if _ then _ else _) = _
    rw [if_pos (by rw [List.length_map]; exact h), dput_map kI kI_inj e]
  · rw [if_neg h]; exact True.intro
theorem os_putS (e : α → D) {d : Dct S α} {k : S} {a : α} : OpS (stK (oKS e d) (eS k) (e a)) (tDPut d k a) (oKS e) := by
  unfold tDPut
  by_cases h : d.length < 16777216
  · rw [if_pos h]
    show (if _ then _ else _) = _
    rw [if_pos (by rw [List.length_map]; exact h), dput_map kS kS_inj e]
  · rw [if_neg h]; exact True.intro
theorem ot_dgetI (e : α → D) {d : Dct Int α} {k : Int} : OpT (ixK (eKI e d) (eI k)) (tDGet d k) (rF e) := by
  unfold tDGet
  have h1 : ixK (eKI e d) (eI k) = ((dget d k).map e).map R.fz := by
    show (valD _ (kI k)).map R.fz = _
    rw [dget_map kI kI_inj e]
  cases h : dget d k with
  | none => trivial
  | some a => exact ⟨by rw [h1, h]; rfl, rfl⟩
theorem ot_dgetS (e : α → D) {d : Dct S α} {k : S} : OpT (ixK (eKS e d) (eS k)) (tDGet d k) (rF e) := by
  unfold tDGet
  have h1 : ixK (eKS e d) (eS k) = ((dget d k).map e).map R.fz := by
    show (valD _ (kS k)).map R.fz = _
    rw [dget_map kS kS_inj e]
  cases h : dget d k with
  | none => trivial
  | some a => exact ⟨by rw [h1, h]; rfl, rfl⟩
end
end DL

namespace DL
open PySem PySem.Spec L2

/-! # repr, ranges, arrangements -/
section
variable {α β γ ρ σ : Type}
/-- shown in a small text -/
def Rp (w k : Nat) (d : D) : Prop := d.flat = true ∧ PyData.showable d.py = true ∧ PyData.depth d.py ≤ k ∧ PyData.leavesShort 13 d.py = true ∧ PyData.weight d.py ≤ w
theorem okRepr_of {w k : Nat} {d : D} (h : Rp w k d) (hk : k ≤ 64 := by decide) (hw : w ≤ 1000000 := by decide) : okRepr d = true := by
  obtain ⟨h1, h2, h3, h4, h5⟩ := h
  have h6 := PyData.shown_le 13 (by decide) d.py h4
  have h7 : (13 + 2) * d.py.weight ≤ (13 + 2) * 1000000 := Nat.mul_le_mul_left _ (by omega)
  unfold okRepr
  rw [h1, h2, decide_eq_true (Nat.le_trans h3 hk), decide_eq_true]
  · rfl
  · rw [sizeLine_eq]; omega
theorem tRepr_eq {w k : Nat} {d : D} (h : Rp w k d) (hk : k ≤ 64 := by decide) (hw : w ≤ 1000000 := by decide) : tRepr d = .ok d.py.shown.cps.toList := by
  unfold tRepr; rw [if_pos (okRepr_of h hk hw)]
theorem rp_int (i : Int) (h : i.natAbs < 1000000000000) : Rp 40 1 (.int i) := by
  refine ⟨rfl, ?_, by first | exact Nat.le_refl 1 | exact Nat.zero_le 1, ?_, ?_⟩
  · show decide (i.natAbs.log2 < 1920) = true
    rcases Nat.eq_zero_or_pos i.natAbs with e | e
    · rw [e]; decide
    · have : i.natAbs.log2 < 40 := (Nat.log2_lt (by omega)).mpr (Nat.lt_of_lt_of_le h (by decide))
      exact decide_eq_true (by omega)
  · show decide (_ ≤ 13) = true
    refine decide_eq_true ?_
    have := PySem.int_text_length_le10 (a := i) (k := 12) (by decide) h
    show (PyData.shown (.int i)).length ≤ 13
    have e : PyData.shown (.int i) = Str.ofString (toString i) := rfl
    rw [e, ofString_length]; exact this
  · show (if i == 0 then 0 else i.natAbs.log2 + 1) ≤ 40
    split
    · omega
    · rename_i e
      have h0 : i.natAbs ≠ 0 := by intro z; apply e; simp; omega
      have : i.natAbs.log2 < 40 := (Nat.log2_lt h0).mpr (Nat.lt_of_lt_of_le h (by decide))
      omega
theorem rp_bl (b : Bool) : Rp 0 1 (.bl b) := ⟨rfl, rfl, by first | exact Nat.le_refl 1 | exact Nat.zero_le 1, rfl, by first | exact Nat.le_refl 0 | exact Nat.zero_le 0⟩
theorem rp_non : Rp 0 1 .non := ⟨rfl, rfl, by first | exact Nat.le_refl 1 | exact Nat.zero_le 1, rfl, by first | exact Nat.le_refl 0 | exact Nat.zero_le 0⟩
theorem rp_str {s : S} (h : okS s) {n : Nat} (hl : s.length ≤ n) : Rp n 1 (eS s) := by
  refine ⟨rfl, rfl, by first | exact Nat.le_refl 1 | exact Nat.zero_le 1, ?_, ?_⟩
  · show (s.toArray.toList.all fun c => decide (c < 16 ^ 8)) = true
    rw [List.all_eq_true]
    intro c hc
    refine decide_eq_true ?_
    have := h c (by simpa using hc)
    exact Nat.lt_of_lt_of_le this (by decide)
  · show s.toArray.size ≤ n; simpa using hl
theorem rp_mono {w w' k k' : Nat} {d : D} (h : Rp w k d) (hw : w ≤ w' := by decide) (hk : k ≤ k' := by decide) : Rp w' k' d :=
  ⟨h.1, h.2.1, Nat.le_trans h.2.2.1 hk, h.2.2.2.1, Nat.le_trans h.2.2.2.2 hw⟩
theorem rp_list {w k : Nat} (e : α → D) : ∀ {xs : List α}, (∀ x ∈ xs, Rp w k (e x)) → flatL (xs.map e) = true ∧ PyData.showableAll (pyL (xs.map e)) = true ∧ PyData.depthAll (pyL (xs.map e)) ≤ k ∧ PyData.leavesShortAll 13 (pyL (xs.map e)) = true ∧ PyData.weightAll (pyL (xs.map e)) ≤ xs.length * (w + 1)
  | [], _ => ⟨rfl, rfl, Nat.zero_le _, rfl, Nat.zero_le _⟩
  | x :: xs, h => by
    obtain ⟨h1, h2, h3, h4, h5⟩ := h x List.mem_cons_self
    obtain ⟨g1, g2, g3, g4, g5⟩ := rp_list e fun y hy => h y (List.mem_cons_of_mem _ hy)
    refine ⟨?_, ?_, ?_, ?_, ?_⟩
    · show ((e x).flat && flatL (xs.map e)) = true; rw [h1, g1]; rfl
    · show (PyData.showable (e x).py && PyData.showableAll (pyL (xs.map e))) = true; rw [h2, g2]; rfl
    · show max (PyData.depth (e x).py) (PyData.depthAll (pyL (xs.map e))) ≤ k; omega
    · show (PyData.leavesShort 13 (e x).py && PyData.leavesShortAll 13 (pyL (xs.map e))) = true; rw [h4, g4]; rfl
    · show PyData.weight (e x).py + 1 + PyData.weightAll (pyL (xs.map e)) ≤ (xs.length + 1) * (w + 1)
      rw [Nat.succ_mul]; omega
theorem rp_T {w k n : Nat} {e : α → D} {xs : List α} (h : ∀ x ∈ xs, Rp w k (e x)) (hn : xs.length ≤ n) : Rp (n * (w + 1)) (k + 1) (eT e xs) := by
  obtain ⟨g1, g2, g3, g4, g5⟩ := rp_list e h
  exact ⟨g1, g2, by show PyData.depthAll _ + 1 ≤ _; omega, g4, Nat.le_trans g5 (Nat.mul_le_mul_right _ hn)⟩
theorem rp_L {w k n : Nat} {e : α → D} {xs : List α} (h : ∀ x ∈ xs, Rp w k (e x)) (hn : xs.length ≤ n) : Rp (n * (w + 1)) (k + 1) (eL e xs) := by
  obtain ⟨g1, g2, g3, g4, g5⟩ := rp_list e h
  exact ⟨g1, g2, by show PyData.depthAll _ + 1 ≤ _; omega, g4, Nat.le_trans g5 (Nat.mul_le_mul_right _ hn)⟩
theorem rp_P {w v k : Nat} {e : α → D} {f : β → D} {p : α × β} (h1 : Rp w k (e p.1)) (h2 : Rp v k (f p.2)) : Rp (w + v + 2) (k + 1) (eP e f p) := by
  obtain ⟨a1, a2, a3, a4, a5⟩ := h1
  obtain ⟨b1, b2, b3, b4, b5⟩ := h2
  refine ⟨?_, ?_, ?_, ?_, ?_⟩
  · show ((e p.1).flat && ((f p.2).flat && true)) = true; rw [a1, b1]; rfl
  · show (PyData.showable (e p.1).py && (PyData.showable (f p.2).py && true)) = true; rw [a2, b2]; rfl
  · show max (PyData.depth (e p.1).py) (max (PyData.depth (f p.2).py) 0) + 1 ≤ k + 1; omega
  · show (PyData.leavesShort 13 (e p.1).py && (PyData.leavesShort 13 (f p.2).py && true)) = true; rw [a4, b4]; rfl
  · show PyData.weight (e p.1).py + 1 + (PyData.weight (f p.2).py + 1 + 0) ≤ _; omega

/-! ## ranges and arrangements -/
theorem rngL_nodup (a b : Int) : (rngL a b).Nodup := by
  unfold rngL
  exact List.pairwise_map.mpr (List.nodup_range.imp fun {x y} h e => h (by omega))
theorem rngL_sorted (a b : Int) : (rngL a b).Pairwise (· ≤ ·) := by
  unfold rngL
  exact List.pairwise_map.mpr (List.pairwise_lt_range.imp fun {x y} h => by omega)
theorem rngL_at {a b : Int} {i : Nat} (h : (i : Int) < b - a) : (rngL a b)[i]? = some (a + i) := by
  unfold rngL
  rw [List.getElem?_map, List.getElem?_range (by omega)]; rfl
theorem srt_rng {xs : List Int} {k : Int} : srt xs = rngL 0 k ↔ xs.Perm (rngL 0 k) := by
  constructor
  · intro h; rw [← h]; exact (srt_perm xs).symm
  · intro h; exact (srt_of h.symm (rngL_sorted 0 k)).symm
theorem perm_sub {α : Type} [DecidableEq α] : ∀ {xs ys : List α}, xs.Nodup → (∀ x ∈ xs, x ∈ ys) → ys.length ≤ xs.length → xs.Perm ys
  | [], ys, _, _, hl => by
    have : ys = [] := List.eq_nil_of_length_eq_zero (by simpa using hl)
    rw [this]
  | x :: xs, ys, hn, hm, hl => by
    obtain ⟨h1, h2⟩ := List.nodup_cons.mp hn
    have hx := hm x List.mem_cons_self
    have p := List.perm_cons_erase hx
    refine List.Perm.trans ((perm_sub h2 (fun y hy => ?_) ?_).cons x) p.symm
    · exact (List.mem_erase_of_ne (fun (e : y = x) => h1 (by rw [← e]; exact hy))).mpr (hm y (List.mem_cons_of_mem _ hy))
    · rw [List.length_erase_of_mem hx]; simp at hl; omega
/-- k different numbers below k are all of them -/
theorem perm_of {xs : List Int} {k : Nat} (hn : xs.Nodup) (hl : xs.length = k) (hm : ∀ x ∈ xs, 0 ≤ x ∧ x < k) : xs.Perm (rngL 0 (k : Int)) :=
  perm_sub hn (fun x hx => rngL_mem.mpr (hm x hx)) (by rw [rngL_len]; omega)
theorem Perm.ndp {xs : List Int} {k : Int} (h : xs.Perm (rngL 0 k)) : xs.Nodup := h.nodup_iff.mpr (rngL_nodup 0 k)
end
end DL

namespace DL
open PySem PySem.Spec L2

/-! # instances, typed -/
section
variable {n : Nat} {L L' L1 L2 Lx : Lay} {α β γ ρ σ τ : Type}
/-! ### fields -/
theorem px_opFldF {c f : Str} {fs : List (Str × D)} {d : D} (h : fs.lookup f = some d) : Px n L (opFld c f (.fz (.obj c fs))) (.fz d) := fun g _ => by
  unfold opFld; simp only; rw [if_pos trivial, h]
theorem px_fldF {c f : Str} {k : M R} {fs : List (Str × D)} {d : D} (hk : Px n L k (.fz (.obj c fs))) (h : fs.lookup f = some d) : Px n L (eFld c f k) (.fz d) := px_mb hk (px_opFldF h)
theorem px_fldA {c f : Str} {k : M R} {i : Nat} {l : Bool} {fs : Fs} {d : D} (hk : Px n L k (.at i)) (hl : lk L i = some (.ow l (.ob c fs))) (h : fs.get f = some (.inl d)) : Px n L (eFld c f k) (.fz d) :=
  px_mb hk fun g q => by unfold opFld; simp only; rw [q.2 _ _ hl]; simp only; rw [if_pos trivial, h]
theorem px_fldS {c f : Str} {k : M R} {i : Nat} {l : Bool} {fs : Fs} {o : O} (hk : Px n L k (.at i)) (hl : lk L i = some (.ow l (.ob c fs))) (h : fs.get f = some (.inr o)) : Px n L (eFld c f k) (.sub i f) :=
  px_mb hk fun g q => by unfold opFld; simp only; rw [q.2 _ _ hl]; simp only; rw [if_pos trivial, h]
theorem px_fldP {c f : Str} {k : M R} {i : Nat} {fs : Fs} {d : D} (hk : Px n L k (.at i)) (hl : lk L i = some (.op c fs)) (h : fs.get f = some (.inl d)) : Px n L (eFld c f k) (.fz d) :=
  px_mb hk fun g q => by unfold opFld; simp only; rw [q.2 _ _ hl]; simp only; rw [if_pos trivial, h]
theorem px_fldB {c c0 f f0 : Str} {k : M R} {i : Nat} {l : Bool} {fs fs' : Fs} {d : D} (hk : Px n L k (.sub i f0)) (hl : lk L i = some (.ow l (.ob c0 fs))) (h0 : fs.get f0 = some (.inr (.ob c fs'))) (h : fs'.get f = some (.inl d)) : Px n L (eFld c f k) (.fz d) :=
  px_mb hk fun g q => by unfold opFld; simp only; rw [q.2 _ _ hl]; simp only; rw [h0]; simp only; rw [if_pos trivial, h]
theorem px_vp {i : Nat} {c : Str} {fs : Fs} (h : lk L i = some (.op c fs)) : Px n L (eVar i) (.at i) := fun g a => by
  unfold eVar; rw [a.2 _ _ h]
/-! ### an instance under way -/
variable {Φ : ρ → Fl → G → Prop} {t : T ρ}
theorem w_sFld {i : Nat} {c f : Str} {k : M R} {b : M Fl} (h : W n L Lx (mb (eA k) fun r => sSeq (opPut i c f r) b) t Φ) : W n L Lx (sSeq (sFldD i c f k) b) t Φ := by
  unfold sFldD; rw [sSeq_mb]; exact h
theorem w_putZ {i : Nat} {c f : Str} {fs fs' : Fs} {d : D} {b : M Fl} (hl : lk L i = some (.op c fs)) (hn : fs.get f = none) (hz : Nat.blt fs.len 1000 = true) (ha : fs.add f (.inl d) = fs') (hi : Nat.blt i n = true) (h : W n ((i, .op c fs') :: L) Lx b t Φ) : W n L Lx (sSeq (opPut i c f (.fz d)) b) t Φ := ⟨fun g q => by
  have e : sSeq (opPut i c f (.fz d)) b g = b (g.set i (some (.op c fs'))) := by
    unfold sSeq opPut
    rw [q.2 _ _ hl]
    simp only
    rw [if_pos ⟨trivial, hn, by simpa using hz⟩, ha]
  rw [e]; exact h _ (q.set hi _)⟩
theorem w_putO {i : Nat} {c f : Str} {fs fs' : Fs} {o : O} {b : M Fl} (hl : lk L i = some (.op c fs)) (hn : fs.get f = none) (hz : Nat.blt fs.len 1000 = true) (ha : fs.add f (.inr o) = fs') (hi : Nat.blt i n = true) (h : W n ((i, .op c fs') :: L) Lx b t Φ) : W n L Lx (sSeq (opPut i c f (.ow o)) b) t Φ := ⟨fun g q => by
  have e : sSeq (opPut i c f (.ow o)) b g = b (g.set i (some (.op c fs'))) := by
    unfold sSeq opPut
    rw [q.2 _ _ hl]
    simp only
    rw [if_pos ⟨trivial, hn, by simpa using hz⟩, ha]
  rw [e]; exact h _ (q.set hi _)⟩
theorem w_seal {i : Nat} {c : Str} {fs : Fs} {o : O} {b : M Fl} (hl : lk L i = some (.op c fs)) (ho : O.ob c fs = o) (hi : Nat.blt i n = true) (h : W n ((i, .ow true o) :: L) Lx b t Φ) : W n L Lx (sSeq (sSeal i) b) t Φ := ⟨fun g q => by
  have e : sSeq (sSeal i) b g = b (g.set i (some (.ow true o))) := by
    show b (seal_ i g) = _
    unfold seal_; rw [q.2 _ _ hl, ← ho]
  rw [e]; exact h _ (q.set hi _)⟩
/-- what an __init__ makes -/
@[irreducible] def RI (f : ISem) (ds : List D) (t : T σ) (eO : σ → O) : Prop := match t with
  | .bad => True
  | .ex e => f ds = .ex e none
  | .ok v => f ds = .ok (.fz .non) (some (eO v))
def ΦI (n : Nat) (eO : σ → O) : σ → Fl → G → Prop := fun v fl g => (fl = .nx ∨ fl = .rt (.fz .non)) ∧ g[(0 : Nat)]? = some (some (.ow true (eO v)))
def argLI (c : Str) (ds : List D) : Lay := (0, .op c .nil) :: argL 1 ds
theorem ri_body {n : Nat} {c : Str} {b : M Fl} {ds : List D} {t : T σ} {eO : σ → O} (hn : Nat.blt (ds.length + 1) n = true) (h : W n (argLI c ds) [] b t (ΦI n eO)) : RI (bodyI n c b) ds t eO := by
  have hn : ds.length + 1 < n := by simpa using hn
  have q : At n (argLI c ds) (fill n (some (.op c .nil) :: ds.map fun d => some (.fz d))) := by
    refine ⟨by unfold fill; simp; omega, fun i s e => ?_⟩
    unfold argLI lk at e
    cases e1 : Nat.beq 0 i with
    | true =>
      rw [e1] at e; cases e
      have := Nat.eq_of_beq_eq_true e1
      subst this
      unfold fill; rfl
    | false =>
      rw [e1] at e
      obtain ⟨h1, d, rfl, h3⟩ := lk_arg e
      have hl : i - 1 < ds.length := by
        rcases Nat.lt_or_ge (i - 1) ds.length with k | k
        · exact k
        · rw [List.getElem?_eq_none k] at h3; cases h3
      unfold fill
      rw [List.getElem?_append_left (by simp; omega), show i = (i - 1) + 1 by omega, List.getElem?_cons_succ, List.getElem?_map, h3]; rfl
  have := h _ q
  unfold RI bodyI
  cases t with
  | bad => trivial
  | ex e => obtain ⟨g', h1, _⟩ := this; show endI _ = _; rw [h1]; rfl
  | ok v =>
    obtain ⟨fl, g', h1, h2, h3⟩ := this
    have hs : self0 g' = .ok (.fz .non) (some (eO v)) := by unfold self0; rw [h3]
    show endI _ = _
    rw [h1]
    rcases h2 with rfl | rfl
    · exact hs
    · exact hs
theorem w_make {sem : ISem} {rs : List R} {ds : List D} {tc : T γ} {eO : γ → O} {j : R → M β} {tk : γ → T ρ} {Φ : ρ → β → G → Prop} (hf : RI sem ds tc eO) (e : allFz rs = some ds) (hx : Sub L Lx) (r : ∀ v, W n L Lx (j (.ow (eO v))) (tk v) Φ) : W n L Lx (mb (opMake sem rs) j) (tb tc tk) Φ := by
  unfold RI at hf
  cases tc with
  | bad => exact w_bad
  | ex z => exact ⟨fun g q => ⟨g, by
      have : opMake sem rs g = .ex z g := by unfold opMake; rw [e]; simp only; rw [hf]
      show (opMake sem rs g).andThen j = _; rw [this]; rfl, q.sub hx⟩⟩
  | ok v => exact w_p (a := .ow (eO v)) (fun g q => by unfold opMake; rw [e]; simp only; rw [hf]) (r v)
/-! ### methods -/
variable {Ψ : ρ → β → G → Prop}
theorem w_selfU {c m : Str} {lp : Option Nat} {sem : FSem} {o : M R} {k : M (List R)} {j : R → M β} (h : W n L Lx (mb (pk o) fun r => mb (chkRecv c m r) fun _ => mb k fun rs => mb (opCall lp sem (r :: rs)) j) t Ψ) : W n L Lx (mb (eSelf c m lp sem o k) j) t Ψ := by
  unfold eSelf
  refine w_as (h.same fun g _ => ?_)
  show (pk o g).andThen _ = (pk o g).andThen _
  cases pk o g with
  | bad => rfl
  | ex _ _ => rfl
  | ok r g1 =>
    show ((chkRecv c m r g1).andThen fun _ => mb k fun rs => opCall lp sem (r :: rs)).andThen j = (chkRecv c m r g1).andThen _
    cases chkRecv c m r g1 with
    | bad => rfl
    | ex _ _ => rfl
    | ok _ g2 =>
      show ((k g2).andThen fun rs => opCall lp sem (r :: rs)).andThen j = (k g2).andThen _
      cases k g2 <;> rfl
theorem px_recvF {c m : Str} {fs : List (Str × D)} (h : fs.lookup m = none) : Px n L (chkRecv c m (.fz (.obj c fs))) () := fun g _ => by
  unfold chkRecv; simp only; rw [if_pos ⟨trivial, h⟩]
theorem px_recvA {c m : Str} {i : Nat} {l : Bool} {fs : Fs} (hl : lk L i = some (.ow l (.ob c fs))) (h : fs.get m = none) : Px n L (chkRecv c m (.at i)) () := fun g q => by
  unfold chkRecv; simp only; rw [q.2 _ _ hl]; simp only; rw [if_pos ⟨trivial, h⟩]
theorem px_recvB {c c0 m f0 : Str} {i : Nat} {l : Bool} {fs fs' : Fs} (hl : lk L i = some (.ow l (.ob c0 fs))) (h0 : fs.get f0 = some (.inr (.ob c fs'))) (h : fs'.get m = none) : Px n L (chkRecv c m (.sub i f0)) () := fun g q => by
  unfold chkRecv; simp only; rw [q.2 _ _ hl]; simp only; rw [h0]; simp only; rw [if_pos ⟨trivial, h⟩]
theorem w_callS {j : Nat} {sem : FSem} {rs : List R} {ds : List D} {i : Nat} {l : Bool} {c f : Str} {fs : Fs} {fs' : σ → Fs} {o : O} {tc : T (γ × σ)} {rc : γ → R} {eO : σ → O} {jj : R → M β} {tk : γ × σ → T ρ} {Φ : ρ → β → G → Prop} (hf : RFL sem j o ds tc rc eO) (hr : rs[j]? = some (.sub i f)) (e : allFz (rs.eraseIdx j) = some ds)
    (hl : lk L i = some (.ow l (.ob c fs))) (hg : fs.get f = some (.inr o)) (hp : ∀ v, fs.put f (eO v) = fs' v) (hi : Nat.blt i n = true) (hx : Sub (rmL L i) Lx)
    (r : ∀ v : γ × σ, W n ((i, .ow l (.ob c (fs' v.2))) :: L) Lx (jj (rc v.1)) (tk v) Φ) : W n L Lx (mb (opCall (some j) sem rs) jj) (tb tc tk) Φ := by
  unfold RFL at hf
  cases tc with
  | bad => exact w_bad
  | ex z =>
    refine ⟨fun g q => ⟨g.set i none, ?_, (q.none i).sub hx⟩⟩
    have : opCall (some j) sem rs g = .ex z (g.set i none) := by
      unfold opCall
      simp only
      rw [hr, e]
      simp only
      rw [q.2 _ _ hl]
      simp only
      rw [hg]
      simp only
      rw [hf]
    show (opCall (some j) sem rs g).andThen jj = _
    rw [this]; rfl
  | ok v =>
    refine w_s (a := rc v.1) (L1 := (i, .ow l (.ob c (fs' v.2))) :: L) (fun g q => ⟨_, ?_, q.set hi _⟩) (r v)
    rw [← hp]
    unfold opCall
    simp only
    rw [hr, e]
    simp only
    rw [q.2 _ _ hl]
    simp only
    rw [hg]
    simp only
    rw [hf.1]
    have := hf.2
    cases e : rc v.1 with
    | fz d => rfl
    | ow o => rfl
    | «at» i => rw [e] at this; cases this
    | sub i f => rw [e] at this; cases this
/-! ### what a field holds changes -/
theorem w_opSetS {op : O → D → D → Option O} {dv di : D} {j : Nat} {ri : R} {l : Bool} {c f : Str} {fs : Fs} {fs' : γ → Fs} {ob : O} {k : Unit → M β} {ts : T γ} {rc : γ → O} {tk : γ → T ρ} {Φ : ρ → β → G → Prop} (hl : lk L j = some (.ow l (.ob c fs))) (hg : fs.get f = some (.inr ob)) (hp : ∀ v, fs.put f (rc v) = fs' v) (hi : cnt L ri = some di) (ho : OpS (op ob di dv) ts rc) (hj : Nat.blt j n = true)
    (h : ∀ v, W n ((j, .ow l (.ob c (fs' v))) :: L) Lx (k ()) (tk v) Φ) : W n L Lx (mb (opSet op (.fz dv) (.sub j f) ri) k) (tb ts tk) Φ := by
  cases ts with
  | bad => exact w_bad
  | ex x => exact ho.elim
  | ok v => exact w_g (L1 := (j, .ow l (.ob c (fs' v))) :: L) (fun g q => ⟨_, by unfold opSet; simp only; rw [q.2 _ _ hl, q.cnt hi]; simp only; rw [hg]; simp only; rw [show op ob di dv = _ from ho], by rw [hp]; exact q.set hj _⟩) (h v)
theorem w_opMutS {op : O → List D → Option (O × D)} {i : Nat} {ys : List R} {ds : List D} {l : Bool} {c f : Str} {fs : Fs} {fs' : γ → Fs} {o : O} {j : R → M β} {ts : T γ} {rc : γ → O} {rd : γ → D} {tk : γ → T ρ} {Φ : ρ → β → G → Prop} (hl : lk L i = some (.ow l (.ob c fs))) (hg : fs.get f = some (.inr o)) (hp : ∀ v, fs.put f (rc v) = fs' v) (hy : allFz ys = some ds) (ho : OpMu (op o ds) ts rc rd) (hi : Nat.blt i n = true)
    (h : ∀ v, W n ((i, .ow l (.ob c (fs' v))) :: L) Lx (j (.fz (rd v))) (tk v) Φ) : W n L Lx (mb (opMut op (.sub i f) ys) j) (tb ts tk) Φ := by
  cases ts with
  | bad => exact w_bad
  | ex x => exact ho.elim
  | ok v => exact w_s (L1 := (i, .ow l (.ob c (fs' v))) :: L) (a := .fz (rd v)) (fun g q => ⟨_, by unfold opMut; simp only; rw [q.2 _ _ hl, hy]; simp only; rw [hg]; simp only; rw [show op o ds = _ from ho], by rw [hp]; exact q.set hi _⟩) (h v)
end
end DL
namespace DL
open PySem PySem.Spec L2
/-! # short lists as tuples; what must not be None -/
section
variable {α β γ ρ σ : Type} {n : Nat} {L Lx : Lay}
abbrev eQ (e : α → D) (f : β → D) : α × β → D := fun p => .lst [e p.1, f p.2]
abbrev eQ3 (e : α → D) (f : β → D) (g : γ → D) : α × β × γ → D := fun p => .lst [e p.1, f p.2.1, g p.2.2]
theorem po_lx2a (e : α → D) (f : β → D) {p : α × β} : ixD (eQ e f p) (eI 0) = some (.fz (e p.1)) := rfl
theorem po_lx2b (e : α → D) (f : β → D) {p : α × β} : ixD (eQ e f p) (eI 1) = some (.fz (f p.2)) := rfl
theorem po_lx3a (e : α → D) (f : β → D) (g : γ → D) {p : α × β × γ} : ixD (eQ3 e f g p) (eI 0) = some (.fz (e p.1)) := rfl
theorem po_lx3b (e : α → D) (f : β → D) (g : γ → D) {p : α × β × γ} : ixD (eQ3 e f g p) (eI 1) = some (.fz (f p.2.1)) := rfl
theorem po_lx3c (e : α → D) (f : β → D) (g : γ → D) {p : α × β × γ} : ixD (eQ3 e f g p) (eI 2) = some (.fz (g p.2.2)) := rfl
instance (e : α → D) (f : β → D) : NonN (eQ e f) := ⟨fun _ => rfl⟩
instance (e : α → D) (f : β → D) (g : γ → D) : NonN (eQ3 e f g) := ⟨fun _ => rfl⟩
instance [DecidableEq α] [DecidableEq β] (e : α → D) (f : β → D) [q : EqE e] [r : EqE f] : EqE (eQ e f) :=
  ⟨fun a => by show ((e a.1).flat && ((f a.2).flat && true)) = true; rw [q.flat, r.flat]; rfl,
   fun a b => by
    show (PyData.eqv (e a.1).py (e b.1).py && (PyData.eqv (f a.2).py (f b.2).py && true)) = _
    rw [q.eqv, r.eqv, Bool.and_true, Bool.eq_iff_iff, Bool.and_eq_true, decide_eq_true_eq, decide_eq_true_eq, decide_eq_true_eq, Prod.ext_iff]⟩
theorem po_sortT {xs : List Int} : fSortG [eT eI xs] = some (.ow (.ls ((srt xs).map eI))) := by
  show (intsOf (xs.map D.int)).map _ = _
  rw [intsOf_map]; rfl
def tSome : Option α → T α
  | some a => .ok a
  | none => .bad
@[simp] theorem tSome_some (a : α) : tSome (some a) = .ok a := rfl
theorem w_some {β : Type} {m : M β} {v : Option α} {tk : α → T ρ} {Φ : ρ → β → G → Prop} (h : ∀ a, v = some a → W n L Lx m (tk a) Φ) : W n L Lx m (tb (tSome v) tk) Φ := by
  cases v with
  | none => exact w_bad
  | some a => exact h a rfl
end
end DL

namespace DL
/-! # wide machines -/
abbrev MRow := List (Int × Int)
abbrev Mac := Int × List MRow
structure RowOk (k n : Int) (r : MRow) : Prop where
  pm : (r.map Prod.fst).Perm (rngL 0 k)
  nx : ∀ p ∈ r, 0 ≤ p.2 ∧ p.2 < n
structure WideM (m : Mac) : Prop where
  k0 : 2 ≤ m.1
  k1 : m.1 ≤ 4
  n0 : 1 ≤ m.2.length
  n1 : m.2.length ≤ 200
  row : ∀ r ∈ m.2, RowOk m.1 m.2.length r
theorem RowOk.len {k n : Int} {r : MRow} (h : RowOk k n r) : r.length = k.toNat := by
  have := h.pm.length_eq
  rw [List.length_map, rngL_len] at this; omega
/-- the entry of a state at a digit -/
def ent (m : Mac) (s : Int) (x : Int) : Int × Int := (m.2.getD s.toNat []).getD x.toNat (0, 0)
theorem WideM.rowAt {m : Mac} (w : WideM m) {s : Int} (h0 : 0 ≤ s) (h1 : s < m.2.length) : m.2[s.toNat]? = some (m.2.getD s.toNat []) ∧ RowOk m.1 m.2.length (m.2.getD s.toNat []) := by
  have hl : s.toNat < m.2.length := by omega
  have e : m.2[s.toNat]? = some (m.2.getD s.toNat []) := by rw [List.getD_eq_getElem?_getD, List.getElem?_eq_getElem hl]; rfl
  exact ⟨e, w.row _ (List.mem_of_getElem? e)⟩
theorem WideM.entAt {m : Mac} (w : WideM m) {s x : Int} (h0 : 0 ≤ s) (h1 : s < m.2.length) (x0 : 0 ≤ x) (x1 : x < m.1) :
    (m.2.getD s.toNat [])[x.toNat]? = some (ent m s x) ∧ (0 ≤ (ent m s x).1 ∧ (ent m s x).1 < m.1) ∧ (0 ≤ (ent m s x).2 ∧ (ent m s x).2 < m.2.length) := by
  obtain ⟨_, hr⟩ := w.rowAt h0 h1
  have hl : x.toNat < (m.2.getD s.toNat []).length := by rw [hr.len]; omega
  have e : (m.2.getD s.toNat [])[x.toNat]? = some (ent m s x) := by unfold ent; rw [List.getD_eq_getElem?_getD (l := m.2.getD s.toNat []), List.getElem?_eq_getElem hl]; rfl
  have hm := List.mem_of_getElem? e
  exact ⟨e, rngL_mem.mp (hr.pm.subset (List.mem_map_of_mem hm)), hr.nx _ hm⟩
/-- different digits are written differently -/
theorem WideM.inj {m : Mac} (w : WideM m) {s x y : Int} (h0 : 0 ≤ s) (h1 : s < m.2.length) (x0 : 0 ≤ x) (x1 : x < m.1) (y0 : 0 ≤ y) (y1 : y < m.1) (h : (ent m s x).1 = (ent m s y).1) : x = y := by
  obtain ⟨_, hr⟩ := w.rowAt h0 h1
  have ex := (w.entAt h0 h1 x0 x1).1
  have ey := (w.entAt h0 h1 y0 y1).1
  have nd : ((m.2.getD s.toNat []).map Prod.fst).Nodup := Perm.ndp hr.pm
  have hx : ((m.2.getD s.toNat []).map Prod.fst)[x.toNat]? = some (ent m s x).1 := by rw [List.getElem?_map, ex]; rfl
  have hy : ((m.2.getD s.toNat []).map Prod.fst)[y.toNat]? = some (ent m s y).1 := by rw [List.getElem?_map, ey]; rfl
  obtain ⟨lx, gx⟩ := List.getElem?_eq_some_iff.mp hx
  obtain ⟨ly, gy⟩ := List.getElem?_eq_some_iff.mp hy
  have := (List.getElem_inj nd).mp (gx.trans (h.trans gy.symm))
  omega
/-- two machines with the same entries -/
theorem mac_ext {m u : Mac} (hm : WideM m) (hu : WideM u) (hk : m.1 = u.1) (hl : m.2.length = u.2.length) (h : ∀ s x : Int, 0 ≤ s → s < m.2.length → 0 ≤ x → x < m.1 → ent m s x = ent u s x) : m = u := by
  refine Prod.ext hk (List.ext_getElem? fun i => ?_)
  rcases Nat.lt_or_ge i m.2.length with q | q
  · have a := hm.rowAt (s := (i : Int)) (by omega) (by omega)
    have b := hu.rowAt (s := (i : Int)) (by omega) (by omega)
    rw [Int.toNat_natCast] at a b
    rw [a.1, b.1]
    congr 1
    have la := a.2.len
    have lb := b.2.len
    have h2 := hm.k0
    apply List.ext_getElem?
    intro j
    rcases Nat.lt_or_ge j m.1.toNat with p | p
    · have e1 := (hm.entAt (s := (i : Int)) (x := (j : Int)) (by omega) (by omega) (by omega) (by omega)).1
      have e2 := (hu.entAt (s := (i : Int)) (x := (j : Int)) (by omega) (by omega) (by omega) (by omega)).1
      rw [Int.toNat_natCast, Int.toNat_natCast] at e1 e2
      rw [e1, e2, h i j (by omega) (by omega) (by omega) (by omega)]
    · rw [List.getElem?_eq_none (by omega), List.getElem?_eq_none (by omega)]
  · rw [List.getElem?_eq_none q, List.getElem?_eq_none (by omega)]
/-- texts of the first k digits -/
def DgS (k : Int) (s : S) : Prop := ∀ c ∈ s, 48 ≤ c ∧ (c : Int) < 48 + k
theorem DgS.nil {k : Int} : DgS k [] := fun c h => by simp at h
theorem DgS.add {k : Int} {s t : S} (h : DgS k s) (g : DgS k t) : DgS k (s ++ t) := fun c hc => (List.mem_append.mp hc).elim (h c) (g c)
theorem DgS.sub {k : Int} {s t : S} (h : DgS k s) (g : ∀ c ∈ t, c ∈ s) : DgS k t := fun c hc => h c (g c hc)
theorem cutL_mem {α : Type} {xs : List α} {lo hi : Option Int} {x : α} (h : x ∈ cutL xs lo hi) : x ∈ xs := by
  unfold cutL at h
  exact List.mem_of_mem_drop (List.mem_of_mem_take h)
theorem DgS.cut {k : Int} {s : S} (h : DgS k s) {lo hi : Option Int} : DgS k (cutL s lo hi) := h.sub fun _ => cutL_mem
theorem DgS.okS {k : Int} {s : S} (h : DgS k s) (hk : k ≤ 4) : okS s := fun c hc => by have := h c hc; omega
theorem DgS.cons {k : Int} {c : Nat} {s : S} : DgS k (c :: s) ↔ (48 ≤ c ∧ (c : Int) < 48 + k) ∧ DgS k s := by
  constructor
  · intro h; exact ⟨h c List.mem_cons_self, fun d hd => h d (List.mem_cons_of_mem _ hd)⟩
  · rintro ⟨h1, h2⟩ d hd
    rcases List.mem_cons.mp hd with rfl | hd
    · exact h1
    · exact h2 d hd
theorem digit_mem {k : Int} (hk0 : 2 ≤ k) (hk : k ≤ 4) {c : Nat} : c ∈ cutL ([48, 49, 50, 51] : S) none (some k) ↔ 48 ≤ c ∧ (c : Int) < 48 + k := by
  rw [cutL_to _ _ (by omega)]
  have hk3 : k = 2 ∨ k = 3 ∨ k = 4 := by omega
  rcases hk3 with rfl | rfl | rfl
  · show c ∈ [48, 49] ↔ _; simp; omega
  · show c ∈ [48, 49, 50] ↔ _; simp; omega
  · show c ∈ [48, 49, 50, 51] ↔ _; simp; omega
theorem int_digit {c : Nat} (h : 48 ≤ c ∧ c < 52) : tIntS [c] = .ok ((c : Int) - 48) := by
  have hc : c = 48 ∨ c = 49 ∨ c = 50 ∨ c = 51 := by omega
  have e : PySem.intText? ⟨[c].toArray⟩ = some ((c : Int) - 48) := by rcases hc with rfl | rfl | rfl | rfl <;> decide +kernel
  unfold tIntS
  rw [if_pos (show [c].length ≤ 640 from show 1 ≤ 640 by decide), e]
/-- the sign of a digit -/
def sgn (d : Int) : Nat := 48 + d.toNat
theorem pick_digit {d : Int} (h0 : 0 ≤ d) (h1 : d < 4) : tIdx ([48, 49, 50, 51] : S) d = .ok (sgn d) := by
  have : d = 0 ∨ d = 1 ∨ d = 2 ∨ d = 3 := by omega
  rcases this with rfl | rfl | rfl | rfl <;> exact tIdx_int (by decide) rfl
/-- reading: the image and the state behind -/
def rd (m : Mac) (s : Int) : S → S × Int
  | [] => ([], s)
  | c :: z => let e := ent m s ((c : Int) - 48); let q := rd m e.2 z; (sgn e.1 :: q.1, q.2)
theorem rd_cons (m : Mac) (s : Int) (c : Nat) (z : S) : rd m s (c :: z) = (sgn (ent m s ((c : Int) - 48)).1 :: (rd m (ent m s ((c : Int) - 48)).2 z).1, (rd m (ent m s ((c : Int) - 48)).2 z).2) := rfl
theorem rd_ok {m : Mac} (w : WideM m) : ∀ {z : S} {s : Int}, 0 ≤ s → s < m.2.length → DgS m.1 z → DgS m.1 (rd m s z).1 ∧ (rd m s z).1.length = z.length ∧ 0 ≤ (rd m s z).2 ∧ (rd m s z).2 < m.2.length
  | [], s, h0, h1, _ => ⟨DgS.nil, rfl, h0, h1⟩
  | c :: z, s, h0, h1, hz => by
    obtain ⟨hc, hz⟩ := DgS.cons.mp hz
    have k0 := w.k0
    obtain ⟨_, ⟨e1, e2⟩, e3, e4⟩ := w.entAt (x := (c : Int) - 48) h0 h1 (by omega) (by omega)
    obtain ⟨g1, g2, g3, g4⟩ := rd_ok w e3 e4 hz
    rw [rd_cons]
    refine ⟨DgS.cons.mpr ⟨?_, g1⟩, by simp [g2], g3, g4⟩
    unfold sgn; omega
theorem rd_app (m : Mac) : ∀ (z y : S) (s : Int), rd m s (z ++ y) = ((rd m s z).1 ++ (rd m (rd m s z).2 y).1, (rd m (rd m s z).2 y).2)
  | [], y, s => rfl
  | c :: z, y, s => by
    rw [List.cons_append, rd_cons, rd_app m z y, rd_cons]; rfl
/-- u undoes m -/
structure UndoM (m u : Mac) : Prop where
  k : u.1 = m.1
  n : u.2.length = m.2.length
  e : ∀ s x : Int, 0 ≤ s → s < m.2.length → 0 ≤ x → x < m.1 → ent u s (ent m s x).1 = (x, (ent m s x).2)
theorem WideM.onto {m : Mac} (w : WideM m) {s y : Int} (h0 : 0 ≤ s) (h1 : s < m.2.length) (y0 : 0 ≤ y) (y1 : y < m.1) : ∃ x, 0 ≤ x ∧ x < m.1 ∧ (ent m s x).1 = y := by
  obtain ⟨_, hr⟩ := w.rowAt h0 h1
  have hy : y ∈ (m.2.getD s.toNat []).map Prod.fst := hr.pm.symm.subset (rngL_mem.mpr ⟨y0, y1⟩)
  obtain ⟨i, hi, e⟩ := List.getElem_of_mem hy
  rw [List.length_map, hr.len] at hi
  have := (w.entAt (x := (i : Int)) h0 h1 (by omega) (by omega)).1
  rw [Int.toNat_natCast] at this
  obtain ⟨_, g⟩ := List.getElem?_eq_some_iff.mp this
  refine ⟨i, by omega, by omega, ?_⟩
  rw [← g, ← e, List.getElem_map]
theorem UndoM.symm {m u : Mac} (w : WideM m) (h : UndoM m u) : UndoM u m := by
  refine ⟨h.k.symm, h.n.symm, fun s y h0 h1 y0 y1 => ?_⟩
  rw [h.n] at h1
  rw [h.k] at y1
  obtain ⟨x, x0, x1, e⟩ := w.onto h0 h1 y0 y1
  have q := h.e s x h0 h1 x0 x1
  rw [e] at q
  rw [q]
  exact Prod.ext e rfl
theorem UndoM.rd {m u : Mac} (w : WideM m) (h : UndoM m u) : ∀ {z : S} {s : Int}, 0 ≤ s → s < m.2.length → DgS m.1 z → DL.rd u s (DL.rd m s z).1 = (z, (DL.rd m s z).2)
  | [], s, _, _, _ => rfl
  | c :: z, s, h0, h1, hz => by
    obtain ⟨hc, hz⟩ := DgS.cons.mp hz
    have k0 := w.k0
    obtain ⟨_, ⟨e1, e2⟩, e3, e4⟩ := w.entAt (x := (c : Int) - 48) h0 h1 (by omega) (by omega)
    rw [rd_cons m, rd_cons u]
    have es : ((sgn (ent m s ((c : Int) - 48)).1 : Nat) : Int) - 48 = (ent m s ((c : Int) - 48)).1 := by unfold sgn; omega
    rw [es, h.e s _ h0 h1 (by omega) (by omega), UndoM.rd w h e3 e4 hz]
    have : sgn ((c : Int) - 48) = c := by unfold sgn; omega
    rw [this]
end DL

namespace DL
/-! # words: letters, undoing, cutting -/
def Lt (c : Nat) : Prop := (97 ≤ c ∧ c ≤ 104) ∨ (65 ≤ c ∧ c ≤ 72)
/-- the letter that undoes -/
def sw (c : Nat) : Nat := if 97 ≤ c then c - 32 else c + 32
theorem sw_lt {c : Nat} (h : Lt c) : Lt (sw c) := by unfold sw Lt at *; split <;> omega
theorem sw_sw {c : Nat} (h : Lt c) : sw (sw c) = c := by unfold sw Lt at *; split <;> split <;> omega
theorem sw_swap {a b : Nat} (ha : Lt a) (h : a = sw b) (hb : Lt b) : b = sw a := by rw [h, sw_sw hb]
def AllL (w : S) : Prop := ∀ c ∈ w, Lt c
theorem AllL.tail {c : Nat} {w : S} (h : AllL (c :: w)) : AllL w := fun d hd => h d (List.mem_cons_of_mem _ hd)
theorem AllL.cons {c : Nat} {w : S} (hc : Lt c) (h : AllL w) : AllL (c :: w) := fun d hd => (List.mem_cons.mp hd).elim (fun e => e ▸ hc) (h d)
theorem AllL.app {v w : S} (h : AllL v) (k : AllL w) : AllL (v ++ w) := fun d hd => (List.mem_append.mp hd).elim (h d) (k d)
theorem AllL.rev {w : S} (h : AllL w) : AllL w.reverse := fun d hd => h d (List.mem_reverse.mp hd)
/-- a stack takes a letter -/
def psh : S → Nat → S
  | [], c => [c]
  | a :: r, c => if a = sw c then r else c :: a :: r
/-- no letter stands by the one that undoes it -/
def Rd (l : S) : Prop := ∀ (p q : S) (x y : Nat), l = p ++ x :: y :: q → y ≠ sw x
theorem Rd.nil : Rd [] := fun p q x y h => by cases p <;> cases h
theorem Rd.one {c : Nat} : Rd [c] := fun p q x y h => by
  cases p with
  | nil => cases h
  | cons a p => injection h with _ h; cases p <;> cases h
theorem Rd.tail {a : Nat} {l : S} (h : Rd (a :: l)) : Rd l := fun p q x y e => h (a :: p) q x y (by rw [e]; rfl)
theorem Rd.cons {c a : Nat} {r : S} (h : Rd (a :: r)) (n : a ≠ sw c) : Rd (c :: a :: r) := fun p q x y e => by
  cases p with
  | nil =>
    injection e with e1 e2
    injection e2 with e2 e3
    rw [← e1, ← e2]; exact n
  | cons d p =>
    injection e with _ e2
    exact h p q x y e2
theorem Rd.rev {l : S} (h : Rd l) (hl : AllL l) : Rd l.reverse := fun p q x y e => by
  have e2 : l = q.reverse ++ y :: x :: p.reverse := by
    have := congrArg List.reverse e
    rw [List.reverse_reverse] at this
    rw [this]; simp
  have hy : Lt y := hl y (by rw [e2]; simp)
  have hx : Lt x := hl x (by rw [e2]; simp)
  exact fun z => h q.reverse p.reverse y x e2 (sw_swap hy z hx)
theorem Rd.sw {l : S} (h : Rd l) (hl : AllL l) : Rd (l.map sw) := fun p q x y e => by
  obtain ⟨p', r', e1, e2, e3⟩ := List.map_eq_append_iff.mp e
  cases r' with
  | nil => cases e3
  | cons x' r' =>
    injection e3 with ex e3
    cases r' with
    | nil => cases e3
    | cons y' q' =>
      injection e3 with ey e3
      have hx : Lt x' := hl x' (by rw [e1]; simp)
      have hy : Lt y' := hl y' (by rw [e1]; simp)
      intro z
      refine h p' q' x' y' e1 ?_
      have := congrArg DL.sw z
      rw [← ey, ← ex, sw_sw hy, sw_sw (sw_lt hx)] at this
      exact this
theorem psh_all {s : S} {c : Nat} (h : AllL s) (hc : Lt c) : AllL (psh s c) := by
  cases s with
  | nil => exact AllL.cons hc h
  | cons a r =>
    show AllL (if a = sw c then r else c :: a :: r)
    split
    · exact h.tail
    · exact h.cons hc
theorem psh_rd {s : S} {c : Nat} (h : Rd s) : Rd (psh s c) := by
  cases s with
  | nil => exact Rd.one
  | cons a r =>
    show Rd (if a = sw c then r else c :: a :: r)
    split
    · exact h.tail
    · rename_i n; exact h.cons n
/-- a letter and the one that undoes it -/
theorem psh_back {s : S} {c : Nat} (h : Rd s) (hs : AllL s) (hc : Lt c) : psh (psh s c) (sw c) = s := by
  cases s with
  | nil => show (if c = sw (sw c) then _ else _) = _; rw [if_pos (sw_sw hc).symm]
  | cons a r =>
    by_cases e : a = sw c
    · rw [show psh (a :: r) c = r from if_pos e]
      cases r with
      | nil => rw [e]; rfl
      | cons b q =>
        have n : b ≠ sw a := h [] q a b rfl
        rw [show psh (b :: q) (sw c) = sw c :: b :: q from if_neg (by rw [← e]; exact n), e]
    · rw [show psh (a :: r) c = c :: a :: r from if_neg e]
      show (if c = sw (sw c) then _ else _) = _
      rw [if_pos (sw_sw hc).symm]
/-- .. a whole word -/
def pw (s : S) (w : S) : S := w.foldl psh s
theorem pw_app (s v w : S) : pw s (v ++ w) = pw (pw s v) w := List.foldl_append
theorem pw_snoc (s w : S) (c : Nat) : pw s (w ++ [c]) = psh (pw s w) c := by rw [pw_app]; rfl
theorem pw_ok : ∀ {w s : S}, Rd s → AllL s → AllL w → Rd (pw s w) ∧ AllL (pw s w)
  | [], s, h, k, _ => ⟨h, k⟩
  | c :: w, s, h, k, hw => pw_ok (w := w) (psh_rd h) (psh_all k (hw c List.mem_cons_self)) hw.tail
/-- the undone word -/
def und (w : S) : S := (w.reverse).map sw
theorem und_cons (c : Nat) (w : S) : und (c :: w) = und w ++ [sw c] := by unfold und; simp
theorem und_all {w : S} (h : AllL w) : AllL (und w) := fun d hd => by
  unfold und at hd
  obtain ⟨c, hc, rfl⟩ := List.mem_map.mp hd
  exact sw_lt (h c (List.mem_reverse.mp hc))
theorem und_und {w : S} (h : AllL w) : und (und w) = w := by
  unfold und
  rw [← List.map_reverse, List.reverse_reverse, List.map_map]
  have : ∀ c ∈ w, (sw ∘ sw) c = id c := fun c hc => sw_sw (h c hc)
  rw [List.map_congr_left this, List.map_id]
theorem und_len (w : S) : (und w).length = w.length := by unfold und; simp
theorem pw_und : ∀ {w s : S}, Rd s → AllL s → AllL w → pw s (w ++ und w) = s
  | [], s, _, _, _ => rfl
  | c :: w, s, h, k, hw => by
    rw [und_cons, ← List.append_assoc, pw_snoc]
    show psh (pw (psh s c) (w ++ und w)) (sw c) = s
    have hc := hw c List.mem_cons_self
    rw [pw_und (psh_rd h) (psh_all k hc) hw.tail, psh_back h k hc]
/-- the cut word -/
def ct (w : S) : S := (pw [] w).reverse
theorem snoc_ind {P : S → Prop} (h0 : P []) (hs : ∀ w c, P w → P (w ++ [c])) (w : S) : P w := by
  have : ∀ v : S, P v.reverse := by
    intro v
    induction v with
    | nil => exact h0
    | cons c v ih => rw [List.reverse_cons]; exact hs _ _ ih
  rw [← List.reverse_reverse w]; exact this _
theorem pw_ct {s : S} (h : Rd s) (k : AllL s) (w : S) : AllL w → pw s w = pw s (ct w) := by
  refine snoc_ind (P := fun w => AllL w → pw s w = pw s (ct w)) (fun _ => rfl) (fun w c ih hw => ?_) w
  have hw' : AllL w := fun d hd => hw d (List.mem_append_left _ hd)
  have hc : Lt c := hw c (by simp)
  have ih := ih hw'
  have r0 := pw_ok (w := w) Rd.nil (s := []) (fun _ h => by simp at h) hw'
  rw [pw_snoc, ih]
  unfold ct
  rw [pw_snoc]
  unfold ct at ih
  generalize pw [] w = st at r0
  cases st with
  | nil => rfl
  | cons a r =>
    by_cases e : a = sw c
    · rw [show psh (a :: r) c = r from if_pos e, List.reverse_cons, pw_snoc, e]
      have r1 := pw_ok (w := r.reverse) h k r0.2.tail.rev
      have := psh_back r1.1 r1.2 (sw_lt hc)
      rw [sw_sw hc] at this
      exact this
    · rw [show psh (a :: r) c = c :: a :: r from if_neg e, List.reverse_cons (a := c), pw_snoc]
theorem nilR : Rd [] ∧ AllL [] := ⟨Rd.nil, fun _ h => by simp at h⟩
theorem ct_ok {w : S} (h : AllL w) : Rd (ct w) ∧ AllL (ct w) := by
  have := pw_ok (w := w) nilR.1 nilR.2 h
  exact ⟨this.1.rev this.2, this.2.rev⟩
/-- a cut word stays -/
theorem pw_rd (w : S) : Rd w → AllL w → pw [] w = w.reverse := by
  refine snoc_ind (P := fun w => Rd w → AllL w → pw [] w = w.reverse) (fun _ _ => rfl) (fun w c ih hr hw => ?_) w
  have hw' : AllL w := fun d hd => hw d (List.mem_append_left _ hd)
  have hr' : Rd w := fun p q x y e => hr p (q ++ [c]) x y (by rw [e]; simp)
  rw [pw_snoc, ih hr' hw', List.reverse_append]
  cases e : w.reverse with
  | nil => rfl
  | cons a r =>
    have ew : w = r.reverse ++ [a] := by rw [← List.reverse_reverse w, e, List.reverse_cons]
    have ha : Lt a := hw a (by rw [ew]; simp)
    have hc : Lt c := hw c (by simp)
    have n : c ≠ sw a := hr r.reverse [] a c (by rw [ew]; simp)
    exact if_neg fun z => n (sw_swap ha z hc)
theorem ct_rd {w : S} (h : Rd w) (k : AllL w) : ct w = w := by unfold ct; rw [pw_rd w h k, List.reverse_reverse]
theorem ct_ct {w : S} (h : AllL w) : ct (ct w) = ct w := ct_rd (ct_ok h).1 (ct_ok h).2
/-- cutting does not depend on the order -/
theorem ct_app {v w : S} (h : AllL v) (k : AllL w) : ct (v ++ w) = ct (ct v ++ ct w) := by
  have hv := pw_ok (w := v) nilR.1 nilR.2 h
  unfold ct
  rw [pw_app, pw_app, pw_ct hv.1 hv.2 w k]
  have := pw_ct nilR.1 nilR.2 v h
  unfold ct at this ⊢
  rw [← this]
theorem ct_und0 {w : S} (h : AllL w) : ct (w ++ und w) = [] := by unfold ct; rw [pw_und nilR.1 nilR.2 h]; rfl
theorem ct_und {w : S} (h : AllL w) : ct (und w) = und (ct w) := by
  have hc := ct_ok h
  have hu := und_all h
  have hcu := und_all hc.2
  have e1 : pw [] (und w) = pw [] (und (ct w)) := by
    have y := pw_ok (w := und (ct w)) nilR.1 nilR.2 hcu
    have b1 : pw (pw [] (und (ct w))) w = [] := by
      rw [pw_ct y.1 y.2 w h]
      have := pw_und (w := und (ct w)) nilR.1 nilR.2 hcu
      rw [und_und hc.2, pw_app] at this
      exact this
    have b2 := pw_und (w := w) y.1 y.2 h
    rw [pw_app, b1] at b2
    exact b2
  have e2 : ct (und w) = ct (und (ct w)) := by unfold ct at *; rw [e1]
  rw [e2]
  refine ct_rd ?_ hcu
  unfold und
  exact Rd.sw (hc.1.rev hc.2) hc.2.rev
theorem psh_len (s : S) (c : Nat) : (psh s c).length ≤ s.length + 1 := by
  cases s with
  | nil => exact Nat.le_refl _
  | cons a r => show (if a = sw c then r else c :: a :: r).length ≤ _; split <;> simp <;> omega
theorem pw_len : ∀ (w s : S), (pw s w).length ≤ s.length + w.length
  | [], s => Nat.le_refl _
  | c :: w, s => by
    have := pw_len w (psh s c)
    have := psh_len s c
    show (pw (psh s c) w).length ≤ _
    rw [List.length_cons]; omega
theorem ct_len (w : S) : (ct w).length ≤ w.length := by
  unfold ct; rw [List.length_reverse]
  have := pw_len w []
  simpa using this
theorem psh_sub {s : S} {c d : Nat} (h : d ∈ psh s c) : d ∈ s ∨ d = c := by
  cases s with
  | nil => exact .inr (List.mem_singleton.mp h)
  | cons a r =>
    have h : d ∈ (if a = sw c then r else c :: a :: r) := h
    split at h
    · exact .inl (List.mem_cons_of_mem _ h)
    · exact (List.mem_cons.mp h).elim .inr .inl
theorem pw_sub : ∀ {w s : S} {d : Nat}, d ∈ pw s w → d ∈ s ∨ d ∈ w
  | [], s, d, h => .inl h
  | c :: w, s, d, h => by
    rcases pw_sub (w := w) (s := psh s c) h with q | q
    · rcases psh_sub q with z | z
      · exact .inl z
      · exact .inr (by rw [z]; exact List.mem_cons_self)
    · exact .inr (List.mem_cons_of_mem _ q)
theorem ct_sub {w : S} {d : Nat} (h : d ∈ ct w) : d ∈ w := by
  unfold ct at h
  rcases pw_sub (List.mem_reverse.mp h) with q | q
  · simp at q
  · exact q
end DL

namespace DL
/-! # words of a machine: digits, strings, sections -/
/-- a letter of n states -/
def LtN (n : Nat) (c : Nat) : Prop := (97 ≤ c ∧ c < 97 + n) ∨ (65 ≤ c ∧ c < 65 + n)
theorem LtN.lt {n c : Nat} (hn : n ≤ 8) (h : LtN n c) : Lt c := by unfold LtN at h; unfold Lt; omega
theorem LtN.sw {n c : Nat} (hn : n ≤ 8) (h : LtN n c) : LtN n (sw c) := by unfold LtN at *; unfold DL.sw; split <;> omega
def AllN (n : Nat) (w : S) : Prop := ∀ c ∈ w, LtN n c
theorem AllN.nil {n : Nat} : AllN n [] := fun c h => by simp at h
theorem AllN.all {n : Nat} {w : S} (hn : n ≤ 8) (h : AllN n w) : AllL w := fun c hc => (h c hc).lt hn
theorem AllN.tail {n c : Nat} {w : S} (h : AllN n (c :: w)) : AllN n w := fun d hd => h d (List.mem_cons_of_mem _ hd)
theorem AllN.hd {n c : Nat} {w : S} (h : AllN n (c :: w)) : LtN n c := h c List.mem_cons_self
theorem AllN.cons {n c : Nat} {w : S} (hc : LtN n c) (h : AllN n w) : AllN n (c :: w) := fun d hd => (List.mem_cons.mp hd).elim (fun e => e ▸ hc) (h d)
theorem AllN.app {n : Nat} {v w : S} (h : AllN n v) (k : AllN n w) : AllN n (v ++ w) := fun d hd => (List.mem_append.mp hd).elim (h d) (k d)
theorem AllN.sub {n : Nat} {v w : S} (h : AllN n w) (k : ∀ c ∈ v, c ∈ w) : AllN n v := fun d hd => h d (k d hd)
theorem AllN.ct {n : Nat} {w : S} (h : AllN n w) : AllN n (ct w) := h.sub fun _ => ct_sub
theorem AllN.und {n : Nat} {w : S} (hn : n ≤ 8) (h : AllN n w) : AllN n (und w) := fun d hd => by
  unfold DL.und at hd
  obtain ⟨c, hc, rfl⟩ := List.mem_map.mp hd
  exact (h c (List.mem_reverse.mp hc)).sw hn
/-- the digit that is written as y -/
def bk (m : Mac) (s y : Int) : Int := ((((m.2.getD s.toNat []).map Prod.fst).idxOf y : Nat) : Int)
theorem WideM.bk {m : Mac} (w : WideM m) {s y : Int} (h0 : 0 ≤ s) (h1 : s < m.2.length) (y0 : 0 ≤ y) (y1 : y < m.1) :
    0 ≤ bk m s y ∧ bk m s y < m.1 ∧ (ent m s (bk m s y)).1 = y := by
  obtain ⟨_, hr⟩ := w.rowAt h0 h1
  have k0 := w.k0
  have hy : y ∈ (m.2.getD s.toNat []).map Prod.fst := hr.pm.symm.subset (rngL_mem.mpr ⟨y0, y1⟩)
  have hl := List.idxOf_lt_length_iff.mpr hy
  have hl2 := hl
  rw [List.length_map, hr.len] at hl
  have b1 : DL.bk m s y < m.1 := by unfold DL.bk; omega
  have b0 : 0 ≤ DL.bk m s y := by unfold DL.bk; omega
  refine ⟨b0, b1, ?_⟩
  have e := (w.entAt h0 h1 b0 b1).1
  have e2 : ((m.2.getD s.toNat []).map Prod.fst)[(DL.bk m s y).toNat]? = some (ent m s (DL.bk m s y)).1 := by rw [List.getElem?_map, e]; rfl
  have e3 : ((m.2.getD s.toNat []).map Prod.fst)[(DL.bk m s y).toNat]? = some y := by
    unfold DL.bk
    rw [Int.toNat_natCast, List.getElem?_eq_getElem hl2, List.getElem_idxOf]
  rw [e2] at e3
  exact Option.some.inj e3
theorem WideM.bk_of {m : Mac} (w : WideM m) {s x : Int} (h0 : 0 ≤ s) (h1 : s < m.2.length) (x0 : 0 ≤ x) (x1 : x < m.1) : DL.bk m s (ent m s x).1 = x := by
  obtain ⟨_, ⟨e0, e1⟩, _⟩ := w.entAt h0 h1 x0 x1
  obtain ⟨b0, b1, b2⟩ := w.bk h0 h1 e0 e1
  exact w.inj h0 h1 b0 b1 x0 x1 b2
/-- a digit through a letter: the digit, the letter behind -/
def stp (m : Mac) (c : Nat) (x : Int) : Int × Nat :=
  if 97 ≤ c then ((ent m ((c - 97 : Nat) : Int) x).1, 97 + (ent m ((c - 97 : Nat) : Int) x).2.toNat)
  else (bk m ((c - 65 : Nat) : Int) x, 65 + (ent m ((c - 65 : Nat) : Int) (bk m ((c - 65 : Nat) : Int) x)).2.toNat)
theorem stp_small {m : Mac} {i : Nat} {x : Int} : stp m (97 + i) x = ((ent m (i : Int) x).1, 97 + (ent m (i : Int) x).2.toNat) := by
  unfold stp; rw [if_pos (by omega), show 97 + i - 97 = i by omega]
theorem stp_large {m : Mac} {i : Nat} {x : Int} (h : i < 32) : stp m (65 + i) x = (bk m (i : Int) x, 65 + (ent m (i : Int) (bk m (i : Int) x)).2.toNat) := by
  unfold stp; rw [if_neg (by omega), show 65 + i - 65 = i by omega]
theorem LtN.case {n c : Nat} {P : Nat → Prop} (hn : n ≤ 8) (h : LtN n c) (a : ∀ i, i < n → P (97 + i)) (b : ∀ i, i < n → P (65 + i)) : P c := by
  rcases h with h | h
  · have := a (c - 97) (by omega); rwa [show 97 + (c - 97) = c by omega] at this
  · have := b (c - 65) (by omega); rwa [show 65 + (c - 65) = c by omega] at this
/-- digits of a machine -/
def Dg (m : Mac) (x : Int) : Prop := 0 ≤ x ∧ x < m.1
theorem stp_ok {m : Mac} (w : WideM m) (hn : m.2.length ≤ 8) {c : Nat} (hc : LtN m.2.length c) {x : Int} (hx : Dg m x) : Dg m (stp m c x).1 ∧ LtN m.2.length (stp m c x).2 := by
  refine hc.case (P := fun c => Dg m (stp m c x).1 ∧ LtN m.2.length (stp m c x).2) hn (fun i hi => ?_) fun i hi => ?_
  · rw [stp_small]
    obtain ⟨_, e1, e2⟩ := w.entAt (s := (i : Int)) (by omega) (by omega) hx.1 hx.2
    exact ⟨e1, .inl ⟨by dsimp only; omega, by dsimp only; omega⟩⟩
  · rw [stp_large (by omega)]
    obtain ⟨b0, b1, _⟩ := w.bk (s := (i : Int)) (by omega) (by omega) hx.1 hx.2
    obtain ⟨_, e1, e2⟩ := w.entAt (s := (i : Int)) (by omega) (by omega) b0 b1
    exact ⟨⟨b0, b1⟩, .inr ⟨by dsimp only; omega, by dsimp only; omega⟩⟩
/-- a letter and the one that undoes it -/
theorem stp_sw {m : Mac} (w : WideM m) (hn : m.2.length ≤ 8) {c : Nat} (hc : LtN m.2.length c) {x : Int} (hx : Dg m x) : stp m (sw c) (stp m c x).1 = (x, sw (stp m c x).2) := by
  refine hc.case (P := fun c => stp m (sw c) (stp m c x).1 = (x, sw (stp m c x).2)) hn (fun i hi => ?_) fun i hi => ?_
  · rw [stp_small, show sw (97 + i) = 65 + i from by unfold sw; rw [if_pos (by omega)]; omega, stp_large (by omega)]
    dsimp only
    rw [w.bk_of (by omega) (by omega) hx.1 hx.2]
    congr 1
    unfold sw; rw [if_pos (by omega)]; omega
  · rw [stp_large (by omega), show sw (65 + i) = 97 + i from by unfold sw; rw [if_neg (by omega)]; omega, stp_small]
    obtain ⟨b0, b1, b2⟩ := w.bk (s := (i : Int)) (by omega) (by omega) hx.1 hx.2
    obtain ⟨_, e1, e2⟩ := w.entAt (s := (i : Int)) (by omega) (by omega) b0 b1
    dsimp only
    rw [b2]
    congr 1
    unfold sw; rw [if_neg (by omega)]; omega
/-- .. through a word -/
def stw (m : Mac) : S → Int → Int × S
  | [], x => (x, [])
  | c :: w, x => ((stw m w (stp m c x).1).1, (stp m c x).2 :: (stw m w (stp m c x).1).2)
theorem stw_cons (m : Mac) (c : Nat) (w : S) (x : Int) : stw m (c :: w) x = ((stw m w (stp m c x).1).1, (stp m c x).2 :: (stw m w (stp m c x).1).2) := rfl
theorem stw_ok {m : Mac} (w : WideM m) (hn : m.2.length ≤ 8) : ∀ {v : S} {x : Int}, AllN m.2.length v → Dg m x → Dg m (stw m v x).1 ∧ AllN m.2.length (stw m v x).2 ∧ (stw m v x).2.length = v.length
  | [], x, _, hx => ⟨hx, AllN.nil, rfl⟩
  | c :: v, x, hv, hx => by
    obtain ⟨h1, h2⟩ := stp_ok w hn hv.hd hx
    obtain ⟨g1, g2, g3⟩ := stw_ok w hn hv.tail h1
    rw [stw_cons]
    exact ⟨g1, g2.cons h2, by simp [g3]⟩
theorem stw_app (m : Mac) : ∀ (v u : S) (x : Int), stw m (v ++ u) x = ((stw m u (stw m v x).1).1, (stw m v x).2 ++ (stw m u (stw m v x).1).2)
  | [], u, x => rfl
  | c :: v, u, x => by rw [List.cons_append, stw_cons, stw_app m v u, stw_cons]; rfl
theorem stw_und {m : Mac} (w : WideM m) (hn : m.2.length ≤ 8) : ∀ {v : S} {x : Int}, AllN m.2.length v → Dg m x → stw m (und v) (stw m v x).1 = (x, und (stw m v x).2)
  | [], x, _, hx => rfl
  | c :: v, x, hv, hx => by
    obtain ⟨h1, h2⟩ := stp_ok w hn hv.hd hx
    rw [und_cons, stw_cons, stw_app, stw_und w hn hv.tail h1]
    dsimp only
    rw [stw_cons, stp_sw w hn hv.hd hx, und_cons]
    rfl
/-- .. a string: the image, the section -/
def mvw (m : Mac) : S → S → S × S
  | [], v => ([], v)
  | c :: z, v => (sgn (stw m v ((c : Int) - 48)).1 :: (mvw m z (stw m v ((c : Int) - 48)).2).1, (mvw m z (stw m v ((c : Int) - 48)).2).2)
theorem mvw_cons (m : Mac) (c : Nat) (z v : S) : mvw m (c :: z) v = (sgn (stw m v ((c : Int) - 48)).1 :: (mvw m z (stw m v ((c : Int) - 48)).2).1, (mvw m z (stw m v ((c : Int) - 48)).2).2) := rfl
theorem dg_of {m : Mac} {c : Nat} (h : 48 ≤ c ∧ (c : Int) < 48 + m.1) : Dg m ((c : Int) - 48) := ⟨by omega, by omega⟩
theorem sgn_dg {m : Mac} {x : Int} (h : Dg m x) : 48 ≤ sgn x ∧ (sgn x : Int) < 48 + m.1 := by unfold sgn; have := h.1; have := h.2; omega
theorem sgn_sub {m : Mac} {x : Int} (h : Dg m x) : ((sgn x : Nat) : Int) - 48 = x := by unfold sgn; have := h.1; omega
theorem sgn_of {c : Nat} (h : 48 ≤ c) : sgn ((c : Int) - 48) = c := by unfold sgn; omega
theorem mvw_ok {m : Mac} (w : WideM m) (hn : m.2.length ≤ 8) : ∀ {z v : S}, DgS m.1 z → AllN m.2.length v → DgS m.1 (mvw m z v).1 ∧ (mvw m z v).1.length = z.length ∧ AllN m.2.length (mvw m z v).2 ∧ (mvw m z v).2.length = v.length
  | [], v, _, hv => ⟨DgS.nil, rfl, hv, rfl⟩
  | c :: z, v, hz, hv => by
    obtain ⟨hc, hz⟩ := DgS.cons.mp hz
    obtain ⟨h1, h2, h3⟩ := stw_ok w hn hv (dg_of hc)
    obtain ⟨g1, g2, g3, g4⟩ := mvw_ok w hn hz h2
    rw [mvw_cons]
    exact ⟨DgS.cons.mpr ⟨sgn_dg h1, g1⟩, by simp [g2], g3, by rw [g4, h3]⟩
theorem mvw_app (m : Mac) : ∀ (z y v : S), mvw m (z ++ y) v = ((mvw m z v).1 ++ (mvw m y (mvw m z v).2).1, (mvw m y (mvw m z v).2).2)
  | [], y, v => rfl
  | c :: z, y, v => by rw [List.cons_append, mvw_cons, mvw_app m z y, mvw_cons]; rfl
theorem mvw_mul {m : Mac} (w : WideM m) (hn : m.2.length ≤ 8) : ∀ {z v u : S}, DgS m.1 z → AllN m.2.length v → mvw m z (v ++ u) = ((mvw m (mvw m z v).1 u).1, (mvw m z v).2 ++ (mvw m (mvw m z v).1 u).2)
  | [], v, u, _, _ => rfl
  | c :: z, v, u, hz, hv => by
    obtain ⟨hc, hz⟩ := DgS.cons.mp hz
    obtain ⟨h1, h2, h3⟩ := stw_ok w hn hv (dg_of hc)
    rw [mvw_cons, stw_app]
    dsimp only
    rw [mvw_mul w hn hz h2, mvw_cons m c z v]
    dsimp only
    rw [mvw_cons, sgn_sub h1]
theorem mvw_und {m : Mac} (w : WideM m) (hn : m.2.length ≤ 8) : ∀ {z v : S}, DgS m.1 z → AllN m.2.length v → mvw m (mvw m z v).1 (und v) = (z, und (mvw m z v).2)
  | [], v, _, _ => rfl
  | c :: z, v, hz, hv => by
    obtain ⟨hc, hz⟩ := DgS.cons.mp hz
    obtain ⟨h1, h2, h3⟩ := stw_ok w hn hv (dg_of hc)
    rw [mvw_cons m c z v]
    dsimp only
    rw [mvw_cons, sgn_sub h1, stw_und w hn hv (dg_of hc)]
    dsimp only
    rw [mvw_und w hn hz h2, sgn_of hc.1]
theorem mvw_inj {m : Mac} (w : WideM m) (hn : m.2.length ≤ 8) {z y v : S} (hz : DgS m.1 z) (hy : DgS m.1 y) (hv : AllN m.2.length v) (h : (mvw m z v).1 = (mvw m y v).1) : z = y := by
  have a := mvw_und w hn hz hv
  have b := mvw_und w hn hy hv
  rw [h] at a
  exact (congrArg Prod.fst a).symm.trans (congrArg Prod.fst b)
/-! ## cutting changes nothing -/
theorem stw_psh {m : Mac} (w : WideM m) (hn : m.2.length ≤ 8) {s : S} {c : Nat} (hs : AllN m.2.length s) (hc : LtN m.2.length c) {x : Int} (hx : Dg m x) :
    (stw m (psh s c).reverse x).1 = (stw m (s.reverse ++ [c]) x).1 ∧ ct (stw m (psh s c).reverse x).2 = ct (stw m (s.reverse ++ [c]) x).2 := by
  cases s with
  | nil => exact ⟨rfl, rfl⟩
  | cons a r =>
    by_cases e : a = sw c
    · rw [show psh (a :: r) c = r from if_pos e, List.reverse_cons, List.append_assoc, stw_app]
      have hr : AllN m.2.length r.reverse := hs.tail.sub fun _ h => List.mem_reverse.mp h
      obtain ⟨h1, h2, _⟩ := stw_ok w hn hr hx
      have ha : LtN m.2.length a := hs.hd
      have hca : c = sw a := by rw [e, sw_sw (hc.lt hn)]
      have e2 : stw m ([a] ++ [c]) (stw m r.reverse x).1 = ((stw m r.reverse x).1, [(stp m a (stw m r.reverse x).1).2, sw (stp m a (stw m r.reverse x).1).2]) := by
        show stw m [a, c] _ = _
        rw [stw_cons, stw_cons, hca, stp_sw w hn ha h1]; rfl
      rw [e2]
      refine ⟨rfl, ?_⟩
      dsimp only
      have hl := (stp_ok w hn ha h1).2.lt hn
      have aa : AllL [(stp m a (stw m r.reverse x).1).2, sw (stp m a (stw m r.reverse x).1).2] := fun d hd => by
        simp only [List.mem_cons, List.not_mem_nil, or_false] at hd
        rcases hd with rfl | rfl
        · exact hl
        · exact sw_lt hl
      rw [ct_app (h2.all hn) aa]
      have : ct [(stp m a (stw m r.reverse x).1).2, sw (stp m a (stw m r.reverse x).1).2] = [] := ct_und0 (w := [(stp m a (stw m r.reverse x).1).2]) (fun d hd => by rw [List.mem_singleton.mp hd]; exact hl)
      rw [this, List.append_nil, ct_ct (h2.all hn)]
    · rw [show psh (a :: r) c = c :: a :: r from if_neg e, List.reverse_cons (a := c)]
      exact ⟨rfl, rfl⟩
theorem pw_allN {n : Nat} {w : S} (h : AllN n w) : AllN n (pw [] w) := fun d hd => (pw_sub hd).elim (fun z => by simp at z) (h d)
theorem stw_ct {m : Mac} (w : WideM m) (hn : m.2.length ≤ 8) {x : Int} (hx : Dg m x) (v : S) : AllN m.2.length v → (stw m (ct v) x).1 = (stw m v x).1 ∧ ct (stw m (ct v) x).2 = ct (stw m v x).2 := by
  refine snoc_ind (P := fun v => AllN m.2.length v → (stw m (ct v) x).1 = (stw m v x).1 ∧ ct (stw m (ct v) x).2 = ct (stw m v x).2) (fun _ => ⟨rfl, rfl⟩) (fun v c ih hv => ?_) v
  have hv' : AllN m.2.length v := hv.sub fun d hd => List.mem_append_left _ hd
  have hc : LtN m.2.length c := hv c (by simp)
  obtain ⟨i1, i2⟩ := ih hv'
  obtain ⟨a1, a2⟩ := stw_psh w hn (pw_allN hv') hc hx
  have e : ct (v ++ [c]) = (psh (pw [] v) c).reverse := by unfold ct; rw [pw_snoc]
  have e2 : (pw [] v).reverse = ct v := rfl
  rw [e, a1, a2, e2]
  obtain ⟨h1, h2, _⟩ := stw_ok w hn hv' hx
  obtain ⟨k1, k2, _⟩ := stw_ok w hn hv'.ct hx
  have hs : AllL (stw m [c] (stw m v x).1).2 := ((stw_ok w hn (AllN.nil.cons hc) h1).2.1).all hn
  rw [stw_app, stw_app m v, i1]
  refine ⟨rfl, ?_⟩
  dsimp only
  rw [ct_app (k2.all hn) hs, i2, ← ct_app (h2.all hn) hs]
theorem mvw_ct {m : Mac} (w : WideM m) (hn : m.2.length ≤ 8) : ∀ {z v u : S}, DgS m.1 z → AllN m.2.length v → AllN m.2.length u → ct u = ct v → (mvw m z u).1 = (mvw m z v).1 ∧ ct (mvw m z u).2 = ct (mvw m z v).2
  | [], v, u, _, _, _, h => ⟨rfl, h⟩
  | c :: z, v, u, hz, hv, hu, h => by
    obtain ⟨hc, hz⟩ := DgS.cons.mp hz
    have hx := dg_of hc
    obtain ⟨a1, a2⟩ := stw_ct w hn hx v hv
    obtain ⟨b1, b2⟩ := stw_ct w hn hx u hu
    rw [h, a1] at b1
    rw [h, a2] at b2
    obtain ⟨i1, i2⟩ := mvw_ct w hn hz (stw_ok w hn hv hx).2.1 (stw_ok w hn hu hx).2.1 b2.symm
    rw [mvw_cons, mvw_cons, ← b1, i1]
    exact ⟨rfl, i2⟩
/-! ## rows, tables -/
def rowL (m : Mac) (c : Nat) : List (Int × S) := (rngL 0 m.1).map fun x => ((stp m c x).1, [(stp m c x).2])
def TabOk (m : Mac) (d : Dct S (List (Int × S))) : Prop := ∀ c, LtN m.2.length c → dget d [c] = some (rowL m c)
theorem rngD_at {k x : Int} (h0 : 0 ≤ x) (h1 : x < k) : (rngL 0 k)[x.toNat]? = some x := by
  have hl : x.toNat < (rngL 0 k).length := by rw [rngL_len]; omega
  rw [List.getElem?_eq_getElem hl]
  have := (rngL_get (List.getElem?_eq_getElem hl)).1
  rw [this]; congr 1; omega
theorem rowL_at {m : Mac} {c : Nat} {x : Int} (hx : Dg m x) : tIdx (rowL m c) x = .ok ((stp m c x).1, [(stp m c x).2]) := by
  refine tIdx_int hx.1 ?_
  unfold rowL
  rw [List.getElem?_map, rngD_at hx.1 hx.2]; rfl
theorem small_at {x : Int} (h0 : 0 ≤ x) (h1 : x < 8) : tIdx ([97, 98, 99, 100, 101, 102, 103, 104] : S) x = .ok (97 + x.toNat) := by
  have : x = 0 ∨ x = 1 ∨ x = 2 ∨ x = 3 ∨ x = 4 ∨ x = 5 ∨ x = 6 ∨ x = 7 := by omega
  rcases this with rfl | rfl | rfl | rfl | rfl | rfl | rfl | rfl <;> exact tIdx_int (by decide) rfl
theorem large_at {x : Int} (h0 : 0 ≤ x) (h1 : x < 8) : tIdx ([65, 66, 67, 68, 69, 70, 71, 72] : S) x = .ok (65 + x.toNat) := by
  have : x = 0 ∨ x = 1 ∨ x = 2 ∨ x = 3 ∨ x = 4 ∨ x = 5 ∨ x = 6 ∨ x = 7 := by omega
  rcases this with rfl | rfl | rfl | rfl | rfl | rfl | rfl | rfl <;> exact tIdx_int (by decide) rfl
/-- the row of a word -/
def rowW (m : Mac) (v : S) : List Int × List S := ((rngL 0 m.1).map fun x => (stw m v x).1, (rngL 0 m.1).map fun x => ct (stw m v x).2)
theorem stw_perm {m : Mac} (w : WideM m) (hn : m.2.length ≤ 8) {v : S} (hv : AllN m.2.length v) : ((rngL 0 m.1).map fun x => (stw m v x).1).Perm (rngL 0 m.1) := by
  have e : ((m.1.toNat : Nat) : Int) = m.1 := by have := w.k0; omega
  rw [← e]
  refine perm_of ?_ (by rw [List.length_map, rngL_len]; omega) fun y hy => ?_
  · rw [List.Nodup, List.pairwise_map]
    refine (List.Pairwise.and_mem.mp (rngL_nodup 0 _)).imp fun {a b} ⟨ha, hb, ne⟩ z => ne ?_
    rw [e] at ha hb
    have ha := rngL_mem.mp ha
    have hb := rngL_mem.mp hb
    have p := stw_und w hn hv (x := a) ha
    have q := stw_und w hn hv (x := b) hb
    rw [z] at p
    exact (congrArg Prod.fst p).symm.trans (congrArg Prod.fst q)
  · obtain ⟨x, hx, rfl⟩ := List.mem_map.mp hy
    rw [e] at hx
    have := (stw_ok w hn hv (x := x) (rngL_mem.mp hx)).1
    rw [e]
    exact ⟨this.1, this.2⟩
end DL

namespace Law
open DL PySem PySem.Spec L2
/-! q_number(q_cell): 0 q_cell -/
def b_q_number : M Fl :=
    sSeq (sIf (eTest (eB cLtG (eVar 0) (eC (.int 0)))) (sRet (eB bSub (eC (.int 0)) (eVar 0))) (sNil))
    (sRet (eVar 0))
def f_q_number : FSem := bodyF 1 none b_q_number
/-! q_draws(q_script): 0 q_script, 1 q_draws_here, 2 q_cell, 3 q_rest, 4 q_k, 5 q_once, 6 q_twice -/
def b_q_draws : M Fl :=
    sSeq (sAsg (eLst (aNil)) (setSl 1))
    (sSeq (sFor (iSeq (eVar 0)) (setSl 2) (sSeq (sAsg (eCall none f_q_number (chkN 1 (aCons (esc (eVar 2)) (aNil)))) (setSl 3))
    (sIf (eTest (eB cGe (eVar 3) (eC (.int 1000000000000000000)))) (sFor (iRng1 (aCons (esc (eC (.int 60))) (aNil))) (setSl 4) (sSeq (sIf (eTest (eB cEq (eVar 3) (eC (.int 0)))) (sBrk) (sNil))
    (sSeq (sExpr (eMut "list" uAppend (eVar 1) (aCons (esc (eB bMod (eCallB fInt (aCons (pk (eVar 3)) (aNil))) (eC (.int 1000)))) (aNil))))
    (sAsg (eB bFdiv (eVar 3) (eC (.int 1000))) (setSl 3))))) (sSeq (sAsg (eB bMod (eCallB fInt (aCons (pk (eB bAdd (eB bMul (eVar 3) (eC (.int 48271))) (eC (.int 11)))) (aNil))) (eC (.int 2147483647))) (setSl 5))
    (sSeq (sAsg (eB bMod (eCallB fInt (aCons (pk (eB bAdd (eB bMul (eVar 5) (eC (.int 69621))) (eVar 3))) (aNil))) (eC (.int 2147483629))) (setSl 6))
    (sExpr (eMut "list" uExtend (eVar 1) (aCons (esc (eLst (aCons (esc (eB bMod (eCallB fInt (aCons (pk (eVar 3)) (aNil))) (eC (.int 1000)))) (aCons (esc (eB bMod (eCallB fInt (aCons (pk (eVar 5)) (aNil))) (eC (.int 1000)))) (aCons (esc (eB bMod (eCallB fInt (aCons (pk (eVar 6)) (aNil))) (eC (.int 1000)))) (aNil)))))) (aNil)))))))))
    (sRet (eVar 1)))
def f_q_draws : FSem := bodyF 7 none b_q_draws
/-! q_next(q_draws_here): 0 q_draws_here -/
def b_q_next : M Fl :=
    sSeq (sIf (eTru (eVar 0)) (sRet (eMut "list" uPop (eVar 0) aNil)) (sNil))
    (sRet (eC (.int 0)))
def f_q_next : FSem := bodyF 1 (some 0) b_q_next
/-! q_arranged(q_draws_here, q_size): 0 q_draws_here, 1 q_size, 2 q_left, 3 q_found, 4 q_k, 5 q_at -/
def b_q_arranged : M Fl :=
    sSeq (sAsg (eU bLrg1 (eVar 1)) (setSl 2))
    (sSeq (sAsg (eLst (aNil)) (setSl 3))
    (sSeq (sFor (iRng1 (aCons (esc (eVar 1)) (aNil))) (setSl 4) (sSeq (sAsg (eB bMod (eCallB fInt (aCons (pk (eCall (some 0) f_q_next (chkN 1 (aCons (eVar 0) (aNil))))) (aNil))) (eCallB fLen (aCons (pk (eVar 2)) (aNil)))) (setSl 5))
    (sSeq (sExpr (eMut "list" uAppend (eVar 3) (aCons (esc (eB ixD (eVar 2) (eVar 5))) (aNil))))
    (sAsg (eB bAdd (eSl (eVar 2) (eNoPart) (ePart (eVar 5))) (eSl (eVar 2) (ePart (eB bAdd (eVar 5) (eC (.int 1)))) (eNoPart))) (setSl 2)))))
    (sRet (eVar 3))))
def f_q_arranged : FSem := bodyF 6 (some 0) b_q_arranged
/-! q_machine(q_draws_here, q_most): 0 q_draws_here, 1 q_most, 2 q_size, 3 q_count, 4 q_directed, 5 q_rows, 6 q_state, 7 q_outs, 8 q_nexts, 9 q_at, 10 q_digit -/
def b_q_machine : M Fl :=
    sSeq (sAsg (eB ixD (eLst (aCons (esc (eC (.int 2))) (aCons (esc (eC (.int 2))) (aCons (esc (eC (.int 2))) (aCons (esc (eC (.int 3))) (aCons (esc (eC (.int 4))) (aNil))))))) (eB bMod (eCallB fInt (aCons (pk (eCall (some 0) f_q_next (chkN 1 (aCons (eVar 0) (aNil))))) (aNil))) (eC (.int 5)))) (setSl 2))
    (sSeq (sAsg (eB bAdd (eC (.int 1)) (eB bMod (eCallB fInt (aCons (pk (eCall (some 0) f_q_next (chkN 1 (aCons (eVar 0) (aNil))))) (aNil))) (eVar 1))) (setSl 3))
    (sSeq (sAsg (eB cEq (eB bMod (eCallB fInt (aCons (pk (eCall (some 0) f_q_next (chkN 1 (aCons (eVar 0) (aNil))))) (aNil))) (eC (.int 2))) (eC (.int 0))) (setSl 4))
    (sSeq (sAsg (eLst (aNil)) (setSl 5))
    (sSeq (sFor (iRng1 (aCons (esc (eVar 3)) (aNil))) (setSl 6) (sSeq (sAsg (eCall (some 0) f_q_arranged (chkN 2 (aCons (eVar 0) (aCons (esc (eVar 2)) (aNil))))) (setSl 7))
    (sSeq (sAsg (eLc (iRng1 (aCons (esc (eVar 2)) (aNil))) (setSl 10) (cYes) (eB bMod (eCallB fInt (aCons (pk (eCall (some 0) f_q_next (chkN 1 (aCons (eVar 0) (aNil))))) (aNil))) (eVar 3)) [10]) (setSl 8))
    (sSeq (sIf (eTru (eVar 4)) (sSeq (sAsg (eB bMod (eCallB fInt (aCons (pk (eCall (some 0) f_q_next (chkN 1 (aCons (eVar 0) (aNil))))) (aNil))) (eVar 2)) (setSl 9))
    (sAsg (eLc (iRng1 (aCons (esc (eVar 2)) (aNil))) (setSl 10) (cYes) (eIf (eTest (eB cEq (eVar 10) (eVar 9))) (eB ixD (eVar 8) (eVar 10)) (eVar 3)) [10]) (setSl 8))) (sNil))
    (sExpr (eMut "list" uAppend (eVar 5) (aCons (esc (eCallB fTuple (aCons (pk (eLc (iRng1 (aCons (esc (eVar 2)) (aNil))) (setSl 10) (cYes) (eTup (aCons (esc (eB ixD (eVar 7) (eVar 10))) (aCons (esc (eB ixD (eVar 8) (eVar 10))) (aNil)))) [10])) (aNil)))) (aNil))))))))
    (sSeq (sIf (eTru (eVar 4)) (sExpr (eMut "list" uAppend (eVar 5) (aCons (esc (eCallB fTuple (aCons (pk (eLc (iRng1 (aCons (esc (eVar 2)) (aNil))) (setSl 10) (cYes) (eTup (aCons (esc (eVar 10)) (aCons (esc (eVar 3)) (aNil)))) [10])) (aNil)))) (aNil)))) (sNil))
    (sRet (eTup (aCons (esc (eVar 2)) (aCons (esc (eCallB fTuple (aCons (pk (eVar 5)) (aNil)))) (aNil))))))))))
def f_q_machine : FSem := bodyF 11 (some 0) b_q_machine
/-! q_word(q_draws_here, q_machine_here, q_most): 0 q_draws_here, 1 q_machine_here, 2 q_most, 3 q_letters, 4 q_k -/
def b_q_word : M Fl :=
    sSeq (sAsg (eSl (eC (.str "aAbBcCdD")) (eNoPart) (ePart (eB bMul (eC (.int 2)) (eCallB fLen (aCons (pk (eB ixD (eVar 1) (eC (.int 1)))) (aNil)))))) (setSl 3))
    (sRet (eMeth "str" mJoin (eC (.str "")) (aCons (pk (eLc (iRng1 (aCons (esc (eB bMod (eCallB fInt (aCons (pk (eCall (some 0) f_q_next (chkN 1 (aCons (eVar 0) (aNil))))) (aNil))) (eB bAdd (eVar 2) (eC (.int 1))))) (aNil))) (setSl 4) (cYes) (eB ixD (eVar 3) (eB bMod (eCallB fInt (aCons (pk (eCall (some 0) f_q_next (chkN 1 (aCons (eVar 0) (aNil))))) (aNil))) (eCallB fLen (aCons (pk (eVar 3)) (aNil))))) [4])) (aNil))))
def f_q_word : FSem := bodyF 5 (some 0) b_q_word
/-! q_string(q_draws_here, q_machine_here, q_most): 0 q_draws_here, 1 q_machine_here, 2 q_most, 3 q_k -/
def b_q_string : M Fl :=
    sRet (eMeth "str" mJoin (eC (.str "")) (aCons (pk (eLc (iRng1 (aCons (esc (eB bMod (eCallB fInt (aCons (pk (eCall (some 0) f_q_next (chkN 1 (aCons (eVar 0) (aNil))))) (aNil))) (eB bAdd (eVar 2) (eC (.int 1))))) (aNil))) (setSl 3) (cYes) (eB ixD (eC (.str "0123")) (eB bMod (eCallB fInt (aCons (pk (eCall (some 0) f_q_next (chkN 1 (aCons (eVar 0) (aNil))))) (aNil))) (eB ixD (eVar 1) (eC (.int 0))))) [3])) (aNil)))
def f_q_string : FSem := bodyF 4 (some 0) b_q_string
/-! _is_row(row, k, count): 0 row, 1 k, 2 count, 3 out, 4 _, 5 following -/
def b__is_row : M Fl :=
    sSeq (sIf (tOrM (eTest (eB cNe (eCallB fLen (aCons (pk (eVar 0)) (aNil))) (eVar 1))) (eTest (eB cNe (eCallB fSortG (aCons (pk (eLc (iSeq (eVar 0)) (gUn 2 (gsCons (setSl 3) (gsCons (setSl 4) (gsNil)))) (cYes) (eVar 3) [3, 4])) (aNil))) (eU bLrg1 (eVar 1))))) (sRet (eC (.bl false))) (sNil))
    (sRet (eCallB fAll (aCons (pk (eLc (iSeq (eVar 0)) (gUn 2 (gsCons (setSl 4) (gsCons (setSl 5) (gsNil)))) (cYes) (eCh cLe cLtG (eC (.int 0)) (eVar 5) (eVar 2)) [4, 5])) (aNil))))
def f__is_row : FSem := bodyF 6 none b__is_row
/-! is_wide(machine): 0 machine, 1 k, 2 rows, 3 row -/
def b_is_wide : M Fl :=
    sSeq (sAsg (eVar 0) (gUn 2 (gsCons (setSl 1) (gsCons (setSl 2) (gsNil)))))
    (sSeq (sIf (tOrM (tNotM (eTest (eCh cLe cLe (eC (.int 2)) (eVar 1) (eC (.int 4))))) (tNotM (eTest (eCh cLe cLe (eC (.int 1)) (eCallB fLen (aCons (pk (eVar 2)) (aNil))) (eC (.int 200)))))) (sRet (eC (.bl false))) (sNil))
    (sRet (eCallB fAll (aCons (pk (eLc (iSeq (eVar 2)) (setSl 3) (cYes) (eCall none f__is_row (chkN 3 (aCons (esc (eVar 3)) (aCons (esc (eVar 1)) (aCons (esc (eCallB fLen (aCons (pk (eVar 2)) (aNil)))) (aNil)))))) [3])) (aNil)))))
def f_is_wide : FSem := bodyF 4 none b_is_wide
/-! is_machine(machine): 0 machine -/
def b_is_machine : M Fl :=
    sRet (vAnd (eB cLe (eCallB fLen (aCons (pk (eB ixD (eVar 0) (eC (.int 1)))) (aNil))) (eC (.int 8))) (eCall none f_is_wide (chkN 1 (aCons (esc (eVar 0)) (aNil)))))
def f_is_machine : FSem := bodyF 1 none b_is_machine
/-! check_machine(machine): 0 machine -/
def b_check_machine : M Fl :=
    sIf (tNotM (eTru (eCall none f_is_machine (chkN 1 (aCons (esc (eVar 0)) (aNil)))))) (sRaise "NotMachine") (sNil)
def f_check_machine : FSem := bodyF 1 none b_check_machine
/-! letters_of(machine): 0 machine -/
def b_letters_of : M Fl :=
    sRet (eSl (eC (.str "aAbBcCdDeEfFgGhH")) (eNoPart) (ePart (eB bMul (eC (.int 2)) (eCallB fLen (aCons (pk (eB ixD (eVar 0) (eC (.int 1)))) (aNil))))))
def f_letters_of : FSem := bodyF 1 none b_letters_of
/-! is_word(machine, word): 0 machine, 1 word, 2 allowed, 3 letter -/
def b_is_word : M Fl :=
    sSeq (sAsg (eCall none f_letters_of (chkN 1 (aCons (esc (eVar 0)) (aNil)))) (setSl 2))
    (sRet (eCallB fAll (aCons (pk (eLc (iSeq (eVar 1)) (setSl 3) (cYes) (eB (cIn false) (eVar 3) (eVar 2)) [3])) (aNil))))
def f_is_word : FSem := bodyF 4 none b_is_word
/-! refuse_word(machine, word): 0 machine, 1 word -/
def b_refuse_word : M Fl :=
    sIf (tOrM (eTest (eB cGt (eCallB fLen (aCons (pk (eVar 1)) (aNil))) (eC (.int 60)))) (tNotM (eTru (eCall none f_is_word (chkN 2 (aCons (esc (eVar 0)) (aCons (esc (eVar 1)) (aNil)))))))) (sRaise "NotWord") (sNil)
def f_refuse_word : FSem := bodyF 2 none b_refuse_word
/-! check_word(machine, word): 0 machine, 1 word -/
def b_check_word : M Fl :=
    sSeq (sExpr (eCall none f_check_machine (chkN 1 (aCons (esc (eVar 0)) (aNil)))))
    (sExpr (eCall none f_refuse_word (chkN 2 (aCons (esc (eVar 0)) (aCons (esc (eVar 1)) (aNil))))))
def f_check_word : FSem := bodyF 2 none b_check_word
/-! has_digits(k, string): 0 k, 1 string, 2 digit -/
def b_has_digits : M Fl :=
    sRet (vAnd (eB cLe (eCallB fLen (aCons (pk (eVar 1)) (aNil))) (eC (.int 60))) (eCallB fAll (aCons (pk (eLc (iSeq (eVar 1)) (setSl 2) (cYes) (eB (cIn false) (eVar 2) (eSl (eC (.str "0123")) (eNoPart) (ePart (eVar 0)))) [2])) (aNil))))
def f_has_digits : FSem := bodyF 3 none b_has_digits
/-! check_string_machines(k, string): 0 k, 1 string -/
def b_check_string_machines : M Fl :=
    sIf (tNotM (eTru (eCall none f_has_digits (chkN 2 (aCons (esc (eVar 0)) (aCons (esc (eVar 1)) (aNil))))))) (sRaise "NotString") (sNil)
def f_check_string_machines : FSem := bodyF 2 none b_check_string_machines
/-! check_string_sections(machine, string): 0 machine, 1 string -/
def b_check_string_sections : M Fl :=
    sExpr (eCall none f_check_string_machines (chkN 2 (aCons (esc (eB ixD (eVar 0) (eC (.int 0)))) (aCons (esc (eVar 1)) (aNil)))))
def f_check_string_sections : FSem := bodyF 2 none b_check_string_sections
/-! Actor_step(self, word, digit): 0 self, 1 word, 2 digit, 3 letters, 4 letter, 5 following -/
def b_Actor_step : M Fl :=
    sSeq (sAsg (eLst (aNil)) (setSl 3))
    (sSeq (sFor (iSeq (eVar 1)) (setSl 4) (sSeq (sAsg (eB ixD (eB ixK (eFld "Actor" "table" (eVar 0)) (eVar 4)) (eVar 2)) (gUn 2 (gsCons (setSl 2) (gsCons (setSl 5) (gsNil)))))
    (sExpr (eMut "list" uAppend (eVar 3) (aCons (esc (eVar 5)) (aNil))))))
    (sRet (eTup (aCons (esc (eVar 2)) (aCons (esc (eMeth "str" mJoin (eC (.str "")) (aCons (pk (eVar 3)) (aNil)))) (aNil))))))
def f_Actor_step : FSem := bodyF 6 none b_Actor_step
/-! Actor_moved(self, word, string): 0 self, 1 word, 2 string, 3 image, 4 sign, 5 digit -/
def b_Actor_moved : M Fl :=
    sSeq (sAsg (eLst (aNil)) (setSl 3))
    (sSeq (sFor (iSeq (eVar 2)) (setSl 4) (sSeq (sAsg (eSelf "Actor" "step" none f_Actor_step (eVar 0) (chkN 2 (aCons (esc (eVar 1)) (aCons (esc (eCallB fInt (aCons (pk (eVar 4)) (aNil)))) (aNil))))) (gUn 2 (gsCons (setSl 5) (gsCons (setSl 1) (gsNil)))))
    (sExpr (eMut "list" uAppend (eVar 3) (aCons (esc (eCallB fStr (aCons (pk (eVar 5)) (aNil)))) (aNil))))))
    (sRet (eTup (aCons (esc (eMeth "str" mJoin (eC (.str "")) (aCons (pk (eVar 3)) (aNil)))) (aCons (esc (eVar 1)) (aNil))))))
def f_Actor_moved : FSem := bodyF 6 none b_Actor_moved
/-! Actor___init__(self, machine): 0 self, 1 machine, 2 state, 3 row, 4 back, 5 digit, 6 out, 7 following -/
def b_Actor___init__ : M Fl :=
    sSeq (sFldD 0 "Actor" "size" (pk (eB ixD (eVar 1) (eC (.int 0)))))
    (sSeq (sSeq (sFldD 0 "Actor" "table" (eNewK)) (sSeal 0))
    (sFor (iEn (aCons (esc (eB ixD (eVar 1) (eC (.int 1)))) (aNil))) (gUn 2 (gsCons (setSl 2) (gsCons (setSl 3) (gsNil)))) (sSeq (sAsg (eB bMul (eLst (aCons (esc (eTup (aCons (esc (eC (.int 0))) (aCons (esc (eC (.str ""))) (aNil))))) (aNil))) (eFld "Actor" "size" (eVar 0))) (setSl 4))
    (sSeq (sFor (iEn (aCons (esc (eVar 3)) (aNil))) (gUn 2 (gsCons (setSl 5) (gsCons (gUn 2 (gsCons (setSl 6) (gsCons (setSl 7) (gsNil)))) (gsNil)))) (sSet stL (eVar 4) (eVar 6) (eTup (aCons (esc (eVar 5)) (aCons (esc (eB ixD (eC (.str "ABCDEFGH")) (eVar 7))) (aNil))))))
    (sSeq (sSet stK (eFld "Actor" "table" (eVar 0)) (eB ixD (eC (.str "abcdefgh")) (eVar 2)) (eLc (iSeq (eVar 3)) (gUn 2 (gsCons (setSl 6) (gsCons (setSl 7) (gsNil)))) (cYes) (eTup (aCons (esc (eVar 6)) (aCons (esc (eB ixD (eC (.str "abcdefgh")) (eVar 7))) (aNil)))) [6, 7]))
    (sSet stK (eFld "Actor" "table" (eVar 0)) (eB ixD (eC (.str "ABCDEFGH")) (eVar 2)) (eVar 4)))))))
def f_Actor___init__ : ISem := bodyI 8 "Actor" b_Actor___init__
/-! moved(machine, word, string): 0 machine, 1 word, 2 string -/
def b_moved : M Fl :=
    sRet (eSelf "Actor" "moved" none f_Actor_moved (pk (eMake f_Actor___init__ (chkN 1 (aCons (esc (eVar 0)) (aNil))))) (chkN 2 (aCons (esc (eVar 1)) (aCons (esc (eVar 2)) (aNil)))))
def f_moved : FSem := bodyF 3 none b_moved
/-! image_of(machine, word, string): 0 machine, 1 word, 2 string -/
def b_image_of : M Fl :=
    sSeq (sExpr (eCall none f_check_word (chkN 2 (aCons (esc (eVar 0)) (aCons (esc (eVar 1)) (aNil))))))
    (sSeq (sExpr (eCall none f_check_string_sections (chkN 2 (aCons (esc (eVar 0)) (aCons (esc (eVar 2)) (aNil))))))
    (sRet (eB ixD (eCall none f_moved (chkN 3 (aCons (esc (eVar 0)) (aCons (esc (eVar 1)) (aCons (esc (eVar 2)) (aNil)))))) (eC (.int 0)))))
def f_image_of : FSem := bodyF 3 none b_image_of
/-! section_of(machine, word, string): 0 machine, 1 word, 2 string -/
def b_section_of : M Fl :=
    sSeq (sExpr (eCall none f_check_word (chkN 2 (aCons (esc (eVar 0)) (aCons (esc (eVar 1)) (aNil))))))
    (sSeq (sExpr (eCall none f_check_string_sections (chkN 2 (aCons (esc (eVar 0)) (aCons (esc (eVar 2)) (aNil))))))
    (sRet (eB ixD (eCall none f_moved (chkN 3 (aCons (esc (eVar 0)) (aCons (esc (eVar 1)) (aCons (esc (eVar 2)) (aNil)))))) (eC (.int 1)))))
def f_section_of : FSem := bodyF 3 none b_section_of
/-! other(letter): 0 letter -/
def b_other : M Fl :=
    sSeq (sIf (eTest (eB (cIn false) (eVar 0) (eC (.str "abcdefgh")))) (sRet (eB ixD (eC (.str "ABCDEFGH")) (eMeth "str" mIndex (eC (.str "abcdefgh")) (aCons (pk (eVar 0)) (aNil))))) (sNil))
    (sRet (eB ixD (eC (.str "abcdefgh")) (eMeth "str" mIndex (eC (.str "ABCDEFGH")) (aCons (pk (eVar 0)) (aNil)))))
def f_other : FSem := bodyF 1 none b_other
/-! undone(word): 0 word, 1 letter -/
def b_undone : M Fl :=
    sRet (eMeth "str" mJoin (eC (.str "")) (aCons (pk (eLc (iSeq (eRevG (eVar 0))) (setSl 1) (cYes) (eCall none f_other (chkN 1 (aCons (esc (eVar 1)) (aNil)))) [1])) (aNil)))
def f_undone : FSem := bodyF 2 none b_undone
/-! undone_word(machine, word): 0 machine, 1 word -/
def b_undone_word : M Fl :=
    sSeq (sExpr (eCall none f_check_word (chkN 2 (aCons (esc (eVar 0)) (aCons (esc (eVar 1)) (aNil))))))
    (sRet (eCall none f_undone (chkN 1 (aCons (esc (eVar 1)) (aNil)))))
def f_undone_word : FSem := bodyF 2 none b_undone_word
/-! cut(word): 0 word, 1 kept, 2 letter -/
def b_cut : M Fl :=
    sSeq (sAsg (eLst (aNil)) (setSl 1))
    (sSeq (sFor (iSeq (eVar 0)) (setSl 2) (sIf (tAndM (eTru (eVar 1)) (eTest (eB cEq (eB ixD (eVar 1) (eU bNeg (eC (.int 1)))) (eCall none f_other (chkN 1 (aCons (esc (eVar 2)) (aNil))))))) (sExpr (eMut "list" uPop (eVar 1) aNil)) (sExpr (eMut "list" uAppend (eVar 1) (aCons (esc (eVar 2)) (aNil))))))
    (sRet (eMeth "str" mJoin (eC (.str "")) (aCons (pk (eVar 1)) (aNil)))))
def f_cut : FSem := bodyF 3 none b_cut
/-! cut_word(machine, word): 0 machine, 1 word -/
def b_cut_word : M Fl :=
    sSeq (sExpr (eCall none f_check_word (chkN 2 (aCons (esc (eVar 0)) (aCons (esc (eVar 1)) (aNil))))))
    (sRet (eCall none f_cut (chkN 1 (aCons (esc (eVar 1)) (aNil)))))
def f_cut_word : FSem := bodyF 2 none b_cut_word
/-! q_read(q_machine_here, q_letter, q_digit): 0 q_machine_here, 1 q_letter, 2 q_digit, 3 q_small, 4 q_out, 5 q_following, 6 q_row, 7 q_source -/
def b_q_read : M Fl :=
    sSeq (sAsg (eMeth "str" mFind (eC (.str "abcdefgh")) (aCons (pk (eVar 1)) (aNil))) (setSl 3))
    (sSeq (sIf (eTest (eB cGe (eVar 3) (eC (.int 0)))) (sSeq (sAsg (eB ixD (eB ixD (eB ixD (eVar 0) (eC (.int 1))) (eVar 3)) (eVar 2)) (gUn 2 (gsCons (setSl 4) (gsCons (setSl 5) (gsNil)))))
    (sRet (pk (eLst (aCons (esc (eVar 4)) (aCons (esc (eB ixD (eC (.str "abcdefgh")) (eVar 5))) (aNil))))))) (sNil))
    (sSeq (sAsg (eB ixD (eB ixD (eVar 0) (eC (.int 1))) (eMeth "str" mIndex (eC (.str "ABCDEFGH")) (aCons (pk (eVar 1)) (aNil)))) (setSl 6))
    (sSeq (sFor (iRng1 (aCons (esc (eCallB fLen (aCons (pk (eVar 6)) (aNil)))) (aNil))) (setSl 7) (sIf (eTest (eB cEq (eB ixD (eB ixD (eVar 6) (eVar 7)) (eC (.int 0))) (eVar 2))) (sRet (pk (eLst (aCons (esc (eVar 7)) (aCons (esc (eB ixD (eC (.str "ABCDEFGH")) (eB ixD (eB ixD (eVar 6) (eVar 7)) (eC (.int 1))))) (aNil)))))) (sNil)))
    (sRet (eC .non)))))
def f_q_read : FSem := bodyF 8 none b_q_read
/-! q_step(q_machine_here, q_word_here, q_digit): 0 q_machine_here, 1 q_word_here, 2 q_digit, 3 q_section, 4 q_letter, 5 q_following -/
def b_q_step : M Fl :=
    sSeq (sAsg (eC (.str "")) (setSl 3))
    (sSeq (sFor (iSeq (eVar 1)) (setSl 4) (sSeq (sAsg (eCall none f_q_read (chkN 3 (aCons (esc (eVar 0)) (aCons (esc (eVar 4)) (aCons (esc (eVar 2)) (aNil)))))) (gUn 2 (gsCons (setSl 2) (gsCons (setSl 5) (gsNil)))))
    (sAsg (eB bAdd (eVar 3) (eVar 5)) (setSl 3))))
    (sRet (pk (eLst (aCons (esc (eVar 2)) (aCons (esc (eVar 3)) (aNil)))))))
def f_q_step : FSem := bodyF 6 none b_q_step
/-! q_moved(q_machine_here, q_word_here, q_string_here): 0 q_machine_here, 1 q_word_here, 2 q_string_here, 3 q_image, 4 q_sign, 5 q_digit -/
def b_q_moved : M Fl :=
    sSeq (sAsg (eC (.str "")) (setSl 3))
    (sSeq (sFor (iSeq (eVar 2)) (setSl 4) (sSeq (sAsg (eCall none f_q_step (chkN 3 (aCons (esc (eVar 0)) (aCons (esc (eVar 1)) (aCons (esc (eCallB fInt (aCons (pk (eVar 4)) (aNil)))) (aNil)))))) (gUn 2 (gsCons (setSl 5) (gsCons (setSl 1) (gsNil)))))
    (sAsg (eB bAdd (eVar 3) (eCallB fStr (aCons (pk (eVar 5)) (aNil)))) (setSl 3))))
    (sRet (pk (eLst (aCons (esc (eVar 3)) (aCons (esc (eVar 1)) (aNil)))))))
def f_q_moved : FSem := bodyF 6 none b_q_moved
/-! law(q_script): 0 q_script, 1 q_draws_here, 2 q_machine_here, 3 q_one, 4 q_two, 5 q_string_here, 6 q_behind, 7 q_image, 8 q_section, 9 q_back, 10 q_cut_here -/
def b_law : M Fl :=
    sSeq (sAsg (eCall none f_q_draws (chkN 1 (aCons (esc (eVar 0)) (aNil)))) (setSl 1))
    (sSeq (sExpr (eMut "list" uReverse (eVar 1) aNil))
    (sSeq (sAsg (eCall (some 0) f_q_machine (chkN 2 (aCons (eVar 1) (aCons (esc (eC (.int 3))) (aNil))))) (setSl 2))
    (sSeq (sAsg (eCall (some 0) f_q_word (chkN 3 (aCons (eVar 1) (aCons (esc (eVar 2)) (aCons (esc (eC (.int 8))) (aNil)))))) (setSl 3))
    (sSeq (sAsg (eCall (some 0) f_q_word (chkN 3 (aCons (eVar 1) (aCons (esc (eVar 2)) (aCons (esc (eC (.int 8))) (aNil)))))) (setSl 4))
    (sSeq (sAsg (eCall (some 0) f_q_string (chkN 3 (aCons (eVar 1) (aCons (esc (eVar 2)) (aCons (esc (eC (.int 6))) (aNil)))))) (setSl 5))
    (sSeq (sAsg (eCall (some 0) f_q_string (chkN 3 (aCons (eVar 1) (aCons (esc (eVar 2)) (aCons (esc (eC (.int 6))) (aNil)))))) (setSl 6))
    (sSeq (sAsg (eCall none f_image_of (chkN 3 (aCons (esc (eVar 2)) (aCons (esc (eVar 3)) (aCons (esc (eVar 5)) (aNil)))))) (setSl 7))
    (sSeq (sAsg (eCall none f_section_of (chkN 3 (aCons (esc (eVar 2)) (aCons (esc (eVar 3)) (aCons (esc (eVar 5)) (aNil)))))) (setSl 8))
    (sSeq (sIf (eTest (eB cNe (eCall none f_image_of (chkN 3 (aCons (esc (eVar 2)) (aCons (esc (eVar 3)) (aCons (esc (eB bAdd (eVar 5) (eVar 6))) (aNil)))))) (eB bAdd (eVar 7) (eCall none f_image_of (chkN 3 (aCons (esc (eVar 2)) (aCons (esc (eVar 8)) (aCons (esc (eVar 6)) (aNil))))))))) (sRet (eC (.bl false))) (sNil))
    (sSeq (sIf (eTest (eB cNe (eCall none f_section_of (chkN 3 (aCons (esc (eVar 2)) (aCons (esc (eVar 3)) (aCons (esc (eB bAdd (eVar 5) (eVar 6))) (aNil)))))) (eCall none f_section_of (chkN 3 (aCons (esc (eVar 2)) (aCons (esc (eVar 8)) (aCons (esc (eVar 6)) (aNil)))))))) (sRet (eC (.bl false))) (sNil))
    (sSeq (sIf (eTest (eB cNe (eCall none f_image_of (chkN 3 (aCons (esc (eVar 2)) (aCons (esc (eB bAdd (eVar 3) (eVar 4))) (aCons (esc (eVar 5)) (aNil)))))) (eCall none f_image_of (chkN 3 (aCons (esc (eVar 2)) (aCons (esc (eVar 4)) (aCons (esc (eVar 7)) (aNil)))))))) (sRet (eC (.bl false))) (sNil))
    (sSeq (sIf (eTest (eB cNe (eCall none f_section_of (chkN 3 (aCons (esc (eVar 2)) (aCons (esc (eB bAdd (eVar 3) (eVar 4))) (aCons (esc (eVar 5)) (aNil)))))) (eB bAdd (eVar 8) (eCall none f_section_of (chkN 3 (aCons (esc (eVar 2)) (aCons (esc (eVar 4)) (aCons (esc (eVar 7)) (aNil))))))))) (sRet (eC (.bl false))) (sNil))
    (sSeq (sAsg (eCall none f_undone_word (chkN 2 (aCons (esc (eVar 2)) (aCons (esc (eVar 3)) (aNil))))) (setSl 9))
    (sSeq (sIf (tOrM (eTest (eB cNe (eCall none f_image_of (chkN 3 (aCons (esc (eVar 2)) (aCons (esc (eVar 9)) (aCons (esc (eVar 7)) (aNil)))))) (eVar 5))) (eTest (eB cNe (eCall none f_section_of (chkN 3 (aCons (esc (eVar 2)) (aCons (esc (eVar 9)) (aCons (esc (eVar 7)) (aNil)))))) (eCall none f_undone_word (chkN 2 (aCons (esc (eVar 2)) (aCons (esc (eVar 8)) (aNil)))))))) (sRet (eC (.bl false))) (sNil))
    (sSeq (sIf (eTest (eB cNe (eCall none f_image_of (chkN 3 (aCons (esc (eVar 2)) (aCons (esc (eCall none f_cut_word (chkN 2 (aCons (esc (eVar 2)) (aCons (esc (eB bAdd (eVar 3) (eVar 4))) (aNil)))))) (aCons (esc (eVar 5)) (aNil)))))) (eCall none f_image_of (chkN 3 (aCons (esc (eVar 2)) (aCons (esc (eB bAdd (eVar 3) (eVar 4))) (aCons (esc (eVar 5)) (aNil)))))))) (sRet (eC (.bl false))) (sNil))
    (sSeq (sAsg (eCall none f_section_of (chkN 3 (aCons (esc (eVar 2)) (aCons (esc (eCall none f_cut_word (chkN 2 (aCons (esc (eVar 2)) (aCons (esc (eVar 3)) (aNil)))))) (aCons (esc (eVar 5)) (aNil)))))) (setSl 10))
    (sSeq (sIf (tOrM (eTest (eB cNe (eCall none f_cut_word (chkN 2 (aCons (esc (eVar 2)) (aCons (esc (eVar 10)) (aNil))))) (eCall none f_cut_word (chkN 2 (aCons (esc (eVar 2)) (aCons (esc (eVar 8)) (aNil))))))) (eTest (eB cNe (eCall none f_section_of (chkN 3 (aCons (esc (eVar 2)) (aCons (esc (eVar 3)) (aCons (esc (eC (.str ""))) (aNil)))))) (eVar 3)))) (sRet (eC (.bl false))) (sNil))
    (sRet (vAnd (eB cEq (eCallB fLen (aCons (pk (eVar 8)) (aNil))) (eCallB fLen (aCons (pk (eVar 3)) (aNil)))) (eB cEq (eLst (aCons (esc (eVar 7)) (aCons (esc (eVar 8)) (aNil)))) (eCall none f_q_moved (chkN 3 (aCons (esc (eVar 2)) (aCons (esc (eVar 3)) (aCons (esc (eVar 5)) (aNil))))))))))))))))))))))))))
def f_law : FSem := bodyF 11 none b_law
end Law

namespace Law
open DL PySem PySem.Spec L2
noncomputable section
abbrev Ty_Actor : Type := Int × (Dct S (List (Int × S)))
abbrev e_Actor : Ty_Actor → D := fun v => .obj "Actor" ([("size", eI v.1), ("table", (eKS (eL (eP eI eS))) v.2)] : List (Str × D))
abbrev fs_Actor : Ty_Actor → Fs := fun v => .fz "size" (eI v.1) (.ow "table" ((oKS (eL (eP eI eS))) v.2) (.nil))
abbrev o_Actor : Ty_Actor → O := fun v => .ob "Actor" (fs_Actor v)
theorem gl_Actor_size (v : Ty_Actor) : ([("size", eI v.1), ("table", (eKS (eL (eP eI eS))) v.2)] : List (Str × D)).lookup ("size" : Str) = some (eI v.1) := by rfl
theorem gf_Actor_size (v : Ty_Actor) : (fs_Actor v).get "size" = some (.inl (eI v.1)) := by rfl
theorem gl_Actor_table (v : Ty_Actor) : ([("size", eI v.1), ("table", (eKS (eL (eP eI eS))) v.2)] : List (Str × D)).lookup ("table" : Str) = some ((eKS (eL (eP eI eS))) v.2) := by rfl
theorem gf_Actor_table (v : Ty_Actor) : (fs_Actor v).get "table" = some (.inr ((oKS (eL (eP eI eS))) v.2)) := by rfl
theorem pf_Actor_table (v : Ty_Actor) (x : (Dct S (List (Int × S)))) : (fs_Actor v).put "table" ((oKS (eL (eP eI eS))) x) = fs_Actor (v.1, x) := by rfl
theorem nl_Actor_step (v : Ty_Actor) : ([("size", eI v.1), ("table", (eKS (eL (eP eI eS))) v.2)] : List (Str × D)).lookup ("step" : Str) = none := by rfl
theorem nf_Actor_step (v : Ty_Actor) : (fs_Actor v).get "step" = none := by rfl
theorem nl_Actor_moved (v : Ty_Actor) : ([("size", eI v.1), ("table", (eKS (eL (eP eI eS))) v.2)] : List (Str × D)).lookup ("moved" : Str) = none := by rfl
theorem nf_Actor_moved (v : Ty_Actor) : (fs_Actor v).get "moved" = none := by rfl
def t_q_number (cell1 : Int) : T Int :=
  if (decide (cell1 < 0)) = true then (.ok (0 - cell1))
  else .ok cell1
theorem r_q_number (cell1 : Int) : RF f_q_number [eI cell1] (t_q_number cell1) (rF eI) := by
  unfold t_q_number f_q_number b_q_number
  exact rf_body rfl (fun _ => rfl)
    (w_last
 (w_sas
 (w_sIf (w_p (px_test (px_B (px_v rfl) (px_c) rfl rfl (po_lt)))
 (w_if
 (w_ret (w_p (px_B (px_c) (px_v rfl) rfl rfl (po_subI))
 (w_retF fun g q => .inl rfl)))
 (w_nilS (w_ret (w_p (px_v rfl)
 (w_retF fun g q => .inl rfl)))))))))

def t_q_draws (script1 : (List Int)) : T (List Int) :=
  tb (tfold script1 ([] : ((List Int))) fun (s28 : ((List Int))) (x2 : Int) =>
  tb (t_q_number x2) fun v29 =>
  tb (if (decide (1000000000000000000 ≤ v29)) = true then (tb (tRng 0 60) fun r38 =>
  tlp (tfor r38 ((s28, v29) : ((List Int) × Int)) fun (s40 : ((List Int) × Int)) (x39 : Int) =>
  if (decide (s40.2 = 0)) = true then (.ok (.bk (s40.1, s40.2)))
  else (tb (tApd s40.1 (s40.2 % 1000)) fun draws_here41 =>
  tb (.ok ((s40.2 / 1000) : Int)) fun rest42 =>
  .ok (.nx (draws_here41, rest42)))) fun s40 =>
  .ok s40.1) else (tb (.ok ((((v29 * 48271) + 11) % 2147483647) : Int)) fun once43 =>
  tb (.ok ((((once43 * 69621) + v29) % 2147483629) : Int)) fun twice44 =>
  tb (tCat s28 [(v29 % 1000), (once43 % 1000), (twice44 % 1000)]) fun draws_here45 =>
  .ok draws_here45) : T ((List Int))) fun s46 =>
  .ok s46) fun s28 =>
  .ok s28
theorem r_q_draws (script1 : (List Int)) : RF f_q_draws [eX script1] (t_q_draws script1) (rL eI) := by
  unfold t_q_draws f_q_draws b_q_draws
  exact rf_body rfl (fun _ => rfl)
    (w_last
 (w_sas
 (w_asg (w_p (px_eAo (px_lst (px_nil) rfl rfl))
 (w_gN (tg_ow rfl)
 (w_sas
 (w_for (w_p (px_iSeq (px_esc (px_v rfl)) (it_X))
 (w_fold (e := eI) (LS := fun s28 : ((List Int)) => [(1, .ow false ((oL eI) s28))]) rfl ⟨rfl, trivial⟩
 (fun s28 x2 => w_gN (tg_fz rfl)
 (w_last
 (w_sas
 (w_asg (w_as (w_as (w_p (px_chkN (px_cons (px_esc (px_v rfl)) (px_nil)) rfl)
 (w_call (r_q_number x2) rfl trivial fun v29 =>
 (w_p px_escA
 (w_gN (tg_fz rfl)
 (w_blk (LS := fun s46 : ((List Int)) => [(1, .ow false ((oL eI) s46))])
 (w_last (w_sIf (w_p (px_test (px_B (px_v rfl) (px_c) rfl rfl (po_ge)))
 (w_if
 (w_for (w_as (w_p (px_cons (px_esc (px_c)) (px_nil))
 (w_rng1 fun r38 =>
 (w_forT (e := eI) (LS := fun s40 : ((List Int) × Int) => [(1, .ow false ((oL eI) s40.1)), (3, .fz (eI s40.2))]) rfl ⟨rfl, rfl, trivial⟩
 (fun s40 x39 => w_gN (tg_fz rfl)
 (w_last
 (w_sas
 (w_sIf (w_p (px_test (px_B (px_v rfl) (px_c) rfl rfl (po_eqI)))
 (w_if
 (w_brk fun g q => ⟨rfl, q.sub ⟨rfl, rfl, trivial⟩⟩)
 (w_nilS (w_sas
 (w_expr (w_as (w_p (px_vo rfl) (w_as (w_p (px_chkT rfl rfl) (w_as (w_p (px_cons (px_esc (px_B (px_callB (px_cons (px_pk (px_v rfl)) (px_nil)) rfl (po_intI)) (px_c) rfl rfl (po_mod (y := 1000)))) (px_nil))
 (w_opMut rfl rfl (om_apd eI (xs := s40.1) (x := (s40.2 % 1000))) rfl fun draws_here41 =>
 (w_asg (w_p (px_eA (px_B (px_v rfl) (px_c) rfl rfl (po_fdiv (y := 1000))))
 (w_letS (f := (rF eI)) rfl fun rest42 =>
  w_gN (tg_fz rfl)
 (w_nil fun g q => ⟨trivial, q.sub ⟨rfl, rfl, trivial⟩⟩))))))))))))))))))))
 (fun s40 => w_nil fun g q => ⟨rfl, q.sub ⟨rfl, trivial⟩⟩))))))
 (w_sas
 (w_asg (w_p (px_eA (px_B (px_callB (px_cons (px_pk (px_B (px_B (px_v rfl) (px_c) rfl rfl (po_mulR (y := 48271))) (px_c) rfl rfl (po_addI))) (px_nil)) rfl (po_intI)) (px_c) rfl rfl (po_mod (y := 2147483647))))
 (w_letS (f := (rF eI)) rfl fun once43 =>
  w_gN (tg_fz rfl)
 (w_sas
 (w_asg (w_p (px_eA (px_B (px_callB (px_cons (px_pk (px_B (px_B (px_v rfl) (px_c) rfl rfl (po_mulR (y := 69621))) (px_v rfl) rfl rfl (po_addI))) (px_nil)) rfl (po_intI)) (px_c) rfl rfl (po_mod (y := 2147483629))))
 (w_letS (f := (rF eI)) rfl fun twice44 =>
  w_gN (tg_fz rfl)
 (w_expr (w_as (w_p (px_vo rfl) (w_as (w_p (px_chkT rfl rfl) (w_as (w_p (px_cons (px_esco (px_lst (px_cons (px_esc (px_B (px_callB (px_cons (px_pk (px_v rfl)) (px_nil)) rfl (po_intI)) (px_c) rfl rfl (po_mod (y := 1000)))) (px_cons (px_esc (px_B (px_callB (px_cons (px_pk (px_v rfl)) (px_nil)) rfl (po_intI)) (px_c) rfl rfl (po_mod (y := 1000)))) (px_cons (px_esc (px_B (px_callB (px_cons (px_pk (px_v rfl)) (px_nil)) rfl (po_intI)) (px_c) rfl rfl (po_mod (y := 1000)))) (px_nil)))) rfl rfl)) (px_nil))
 (w_opMut rfl rfl (om_ext eI (xs := s28) (ys := [(v29 % 1000), (once43 % 1000), (twice44 % 1000)])) rfl fun draws_here45 =>
 (w_nil fun g q => ⟨rfl, q.sub ⟨rfl, trivial⟩⟩)))))))))))))))))))))
 (fun s46 => w_nil fun g q => ⟨trivial, q.sub ⟨rfl, trivial⟩⟩))))))))))))
 (fun s28 => w_ret (w_p (px_vo rfl)
 (w_retA rfl fun g q => .inl rfl))))))))))))

def t_q_next (draws_here1 : (List Int)) : T (Int × (List Int)) :=
  if (!draws_here1.isEmpty) = true then (tb (tPop draws_here1) fun draws_here2 =>
  .ok (draws_here2.2, draws_here2.1))
  else .ok (0, draws_here1)
theorem r_q_next (draws_here1 : (List Int)) : RFL f_q_next 0 ((oL eI) draws_here1) [] (t_q_next draws_here1) (rF eI) (oL eI) := by
  unfold t_q_next f_q_next b_q_next
  exact rf_bodyL rfl rfl (fun _ => rfl)
    (w_last
 (w_sas
 (w_sIf (w_p (px_tru (px_vo rfl) rfl (po_truL eI (xs := draws_here1)))
 (w_if
 (w_ret (w_as (w_p (px_vo rfl) (w_as (w_p (px_chkT rfl rfl) (w_as (w_p px_nil
 (w_opMut rfl rfl (om_pop eI (xs := draws_here1)) rfl fun draws_here2 =>
 (w_retF fun g q => ⟨.inl rfl, q.2 _ _ rfl⟩)))))))))
 (w_nilS (w_ret (w_p (px_c)
 (w_retF fun g q => ⟨.inl rfl, q.2 _ _ rfl⟩)))))))))

def t_q_arranged (draws_here1 : (List Int)) (size2 : Int) : T ((List Int) × (List Int)) :=
  tb (tLrg 0 size2) fun v3 =>
  tb (tRng 0 size2) fun r4 =>
  tb (tfold r4 ((draws_here1, [], v3) : ((List Int) × (List Int) × (List Int))) fun (s12 : ((List Int) × (List Int) × (List Int))) (x5 : Int) =>
  tb (t_q_next s12.1) fun v13 =>
  tb (tMod v13.1 (s12.2.2.length : Int)) fun v14 =>
  tb (tIdx s12.2.2 v14) fun v15 =>
  tb (tApd s12.2.1 v15) fun found16 =>
  tb (tCat (cutL s12.2.2 none (some v14)) (cutL s12.2.2 (some (v14 + 1)) none)) fun v17 =>
  .ok (v13.2, found16, v17)) fun s12 =>
  .ok (s12.2.1, s12.1)
theorem r_q_arranged (draws_here1 : (List Int)) (size2 : Int) : RFL f_q_arranged 0 ((oL eI) draws_here1) [eI size2] (t_q_arranged draws_here1 size2) (rL eI) (oL eI) := by
  unfold t_q_arranged f_q_arranged b_q_arranged
  exact rf_bodyL rfl rfl (fun _ => rfl)
    (w_last
 (w_sas
 (w_asg (w_as (w_as (w_p (px_pk (px_v rfl))
 (w_op1 rfl ot_lrg1 fun v3 =>
 (w_p px_escAo
 (w_gN (tg_ow rfl)
 (w_sas
 (w_asg (w_p (px_eAo (px_lst (px_nil) rfl rfl))
 (w_gN (tg_ow rfl)
 (w_sas
 (w_for (w_as (w_p (px_cons (px_esc (px_v rfl)) (px_nil))
 (w_rng1 fun r4 =>
 (w_fold (e := eI) (LS := fun s12 : ((List Int) × (List Int) × (List Int)) => [(0, .ow true ((oL eI) s12.1)), (3, .ow false ((oL eI) s12.2.1)), (2, .ow false ((oL eI) s12.2.2))]) rfl ⟨rfl, rfl, rfl, trivial⟩
 (fun s12 x5 => w_gN (tg_fz rfl)
 (w_last
 (w_sas
 (w_asg (w_as (w_as (w_as (w_as (w_as (w_as (w_as (w_p (px_chkN (px_consA (px_vo rfl) (px_nil)) rfl)
 (w_callL (r_q_next s12.1) rfl rfl rfl rfl trivial fun v13 =>
 (w_p px_pkRf
 (w_as (w_p px_nil
 (w_p px_push
 (w_p (px_opN rfl (po_intI))
 (w_p px_pkR
 (w_as (w_p (px_pk (px_callB (px_consA (px_pk (px_vo rfl)) (px_nil)) rfl (po_lenL eI (xs := s12.2.2))))
 (w_op2 rfl rfl (ot_mod) fun v14 =>
 (w_p px_escA
 (w_gN (tg_fz rfl)
 (w_sas
 (w_expr (w_as (w_p (px_vo rfl) (w_as (w_p (px_chkT rfl rfl) (w_as (w_as (w_as (w_as (w_p (px_pk (px_vo rfl))
 (w_as (w_p (px_pk (px_v rfl))
 (w_op2 rfl rfl (ot_ixL eI (xs := s12.2.2)) fun v15 =>
 (w_p px_escR
 (w_as (w_p px_nil
 (w_p px_push
 (w_opMut rfl rfl (om_apd eI (xs := s12.2.1) (x := v15)) rfl fun found16 =>
 (w_asg (w_as (w_as (w_p (px_pk (px_slo (px_vo rfl) (px_npart) (px_part (px_v rfl)) rfl (po_slL eI (xs := s12.2.2))))
 (w_as (w_p (px_pk (px_slo (px_vo rfl) (px_part (px_B (px_v rfl) (px_c) rfl rfl (po_addI))) (px_npart) rfl (po_slL eI (xs := s12.2.2))))
 (w_op2 rfl rfl (ot_catL eI (xs := cutL s12.2.2 none (some v14)) (ys := cutL s12.2.2 (some (v14 + 1)) none)) fun v17 =>
 (w_p px_escAo
 (w_gN (tg_ow rfl)
 (w_nil fun g q => ⟨trivial, q.sub ⟨rfl, rfl, rfl, trivial⟩⟩)))))))))))))))))))))))))))))))))))))))))))))))))))))
 (fun s12 => w_ret (w_p (px_vo rfl)
 (w_retA rfl fun g q => ⟨.inl rfl, q.2 _ _ rfl⟩))))))))))))))))))))))

def t_q_machine (draws_here1 : (List Int)) (most2 : Int) : T ((Int × (List (List (Int × Int)))) × (List Int)) :=
  tb (t_q_next draws_here1) fun v3 =>
  tb (tIdx [2, 2, 2, 3, 4] (v3.1 % 5)) fun v4 =>
  tb (t_q_next v3.2) fun v5 =>
  tb (tMod v5.1 most2) fun v6 =>
  tb (.ok ((1 + v6) : Int)) fun count7 =>
  tb (t_q_next v5.2) fun v8 =>
  tb (.ok ((decide ((v8.1 % 2) = 0)) : Bool)) fun directed9 =>
  tb (tRng 0 count7) fun r10 =>
  tb (tfold r10 ((v8.2, []) : ((List Int) × (List (List (Int × Int))))) fun (s45 : ((List Int) × (List (List (Int × Int))))) (x11 : Int) =>
  tb (t_q_arranged s45.1 v4) fun v46 =>
  tb (tRng 0 v4) fun r47 =>
  tb (tMapS r47 (v46.2 : ((List Int))) fun (s52 : ((List Int))) (x48 : Int) =>
  tb (t_q_next s52) fun v53 =>
  tb (tMod v53.1 count7) fun v54 =>
  .ok (v53.2, v54)) fun l51 =>
  tb (if directed9 = true then (tb (t_q_next l51.1) fun v64 =>
  tb (tMod v64.1 v4) fun v65 =>
  tb (tRng 0 v4) fun r66 =>
  tb (tMap r66 fun (x67 : Int) =>
  tb ((if (decide (x67 = v65)) = true then (tb (tIdx l51.2 x67) fun v68 =>
  .ok v68) else (.ok count7) : T Int)) fun v69 =>
  .ok v69) fun l70 =>
  .ok (v64.2, l70)) else (.ok (l51.1, l51.2)) : T ((List Int) × (List Int))) fun s71 =>
  tb (tRng 0 v4) fun r72 =>
  tb (tMap r72 fun (x73 : Int) =>
  tb (tIdx v46.1 x73) fun v74 =>
  tb (tIdx s71.2 x73) fun v75 =>
  .ok (v74, v75)) fun l76 =>
  tb (tApd s45.2 l76) fun rows77 =>
  .ok (s71.1, rows77)) fun s45 =>
  tb (if directed9 = true then (tb (tRng 0 v4) fun r82 =>
  tb (tMap r82 fun (x83 : Int) =>
  .ok (x83, count7)) fun l84 =>
  tb (tApd s45.2 l84) fun rows85 =>
  .ok rows85) else (.ok s45.2) : T ((List (List (Int × Int))))) fun s86 =>
  .ok ((v4, s86), s45.1)
theorem r_q_machine (draws_here1 : (List Int)) (most2 : Int) : RFL f_q_machine 0 ((oL eI) draws_here1) [eI most2] (t_q_machine draws_here1 most2) (rF (eP eI (eT (eT (eP eI eI))))) (oL eI) := by
  unfold t_q_machine f_q_machine b_q_machine
  exact rf_bodyL rfl rfl (fun _ => rfl)
    (w_last
 (w_sas
 (w_asg (w_as (w_as (w_p (px_pk (px_lst (px_cons (px_esc (px_c)) (px_cons (px_esc (px_c)) (px_cons (px_esc (px_c)) (px_cons (px_esc (px_c)) (px_cons (px_esc (px_c)) (px_nil)))))) rfl rfl))
 (w_as (w_as (w_as (w_as (w_as (w_as (w_as (w_as (w_p (px_chkN (px_consA (px_vo rfl) (px_nil)) rfl)
 (w_callL (r_q_next draws_here1) rfl rfl rfl rfl trivial fun v3 =>
 (w_p px_pkRf
 (w_as (w_p px_nil
 (w_p px_push
 (w_p (px_opN rfl (po_intI))
 (w_p px_pkR
 (w_as (w_p (px_pk (px_c))
 (w_p (px_op2 rfl rfl (po_mod (y := 5)))
 (w_p px_pkR
 (w_op2 rfl rfl (ot_ixL eI (xs := [2, 2, 2, 3, 4])) fun v4 =>
 (w_p px_escA
 (w_gN (tg_fz rfl)
 (w_sas
 (w_asg (w_as (w_as (w_p (px_pk (px_c))
 (w_as (w_as (w_as (w_as (w_as (w_as (w_as (w_as (w_p (px_chkN (px_consA (px_vo rfl) (px_nil)) rfl)
 (w_callL (r_q_next v3.2) rfl rfl rfl rfl trivial fun v5 =>
 (w_p px_pkRf
 (w_as (w_p px_nil
 (w_p px_push
 (w_p (px_opN rfl (po_intI))
 (w_p px_pkR
 (w_as (w_p (px_pk (px_v rfl))
 (w_op2 rfl rfl (ot_mod) fun v6 =>
 (w_p px_pkR
 (w_p (px_op2 rfl rfl (po_addI))
 (w_p px_escA
 (w_letS (f := (rF eI)) rfl fun count7 =>
  w_gN (tg_fz rfl)
 (w_sas
 (w_asg (w_as (w_as (w_as (w_as (w_as (w_as (w_as (w_as (w_as (w_p (px_chkN (px_consA (px_vo rfl) (px_nil)) rfl)
 (w_callL (r_q_next v5.2) rfl rfl rfl rfl trivial fun v8 =>
 (w_p px_pkRf
 (w_as (w_p px_nil
 (w_p px_push
 (w_p (px_opN rfl (po_intI))
 (w_p px_pkR
 (w_as (w_p (px_pk (px_c))
 (w_p (px_op2 rfl rfl (po_mod (y := 2)))
 (w_p px_pkR
 (w_as (w_p (px_pk (px_c))
 (w_p (px_op2 rfl rfl (po_eqI))
 (w_p px_escA
 (w_letS (f := (rF eBl)) rfl fun directed9 =>
  w_gN (tg_fz rfl)
 (w_sas
 (w_asg (w_p (px_eAo (px_lst (px_nil) rfl rfl))
 (w_gN (tg_ow rfl)
 (w_sas
 (w_for (w_as (w_p (px_cons (px_esc (px_v rfl)) (px_nil))
 (w_rng1 fun r10 =>
 (w_fold (e := eI) (LS := fun s45 : ((List Int) × (List (List (Int × Int)))) => [(2, .fz (eI v4)), (3, .fz (eI count7)), (4, .fz (eBl directed9)), (0, .ow true ((oL eI) s45.1)), (5, .ow false ((oL (eT (eP eI eI))) s45.2))]) rfl ⟨rfl, rfl, rfl, rfl, rfl, trivial⟩
 (fun s45 x11 => w_gN (tg_fz rfl)
 (w_last
 (w_sas
 (w_asg (w_as (w_as (w_p (px_chkN (px_consA (px_vo rfl) (px_cons (px_esc (px_v rfl)) (px_nil))) rfl)
 (w_callL (r_q_arranged s45.1 v4) rfl rfl rfl rfl trivial fun v46 =>
 (w_p px_escAo
 (w_gN (tg_ow rfl)
 (w_sas
 (w_asg (w_as (w_lcU (w_as (w_p (px_cons (px_esc (px_v rfl)) (px_nil))
 (w_rng1 fun r47 =>
 (w_mapS (e0 := eI) (LS := fun s52 : ((List Int)) => [(2, .fz (eI v4)), (3, .fz (eI count7)), (4, .fz (eBl directed9)), (5, .ow false ((oL (eT (eP eI eI))) s45.2)), (6, .fz (eI x11)), (7, .ow false ((oL eI) v46.1)), (0, .ow true ((oL eI) s52))]) eI rfl ⟨rfl, rfl, rfl, rfl, rfl, rfl, rfl, trivial⟩ (fun _ => rfl) (fun _ => ⟨trivial, trivial⟩)
 (fun s52 x48 => lc_mS (LB := fun s55 : ((List Int)) => [(2, .fz (eI v4)), (3, .fz (eI count7)), (4, .fz (eBl directed9)), (5, .ow false ((oL (eT (eP eI eI))) s45.2)), (6, .fz (eI x11)), (7, .ow false ((oL eI) v46.1)), (0, .ow true ((oL eI) s55))]) (tg_fz rfl) (fun v56 g q => q.rms) (w_as (w_as (w_as (w_as (w_as (w_as (w_p (px_chkN (px_consA (px_vo rfl) (px_nil)) rfl)
 (w_callL (r_q_next s52) rfl rfl rfl rfl trivial fun v53 =>
 (w_p px_pkRf
 (w_as (w_p px_nil
 (w_p px_push
 (w_p (px_opN rfl (po_intI))
 (w_p px_pkR
 (w_as (w_p (px_pk (px_v rfl))
 (w_op2 rfl rfl (ot_mod) fun v54 =>
 (w_endPS (LB := fun s55 : ((List Int)) => [(2, .fz (eI v4)), (3, .fz (eI count7)), (4, .fz (eBl directed9)), (5, .ow false ((oL (eT (eP eI eI))) s45.2)), (6, .fz (eI x11)), (7, .ow false ((oL eI) v46.1)), (0, .ow true ((oL eI) s55))]) (e1 := eI) px_escR rfl ⟨rfl, rfl, rfl, rfl, rfl, rfl, rfl, trivial⟩)))))))))))))))))))
 (fun l51 => w_p px_escAo
 (w_gN (tg_ow rfl)
 (w_sas
 (w_blk (LS := fun s71 : ((List Int) × (List Int)) => [(2, .fz (eI v4)), (3, .fz (eI count7)), (4, .fz (eBl directed9)), (5, .ow false ((oL (eT (eP eI eI))) s45.2)), (7, .ow false ((oL eI) v46.1)), (0, .ow true ((oL eI) s71.1)), (8, .ow false ((oL eI) s71.2))])
 (w_last (w_sIf (w_p (px_tru (px_v rfl) rfl (po_truB))
 (w_if
 (w_sas
 (w_asg (w_as (w_as (w_as (w_as (w_as (w_as (w_as (w_p (px_chkN (px_consA (px_vo rfl) (px_nil)) rfl)
 (w_callL (r_q_next l51.1) rfl rfl rfl rfl trivial fun v64 =>
 (w_p px_pkRf
 (w_as (w_p px_nil
 (w_p px_push
 (w_p (px_opN rfl (po_intI))
 (w_p px_pkR
 (w_as (w_p (px_pk (px_v rfl))
 (w_op2 rfl rfl (ot_mod) fun v65 =>
 (w_p px_escA
 (w_gN (tg_fz rfl)
 (w_asg (w_as (w_lcU (w_as (w_p (px_cons (px_esc (px_v rfl)) (px_nil))
 (w_rng1 fun r66 =>
 (w_map (e0 := eI) eI rfl rfl
 (fun x67 => lc_m (tg_fz rfl) (fun g q => at_rm (q) (rms_no (by decide))) (w_as (w_p (px_test (px_B (px_v rfl) (px_v rfl) rfl rfl (po_eqI)))
 (w_tif (f := rF eI) (LL := fun _ => _) (w_mbmp (w_as (w_p (px_pk (px_vo rfl))
 (w_as (w_p (px_pk (px_v rfl))
 (w_op2 rfl rfl (ot_ixL eI (xs := l51.2)) fun v68 =>
 (w_endR rfl))))))) (w_endP (px_v rfl) rfl) fun v69 =>
 (w_endP px_escR rfl)))))
 (fun l70 => w_p px_escAo
 (w_gN (tg_ow rfl)
 (w_nil fun g q => ⟨rfl, q.sub ⟨rfl, rfl, rfl, rfl, rfl, rfl, rfl, trivial⟩⟩))))))))))))))))))))))))))))))))
 (w_nilS (w_nil fun g q => ⟨rfl, q.sub ⟨rfl, rfl, rfl, rfl, rfl, rfl, rfl, trivial⟩⟩))))))
 (fun s71 => w_expr (w_as (w_p (px_vo rfl) (w_as (w_p (px_chkT rfl rfl) (w_as (w_as (w_as (w_as (w_as (w_as (w_lcU (w_as (w_p (px_cons (px_esc (px_v rfl)) (px_nil))
 (w_rng1 fun r72 =>
 (w_map (e0 := eI) (eP eI eI) rfl rfl
 (fun x73 => lc_m (tg_fz rfl) (fun g q => at_rm (q) (rms_no (by decide))) (w_as (w_as (w_as (w_as (w_p (px_pk (px_vo rfl))
 (w_as (w_p (px_pk (px_v rfl))
 (w_op2 rfl rfl (ot_ixL eI (xs := v46.1)) fun v74 =>
 (w_p px_escR
 (w_as (w_as (w_as (w_as (w_p (px_pk (px_vo rfl))
 (w_as (w_p (px_pk (px_v rfl))
 (w_op2 rfl rfl (ot_ixL eI (xs := s71.2)) fun v75 =>
 (w_p px_escR
 (w_as (w_p px_nil
 (w_p px_push
 (w_p px_push
 (w_p (px_mkTup rfl rfl)
 (w_endP px_escR rfl)))))))))))))))))))))))))
 (fun l76 => w_p px_pkRo
 (w_as (w_p px_nil
 (w_p px_push
 (w_p (px_opN rfl (po_tupL (eP eI eI) (xs := l76)))
 (w_p px_escR
 (w_as (w_p px_nil
 (w_p px_push
 (w_opMut rfl rfl (om_apd (eT (eP eI eI)) (xs := s45.2) (x := l76)) rfl fun rows77 =>
 (w_nil fun g q => ⟨trivial, q.sub ⟨rfl, rfl, rfl, rfl, rfl, trivial⟩⟩)))))))))))))))))))))))))))))))))))))))))))))))))
 (fun s45 => w_sas
 (w_blk (LS := fun s86 : ((List (List (Int × Int)))) => [(2, .fz (eI v4)), (0, .ow true ((oL eI) s45.1)), (5, .ow false ((oL (eT (eP eI eI))) s86))])
 (w_last (w_sIf (w_p (px_tru (px_v rfl) rfl (po_truB))
 (w_if
 (w_expr (w_as (w_p (px_vo rfl) (w_as (w_p (px_chkT rfl rfl) (w_as (w_as (w_as (w_as (w_as (w_as (w_lcU (w_as (w_p (px_cons (px_esc (px_v rfl)) (px_nil))
 (w_rng1 fun r82 =>
 (w_map (e0 := eI) (eP eI eI) rfl rfl
 (fun x83 => lc_m (tg_fz rfl) (fun g q => at_rm (q) (rms_no (by decide))) (w_endP (px_mb (px_tup (px_cons (px_esc (px_v rfl)) (px_cons (px_esc (px_v rfl)) (px_nil))) rfl rfl) px_escR) rfl))
 (fun l84 => w_p px_pkRo
 (w_as (w_p px_nil
 (w_p px_push
 (w_p (px_opN rfl (po_tupL (eP eI eI) (xs := l84)))
 (w_p px_escR
 (w_as (w_p px_nil
 (w_p px_push
 (w_opMut rfl rfl (om_apd (eT (eP eI eI)) (xs := s45.2) (x := l84)) rfl fun rows85 =>
 (w_nil fun g q => ⟨rfl, q.sub ⟨rfl, rfl, rfl, trivial⟩⟩)))))))))))))))))))))))))))
 (w_nilS (w_nil fun g q => ⟨rfl, q.sub ⟨rfl, rfl, rfl, trivial⟩⟩))))))
 (fun s86 => w_ret (w_p (px_tup (px_cons (px_esc (px_v rfl)) (px_cons (px_esc (px_callB (px_consA (px_pk (px_vo rfl)) (px_nil)) rfl (po_tupL (eT (eP eI eI)) (xs := s86)))) (px_nil))) rfl rfl)
 (w_retF fun g q => ⟨.inl rfl, q.2 _ _ rfl⟩))))))))))))))))))))))))))))))))))))))))))))))))))))))))))))))))))))))))))))))))))))))))))))))))))))

def t_q_word (draws_here1 : (List Int)) (machine_here2 : (Int × (List (List (Int × Int))))) (most3 : Int) : T (S × (List Int)) :=
  tb (.ok (cutL [97, 65, 98, 66, 99, 67, 100, 68] none (some (2 * (machine_here2.2.length : Int))) : S)) fun letters4 =>
  tb (t_q_next draws_here1) fun v5 =>
  tb (tMod v5.1 (most3 + 1)) fun v6 =>
  tb (tRng 0 v6) fun r7 =>
  tb (tMapS r7 (v5.2 : ((List Int))) fun (s13 : ((List Int))) (x8 : Int) =>
  tb (t_q_next s13) fun v14 =>
  tb (tMod v14.1 (letters4.length : Int)) fun v15 =>
  tb (tIdx letters4 v15) fun v16 =>
  .ok (v14.2, v16)) fun l12 =>
  tb (tJoin ([] : S) (l12.2.map fun c => [c])) fun v19 =>
  .ok (v19, l12.1)
theorem r_q_word (draws_here1 : (List Int)) (machine_here2 : (Int × (List (List (Int × Int))))) (most3 : Int) : RFL f_q_word 0 ((oL eI) draws_here1) [(eP eI (eT (eT (eP eI eI)))) machine_here2, eI most3] (t_q_word draws_here1 machine_here2 most3) (rF eS) (oL eI) := by
  unfold t_q_word f_q_word b_q_word
  exact rf_bodyL rfl rfl (fun _ => rfl)
    (w_last
 (w_sas
 (w_asg (w_p (px_eA (px_sl (px_cs (y := [97, 65, 98, 66, 99, 67, 100, 68])) (px_npart) (px_part (px_B (px_c) (px_callB (px_cons (px_pk (px_B (px_v rfl) (px_c) rfl rfl (po_ix2b eI (eT (eT (eP eI eI))) (p := machine_here2)))) (px_nil)) rfl (po_lenT (eT (eP eI eI)) (xs := machine_here2.2))) rfl rfl (po_mulL (x := 2)))) rfl (po_slS (s := [97, 65, 98, 66, 99, 67, 100, 68]))))
 (w_letS (f := (rF eS)) rfl fun letters4 =>
  w_gN (tg_fz rfl)
 (w_ret (w_as (w_p (px_pk (px_cs (y := [])))
 (w_as (w_p (px_chkT rfl rfl) (w_as (w_as (w_as (w_lcU (w_as (w_as (w_as (w_as (w_as (w_as (w_as (w_as (w_as (w_p (px_chkN (px_consA (px_vo rfl) (px_nil)) rfl)
 (w_callL (r_q_next draws_here1) rfl rfl rfl rfl trivial fun v5 =>
 (w_p px_pkRf
 (w_as (w_p px_nil
 (w_p px_push
 (w_p (px_opN rfl (po_intI))
 (w_p px_pkR
 (w_as (w_p (px_pk (px_B (px_v rfl) (px_c) rfl rfl (po_addI)))
 (w_op2 rfl rfl (ot_mod) fun v6 =>
 (w_p px_escR
 (w_as (w_p px_nil
 (w_p px_push
 (w_rng1 fun r7 =>
 (w_mapS (e0 := eI) (LS := fun s13 : ((List Int)) => [(1, .fz ((eP eI (eT (eT (eP eI eI)))) machine_here2)), (2, .fz (eI most3)), (3, .fz (eS letters4)), (0, .ow true ((oL eI) s13))]) eGl rfl ⟨rfl, rfl, rfl, rfl, trivial⟩ (fun _ => rfl) (fun _ => ⟨trivial, trivial⟩)
 (fun s13 x8 => lc_mS (LB := fun s17 : ((List Int)) => [(1, .fz ((eP eI (eT (eT (eP eI eI)))) machine_here2)), (2, .fz (eI most3)), (3, .fz (eS letters4)), (0, .ow true ((oL eI) s17))]) (tg_fz rfl) (fun v18 g q => q.rms) (w_as (w_p (px_pk (px_v rfl))
 (w_as (w_as (w_as (w_as (w_as (w_as (w_as (w_as (w_p (px_chkN (px_consA (px_vo rfl) (px_nil)) rfl)
 (w_callL (r_q_next s13) rfl rfl rfl rfl trivial fun v14 =>
 (w_p px_pkRf
 (w_as (w_p px_nil
 (w_p px_push
 (w_p (px_opN rfl (po_intI))
 (w_p px_pkR
 (w_as (w_p (px_pk (px_callB (px_cons (px_pk (px_v rfl)) (px_nil)) rfl (po_lenS (s := letters4))))
 (w_op2 rfl rfl (ot_mod) fun v15 =>
 (w_p px_pkR
 (w_op2 rfl rfl (ot_ixS (s := letters4)) fun v16 =>
 (w_endPS (LB := fun s17 : ((List Int)) => [(1, .fz ((eP eI (eT (eT (eP eI eI)))) machine_here2)), (2, .fz (eI most3)), (3, .fz (eS letters4)), (0, .ow true ((oL eI) s17))]) (e1 := eGl) px_escR rfl ⟨rfl, rfl, rfl, rfl, trivial⟩)))))))))))))))))))))))))
 (fun l12 => w_p px_pkRo
 (w_as (w_p px_nil
 (w_p px_push
 (w_opM rfl rfl (ot_joinCL (s := ([] : S)) (xs := l12.2)) fun v19 =>
 (w_retF fun g q => ⟨.inl rfl, q.2 _ _ rfl⟩))))))))))))))))))))))))))))))))))))))))))))))

def t_q_string (draws_here1 : (List Int)) (machine_here2 : (Int × (List (List (Int × Int))))) (most3 : Int) : T (S × (List Int)) :=
  tb (t_q_next draws_here1) fun v4 =>
  tb (tMod v4.1 (most3 + 1)) fun v5 =>
  tb (tRng 0 v5) fun r6 =>
  tb (tMapS r6 (v4.2 : ((List Int))) fun (s12 : ((List Int))) (x7 : Int) =>
  tb (t_q_next s12) fun v13 =>
  tb (tMod v13.1 machine_here2.1) fun v14 =>
  tb (tIdx [48, 49, 50, 51] v14) fun v15 =>
  .ok (v13.2, v15)) fun l11 =>
  tb (tJoin ([] : S) (l11.2.map fun c => [c])) fun v18 =>
  .ok (v18, l11.1)
theorem r_q_string (draws_here1 : (List Int)) (machine_here2 : (Int × (List (List (Int × Int))))) (most3 : Int) : RFL f_q_string 0 ((oL eI) draws_here1) [(eP eI (eT (eT (eP eI eI)))) machine_here2, eI most3] (t_q_string draws_here1 machine_here2 most3) (rF eS) (oL eI) := by
  unfold t_q_string f_q_string b_q_string
  exact rf_bodyL rfl rfl (fun _ => rfl)
    (w_last
 (w_ret (w_as (w_p (px_pk (px_cs (y := [])))
 (w_as (w_p (px_chkT rfl rfl) (w_as (w_as (w_as (w_lcU (w_as (w_as (w_as (w_as (w_as (w_as (w_as (w_as (w_as (w_p (px_chkN (px_consA (px_vo rfl) (px_nil)) rfl)
 (w_callL (r_q_next draws_here1) rfl rfl rfl rfl trivial fun v4 =>
 (w_p px_pkRf
 (w_as (w_p px_nil
 (w_p px_push
 (w_p (px_opN rfl (po_intI))
 (w_p px_pkR
 (w_as (w_p (px_pk (px_B (px_v rfl) (px_c) rfl rfl (po_addI)))
 (w_op2 rfl rfl (ot_mod) fun v5 =>
 (w_p px_escR
 (w_as (w_p px_nil
 (w_p px_push
 (w_rng1 fun r6 =>
 (w_mapS (e0 := eI) (LS := fun s12 : ((List Int)) => [(1, .fz ((eP eI (eT (eT (eP eI eI)))) machine_here2)), (2, .fz (eI most3)), (0, .ow true ((oL eI) s12))]) eGl rfl ⟨rfl, rfl, rfl, trivial⟩ (fun _ => rfl) (fun _ => ⟨trivial, trivial⟩)
 (fun s12 x7 => lc_mS (LB := fun s16 : ((List Int)) => [(1, .fz ((eP eI (eT (eT (eP eI eI)))) machine_here2)), (2, .fz (eI most3)), (0, .ow true ((oL eI) s16))]) (tg_fz rfl) (fun v17 g q => q.rms) (w_as (w_p (px_pk (px_cs (y := [48, 49, 50, 51])))
 (w_as (w_as (w_as (w_as (w_as (w_as (w_as (w_as (w_p (px_chkN (px_consA (px_vo rfl) (px_nil)) rfl)
 (w_callL (r_q_next s12) rfl rfl rfl rfl trivial fun v13 =>
 (w_p px_pkRf
 (w_as (w_p px_nil
 (w_p px_push
 (w_p (px_opN rfl (po_intI))
 (w_p px_pkR
 (w_as (w_p (px_pk (px_B (px_v rfl) (px_c) rfl rfl (po_ix2a eI (eT (eT (eP eI eI))) (p := machine_here2))))
 (w_op2 rfl rfl (ot_mod) fun v14 =>
 (w_p px_pkR
 (w_op2 rfl rfl (ot_ixS (s := [48, 49, 50, 51])) fun v15 =>
 (w_endPS (LB := fun s16 : ((List Int)) => [(1, .fz ((eP eI (eT (eT (eP eI eI)))) machine_here2)), (2, .fz (eI most3)), (0, .ow true ((oL eI) s16))]) (e1 := eGl) px_escR rfl ⟨rfl, rfl, rfl, trivial⟩)))))))))))))))))))))))))
 (fun l11 => w_p px_pkRo
 (w_as (w_p px_nil
 (w_p px_push
 (w_opM rfl rfl (ot_joinCL (s := ([] : S)) (xs := l11.2)) fun v18 =>
 (w_retF fun g q => ⟨.inl rfl, q.2 _ _ rfl⟩))))))))))))))))))))))))))))))))))))))))))

def t__is_row (row1 : (List (Int × Int))) (k2 : Int) (count3 : Int) : T Bool :=
  tb ((if (!decide ((row1.length : Int) = k2)) = true then .ok true else (tb (tMap row1 fun (x4 : (Int × Int)) =>
  .ok x4.1) fun l5 =>
  tb (tLrg 0 k2) fun v6 =>
  tb (tNeE (eL eI) (srt l5) v6) fun v7 =>
  .ok v7) : T Bool)) fun v8 =>
  if v8 = true then (.ok false)
  else (tb (tMap row1 fun (x9 : (Int × Int)) =>
  .ok ((decide (0 ≤ x9.2)) && (decide (x9.2 < count3)))) fun l10 =>
  .ok (l10.all id))
theorem r__is_row (row1 : (List (Int × Int))) (k2 : Int) (count3 : Int) : RF f__is_row [(eT (eP eI eI)) row1, eI k2, eI count3] (t__is_row row1 k2 count3) (rF eBl) := by
  unfold t__is_row f__is_row b__is_row
  exact rf_body rfl (fun _ => rfl)
    (w_last
 (w_sas
 (w_sIf (w_tOr (px_test (px_B (px_callB (px_cons (px_pk (px_v rfl)) (px_nil)) rfl (po_lenT (eP eI eI) (xs := row1))) (px_v rfl) rfl rfl (po_neI))) (w_mbmp (w_as (w_as (w_as (w_as (w_as (w_as (w_lcU (w_p (px_iSeq (px_esc (px_v rfl)) (it_T (eP eI eI) (xs := row1)))
 (w_map (e0 := (eP eI eI)) eI rfl rfl
 (fun x4 => lc_m (tg_un rfl (tg_cons (tg_fz rfl) (tg_cons (tg_fz rfl) (tg_nil)))) (fun g q => at_rm (at_rm (q) (lk_cons_no rfl (rms_no (by decide)))) (rms_no (by decide))) (w_endP (px_mb (px_v rfl) px_escR) rfl))
 (fun l5 => w_p px_pkRo
 (w_as (w_p px_nil
 (w_p px_push
 (w_p (px_opN rfl (po_sortI (xs := l5)))
 (w_p px_pkR
 (w_as (w_as (w_as (w_p (px_pk (px_v rfl))
 (w_op1 rfl ot_lrg1 fun v6 =>
 (w_p px_pkR
 (w_op2 rfl rfl (ot_neE (eL eI) (a := srt l5) (b := v6)) fun v7 =>
 (w_p px_toB
 (w_endM))))))))))))))))))))))))) fun v8 =>
 (w_if
 (w_ret (w_p (px_c)
 (w_retF fun g q => .inl rfl)))
 (w_nilS (w_ret (w_as (w_as (w_as (w_lcU (w_p (px_iSeq (px_esc (px_v rfl)) (it_T (eP eI eI) (xs := row1)))
 (w_map (e0 := (eP eI eI)) eBl rfl rfl
 (fun x9 => lc_m (tg_un rfl (tg_cons (tg_fz rfl) (tg_cons (tg_fz rfl) (tg_nil)))) (fun g q => at_rm (at_rm (q) (lk_cons_no rfl (rms_no (by decide)))) (rms_no (by decide))) (w_endP (px_mb (px_ch (px_c) (px_v rfl) (px_v rfl) rfl rfl rfl (po_le) (po_lt)) px_escR) rfl))
 (fun l10 => w_p px_pkRo
 (w_as (w_p px_nil
 (w_p px_push
 (w_p (px_opN rfl (po_all (xs := l10)))
 (w_retF fun g q => .inl rfl)))))))))))))))))))

def t_is_wide (machine1 : (Int × (List (List (Int × Int))))) : T Bool :=
  if ((!((decide (2 ≤ machine1.1)) && (decide (machine1.1 ≤ 4)))) || (!((decide (1 ≤ (machine1.2.length : Int))) && (decide ((machine1.2.length : Int) ≤ 200))))) = true then (.ok false)
  else (tb (tMap machine1.2 fun (x2 : (List (Int × Int))) =>
  tb (t__is_row x2 machine1.1 (machine1.2.length : Int)) fun v3 =>
  .ok v3) fun l4 =>
  .ok (l4.all id))
theorem r_is_wide (machine1 : (Int × (List (List (Int × Int))))) : RF f_is_wide [(eP eI (eT (eT (eP eI eI)))) machine1] (t_is_wide machine1) (rF eBl) := by
  unfold t_is_wide f_is_wide b_is_wide
  exact rf_body rfl (fun _ => rfl)
    (w_last
 (w_sas
 (w_asg (w_p (px_eA (px_v rfl))
 (w_gN (tg_un rfl (tg_cons (tg_fz rfl) (tg_cons (tg_fz rfl) (tg_nil))))
 (w_sas
 (w_sIf (w_p (px_tOr (px_tNot (px_test (px_ch (px_c) (px_v rfl) (px_c) rfl rfl rfl (po_le) (po_le)))) (px_tNot (px_test (px_ch (px_c) (px_callB (px_cons (px_pk (px_v rfl)) (px_nil)) rfl (po_lenT (eT (eP eI eI)) (xs := machine1.2))) (px_c) rfl rfl rfl (po_le) (po_le)))))
 (w_if
 (w_ret (w_p (px_c)
 (w_retF fun g q => .inl rfl)))
 (w_nilS (w_ret (w_as (w_as (w_as (w_lcU (w_p (px_iSeq (px_esc (px_v rfl)) (it_T (eT (eP eI eI)) (xs := machine1.2)))
 (w_map (e0 := (eT (eP eI eI))) eBl rfl rfl
 (fun x2 => lc_m (tg_fz rfl) (fun g q => at_rm (q) (rms_no (by decide))) (w_as (w_p (px_chkN (px_cons (px_esc (px_v rfl)) (px_cons (px_esc (px_v rfl)) (px_cons (px_esc (px_callB (px_cons (px_pk (px_v rfl)) (px_nil)) rfl (po_lenT (eT (eP eI eI)) (xs := machine1.2)))) (px_nil)))) rfl)
 (w_call (r__is_row x2 machine1.1 (machine1.2.length : Int)) rfl trivial fun v3 =>
 (w_endP px_escR rfl)))))
 (fun l4 => w_p px_pkRo
 (w_as (w_p px_nil
 (w_p px_push
 (w_p (px_opN rfl (po_all (xs := l4)))
 (w_retF fun g q => .inl rfl)))))))))))))))))))))))

def t_is_machine (machine1 : (Int × (List (List (Int × Int))))) : T Bool :=
  tb ((if (decide ((machine1.2.length : Int) ≤ 8)) = true then (tb (t_is_wide machine1) fun v2 =>
  .ok v2) else .ok false : T Bool)) fun v3 =>
  .ok v3
theorem r_is_machine (machine1 : (Int × (List (List (Int × Int))))) : RF f_is_machine [(eP eI (eT (eT (eP eI eI)))) machine1] (t_is_machine machine1) (rF eBl) := by
  unfold t_is_machine f_is_machine b_is_machine
  exact rf_body rfl (fun _ => rfl)
    (w_last
 (w_ret (w_vAnd (w_p (px_B (px_callB (px_cons (px_pk (px_B (px_v rfl) (px_c) rfl rfl (po_ix2b eI (eT (eT (eP eI eI))) (p := machine1)))) (px_nil)) rfl (po_lenT (eT (eP eI eI)) (xs := machine1.2))) (px_c) rfl rfl (po_le))
 (w_p px_toB (w_tif (f := rF eBl) (LL := fun _ => _) (w_mbmp (w_as (w_p (px_chkN (px_cons (px_esc (px_v rfl)) (px_nil)) rfl)
 (w_call (r_is_wide machine1) rfl trivial fun v2 =>
 (w_endR rfl))))) (w_endP px_c rfl) fun v3 =>
 (w_retF fun g q => .inl rfl)))))))

def t_check_machine (machine1 : (Int × (List (List (Int × Int))))) : T Unit :=
  tb (t_is_machine machine1) fun v2 =>
  if (!v2) = true then (.ex ⟨"NotMachine", []⟩)
  else .ok ()
theorem r_check_machine (machine1 : (Int × (List (List (Int × Int))))) : RF f_check_machine [(eP eI (eT (eT (eP eI eI)))) machine1] (t_check_machine machine1) (rF eN) := by
  unfold t_check_machine f_check_machine b_check_machine
  exact rf_body rfl (fun _ => rfl)
    (w_last
 (w_sIf (w_tNot (w_as (w_as (w_as (w_p (px_chkN (px_cons (px_esc (px_v rfl)) (px_nil)) rfl)
 (w_call (r_is_machine machine1) rfl trivial fun v2 =>
 (w_p px_pkR
 (w_p (px_toTru rfl (po_truB))
 (w_if
 (w_raise trivial)
 (w_nilS (w_nil fun g q => .inr ⟨rfl, rfl⟩)))))))))))))

def t_letters_of (machine1 : (Int × (List (List (Int × Int))))) : T S :=
  .ok (cutL [97, 65, 98, 66, 99, 67, 100, 68, 101, 69, 102, 70, 103, 71, 104, 72] none (some (2 * (machine1.2.length : Int))))
theorem r_letters_of (machine1 : (Int × (List (List (Int × Int))))) : RF f_letters_of [(eP eI (eT (eT (eP eI eI)))) machine1] (t_letters_of machine1) (rF eS) := by
  unfold t_letters_of f_letters_of b_letters_of
  exact rf_body rfl (fun _ => rfl)
    (w_last
 (w_ret (w_p (px_sl (px_cs (y := [97, 65, 98, 66, 99, 67, 100, 68, 101, 69, 102, 70, 103, 71, 104, 72])) (px_npart) (px_part (px_B (px_c) (px_callB (px_cons (px_pk (px_B (px_v rfl) (px_c) rfl rfl (po_ix2b eI (eT (eT (eP eI eI))) (p := machine1)))) (px_nil)) rfl (po_lenT (eT (eP eI eI)) (xs := machine1.2))) rfl rfl (po_mulL (x := 2)))) rfl (po_slS (s := [97, 65, 98, 66, 99, 67, 100, 68, 101, 69, 102, 70, 103, 71, 104, 72])))
 (w_retF fun g q => .inl rfl))))

def t_is_word (machine1 : (Int × (List (List (Int × Int))))) (word2 : S) : T Bool :=
  tb (t_letters_of machine1) fun v3 =>
  tb (tMap word2 fun (x4 : Nat) =>
  .ok (decide (x4 ∈ (v3 : S)))) fun l5 =>
  .ok (l5.all id)
theorem r_is_word (machine1 : (Int × (List (List (Int × Int))))) (word2 : S) : RF f_is_word [(eP eI (eT (eT (eP eI eI)))) machine1, eS word2] (t_is_word machine1 word2) (rF eBl) := by
  unfold t_is_word f_is_word b_is_word
  exact rf_body rfl (fun _ => rfl)
    (w_last
 (w_sas
 (w_asg (w_as (w_as (w_p (px_chkN (px_cons (px_esc (px_v rfl)) (px_nil)) rfl)
 (w_call (r_letters_of machine1) rfl trivial fun v3 =>
 (w_p px_escA
 (w_gN (tg_fz rfl)
 (w_ret (w_as (w_as (w_as (w_lcU (w_p (px_iSeq (px_esc (px_v rfl)) (it_S (s := word2)))
 (w_map (e0 := eGl) eBl rfl rfl
 (fun x4 => lc_m (tg_fz rfl) (fun g q => at_rm (q) (rms_no (by decide))) (w_endP (px_mb (px_B (px_v rfl) (px_v rfl) rfl rfl (po_inC (c := x4) (t := v3))) px_escR) rfl))
 (fun l5 => w_p px_pkRo
 (w_as (w_p px_nil
 (w_p px_push
 (w_p (px_opN rfl (po_all (xs := l5)))
 (w_retF fun g q => .inl rfl))))))))))))))))))))))

def t_refuse_word (machine1 : (Int × (List (List (Int × Int))))) (word2 : S) : T Unit :=
  tb ((if (decide (60 < (word2.length : Int))) = true then .ok true else (tb (t_is_word machine1 word2) fun v3 =>
  .ok (!v3)) : T Bool)) fun v4 =>
  if v4 = true then (.ex ⟨"NotWord", []⟩)
  else .ok ()
theorem r_refuse_word (machine1 : (Int × (List (List (Int × Int))))) (word2 : S) : RF f_refuse_word [(eP eI (eT (eT (eP eI eI)))) machine1, eS word2] (t_refuse_word machine1 word2) (rF eN) := by
  unfold t_refuse_word f_refuse_word b_refuse_word
  exact rf_body rfl (fun _ => rfl)
    (w_last
 (w_sIf (w_tOr (px_test (px_B (px_callB (px_cons (px_pk (px_v rfl)) (px_nil)) rfl (po_lenS (s := word2))) (px_c) rfl rfl (po_gt))) (w_mbmp (w_tNot (w_as (w_as (w_as (w_p (px_chkN (px_cons (px_esc (px_v rfl)) (px_cons (px_esc (px_v rfl)) (px_nil))) rfl)
 (w_call (r_is_word machine1 word2) rfl trivial fun v3 =>
 (w_p px_pkR
 (w_p (px_toTru rfl (po_truB))
 (w_endM)))))))))) fun v4 =>
 (w_if
 (w_raise trivial)
 (w_nilS (w_nil fun g q => .inr ⟨rfl, rfl⟩))))))

def t_check_word (machine1 : (Int × (List (List (Int × Int))))) (word2 : S) : T Unit :=
  tb (t_check_machine machine1) fun v3 =>
  tb (t_refuse_word machine1 word2) fun v4 =>
  .ok ()
theorem r_check_word (machine1 : (Int × (List (List (Int × Int))))) (word2 : S) : RF f_check_word [(eP eI (eT (eT (eP eI eI)))) machine1, eS word2] (t_check_word machine1 word2) (rF eN) := by
  unfold t_check_word f_check_word b_check_word
  exact rf_body rfl (fun _ => rfl)
    (w_last
 (w_sas
 (w_expr (w_as (w_p (px_chkN (px_cons (px_esc (px_v rfl)) (px_nil)) rfl)
 (w_call (r_check_machine machine1) rfl trivial fun v3 =>
 (w_expr (w_as (w_p (px_chkN (px_cons (px_esc (px_v rfl)) (px_cons (px_esc (px_v rfl)) (px_nil))) rfl)
 (w_call (r_refuse_word machine1 word2) rfl trivial fun v4 =>
 (w_nil fun g q => .inr ⟨rfl, rfl⟩)))))))))))

def t_has_digits (k1 : Int) (string2 : S) : T Bool :=
  tb ((if (decide ((string2.length : Int) ≤ 60)) = true then (tb (tMap string2 fun (x3 : Nat) =>
  .ok (decide (x3 ∈ (cutL [48, 49, 50, 51] none (some k1) : S)))) fun l4 =>
  .ok (l4.all id)) else .ok false : T Bool)) fun v5 =>
  .ok v5
theorem r_has_digits (k1 : Int) (string2 : S) : RF f_has_digits [eI k1, eS string2] (t_has_digits k1 string2) (rF eBl) := by
  unfold t_has_digits f_has_digits b_has_digits
  exact rf_body rfl (fun _ => rfl)
    (w_last
 (w_ret (w_vAnd (w_p (px_B (px_callB (px_cons (px_pk (px_v rfl)) (px_nil)) rfl (po_lenS (s := string2))) (px_c) rfl rfl (po_le))
 (w_p px_toB (w_tif (f := rF eBl) (LL := fun _ => _) (w_mbmp (w_as (w_as (w_as (w_lcU (w_p (px_iSeq (px_esc (px_v rfl)) (it_S (s := string2)))
 (w_map (e0 := eGl) eBl rfl rfl
 (fun x3 => lc_m (tg_fz rfl) (fun g q => at_rm (q) (rms_no (by decide))) (w_endP (px_mb (px_B (px_v rfl) (px_sl (px_cs (y := [48, 49, 50, 51])) (px_npart) (px_part (px_v rfl)) rfl (po_slS (s := [48, 49, 50, 51]))) rfl rfl (po_inC (c := x3) (t := cutL [48, 49, 50, 51] none (some k1)))) px_escR) rfl))
 (fun l4 => w_p px_pkRo
 (w_as (w_p px_nil
 (w_p px_push
 (w_p (px_opN rfl (po_all (xs := l4)))
 (w_endR rfl))))))))))))) (w_endP px_c rfl) fun v5 =>
 (w_retF fun g q => .inl rfl)))))))

def t_check_string_machines (k1 : Int) (string2 : S) : T Unit :=
  tb (t_has_digits k1 string2) fun v3 =>
  if (!v3) = true then (.ex ⟨"NotString", []⟩)
  else .ok ()
theorem r_check_string_machines (k1 : Int) (string2 : S) : RF f_check_string_machines [eI k1, eS string2] (t_check_string_machines k1 string2) (rF eN) := by
  unfold t_check_string_machines f_check_string_machines b_check_string_machines
  exact rf_body rfl (fun _ => rfl)
    (w_last
 (w_sIf (w_tNot (w_as (w_as (w_as (w_p (px_chkN (px_cons (px_esc (px_v rfl)) (px_cons (px_esc (px_v rfl)) (px_nil))) rfl)
 (w_call (r_has_digits k1 string2) rfl trivial fun v3 =>
 (w_p px_pkR
 (w_p (px_toTru rfl (po_truB))
 (w_if
 (w_raise trivial)
 (w_nilS (w_nil fun g q => .inr ⟨rfl, rfl⟩)))))))))))))

def t_check_string_sections (machine1 : (Int × (List (List (Int × Int))))) (string2 : S) : T Unit :=
  tb (t_check_string_machines machine1.1 string2) fun v3 =>
  .ok ()
theorem r_check_string_sections (machine1 : (Int × (List (List (Int × Int))))) (string2 : S) : RF f_check_string_sections [(eP eI (eT (eT (eP eI eI)))) machine1, eS string2] (t_check_string_sections machine1 string2) (rF eN) := by
  unfold t_check_string_sections f_check_string_sections b_check_string_sections
  exact rf_body rfl (fun _ => rfl)
    (w_last
 (w_expr (w_as (w_p (px_chkN (px_cons (px_esc (px_B (px_v rfl) (px_c) rfl rfl (po_ix2a eI (eT (eT (eP eI eI))) (p := machine1)))) (px_cons (px_esc (px_v rfl)) (px_nil))) rfl)
 (w_call (r_check_string_machines machine1.1 string2) rfl trivial fun v3 =>
 (w_nil fun g q => .inr ⟨rfl, rfl⟩))))))

def t_Actor_step (self1 : Ty_Actor) (word2 : S) (digit3 : Int) : T (Int × S) :=
  tb (tfold word2 ((digit3, []) : (Int × (List S))) fun (s9 : (Int × (List S))) (x4 : Nat) =>
  tb (tDGet self1.2 [x4]) fun v10 =>
  tb (tIdx v10 s9.1) fun v11 =>
  tb (tApd s9.2 v11.2) fun letters12 =>
  .ok (v11.1, letters12)) fun s9 =>
  tb (tJoin ([] : S) s9.2) fun v13 =>
  .ok (s9.1, v13)
theorem r_Actor_step (self1 : Ty_Actor) (word2 : S) (digit3 : Int) : RF f_Actor_step [e_Actor self1, eS word2, eI digit3] (t_Actor_step self1 word2 digit3) (rF (eP eI eS)) := by
  unfold t_Actor_step f_Actor_step b_Actor_step
  exact rf_body rfl (fun _ => rfl)
    (w_last
 (w_sas
 (w_asg (w_p (px_eAo (px_lst (px_nil) rfl rfl))
 (w_gN (tg_ow rfl)
 (w_sas
 (w_for (w_p (px_iSeq (px_esc (px_v rfl)) (it_S (s := word2)))
 (w_fold (e := eGl) (LS := fun s9 : (Int × (List S)) => [(0, .fz (e_Actor self1)), (2, .fz (eI s9.1)), (3, .ow false ((oL eS) s9.2))]) rfl ⟨rfl, rfl, rfl, trivial⟩
 (fun s9 x4 => w_gN (tg_fz rfl)
 (w_last
 (w_sas
 (w_asg (w_as (w_as (w_as (w_as (w_p (px_pk (px_fldF (px_v rfl) (gl_Actor_table self1)))
 (w_as (w_p (px_pk (px_v rfl))
 (w_op2 rfl rfl (ot_dgetS (eL (eP eI eS)) (d := self1.2) (k := [x4])) fun v10 =>
 (w_p px_pkR
 (w_as (w_p (px_pk (px_v rfl))
 (w_op2 rfl rfl (ot_ixL (eP eI eS) (xs := v10)) fun v11 =>
 (w_p px_escA
 (w_gN (tg_un rfl (tg_cons (tg_fz rfl) (tg_cons (tg_fz rfl) (tg_nil))))
 (w_expr (w_as (w_p (px_vo rfl) (w_as (w_p (px_chkT rfl rfl) (w_as (w_p (px_cons (px_esc (px_v rfl)) (px_nil))
 (w_opMut rfl rfl (om_apd eS (xs := s9.2) (x := v11.2)) rfl fun letters12 =>
 (w_nil fun g q => ⟨trivial, q.sub ⟨rfl, rfl, rfl, trivial⟩⟩)))))))))))))))))))))))))))
 (fun s9 => w_ret (w_as (w_as (w_p (px_esc (px_v rfl))
 (w_as (w_as (w_as (w_as (w_p (px_pk (px_cs (y := [])))
 (w_as (w_p (px_chkT rfl rfl) (w_as (w_p (px_consA (px_pk (px_vo rfl)) (px_nil))
 (w_opM rfl rfl (ot_joinL (s := ([] : S)) (xs := s9.2)) fun v13 =>
 (w_p px_escR
 (w_as (w_p px_nil
 (w_p px_push
 (w_p px_push
 (w_p (px_mkTup rfl rfl)
 (w_retF fun g q => .inl rfl))))))))))))))))))))))))))))))

def t_Actor_moved (self1 : Ty_Actor) (word2 : S) (string3 : S) : T (S × S) :=
  tb (tfold string3 ((word2, []) : (S × (List S))) fun (s10 : (S × (List S))) (x4 : Nat) =>
  tb (tIntS [x4]) fun v11 =>
  tb (t_Actor_step self1 s10.1 v11) fun v12 =>
  tb (tStrI v12.1) fun v13 =>
  tb (tApd s10.2 v13) fun image14 =>
  .ok (v12.2, image14)) fun s10 =>
  tb (tJoin ([] : S) s10.2) fun v15 =>
  .ok (v15, s10.1)
theorem r_Actor_moved (self1 : Ty_Actor) (word2 : S) (string3 : S) : RF f_Actor_moved [e_Actor self1, eS word2, eS string3] (t_Actor_moved self1 word2 string3) (rF (eP eS eS)) := by
  unfold t_Actor_moved f_Actor_moved b_Actor_moved
  exact rf_body rfl (fun _ => rfl)
    (w_last
 (w_sas
 (w_asg (w_p (px_eAo (px_lst (px_nil) rfl rfl))
 (w_gN (tg_ow rfl)
 (w_sas
 (w_for (w_p (px_iSeq (px_esc (px_v rfl)) (it_S (s := string3)))
 (w_fold (e := eGl) (LS := fun s10 : (S × (List S)) => [(0, .fz (e_Actor self1)), (1, .fz (eS s10.1)), (3, .ow false ((oL eS) s10.2))]) rfl ⟨rfl, rfl, rfl, trivial⟩
 (fun s10 x4 => w_gN (tg_fz rfl)
 (w_last
 (w_sas
 (w_asg (w_as (w_selfU (w_p (px_pk (px_v rfl))
 (w_p (px_recvF (nl_Actor_step self1))
 (w_as (w_as (w_p (px_esc (px_v rfl))
 (w_as (w_as (w_as (w_as (w_p (px_cons (px_pk (px_v rfl)) (px_nil))
 (w_opN rfl (ot_intS (s := [x4])) fun v11 =>
 (w_p px_escR
 (w_as (w_p px_nil
 (w_p px_push
 (w_p px_push
 (w_p (px_chkL rfl)
 (w_call (r_Actor_step self1 s10.1 v11) rfl trivial fun v12 =>
 (w_p px_escA
 (w_gN (tg_un rfl (tg_cons (tg_fz rfl) (tg_cons (tg_fz rfl) (tg_nil))))
 (w_expr (w_as (w_p (px_vo rfl) (w_as (w_p (px_chkT rfl rfl) (w_as (w_as (w_as (w_as (w_p (px_cons (px_pk (px_v rfl)) (px_nil))
 (w_opN rfl (ot_strI) fun v13 =>
 (w_p px_escR
 (w_as (w_p px_nil
 (w_p px_push
 (w_opMut rfl rfl (om_apd eS (xs := s10.2) (x := v13)) rfl fun image14 =>
 (w_nil fun g q => ⟨trivial, q.sub ⟨rfl, rfl, rfl, trivial⟩⟩)))))))))))))))))))))))))))))))))))))))))))
 (fun s10 => w_ret (w_as (w_as (w_as (w_as (w_p (px_pk (px_cs (y := [])))
 (w_as (w_p (px_chkT rfl rfl) (w_as (w_p (px_consA (px_pk (px_vo rfl)) (px_nil))
 (w_opM rfl rfl (ot_joinL (s := ([] : S)) (xs := s10.2)) fun v15 =>
 (w_p px_escR
 (w_as (w_as (w_p (px_esc (px_v rfl))
 (w_as (w_p px_nil
 (w_p px_push
 (w_p px_push
 (w_p (px_mkTup rfl rfl)
 (w_retF fun g q => .inl rfl))))))))))))))))))))))))))))))

def t_Actor___init__ (machine2 : (Int × (List (List (Int × Int))))) : T Ty_Actor :=
  tb (tfold (enumL machine2.2 0) ((machine2.1, []) : (Ty_Actor)) fun (s4 : (Ty_Actor)) (x3 : (Int × (List (Int × Int)))) =>
  tb (tRepL [(0, ([] : S))] s4.1) fun v5 =>
  tb (tfold (enumL x3.2 0) (v5 : ((List (Int × S)))) fun (s7 : ((List (Int × S)))) (x6 : (Int × (Int × Int))) =>
  tb (tIdx [65, 66, 67, 68, 69, 70, 71, 72] x6.2.2) fun v8 =>
  tb (tSet s7 x6.2.1 (x6.1, [v8])) fun back9 =>
  .ok back9) fun s7 =>
  tb (tMap x3.2 fun (x10 : (Int × Int)) =>
  tb (tIdx [97, 98, 99, 100, 101, 102, 103, 104] x10.2) fun v11 =>
  .ok (x10.1, [v11])) fun l12 =>
  tb (tIdx [97, 98, 99, 100, 101, 102, 103, 104] x3.1) fun v13 =>
  tb (tDPut s4.2 [v13] l12) fun table14 =>
  tb (tIdx [65, 66, 67, 68, 69, 70, 71, 72] x3.1) fun v15 =>
  tb (tDPut table14 [v15] s7) fun table16 =>
  .ok (s4.1, table16)) fun s4 =>
  .ok s4
theorem r_Actor___init__ (machine2 : (Int × (List (List (Int × Int))))) : RI f_Actor___init__ [(eP eI (eT (eT (eP eI eI)))) machine2] (t_Actor___init__ machine2) o_Actor := by
  unfold t_Actor___init__ f_Actor___init__ b_Actor___init__
  exact ri_body rfl
    (w_last
 (w_sas
 (w_sFld (w_p (px_eA (px_pk (px_B (px_v rfl) (px_c) rfl rfl (po_ix2a eI (eT (eT (eP eI eI))) (p := machine2)))))
 (w_putZ (fs' := (.fz "size" (eI machine2.1) (.nil))) rfl rfl rfl rfl rfl
 (w_sas
 (w_sas (w_sFld (w_p (px_eAo (px_newK))
 (w_putO (fs' := (.fz "size" (eI machine2.1) (.ow "table" ((oKS (eL (eP eI eS))) []) (.nil)))) rfl rfl rfl rfl rfl
 (w_seal (o := o_Actor (machine2.1, [])) rfl rfl rfl
 (w_for (w_as (w_p (px_cons (px_esc (px_B (px_v rfl) (px_c) rfl rfl (po_ix2b eI (eT (eT (eP eI eI))) (p := machine2)))) (px_nil))
 (w_p (px_enT (eT (eP eI eI)) (xs := machine2.2))
 (w_fold (e := (eP eI (eT (eP eI eI)))) (LS := fun s4 : (Ty_Actor) => [(0, .ow true (o_Actor s4))]) rfl ⟨rfl, trivial⟩
 (fun s4 x3 => w_gN (tg_un rfl (tg_cons (tg_fz rfl) (tg_cons (tg_fz rfl) (tg_nil))))
 (w_last
 (w_sas
 (w_asg (w_as (w_as (w_p (px_pk (px_lst (px_cons (px_esc (px_tup (px_cons (px_esc (px_c)) (px_cons (px_esc (px_cs (y := []))) (px_nil))) rfl rfl)) (px_nil)) rfl rfl))
 (w_as (w_p (px_pk (px_fldA (px_vo rfl) rfl (gf_Actor_size s4)))
 (w_op2 rfl rfl (ot_repL (eP eI eS) (xs := [(0, ([] : S))])) fun v5 =>
 (w_p px_escAo
 (w_gN (tg_ow rfl)
 (w_sas
 (w_for (w_as (w_p (px_cons (px_esc (px_v rfl)) (px_nil))
 (w_p (px_enT (eP eI eI) (xs := x3.2))
 (w_fold (e := (eP eI (eP eI eI))) (LS := fun s7 : ((List (Int × S))) => [(0, .ow true (o_Actor s4)), (2, .fz (eI x3.1)), (3, .fz ((eT (eP eI eI)) x3.2)), (4, .ow false ((oL (eP eI eS)) s7))]) rfl ⟨rfl, rfl, rfl, rfl, trivial⟩
 (fun s7 x6 => w_gN (tg_un rfl (tg_cons (tg_fz rfl) (tg_cons (tg_un rfl (tg_cons (tg_fz rfl) (tg_cons (tg_fz rfl) (tg_nil)))) (tg_nil))))
 (w_last
 (w_set (w_as (w_as (w_as (w_p (px_esc (px_v rfl))
 (w_as (w_as (w_as (w_as (w_p (px_pk (px_cs (y := [65, 66, 67, 68, 69, 70, 71, 72])))
 (w_as (w_p (px_pk (px_v rfl))
 (w_op2 rfl rfl (ot_ixS (s := [65, 66, 67, 68, 69, 70, 71, 72])) fun v8 =>
 (w_p px_escR
 (w_as (w_p px_nil
 (w_p px_push
 (w_p px_push
 (w_p (px_mkTup rfl rfl)
 (w_p px_escR
 (w_p (px_vo rfl) (w_p (px_pk (px_v rfl))
 (w_opSet rfl rfl (os_set (eP eI eS) (xs := s7)) rfl fun back9 => w_nil fun g q => ⟨trivial, q.sub ⟨rfl, rfl, rfl, rfl, trivial⟩⟩)))))))))))))))))))))))))
 (fun s7 => w_sas
 (w_set (w_as (w_lcU (w_p (px_iSeq (px_esc (px_v rfl)) (it_T (eP eI eI) (xs := x3.2)))
 (w_map (e0 := (eP eI eI)) (eP eI eS) rfl rfl
 (fun x10 => lc_m (tg_un rfl (tg_cons (tg_fz rfl) (tg_cons (tg_fz rfl) (tg_nil)))) (fun g q => at_rm (at_rm (q) (lk_cons_no rfl (rms_no (by decide)))) (rms_no (by decide))) (w_as (w_as (w_p (px_esc (px_v rfl))
 (w_as (w_as (w_as (w_as (w_p (px_pk (px_cs (y := [97, 98, 99, 100, 101, 102, 103, 104])))
 (w_as (w_p (px_pk (px_v rfl))
 (w_op2 rfl rfl (ot_ixS (s := [97, 98, 99, 100, 101, 102, 103, 104])) fun v11 =>
 (w_p px_escR
 (w_as (w_p px_nil
 (w_p px_push
 (w_p px_push
 (w_p (px_mkTup rfl rfl)
 (w_endP px_escR rfl)))))))))))))))))))
 (fun l12 => w_p px_escRo
 (w_p (px_fldS (px_vo rfl) rfl (gf_Actor_table s4)) (w_as (w_as (w_p (px_pk (px_cs (y := [97, 98, 99, 100, 101, 102, 103, 104])))
 (w_as (w_p (px_pk (px_v rfl))
 (w_op2 rfl rfl (ot_ixS (s := [97, 98, 99, 100, 101, 102, 103, 104])) fun v13 =>
 (w_p px_pkR
 (w_opSetS (fs' := fun x => fs_Actor (s4.1, x)) rfl (gf_Actor_table s4) (fun x => pf_Actor_table s4 x) rfl (os_putS (eL (eP eI eS)) (d := s4.2) (k := [v13]) (a := l12)) rfl fun table14 => w_set (w_s (sx_esc rfl rfl)
 (w_p (px_fldS (px_vo rfl) rfl (gf_Actor_table (s4.1, table14))) (w_as (w_as (w_p (px_pk (px_cs (y := [65, 66, 67, 68, 69, 70, 71, 72])))
 (w_as (w_p (px_pk (px_v rfl))
 (w_op2 rfl rfl (ot_ixS (s := [65, 66, 67, 68, 69, 70, 71, 72])) fun v15 =>
 (w_p px_pkR
 (w_opSetS (fs' := fun x => fs_Actor (s4.1, x)) rfl (gf_Actor_table (s4.1, table14)) (fun x => pf_Actor_table (s4.1, table14) x) rfl (os_putS (eL (eP eI eS)) (d := table14) (k := [v15]) (a := s7)) rfl fun table16 => w_nil fun g q => ⟨trivial, q.sub ⟨rfl, trivial⟩⟩))))))))))))))))))))))))))))))))))))))))))))
 (fun s4 => w_nil fun g q => ⟨.inl rfl, q.2 _ _ rfl⟩)))))))))))))))))

def t_moved (machine1 : (Int × (List (List (Int × Int))))) (word2 : S) (string3 : S) : T (S × S) :=
  tb (t_Actor___init__ machine1) fun actor5 =>
  tb (t_Actor_moved actor5 word2 string3) fun v6 =>
  .ok v6
theorem r_moved (machine1 : (Int × (List (List (Int × Int))))) (word2 : S) (string3 : S) : RF f_moved [(eP eI (eT (eT (eP eI eI)))) machine1, eS word2, eS string3] (t_moved machine1 word2 string3) (rF (eP eS eS)) := by
  unfold t_moved f_moved b_moved
  exact rf_body rfl (fun _ => rfl)
    (w_last
 (w_ret (w_selfU (w_as (w_as (w_as (w_p (px_chkN (px_cons (px_esc (px_v rfl)) (px_nil)) rfl)
 (w_make (r_Actor___init__ machine1) rfl trivial fun actor5 =>
 (w_p px_pkRo
 (w_p px_pkR
 (w_p (px_recvF (nl_Actor_moved actor5))
 (w_p (px_chkN (px_cons (px_esc (px_v rfl)) (px_cons (px_esc (px_v rfl)) (px_nil))) rfl)
 (w_call (r_Actor_moved actor5 word2 string3) rfl trivial fun v6 =>
 (w_retF fun g q => .inl rfl))))))))))))))

def t_image_of (machine1 : (Int × (List (List (Int × Int))))) (word2 : S) (string3 : S) : T S :=
  tb (t_check_word machine1 word2) fun v4 =>
  tb (t_check_string_sections machine1 string3) fun v5 =>
  tb (t_moved machine1 word2 string3) fun v6 =>
  .ok v6.1
theorem r_image_of (machine1 : (Int × (List (List (Int × Int))))) (word2 : S) (string3 : S) : RF f_image_of [(eP eI (eT (eT (eP eI eI)))) machine1, eS word2, eS string3] (t_image_of machine1 word2 string3) (rF eS) := by
  unfold t_image_of f_image_of b_image_of
  exact rf_body rfl (fun _ => rfl)
    (w_last
 (w_sas
 (w_expr (w_as (w_p (px_chkN (px_cons (px_esc (px_v rfl)) (px_cons (px_esc (px_v rfl)) (px_nil))) rfl)
 (w_call (r_check_word machine1 word2) rfl trivial fun v4 =>
 (w_sas
 (w_expr (w_as (w_p (px_chkN (px_cons (px_esc (px_v rfl)) (px_cons (px_esc (px_v rfl)) (px_nil))) rfl)
 (w_call (r_check_string_sections machine1 string3) rfl trivial fun v5 =>
 (w_ret (w_as (w_as (w_as (w_p (px_chkN (px_cons (px_esc (px_v rfl)) (px_cons (px_esc (px_v rfl)) (px_cons (px_esc (px_v rfl)) (px_nil)))) rfl)
 (w_call (r_moved machine1 word2 string3) rfl trivial fun v6 =>
 (w_p px_pkR
 (w_as (w_p (px_pk (px_c))
 (w_p (px_op2 rfl rfl (po_ix2a eS eS (p := v6)))
 (w_retF fun g q => .inl rfl))))))))))))))))))))))

def t_section_of (machine1 : (Int × (List (List (Int × Int))))) (word2 : S) (string3 : S) : T S :=
  tb (t_check_word machine1 word2) fun v4 =>
  tb (t_check_string_sections machine1 string3) fun v5 =>
  tb (t_moved machine1 word2 string3) fun v6 =>
  .ok v6.2
theorem r_section_of (machine1 : (Int × (List (List (Int × Int))))) (word2 : S) (string3 : S) : RF f_section_of [(eP eI (eT (eT (eP eI eI)))) machine1, eS word2, eS string3] (t_section_of machine1 word2 string3) (rF eS) := by
  unfold t_section_of f_section_of b_section_of
  exact rf_body rfl (fun _ => rfl)
    (w_last
 (w_sas
 (w_expr (w_as (w_p (px_chkN (px_cons (px_esc (px_v rfl)) (px_cons (px_esc (px_v rfl)) (px_nil))) rfl)
 (w_call (r_check_word machine1 word2) rfl trivial fun v4 =>
 (w_sas
 (w_expr (w_as (w_p (px_chkN (px_cons (px_esc (px_v rfl)) (px_cons (px_esc (px_v rfl)) (px_nil))) rfl)
 (w_call (r_check_string_sections machine1 string3) rfl trivial fun v5 =>
 (w_ret (w_as (w_as (w_as (w_p (px_chkN (px_cons (px_esc (px_v rfl)) (px_cons (px_esc (px_v rfl)) (px_cons (px_esc (px_v rfl)) (px_nil)))) rfl)
 (w_call (r_moved machine1 word2 string3) rfl trivial fun v6 =>
 (w_p px_pkR
 (w_as (w_p (px_pk (px_c))
 (w_p (px_op2 rfl rfl (po_ix2b eS eS (p := v6)))
 (w_retF fun g q => .inl rfl))))))))))))))))))))))

def t_other (letter1 : Nat) : T Nat :=
  if (decide (letter1 ∈ ([97, 98, 99, 100, 101, 102, 103, 104] : S))) = true then (tb (tSIdx [97, 98, 99, 100, 101, 102, 103, 104] [letter1]) fun v2 =>
  tb (tIdx [65, 66, 67, 68, 69, 70, 71, 72] v2) fun v3 =>
  .ok v3)
  else (tb (tSIdx [65, 66, 67, 68, 69, 70, 71, 72] [letter1]) fun v4 =>
  tb (tIdx [97, 98, 99, 100, 101, 102, 103, 104] v4) fun v5 =>
  .ok v5)
theorem r_other (letter1 : Nat) : RF f_other [eGl letter1] (t_other letter1) (rF eGl) := by
  unfold t_other f_other b_other
  exact rf_body rfl (fun _ => rfl)
    (w_last
 (w_sas
 (w_sIf (w_p (px_test (px_B (px_v rfl) (px_cs (y := [97, 98, 99, 100, 101, 102, 103, 104])) rfl rfl (po_inC (c := letter1) (t := [97, 98, 99, 100, 101, 102, 103, 104]))))
 (w_if
 (w_ret (w_as (w_p (px_pk (px_cs (y := [65, 66, 67, 68, 69, 70, 71, 72])))
 (w_as (w_as (w_as (w_p (px_pk (px_cs (y := [97, 98, 99, 100, 101, 102, 103, 104])))
 (w_as (w_p (px_chkT rfl rfl) (w_as (w_p (px_cons (px_pk (px_v rfl)) (px_nil))
 (w_opM rfl rfl (ot_sidx (s := [97, 98, 99, 100, 101, 102, 103, 104]) (t := [letter1])) fun v2 =>
 (w_p px_pkR
 (w_op2 rfl rfl (ot_ixS (s := [65, 66, 67, 68, 69, 70, 71, 72])) fun v3 =>
 (w_retF fun g q => .inl rfl)))))))))))))))
 (w_nilS (w_ret (w_as (w_p (px_pk (px_cs (y := [97, 98, 99, 100, 101, 102, 103, 104])))
 (w_as (w_as (w_as (w_p (px_pk (px_cs (y := [65, 66, 67, 68, 69, 70, 71, 72])))
 (w_as (w_p (px_chkT rfl rfl) (w_as (w_p (px_cons (px_pk (px_v rfl)) (px_nil))
 (w_opM rfl rfl (ot_sidx (s := [65, 66, 67, 68, 69, 70, 71, 72]) (t := [letter1])) fun v4 =>
 (w_p px_pkR
 (w_op2 rfl rfl (ot_ixS (s := [97, 98, 99, 100, 101, 102, 103, 104])) fun v5 =>
 (w_retF fun g q => .inl rfl)))))))))))))))))))))

def t_undone (word1 : S) : T S :=
  tb (tMap word1.reverse fun (x2 : Nat) =>
  tb (t_other x2) fun v3 =>
  .ok v3) fun l4 =>
  tb (tJoin ([] : S) (l4.map fun c => [c])) fun v5 =>
  .ok v5
theorem r_undone (word1 : S) : RF f_undone [eS word1] (t_undone word1) (rF eS) := by
  unfold t_undone f_undone b_undone
  exact rf_body rfl (fun _ => rfl)
    (w_last
 (w_ret (w_as (w_p (px_pk (px_cs (y := [])))
 (w_as (w_p (px_chkT rfl rfl) (w_as (w_as (w_as (w_lcU (w_p (px_iSeq (px_esc (px_revS (px_v rfl) rfl (po_revS (s := word1)))) (it_S (s := word1.reverse)))
 (w_map (e0 := eGl) eGl rfl rfl
 (fun x2 => lc_m (tg_fz rfl) (fun g q => at_rm (q) (rms_no (by decide))) (w_as (w_p (px_chkN (px_cons (px_esc (px_v rfl)) (px_nil)) rfl)
 (w_call (r_other x2) rfl trivial fun v3 =>
 (w_endP px_escR rfl)))))
 (fun l4 => w_p px_pkRo
 (w_as (w_p px_nil
 (w_p px_push
 (w_opM rfl rfl (ot_joinCL (s := ([] : S)) (xs := l4)) fun v5 =>
 (w_retF fun g q => .inl rfl))))))))))))))))))

def t_undone_word (machine1 : (Int × (List (List (Int × Int))))) (word2 : S) : T S :=
  tb (t_check_word machine1 word2) fun v3 =>
  tb (t_undone word2) fun v4 =>
  .ok v4
theorem r_undone_word (machine1 : (Int × (List (List (Int × Int))))) (word2 : S) : RF f_undone_word [(eP eI (eT (eT (eP eI eI)))) machine1, eS word2] (t_undone_word machine1 word2) (rF eS) := by
  unfold t_undone_word f_undone_word b_undone_word
  exact rf_body rfl (fun _ => rfl)
    (w_last
 (w_sas
 (w_expr (w_as (w_p (px_chkN (px_cons (px_esc (px_v rfl)) (px_cons (px_esc (px_v rfl)) (px_nil))) rfl)
 (w_call (r_check_word machine1 word2) rfl trivial fun v3 =>
 (w_ret (w_as (w_p (px_chkN (px_cons (px_esc (px_v rfl)) (px_nil)) rfl)
 (w_call (r_undone word2) rfl trivial fun v4 =>
 (w_retF fun g q => .inl rfl)))))))))))

def t_cut (word1 : S) : T S :=
  tb (tfold word1 ([] : ((List Nat))) fun (s12 : ((List Nat))) (x2 : Nat) =>
  tb (tb ((if (!s12.isEmpty) = true then (tb (tIdx s12 (-1 : Int)) fun v13 =>
  tb (t_other x2) fun v14 =>
  .ok (decide (([v13] : S) = [v14]))) else .ok false : T Bool)) fun v15 =>
  if v15 = true then (tb (tPop s12) fun kept18 =>
  .ok kept18.1) else (tb (tApd s12 x2) fun kept19 =>
  .ok kept19) : T ((List Nat))) fun s20 =>
  .ok s20) fun s12 =>
  tb (tJoin ([] : S) (s12.map fun c => [c])) fun v21 =>
  .ok v21
theorem r_cut (word1 : S) : RF f_cut [eS word1] (t_cut word1) (rF eS) := by
  unfold t_cut f_cut b_cut
  exact rf_body rfl (fun _ => rfl)
    (w_last
 (w_sas
 (w_asg (w_p (px_eAo (px_lst (px_nil) rfl rfl))
 (w_gN (tg_ow rfl)
 (w_sas
 (w_for (w_p (px_iSeq (px_esc (px_v rfl)) (it_S (s := word1)))
 (w_fold (e := eGl) (LS := fun s12 : ((List Nat)) => [(1, .ow false ((oL eGl) s12))]) rfl ⟨rfl, trivial⟩
 (fun s12 x2 => w_gN (tg_fz rfl)
 (w_last
 (w_blk (LS := fun s20 : ((List Nat)) => [(1, .ow false ((oL eGl) s20))])
 (w_last (w_sIf (w_tAnd (px_tru (px_vo rfl) rfl (po_truL eGl (xs := s12))) (w_mbmp (w_as (w_as (w_as (w_as (w_p (px_pk (px_vo rfl))
 (w_as (w_p (px_pk (px_U (px_c) rfl po_negI))
 (w_op2 rfl rfl (ot_ixL eGl (xs := s12)) fun v13 =>
 (w_p px_pkR
 (w_as (w_as (w_as (w_p (px_chkN (px_cons (px_esc (px_v rfl)) (px_nil)) rfl)
 (w_call (r_other x2) rfl trivial fun v14 =>
 (w_p px_pkR
 (w_p (px_op2 rfl rfl (po_eqS (s := [v13]) (t := [v14])))
 (w_p px_toB
 (w_endM))))))))))))))))))) fun v15 =>
 (w_if
 (w_expr (w_as (w_p (px_vo rfl) (w_as (w_p (px_chkT rfl rfl) (w_as (w_p px_nil
 (w_opMut rfl rfl (om_pop eGl (xs := s12)) rfl fun kept18 =>
 (w_nil fun g q => ⟨rfl, q.sub ⟨rfl, trivial⟩⟩)))))))))
 (w_expr (w_as (w_p (px_vo rfl) (w_as (w_p (px_chkT rfl rfl) (w_as (w_p (px_cons (px_esc (px_v rfl)) (px_nil))
 (w_opMut rfl rfl (om_apd eGl (xs := s12) (x := x2)) rfl fun kept19 =>
 (w_nil fun g q => ⟨rfl, q.sub ⟨rfl, trivial⟩⟩)))))))))))))
 (fun s20 => w_nil fun g q => ⟨trivial, q.sub ⟨rfl, trivial⟩⟩))))
 (fun s12 => w_ret (w_as (w_p (px_pk (px_cs (y := [])))
 (w_as (w_p (px_chkT rfl rfl) (w_as (w_p (px_consA (px_pk (px_vo rfl)) (px_nil))
 (w_opM rfl rfl (ot_joinCL (s := ([] : S)) (xs := s12)) fun v21 =>
 (w_retF fun g q => .inl rfl))))))))))))))))))

def t_cut_word (machine1 : (Int × (List (List (Int × Int))))) (word2 : S) : T S :=
  tb (t_check_word machine1 word2) fun v3 =>
  tb (t_cut word2) fun v4 =>
  .ok v4
theorem r_cut_word (machine1 : (Int × (List (List (Int × Int))))) (word2 : S) : RF f_cut_word [(eP eI (eT (eT (eP eI eI)))) machine1, eS word2] (t_cut_word machine1 word2) (rF eS) := by
  unfold t_cut_word f_cut_word b_cut_word
  exact rf_body rfl (fun _ => rfl)
    (w_last
 (w_sas
 (w_expr (w_as (w_p (px_chkN (px_cons (px_esc (px_v rfl)) (px_cons (px_esc (px_v rfl)) (px_nil))) rfl)
 (w_call (r_check_word machine1 word2) rfl trivial fun v3 =>
 (w_ret (w_as (w_p (px_chkN (px_cons (px_esc (px_v rfl)) (px_nil)) rfl)
 (w_call (r_cut word2) rfl trivial fun v4 =>
 (w_retF fun g q => .inl rfl)))))))))))

def t_q_read (machine_here1 : (Int × (List (List (Int × Int))))) (letter2 : Nat) (digit3 : Int) : T (Option (Int × S)) :=
  tb (.ok (findL [97, 98, 99, 100, 101, 102, 103, 104] [letter2])) fun v4 =>
  if (decide (0 ≤ v4)) = true then (tb (tIdx machine_here1.2 v4) fun v5 =>
  tb (tIdx v5 digit3) fun v6 =>
  tb (tIdx [97, 98, 99, 100, 101, 102, 103, 104] v6.2) fun v7 =>
  .ok (some (v6.1, [v7])))
  else (tb (tSIdx [65, 66, 67, 68, 69, 70, 71, 72] [letter2]) fun v8 =>
  tb (tIdx machine_here1.2 v8) fun v9 =>
  tb (tRng 0 (v9.length : Int)) fun r10 =>
  tlp (tfor r10 (() : Unit) fun (s12 : Unit) (x11 : Int) =>
  tb (tIdx v9 x11) fun v13 =>
  if (decide (v13.1 = digit3)) = true then (tb (tIdx v9 x11) fun v14 =>
  tb (tIdx [65, 66, 67, 68, 69, 70, 71, 72] v14.2) fun v15 =>
  .ok (.rt (some (x11, [v15]))))
  else .ok (.nx ())) fun s12 =>
  .ok none)
theorem r_q_read (machine_here1 : (Int × (List (List (Int × Int))))) (letter2 : Nat) (digit3 : Int) : RF f_q_read [(eP eI (eT (eT (eP eI eI)))) machine_here1, eGl letter2, eI digit3] (t_q_read machine_here1 letter2 digit3) (rF (eO (eQ eI eS))) := by
  unfold t_q_read f_q_read b_q_read
  exact rf_body rfl (fun _ => rfl)
    (w_last
 (w_sas
 (w_asg (w_as (w_as (w_p (px_pk (px_cs (y := [97, 98, 99, 100, 101, 102, 103, 104])))
 (w_as (w_p (px_chkT rfl rfl) (w_as (w_p (px_cons (px_pk (px_v rfl)) (px_nil))
 (w_opM rfl rfl (ot_find (s := [97, 98, 99, 100, 101, 102, 103, 104]) (t := [letter2])) fun v4 =>
 (w_p px_escA
 (w_gN (tg_fz rfl)
 (w_sas
 (w_sIf (w_p (px_test (px_B (px_v rfl) (px_c) rfl rfl (po_ge)))
 (w_if
 (w_sas
 (w_asg (w_as (w_as (w_as (w_as (w_p (px_pk (px_B (px_v rfl) (px_c) rfl rfl (po_ix2b eI (eT (eT (eP eI eI))) (p := machine_here1))))
 (w_as (w_p (px_pk (px_v rfl))
 (w_op2 rfl rfl (ot_ixT (eT (eP eI eI)) (xs := machine_here1.2)) fun v5 =>
 (w_p px_pkR
 (w_as (w_p (px_pk (px_v rfl))
 (w_op2 rfl rfl (ot_ixT (eP eI eI) (xs := v5)) fun v6 =>
 (w_p px_escA
 (w_gN (tg_un rfl (tg_cons (tg_fz rfl) (tg_cons (tg_fz rfl) (tg_nil))))
 (w_ret (w_as (w_as (w_as (w_p (px_esc (px_v rfl))
 (w_as (w_as (w_as (w_as (w_p (px_pk (px_cs (y := [97, 98, 99, 100, 101, 102, 103, 104])))
 (w_as (w_p (px_pk (px_v rfl))
 (w_op2 rfl rfl (ot_ixS (s := [97, 98, 99, 100, 101, 102, 103, 104])) fun v7 =>
 (w_p px_escR
 (w_as (w_p px_nil
 (w_p px_push
 (w_p px_push
 (w_p (px_mkLst rfl rfl)
 (w_p px_pkRo
 (w_retF fun g q => .inl rfl)))))))))))))))))))))))))))))))))))))
 (w_nilS (w_sas
 (w_asg (w_as (w_as (w_p (px_pk (px_B (px_v rfl) (px_c) rfl rfl (po_ix2b eI (eT (eT (eP eI eI))) (p := machine_here1))))
 (w_as (w_as (w_as (w_p (px_pk (px_cs (y := [65, 66, 67, 68, 69, 70, 71, 72])))
 (w_as (w_p (px_chkT rfl rfl) (w_as (w_p (px_cons (px_pk (px_v rfl)) (px_nil))
 (w_opM rfl rfl (ot_sidx (s := [65, 66, 67, 68, 69, 70, 71, 72]) (t := [letter2])) fun v8 =>
 (w_p px_pkR
 (w_op2 rfl rfl (ot_ixT (eT (eP eI eI)) (xs := machine_here1.2)) fun v9 =>
 (w_p px_escA
 (w_gN (tg_fz rfl)
 (w_sas
 (w_for (w_as (w_p (px_cons (px_esc (px_callB (px_cons (px_pk (px_v rfl)) (px_nil)) rfl (po_lenT (eP eI eI) (xs := v9)))) (px_nil))
 (w_rng1 fun r10 =>
 (w_forT (e := eI) (LS := fun s12 : Unit => [(2, .fz (eI digit3)), (6, .fz ((eT (eP eI eI)) v9))]) rfl ⟨rfl, rfl, trivial⟩
 (fun s12 x11 => w_gN (tg_fz rfl)
 (w_last
 (w_sIf (w_as (w_as (w_as (w_as (w_as (w_as (w_p (px_pk (px_v rfl))
 (w_as (w_p (px_pk (px_v rfl))
 (w_op2 rfl rfl (ot_ixT (eP eI eI) (xs := v9)) fun v13 =>
 (w_p px_pkR
 (w_as (w_p (px_pk (px_c))
 (w_p (px_op2 rfl rfl (po_ix2a eI eI (p := v13)))
 (w_p px_pkR
 (w_as (w_p (px_pk (px_v rfl))
 (w_p (px_op2 rfl rfl (po_eqI))
 (w_p px_toB
 (w_if
 (w_ret (w_as (w_as (w_as (w_p (px_esc (px_v rfl))
 (w_as (w_as (w_as (w_as (w_p (px_pk (px_cs (y := [65, 66, 67, 68, 69, 70, 71, 72])))
 (w_as (w_as (w_as (w_as (w_as (w_p (px_pk (px_v rfl))
 (w_as (w_p (px_pk (px_v rfl))
 (w_op2 rfl rfl (ot_ixT (eP eI eI) (xs := v9)) fun v14 =>
 (w_p px_pkR
 (w_as (w_p (px_pk (px_c))
 (w_p (px_op2 rfl rfl (po_ix2b eI eI (p := v14)))
 (w_p px_pkR
 (w_op2 rfl rfl (ot_ixS (s := [65, 66, 67, 68, 69, 70, 71, 72])) fun v15 =>
 (w_p px_escR
 (w_as (w_p px_nil
 (w_p px_push
 (w_p px_push
 (w_p (px_mkLst rfl rfl)
 (w_p px_pkRo
 (w_retF fun g q => ⟨trivial, .inl rfl⟩)))))))))))))))))))))))))))))))))
 (w_nilS (w_nil fun g q => ⟨trivial, q.sub ⟨rfl, rfl, trivial⟩⟩)))))))))))))))))))))))))
 (fun s12 => w_ret (w_p (px_c)
 (w_retF fun g q => .inl rfl)))))))))))))))))))))))))))))))))))))))))))))

def t_q_step (machine_here1 : (Int × (List (List (Int × Int))))) (word_here2 : S) (digit3 : Int) : T (Int × S) :=
  tb (tfold word_here2 ((digit3, ([] : S)) : (Int × S)) fun (s5 : (Int × S)) (x4 : Nat) =>
  tb (t_q_read machine_here1 x4 s5.1) fun v6 =>
  tb (tSome v6) fun v7 =>
  tb (tCat s5.2 v7.2) fun v8 =>
  .ok (v7.1, v8)) fun s5 =>
  .ok (s5.1, s5.2)
theorem r_q_step (machine_here1 : (Int × (List (List (Int × Int))))) (word_here2 : S) (digit3 : Int) : RF f_q_step [(eP eI (eT (eT (eP eI eI)))) machine_here1, eS word_here2, eI digit3] (t_q_step machine_here1 word_here2 digit3) (rF (eQ eI eS)) := by
  unfold t_q_step f_q_step b_q_step
  exact rf_body rfl (fun _ => rfl)
    (w_last
 (w_sas
 (w_asg (w_p (px_eA (px_cs (y := [])))
 (w_gN (tg_fz rfl)
 (w_sas
 (w_for (w_p (px_iSeq (px_esc (px_v rfl)) (it_S (s := word_here2)))
 (w_fold (e := eGl) (LS := fun s5 : (Int × S) => [(0, .fz ((eP eI (eT (eT (eP eI eI)))) machine_here1)), (2, .fz (eI s5.1)), (3, .fz (eS s5.2))]) rfl ⟨rfl, rfl, rfl, trivial⟩
 (fun s5 x4 => w_gN (tg_fz rfl)
 (w_last
 (w_sas
 (w_asg (w_as (w_as (w_p (px_chkN (px_cons (px_esc (px_v rfl)) (px_cons (px_esc (px_v rfl)) (px_cons (px_esc (px_v rfl)) (px_nil)))) rfl)
 (w_call (r_q_read machine_here1 x4 s5.1) rfl trivial fun v6 =>
 (w_some fun v7 hc => by
 subst hc
 exact (w_p px_escA
 (w_gN (tg_unl rfl (tg_cons (tg_fz rfl) (tg_cons (tg_fz rfl) (tg_nil))))
 (w_asg (w_as (w_as (w_p (px_pk (px_v rfl))
 (w_as (w_p (px_pk (px_v rfl))
 (w_op2 rfl rfl (ot_catS (s := s5.2) (t := v7.2)) fun v8 =>
 (w_p px_escA
 (w_gN (tg_fz rfl)
 (w_nil fun g q => ⟨trivial, q.sub ⟨rfl, rfl, rfl, trivial⟩⟩)))))))))))))))))))))
 (fun s5 => w_ret (w_p (px_pk (px_lst (px_cons (px_esc (px_v rfl)) (px_cons (px_esc (px_v rfl)) (px_nil))) rfl rfl))
 (w_retF fun g q => .inl rfl))))))))))))

def t_q_moved (machine_here1 : (Int × (List (List (Int × Int))))) (word_here2 : S) (string_here3 : S) : T (S × S) :=
  tb (tfold string_here3 ((word_here2, ([] : S)) : (S × S)) fun (s5 : (S × S)) (x4 : Nat) =>
  tb (tIntS [x4]) fun v6 =>
  tb (t_q_step machine_here1 s5.1 v6) fun v7 =>
  tb (tStrI v7.1) fun v8 =>
  tb (tCat s5.2 v8) fun v9 =>
  .ok (v7.2, v9)) fun s5 =>
  .ok (s5.2, s5.1)
theorem r_q_moved (machine_here1 : (Int × (List (List (Int × Int))))) (word_here2 : S) (string_here3 : S) : RF f_q_moved [(eP eI (eT (eT (eP eI eI)))) machine_here1, eS word_here2, eS string_here3] (t_q_moved machine_here1 word_here2 string_here3) (rF (eQ eS eS)) := by
  unfold t_q_moved f_q_moved b_q_moved
  exact rf_body rfl (fun _ => rfl)
    (w_last
 (w_sas
 (w_asg (w_p (px_eA (px_cs (y := [])))
 (w_gN (tg_fz rfl)
 (w_sas
 (w_for (w_p (px_iSeq (px_esc (px_v rfl)) (it_S (s := string_here3)))
 (w_fold (e := eGl) (LS := fun s5 : (S × S) => [(0, .fz ((eP eI (eT (eT (eP eI eI)))) machine_here1)), (1, .fz (eS s5.1)), (3, .fz (eS s5.2))]) rfl ⟨rfl, rfl, rfl, trivial⟩
 (fun s5 x4 => w_gN (tg_fz rfl)
 (w_last
 (w_sas
 (w_asg (w_as (w_as (w_as (w_as (w_p (px_esc (px_v rfl))
 (w_as (w_as (w_p (px_esc (px_v rfl))
 (w_as (w_as (w_as (w_as (w_p (px_cons (px_pk (px_v rfl)) (px_nil))
 (w_opN rfl (ot_intS (s := [x4])) fun v6 =>
 (w_p px_escR
 (w_as (w_p px_nil
 (w_p px_push
 (w_p px_push
 (w_p px_push
 (w_p (px_chkL rfl)
 (w_call (r_q_step machine_here1 s5.1 v6) rfl trivial fun v7 =>
 (w_p px_escA
 (w_gN (tg_unl rfl (tg_cons (tg_fz rfl) (tg_cons (tg_fz rfl) (tg_nil))))
 (w_asg (w_as (w_as (w_p (px_pk (px_v rfl))
 (w_as (w_as (w_as (w_p (px_cons (px_pk (px_v rfl)) (px_nil))
 (w_opN rfl (ot_strI) fun v8 =>
 (w_p px_pkR
 (w_op2 rfl rfl (ot_catS (s := s5.2) (t := v8)) fun v9 =>
 (w_p px_escA
 (w_gN (tg_fz rfl)
 (w_nil fun g q => ⟨trivial, q.sub ⟨rfl, rfl, rfl, trivial⟩⟩))))))))))))))))))))))))))))))))))))))))))
 (fun s5 => w_ret (w_p (px_pk (px_lst (px_cons (px_esc (px_v rfl)) (px_cons (px_esc (px_v rfl)) (px_nil))) rfl rfl))
 (w_retF fun g q => .inl rfl))))))))))))

def t_law (script1 : (List Int)) : T Bool :=
  tb (t_q_draws script1) fun v2 =>
  tb (.ok v2.reverse) fun draws_here3 =>
  tb (t_q_machine draws_here3 3) fun v4 =>
  tb (t_q_word v4.2 v4.1 8) fun v5 =>
  tb (t_q_word v5.2 v4.1 8) fun v6 =>
  tb (t_q_string v6.2 v4.1 6) fun v7 =>
  tb (t_q_string v7.2 v4.1 6) fun v8 =>
  tb (t_image_of v4.1 v5.1 v7.1) fun v9 =>
  tb (t_section_of v4.1 v5.1 v7.1) fun v10 =>
  tb (tCat v7.1 v8.1) fun v11 =>
  tb (t_image_of v4.1 v5.1 v11) fun v12 =>
  tb (t_image_of v4.1 v10 v8.1) fun v13 =>
  tb (tCat v9 v13) fun v14 =>
  if (!decide ((v12 : S) = v14)) = true then (.ok false)
  else (tb (tCat v7.1 v8.1) fun v15 =>
  tb (t_section_of v4.1 v5.1 v15) fun v16 =>
  tb (t_section_of v4.1 v10 v8.1) fun v17 =>
  if (!decide ((v16 : S) = v17)) = true then (.ok false)
  else (tb (tCat v5.1 v6.1) fun v18 =>
  tb (t_image_of v4.1 v18 v7.1) fun v19 =>
  tb (t_image_of v4.1 v6.1 v9) fun v20 =>
  if (!decide ((v19 : S) = v20)) = true then (.ok false)
  else (tb (tCat v5.1 v6.1) fun v21 =>
  tb (t_section_of v4.1 v21 v7.1) fun v22 =>
  tb (t_section_of v4.1 v6.1 v9) fun v23 =>
  tb (tCat v10 v23) fun v24 =>
  if (!decide ((v22 : S) = v24)) = true then (.ok false)
  else (tb (t_undone_word v4.1 v5.1) fun v25 =>
  tb (t_image_of v4.1 v25 v9) fun v26 =>
  tb ((if (!decide ((v26 : S) = v7.1)) = true then .ok true else (tb (t_section_of v4.1 v25 v9) fun v27 =>
  tb (t_undone_word v4.1 v10) fun v28 =>
  .ok (!decide ((v27 : S) = v28))) : T Bool)) fun v29 =>
  if v29 = true then (.ok false)
  else (tb (tCat v5.1 v6.1) fun v30 =>
  tb (t_cut_word v4.1 v30) fun v31 =>
  tb (t_image_of v4.1 v31 v7.1) fun v32 =>
  tb (tCat v5.1 v6.1) fun v33 =>
  tb (t_image_of v4.1 v33 v7.1) fun v34 =>
  if (!decide ((v32 : S) = v34)) = true then (.ok false)
  else (tb (t_cut_word v4.1 v5.1) fun v35 =>
  tb (t_section_of v4.1 v35 v7.1) fun v36 =>
  tb (t_cut_word v4.1 v36) fun v37 =>
  tb (t_cut_word v4.1 v10) fun v38 =>
  tb ((if (!decide ((v37 : S) = v38)) = true then .ok true else (tb (t_section_of v4.1 v5.1 ([] : S)) fun v39 =>
  .ok (!decide ((v39 : S) = v5.1))) : T Bool)) fun v40 =>
  if v40 = true then (.ok false)
  else (tb ((if (decide ((v10.length : Int) = (v5.1.length : Int))) = true then (tb (t_q_moved v4.1 v5.1 v7.1) fun v41 =>
  tb (tEqE (eL eS) [v9, v10] [v41.1, v41.2]) fun v42 =>
  .ok v42) else .ok false : T Bool)) fun v43 =>
  .ok v43)))))))
theorem r_law (script1 : (List Int)) : RF f_law [eX script1] (t_law script1) (rF eBl) := by
  unfold t_law f_law b_law
  exact rf_body rfl (fun _ => rfl)
    (w_last
 (w_sas
 (w_asg (w_as (w_as (w_p (px_chkN (px_cons (px_esc (px_v rfl)) (px_nil)) rfl)
 (w_call (r_q_draws script1) rfl trivial fun v2 =>
 (w_p px_escAo
 (w_gN (tg_ow rfl)
 (w_sas
 (w_expr (w_as (w_p (px_vo rfl) (w_as (w_p (px_chkT rfl rfl) (w_as (w_p px_nil
 (w_opMut rfl rfl (om_rev eI (xs := v2)) rfl fun draws_here3 =>
 (w_sas
 (w_asg (w_as (w_as (w_p (px_chkN (px_consA (px_vo rfl) (px_cons (px_esc (px_c)) (px_nil))) rfl)
 (w_callL (r_q_machine draws_here3 3) rfl rfl rfl rfl trivial fun v4 =>
 (w_p px_escA
 (w_gN (tg_fz rfl)
 (w_sas
 (w_asg (w_as (w_as (w_p (px_chkN (px_consA (px_vo rfl) (px_cons (px_esc (px_v rfl)) (px_cons (px_esc (px_c)) (px_nil)))) rfl)
 (w_callL (r_q_word v4.2 v4.1 8) rfl rfl rfl rfl trivial fun v5 =>
 (w_p px_escA
 (w_gN (tg_fz rfl)
 (w_sas
 (w_asg (w_as (w_as (w_p (px_chkN (px_consA (px_vo rfl) (px_cons (px_esc (px_v rfl)) (px_cons (px_esc (px_c)) (px_nil)))) rfl)
 (w_callL (r_q_word v5.2 v4.1 8) rfl rfl rfl rfl trivial fun v6 =>
 (w_p px_escA
 (w_gN (tg_fz rfl)
 (w_sas
 (w_asg (w_as (w_as (w_p (px_chkN (px_consA (px_vo rfl) (px_cons (px_esc (px_v rfl)) (px_cons (px_esc (px_c)) (px_nil)))) rfl)
 (w_callL (r_q_string v6.2 v4.1 6) rfl rfl rfl rfl trivial fun v7 =>
 (w_p px_escA
 (w_gN (tg_fz rfl)
 (w_sas
 (w_asg (w_as (w_as (w_p (px_chkN (px_consA (px_vo rfl) (px_cons (px_esc (px_v rfl)) (px_cons (px_esc (px_c)) (px_nil)))) rfl)
 (w_callL (r_q_string v7.2 v4.1 6) rfl rfl rfl rfl trivial fun v8 =>
 (w_p px_escA
 (w_gN (tg_fz rfl)
 (w_sas
 (w_asg (w_as (w_as (w_p (px_chkN (px_cons (px_esc (px_v rfl)) (px_cons (px_esc (px_v rfl)) (px_cons (px_esc (px_v rfl)) (px_nil)))) rfl)
 (w_call (r_image_of v4.1 v5.1 v7.1) rfl trivial fun v9 =>
 (w_p px_escA
 (w_gN (tg_fz rfl)
 (w_sas
 (w_asg (w_as (w_as (w_p (px_chkN (px_cons (px_esc (px_v rfl)) (px_cons (px_esc (px_v rfl)) (px_cons (px_esc (px_v rfl)) (px_nil)))) rfl)
 (w_call (r_section_of v4.1 v5.1 v7.1) rfl trivial fun v10 =>
 (w_p px_escA
 (w_gN (tg_fz rfl)
 (w_sas
 (w_sIf (w_as (w_as (w_as (w_as (w_as (w_as (w_p (px_esc (px_v rfl))
 (w_as (w_as (w_p (px_esc (px_v rfl))
 (w_as (w_as (w_as (w_as (w_p (px_pk (px_v rfl))
 (w_as (w_p (px_pk (px_v rfl))
 (w_op2 rfl rfl (ot_catS (s := v7.1) (t := v8.1)) fun v11 =>
 (w_p px_escR
 (w_as (w_p px_nil
 (w_p px_push
 (w_p px_push
 (w_p px_push
 (w_p (px_chkL rfl)
 (w_call (r_image_of v4.1 v5.1 v11) rfl trivial fun v12 =>
 (w_p px_pkR
 (w_as (w_as (w_as (w_p (px_pk (px_v rfl))
 (w_as (w_as (w_as (w_p (px_chkN (px_cons (px_esc (px_v rfl)) (px_cons (px_esc (px_v rfl)) (px_cons (px_esc (px_v rfl)) (px_nil)))) rfl)
 (w_call (r_image_of v4.1 v10 v8.1) rfl trivial fun v13 =>
 (w_p px_pkR
 (w_op2 rfl rfl (ot_catS (s := v9) (t := v13)) fun v14 =>
 (w_p px_pkR
 (w_p (px_op2 rfl rfl (po_neS (s := v12) (t := v14)))
 (w_p px_toB
 (w_if
 (w_ret (w_p (px_c)
 (w_retF fun g q => .inl rfl)))
 (w_nilS (w_sas
 (w_sIf (w_as (w_as (w_as (w_as (w_as (w_as (w_p (px_esc (px_v rfl))
 (w_as (w_as (w_p (px_esc (px_v rfl))
 (w_as (w_as (w_as (w_as (w_p (px_pk (px_v rfl))
 (w_as (w_p (px_pk (px_v rfl))
 (w_op2 rfl rfl (ot_catS (s := v7.1) (t := v8.1)) fun v15 =>
 (w_p px_escR
 (w_as (w_p px_nil
 (w_p px_push
 (w_p px_push
 (w_p px_push
 (w_p (px_chkL rfl)
 (w_call (r_section_of v4.1 v5.1 v15) rfl trivial fun v16 =>
 (w_p px_pkR
 (w_as (w_as (w_as (w_p (px_chkN (px_cons (px_esc (px_v rfl)) (px_cons (px_esc (px_v rfl)) (px_cons (px_esc (px_v rfl)) (px_nil)))) rfl)
 (w_call (r_section_of v4.1 v10 v8.1) rfl trivial fun v17 =>
 (w_p px_pkR
 (w_p (px_op2 rfl rfl (po_neS (s := v16) (t := v17)))
 (w_p px_toB
 (w_if
 (w_ret (w_p (px_c)
 (w_retF fun g q => .inl rfl)))
 (w_nilS (w_sas
 (w_sIf (w_as (w_as (w_as (w_as (w_as (w_as (w_p (px_esc (px_v rfl))
 (w_as (w_as (w_as (w_as (w_p (px_pk (px_v rfl))
 (w_as (w_p (px_pk (px_v rfl))
 (w_op2 rfl rfl (ot_catS (s := v5.1) (t := v6.1)) fun v18 =>
 (w_p px_escR
 (w_as (w_as (w_p (px_esc (px_v rfl))
 (w_as (w_p px_nil
 (w_p px_push
 (w_p px_push
 (w_p px_push
 (w_p (px_chkL rfl)
 (w_call (r_image_of v4.1 v18 v7.1) rfl trivial fun v19 =>
 (w_p px_pkR
 (w_as (w_as (w_as (w_p (px_chkN (px_cons (px_esc (px_v rfl)) (px_cons (px_esc (px_v rfl)) (px_cons (px_esc (px_v rfl)) (px_nil)))) rfl)
 (w_call (r_image_of v4.1 v6.1 v9) rfl trivial fun v20 =>
 (w_p px_pkR
 (w_p (px_op2 rfl rfl (po_neS (s := v19) (t := v20)))
 (w_p px_toB
 (w_if
 (w_ret (w_p (px_c)
 (w_retF fun g q => .inl rfl)))
 (w_nilS (w_sas
 (w_sIf (w_as (w_as (w_as (w_as (w_as (w_as (w_p (px_esc (px_v rfl))
 (w_as (w_as (w_as (w_as (w_p (px_pk (px_v rfl))
 (w_as (w_p (px_pk (px_v rfl))
 (w_op2 rfl rfl (ot_catS (s := v5.1) (t := v6.1)) fun v21 =>
 (w_p px_escR
 (w_as (w_as (w_p (px_esc (px_v rfl))
 (w_as (w_p px_nil
 (w_p px_push
 (w_p px_push
 (w_p px_push
 (w_p (px_chkL rfl)
 (w_call (r_section_of v4.1 v21 v7.1) rfl trivial fun v22 =>
 (w_p px_pkR
 (w_as (w_as (w_as (w_p (px_pk (px_v rfl))
 (w_as (w_as (w_as (w_p (px_chkN (px_cons (px_esc (px_v rfl)) (px_cons (px_esc (px_v rfl)) (px_cons (px_esc (px_v rfl)) (px_nil)))) rfl)
 (w_call (r_section_of v4.1 v6.1 v9) rfl trivial fun v23 =>
 (w_p px_pkR
 (w_op2 rfl rfl (ot_catS (s := v10) (t := v23)) fun v24 =>
 (w_p px_pkR
 (w_p (px_op2 rfl rfl (po_neS (s := v22) (t := v24)))
 (w_p px_toB
 (w_if
 (w_ret (w_p (px_c)
 (w_retF fun g q => .inl rfl)))
 (w_nilS (w_sas
 (w_asg (w_as (w_as (w_p (px_chkN (px_cons (px_esc (px_v rfl)) (px_cons (px_esc (px_v rfl)) (px_nil))) rfl)
 (w_call (r_undone_word v4.1 v5.1) rfl trivial fun v25 =>
 (w_p px_escA
 (w_gN (tg_fz rfl)
 (w_sas
 (w_sIf (w_tOrT (w_as (w_as (w_as (w_as (w_p (px_chkN (px_cons (px_esc (px_v rfl)) (px_cons (px_esc (px_v rfl)) (px_cons (px_esc (px_v rfl)) (px_nil)))) rfl)
 (w_call (r_image_of v4.1 v25 v9) rfl trivial fun v26 =>
 (w_p px_pkR
 (w_as (w_p (px_pk (px_v rfl))
 (w_p (px_op2 rfl rfl (po_neS (s := v26) (t := v7.1)))
 (w_p px_toB
 (w_tif (f := fun v => v) (LL := fun _ => _) (w_endM) (w_mbmp (w_as (w_as (w_as (w_as (w_p (px_chkN (px_cons (px_esc (px_v rfl)) (px_cons (px_esc (px_v rfl)) (px_cons (px_esc (px_v rfl)) (px_nil)))) rfl)
 (w_call (r_section_of v4.1 v25 v9) rfl trivial fun v27 =>
 (w_p px_pkR
 (w_as (w_as (w_as (w_p (px_chkN (px_cons (px_esc (px_v rfl)) (px_cons (px_esc (px_v rfl)) (px_nil))) rfl)
 (w_call (r_undone_word v4.1 v10) rfl trivial fun v28 =>
 (w_p px_pkR
 (w_p (px_op2 rfl rfl (po_neS (s := v27) (t := v28)))
 (w_p px_toB
 (w_endM))))))))))))))))) fun v29 =>
 (w_if
 (w_ret (w_p (px_c)
 (w_retF fun g q => .inl rfl)))
 (w_nilS (w_sas
 (w_sIf (w_as (w_as (w_as (w_as (w_as (w_as (w_p (px_esc (px_v rfl))
 (w_as (w_as (w_as (w_as (w_as (w_as (w_p (px_esc (px_v rfl))
 (w_as (w_as (w_as (w_as (w_p (px_pk (px_v rfl))
 (w_as (w_p (px_pk (px_v rfl))
 (w_op2 rfl rfl (ot_catS (s := v5.1) (t := v6.1)) fun v30 =>
 (w_p px_escR
 (w_as (w_p px_nil
 (w_p px_push
 (w_p px_push
 (w_p (px_chkL rfl)
 (w_call (r_cut_word v4.1 v30) rfl trivial fun v31 =>
 (w_p px_escR
 (w_as (w_as (w_p (px_esc (px_v rfl))
 (w_as (w_p px_nil
 (w_p px_push
 (w_p px_push
 (w_p px_push
 (w_p (px_chkL rfl)
 (w_call (r_image_of v4.1 v31 v7.1) rfl trivial fun v32 =>
 (w_p px_pkR
 (w_as (w_as (w_as (w_as (w_as (w_p (px_esc (px_v rfl))
 (w_as (w_as (w_as (w_as (w_p (px_pk (px_v rfl))
 (w_as (w_p (px_pk (px_v rfl))
 (w_op2 rfl rfl (ot_catS (s := v5.1) (t := v6.1)) fun v33 =>
 (w_p px_escR
 (w_as (w_as (w_p (px_esc (px_v rfl))
 (w_as (w_p px_nil
 (w_p px_push
 (w_p px_push
 (w_p px_push
 (w_p (px_chkL rfl)
 (w_call (r_image_of v4.1 v33 v7.1) rfl trivial fun v34 =>
 (w_p px_pkR
 (w_p (px_op2 rfl rfl (po_neS (s := v32) (t := v34)))
 (w_p px_toB
 (w_if
 (w_ret (w_p (px_c)
 (w_retF fun g q => .inl rfl)))
 (w_nilS (w_sas
 (w_asg (w_as (w_as (w_as (w_as (w_p (px_esc (px_v rfl))
 (w_as (w_as (w_as (w_as (w_p (px_chkN (px_cons (px_esc (px_v rfl)) (px_cons (px_esc (px_v rfl)) (px_nil))) rfl)
 (w_call (r_cut_word v4.1 v5.1) rfl trivial fun v35 =>
 (w_p px_escR
 (w_as (w_as (w_p (px_esc (px_v rfl))
 (w_as (w_p px_nil
 (w_p px_push
 (w_p px_push
 (w_p px_push
 (w_p (px_chkL rfl)
 (w_call (r_section_of v4.1 v35 v7.1) rfl trivial fun v36 =>
 (w_p px_escA
 (w_gN (tg_fz rfl)
 (w_sas
 (w_sIf (w_tOrT (w_as (w_as (w_as (w_as (w_p (px_chkN (px_cons (px_esc (px_v rfl)) (px_cons (px_esc (px_v rfl)) (px_nil))) rfl)
 (w_call (r_cut_word v4.1 v36) rfl trivial fun v37 =>
 (w_p px_pkR
 (w_as (w_as (w_as (w_p (px_chkN (px_cons (px_esc (px_v rfl)) (px_cons (px_esc (px_v rfl)) (px_nil))) rfl)
 (w_call (r_cut_word v4.1 v10) rfl trivial fun v38 =>
 (w_p px_pkR
 (w_p (px_op2 rfl rfl (po_neS (s := v37) (t := v38)))
 (w_p px_toB
 (w_tif (f := fun v => v) (LL := fun _ => _) (w_endM) (w_mbmp (w_as (w_as (w_as (w_as (w_p (px_chkN (px_cons (px_esc (px_v rfl)) (px_cons (px_esc (px_v rfl)) (px_cons (px_esc (px_cs (y := []))) (px_nil)))) rfl)
 (w_call (r_section_of v4.1 v5.1 ([] : S)) rfl trivial fun v39 =>
 (w_p px_pkR
 (w_as (w_p (px_pk (px_v rfl))
 (w_p (px_op2 rfl rfl (po_neS (s := v39) (t := v5.1)))
 (w_p px_toB
 (w_endM))))))))))))) fun v40 =>
 (w_if
 (w_ret (w_p (px_c)
 (w_retF fun g q => .inl rfl)))
 (w_nilS (w_ret (w_vAnd (w_p (px_B (px_callB (px_cons (px_pk (px_v rfl)) (px_nil)) rfl (po_lenS (s := v10))) (px_callB (px_cons (px_pk (px_v rfl)) (px_nil)) rfl (po_lenS (s := v5.1))) rfl rfl (po_eqI))
 (w_p px_toB (w_tif (f := rF eBl) (LL := fun _ => _) (w_mbmp (w_as (w_p (px_pk (px_lst (px_cons (px_esc (px_v rfl)) (px_cons (px_esc (px_v rfl)) (px_nil))) rfl rfl))
 (w_as (w_as (w_as (w_p (px_chkN (px_cons (px_esc (px_v rfl)) (px_cons (px_esc (px_v rfl)) (px_cons (px_esc (px_v rfl)) (px_nil)))) rfl)
 (w_call (r_q_moved v4.1 v5.1 v7.1) rfl trivial fun v41 =>
 (w_p px_pkR
 (w_op2 rfl rfl (ot_eqE (eL eS) (a := [v9, v10]) (b := [v41.1, v41.2])) fun v42 =>
 (w_endR rfl))))))))))) (w_endP px_c rfl) fun v43 =>
 (w_retF fun g q => .inl rfl)))))))))))))))))))))))))))))))))))))))))))))))))))))))))))))))))))))))))))))))))))))))))))))))))))))))))))))))))))))))))))))))))))))))))))))))))))))))))))))))))))))))))))))))))))))))))))))))))))))))))))))))))))))))))))))))))))))))))))))))))))))))))))))))))))))))))))))))))))))))))))))))))))))))))))))))))))))))))))))))))))))))))))))))))))))))))))))))))))))))))))))))))))))))))))))))))))))))))
end
end Law

namespace Law
open DL PySem PySem.Spec L2
/-! drawn numbers and endless strings -/
def Dw (n : Nat) (xs : List Int) : Prop := (∀ x ∈ xs, 0 ≤ x ∧ x < 1000) ∧ xs.length ≤ n
theorem Dw.nil {n : Nat} : Dw n [] := ⟨fun x h => by simp at h, by simp⟩
theorem Dw.add {n m : Nat} {xs ys : List Int} (h : Dw n xs) (k : Dw m ys) : Dw (n + m) (xs ++ ys) :=
  ⟨fun x hx => (List.mem_append.mp hx).elim (h.1 x) (k.1 x), by rw [List.length_append]; have := h.2; have := k.2; omega⟩
theorem Dw.mono {n m : Nat} {xs : List Int} (h : Dw n xs) (k : n ≤ m) : Dw m xs := ⟨h.1, Nat.le_trans h.2 k⟩
theorem Dw.one {x : Int} : Dw 1 [x % 1000] := ⟨fun y hy => by rw [List.mem_singleton.mp hy]; omega, by simp⟩
theorem Dw.rev {n : Nat} {xs : List Int} (h : Dw n xs) : Dw n xs.reverse := ⟨fun x hx => h.1 x (by simpa using hx), by simpa using h.2⟩
theorem number_ok (c : Int) : Ok (t_q_number c) (fun v => 0 ≤ v) := by
  unfold t_q_number
  by_cases h : c < 0
  · simp [h, Ok]; omega
  · simp [h, Ok]; omega
theorem draws_ok (ns : List Int) (hl : ns.length ≤ 63) : Ok (t_q_draws ns) (Dw 3780) := by
  unfold t_q_draws
  refine ok_tb (tfold_okN (fun i s => Dw (60 * i) s) Dw.nil ?_) fun s h => ok_ok (h.mono (by omega))
  intro i x s hx hs
  have hi : i < ns.length := by
    rcases Nat.lt_or_ge i ns.length with k | k
    · exact k
    · rw [List.getElem?_eq_none k] at hx; cases hx
  refine ok_tb (number_ok x) fun v hv => ?_
  refine ok_tb (P := Dw (60 * (i + 1))) ?_ fun w hw => ok_ok hw
  refine ok_if (fun _ => ?_) fun _ => ?_
  · rw [tRng_eq (by decide) (by decide) (by decide) (by decide), tb_ok]
    refine ok_tlp (tfor_okN (fun j st => Dw (60 * i + j) st.1) (fun v => match v with | .dn st => Dw (60 * (i + 1)) st.1 | .rt _ => False) (hs.mono (by omega)) ?_ ?_) (fun s h => ok_ok h) fun v h => h.elim
    · intro j y st hy hst
      obtain ⟨_, hj⟩ := rngL_get hy
      refine ok_if (fun _ => ok_ok (hst.mono (by omega))) fun _ => ?_
      rw [tApd_eq (by have := hst.2; omega)]
      simp only [tb_ok]
      exact ok_ok ((hst.add Dw.one).mono (by omega))
    · intro st hst
      rw [rngL_len] at hst
      exact hst.mono (by omega)
  · simp only [tb_ok]
    rw [tCat_eq (by have := hs.2; simp; omega)]
    simp only [tb_ok]
    have h3 : ∀ a b c : Int, Dw 3 [a % 1000, b % 1000, c % 1000] := fun a b c => ⟨fun y hy => by simp at hy; omega, by simp⟩
    exact ok_ok ((hs.add (h3 _ _ _)).mono (by omega))
theorem next_ok {n : Nat} {xs : List Int} (h : Dw n xs) : Ok (t_q_next xs) (fun p => (0 ≤ p.1 ∧ p.1 < 1000) ∧ Dw n p.2) := by
  unfold t_q_next
  refine ok_if (fun c => ?_) fun _ => ok_ok ⟨by simp, h⟩
  refine ok_tb (tPop_ok (by intro e; subst e; simp at c)) fun p e => ok_ok ⟨h.1 _ (by rw [e]; simp), fun x hx => h.1 x (by rw [e]; simp; exact .inl hx), ?_⟩
  have := h.2
  rw [e, List.length_append, List.length_singleton] at this
  dsimp only
  omega

theorem erase_perm {α : Type} : ∀ (L : List α) (k : Nat) (h : k < L.length), (L[k] :: L.eraseIdx k).Perm L
  | a :: r, 0, _ => .refl _
  | a :: r, k + 1, h => (List.Perm.swap a (r[k]'(by simpa using h)) (r.eraseIdx k)).trans ((erase_perm r k (by simpa using h)).cons a)

theorem arranged_ok {n : Nat} {xs : List Int} {m : Int} (h : Dw n xs) (h0 : 1 ≤ m) (h1 : m ≤ 1000) : Ok (t_q_arranged xs m) (fun p => p.1.Perm (rngL 0 m) ∧ Dw n p.2) := by
  unfold t_q_arranged
  rw [tLrg_eq ⟨by omega, by omega, by omega, by omega, by omega⟩, tb_ok, tRng_eq (by decide) (by decide) (by omega) (by omega), tb_ok]
  refine ok_tb (tfold_okN (fun i s => Dw n s.1 ∧ s.2.2.length + i = m.toNat ∧ s.2.1.length = i ∧ (s.2.2 ++ s.2.1).Perm (rngL 0 m)) ⟨h, by show (rngL 0 m).length + 0 = _; rw [rngL_len]; omega, rfl, by simp⟩ ?_) ?_
  · intro i x s hx ⟨hd, hl, hl2, hp⟩
    obtain ⟨rfl, hi⟩ := rngL_get hx
    have hpos : 0 < (s.2.2.length : Int) := by omega
    refine ok_tb ((next_ok hd)) fun p ⟨_, p2⟩ => ?_
    rw [tMod_eq hpos, tb_ok]
    have e0 := Int.emod_nonneg p.1 (show (s.2.2.length : Int) ≠ 0 by omega)
    have e1 := Int.emod_lt_of_pos p.1 hpos
    generalize p.1 % (s.2.2.length : Int) = a at e0 e1
    have hlt : a.toNat < s.2.2.length := by omega
    rw [tIdx_int e0 (List.getElem?_eq_getElem hlt), tb_ok, tApd_eq (by omega), tb_ok]
    have ec : cutL s.2.2 none (some a) ++ cutL s.2.2 (some (a + 1)) none = s.2.2.eraseIdx a.toNat := by
      rw [cutL_to _ _ e0, cutL_from _ _ (by omega), List.eraseIdx_eq_take_drop_succ, show (a + 1).toNat = a.toNat + 1 by omega]
    rw [tCat_eq (by have := cutL_len s.2.2 none (some a); have := cutL_len s.2.2 (some (a + 1)) none; omega), tb_ok, ec]
    refine ok_ok ⟨p2, ?_, by simp [hl2], ?_⟩
    · show (s.2.2.eraseIdx a.toNat).length + (i + 1) = _
      rw [List.length_eraseIdx, if_pos hlt]; omega
    · show (s.2.2.eraseIdx a.toNat ++ (s.2.1 ++ [s.2.2[a.toNat]])).Perm _
      refine List.Perm.trans ?_ hp
      rw [← List.append_assoc]
      refine List.perm_append_comm.trans ?_
      show ((s.2.2[a.toNat] :: s.2.2.eraseIdx a.toNat) ++ s.2.1).Perm _
      exact List.Perm.append_right _ (erase_perm _ _ hlt)
  · intro s ⟨hd, hl, _, hp⟩
    rw [rngL_len] at hl
    have : s.2.2 = [] := List.eq_nil_of_length_eq_zero (by omega)
    rw [this] at hp
    exact ok_ok ⟨hp, hd⟩
theorem machine_ok {n : Nat} {xs : List Int} {most : Int} (h : Dw n xs) (m0 : 1 ≤ most) (m1 : most ≤ 7) : Ok (t_q_machine xs most) (fun p => WideM p.1 ∧ (p.1.2.length : Int) ≤ most + 1 ∧ Dw n p.2) := by
  unfold t_q_machine
  refine ok_tb ((next_ok h)) fun p ⟨_, p2⟩ => ?_
  refine ok_tb (tIdx_ok (xs := [2, 2, 2, 3, 4]) (Int.emod_nonneg _ (by decide)) (Int.emod_lt_of_pos _ (by decide))) fun k hk => ?_
  have k01 : 2 ≤ k ∧ k ≤ 4 := by
    have := List.mem_of_getElem? hk
    simp only [List.mem_cons, List.not_mem_nil, or_false] at this
    omega
  obtain ⟨k0, k1⟩ := k01
  refine ok_tb ((next_ok p2)) fun q ⟨_, q2⟩ => ?_
  rw [tMod_eq (by omega), tb_ok, tb_ok]
  have c0 : 1 ≤ 1 + q.1 % most := by have := Int.emod_nonneg q.1 (show most ≠ 0 by omega); omega
  have c1 : 1 + q.1 % most ≤ most := by have := Int.emod_lt_of_pos q.1 (show 0 < most by omega); omega
  generalize 1 + q.1 % most = c at c0 c1
  refine ok_tb ((next_ok q2)) fun r ⟨_, r2⟩ => ?_
  rw [tb_ok]
  generalize decide (r.1 % 2 = 0) = dir
  rw [tRng_eq (by decide) (by decide) (by omega) (by omega), tb_ok]
  refine ok_tb (tfold_okN (fun i s => Dw n s.1 ∧ s.2.length = i ∧ ∀ w ∈ s.2, (w.map Prod.fst).Perm (rngL 0 k) ∧ ∀ e ∈ w, 0 ≤ e.2 ∧ e.2 < c + (if dir = true then 1 else 0)) ⟨r2, rfl, fun w h => by simp at h⟩ ?_) ?_
  · intro i x s hx ⟨hd, hl, hr⟩
    obtain ⟨rfl, hi⟩ := rngL_get hx
    refine ok_tb ((arranged_ok hd (by omega) (by omega))) fun os ⟨o1, o2⟩ => ?_
    have hol := o1.length_eq
    rw [rngL_len] at hol
    rw [tRng_eq (by decide) (by decide) (by omega) (by omega), tb_ok]
    refine ok_tb (tMapS_ok (fun j st acc => Dw n st ∧ acc.length = j ∧ ∀ y ∈ acc, 0 ≤ y ∧ y < c) (by rw [rngL_len]; omega) ⟨o2, rfl, fun y h => by simp at h⟩ ?_) fun ls ⟨l1, l2, l3⟩ => ?_
    · intro j y st acc hy ⟨a1, a2, a3⟩
      refine ok_tb ((next_ok a1)) fun u ⟨_, u2⟩ => ?_
      rw [tMod_eq (by omega), tb_ok]
      refine ok_ok ⟨u2, by simp [a2], fun z hz => ?_⟩
      rcases List.mem_append.mp hz with g | g
      · exact a3 z g
      · rw [List.mem_singleton.mp g]; exact ⟨Int.emod_nonneg _ (by omega), Int.emod_lt_of_pos _ (by omega)⟩
    · rw [rngL_len] at l2
      refine ok_tb (P := fun t : List Int × List Int => Dw n t.1 ∧ t.2.length = k.toNat ∧ ∀ y ∈ t.2, 0 ≤ y ∧ y < c + (if dir = true then 1 else 0)) ?_ fun t ⟨t1, t2, t3⟩ => ?_
      · by_cases hdir : dir = true
        · rw [if_pos hdir]
          refine ok_tb ((next_ok l1)) fun u ⟨_, u2⟩ => ?_
          rw [tMod_eq (by omega), tb_ok, tb_ok]
          refine ok_tb (tMap_ok (fun _ (y : Int) => 0 ≤ y ∧ y < c + 1) (by rw [rngL_len]; omega) ?_) fun ys hys => ?_
          · intro z hz
            rw [tb_eta]
            obtain ⟨z0, z1⟩ := rngL_mem.mp hz
            refine ok_if (fun _ => ?_) fun _ => ok_ok ⟨by omega, by omega⟩
            rw [tb_eta]
            refine ok_imp (tIdx_ok z0 (by omega)) fun y hy => ?_
            have := l3 y (List.mem_of_getElem? hy)
            omega
          · have hyl := hys.length
            rw [rngL_len] at hyl
            refine ok_ok ⟨u2, by dsimp only; omega, fun y hy => ?_⟩
            obtain ⟨_, _, g⟩ := hys.mem hy
            rw [if_pos hdir]; exact g
        · rw [if_neg hdir]
          exact ok_ok ⟨l1, by dsimp only; omega, fun y hy => by have := l3 y hy; rw [if_neg hdir]; omega⟩
      · rw [tb_ok]
        have hm : tMap (rngL 0 k) (fun (x73 : Int) => tb (tIdx os.1 x73) fun v74 => tb (tIdx t.2 x73) fun v75 => .ok (v74, v75)) = .ok ((rngL 0 k).map fun z => (os.1.getD z.toNat 0, t.2.getD z.toNat 0)) := by
          refine tMap_eq _ (by rw [rngL_len]; omega) fun z hz => ?_
          obtain ⟨z0, z1⟩ := rngL_mem.mp hz
          have g1 : os.1[z.toNat]? = some (os.1.getD z.toNat 0) := by rw [List.getD_eq_getElem?_getD, List.getElem?_eq_getElem (show z.toNat < os.1.length by omega)]; rfl
          have g2 : t.2[z.toNat]? = some (t.2.getD z.toNat 0) := by rw [List.getD_eq_getElem?_getD, List.getElem?_eq_getElem (show z.toNat < t.2.length by omega)]; rfl
          rw [tIdx_int z0 g1, tb_ok, tIdx_int z0 g2, tb_ok]
        rw [hm, tb_ok, tApd_eq (by omega), tb_ok]
        refine ok_ok ⟨t1, by simp [hl], fun w hw => ?_⟩
        rcases List.mem_append.mp hw with g | g
        · exact hr w g
        · rw [List.mem_singleton.mp g, List.map_map]
          refine ⟨?_, fun e he => ?_⟩
          · have : (Prod.fst ∘ fun z : Int => (os.1.getD z.toNat 0, t.2.getD z.toNat 0)) = fun z : Int => os.1.getD z.toNat 0 := rfl
            rw [this]
            have e2 : ((rngL 0 k).map fun z : Int => os.1.getD z.toNat 0) = os.1 := by
              apply List.ext_getElem?
              intro j
              rcases Nat.lt_or_ge j os.1.length with z | z
              · have hj : j < (rngL 0 k).length := by rw [rngL_len]; omega
                rw [List.getElem?_map, List.getElem?_eq_getElem hj, Option.map_some]
                obtain ⟨ej, _⟩ := rngL_get (List.getElem?_eq_getElem hj)
                rw [ej, show ((0 : Int) + (j : Int)).toNat = j by omega, List.getD_eq_getElem?_getD, List.getElem?_eq_getElem z]; rfl
              · rw [List.getElem?_eq_none (by rw [List.length_map, rngL_len]; omega), List.getElem?_eq_none z]
            rw [e2]; exact o1
          · obtain ⟨z, hz, rfl⟩ := List.mem_map.mp he
            obtain ⟨z0, z1⟩ := rngL_mem.mp hz
            refine t3 _ ?_
            show t.2.getD z.toNat 0 ∈ t.2
            rw [List.getD_eq_getElem?_getD, List.getElem?_eq_getElem (show z.toNat < t.2.length by omega)]
            exact List.getElem_mem ..
  · intro s ⟨hd, hl, hr⟩
    rw [rngL_len] at hl
    by_cases hdir : dir = true
    · rw [if_pos hdir] at hr ⊢
      rw [tRng_eq (by decide) (by decide) (by omega) (by omega), tb_ok, tMap_pure (by rw [rngL_len]; omega), tb_ok, tApd_eq (by omega), tb_ok, tb_ok]
      have hlen : (s.2 ++ [(rngL 0 k).map fun x => (x, c)]).length = s.2.length + 1 := by simp
      refine ok_ok ⟨⟨k0, k1, ?_, ?_, fun w hw => ?_⟩, ?_, hd⟩
      · show 1 ≤ (_ : List MRow).length; rw [hlen]; omega
      · show (_ : List MRow).length ≤ 200; rw [hlen]; omega
      · show RowOk k ((_ : List MRow).length : Nat) w
        rw [hlen]
        rcases List.mem_append.mp hw with g | g
        · obtain ⟨g1, g2⟩ := hr w g
          exact ⟨g1, fun e he => by have := g2 e he; omega⟩
        · rw [List.mem_singleton.mp g]
          refine ⟨by rw [List.map_map]; simp [Function.comp_def], fun e he => ?_⟩
          obtain ⟨z, _, rfl⟩ := List.mem_map.mp he
          exact ⟨by show 0 ≤ c; omega, by show c < _; omega⟩
      · show ((_ : List MRow).length : Int) ≤ _; rw [hlen]; omega
    · rw [if_neg hdir] at hr ⊢
      rw [tb_ok]
      refine ok_ok ⟨⟨k0, k1, by dsimp only; omega, by dsimp only; omega, fun w hw => ?_⟩, by dsimp only; omega, hd⟩
      obtain ⟨g1, g2⟩ := hr w hw
      exact ⟨g1, fun e he => by have := g2 e he; dsimp only; omega⟩
/-- the letters of n states -/
def lets (n : Nat) : S := ([97, 65, 98, 66, 99, 67, 100, 68, 101, 69, 102, 70, 103, 71, 104, 72] : S).take (2 * n)
theorem lets_cut (n : Nat) : cutL ([97, 65, 98, 66, 99, 67, 100, 68, 101, 69, 102, 70, 103, 71, 104, 72] : S) none (some (2 * (n : Int))) = lets n := by
  rw [cutL_to _ _ (by omega)]; unfold lets; congr 1
theorem lets_cut8 {n : Nat} (h : n ≤ 4) : cutL ([97, 65, 98, 66, 99, 67, 100, 68] : S) none (some (2 * (n : Int))) = lets n := by
  rw [cutL_to _ _ (by omega), show (2 * (n : Int)).toNat = 2 * n by omega]
  have : n = 0 ∨ n = 1 ∨ n = 2 ∨ n = 3 ∨ n = 4 := by omega
  rcases this with rfl | rfl | rfl | rfl | rfl <;> rfl
def InW (n : Nat) (w : S) : Prop := ∀ c ∈ w, c ∈ lets n
theorem word_ok {n : Nat} {xs : List Int} {m : Mac} {most : Int} (h : Dw n xs) (l0 : 1 ≤ m.2.length) (l1 : m.2.length ≤ 4) (m0 : 0 ≤ most) (m1 : most ≤ 1000) :
    Ok (t_q_word xs m most) (fun p => InW m.2.length p.1 ∧ (p.1.length : Int) ≤ most ∧ Dw n p.2) := by
  unfold t_q_word
  rw [tb_ok, lets_cut8 l1]
  have ll : (lets m.2.length).length = 2 * m.2.length := by unfold lets; rw [List.length_take]; show min _ 16 = _; omega
  refine ok_tb ((next_ok h)) fun p ⟨_, p2⟩ => ?_
  rw [tMod_eq (by omega), tb_ok]
  have e0 := Int.emod_nonneg p.1 (show most + 1 ≠ 0 by omega)
  have e1 := Int.emod_lt_of_pos p.1 (show 0 < most + 1 by omega)
  generalize p.1 % (most + 1) = l at e0 e1
  rw [tRng_eq (by decide) (by decide) (by omega) (by omega), tb_ok]
  refine ok_tb (tMapS_ok (fun j s acc => Dw n s ∧ acc.length = j ∧ InW m.2.length acc) (by rw [rngL_len]; omega) ⟨p2, rfl, fun c h => by simp at h⟩ ?_) fun q ⟨q1, q2, q3⟩ => ?_
  · intro j x s acc hx ⟨a1, a2, a3⟩
    refine ok_tb ((next_ok a1)) fun u ⟨_, u2⟩ => ?_
    rw [tMod_eq (by omega), tb_ok]
    have f0 := Int.emod_nonneg u.1 (show ((lets m.2.length).length : Int) ≠ 0 by omega)
    have f1 := Int.emod_lt_of_pos u.1 (show 0 < ((lets m.2.length).length : Int) by omega)
    refine ok_tb (tIdx_ok f0 f1) fun c hc => ok_ok ⟨u2, by simp [a2], fun d hd => ?_⟩
    rcases List.mem_append.mp hd with g | g
    · exact a3 d g
    · rw [List.mem_singleton.mp g]; exact List.mem_of_getElem? hc
  · rw [rngL_len] at q2
    rw [tJoin_one (by omega), tb_ok]
    exact ok_ok ⟨q3, by dsimp only; omega, q1⟩

/-! checks -/
/-- not too large to be looked at -/
def Sm (m : Mac) : Prop := m.2.length ≤ 100000 ∧ ∀ r ∈ m.2, r.length ≤ 100000
theorem wide_sm {m : Mac} (w : WideM m) : Sm m := ⟨by have := w.n1; omega, fun r hr => by have := (w.row r hr).len; have := w.k1; omega⟩
open Classical in
theorem is_row_ok {r : MRow} {k n : Int} (h0 : 0 ≤ k) (h1 : k ≤ 1000) (hl : r.length ≤ 100000) : t__is_row r k n = .ok (decide (RowOk k n r)) := by
  unfold t__is_row
  by_cases hk : (r.length : Int) = k
  · rw [decide_eq_true hk]
    simp only [Bool.not_true, Bool.false_eq_true, if_false]
    rw [tMap_pure (by omega), tb_ok, tLrg_eq ⟨by omega, by omega, by omega, by omega, by omega⟩, tb_ok, tb_eta]
    rw [tNeE_eq (okEq_of (k := 2) (shp_L (k := 1) eI fun x _ => shp_int x) (shp_L (k := 1) eI fun x _ => shp_int x)), tb_ok]
    by_cases hp : (r.map Prod.fst).Perm (rngL 0 k)
    · have hs : srt (r.map fun x => x.1) = rngL 0 k := srt_rng.mpr hp
      rw [decide_eq_true hs]
      simp only [Bool.not_true, Bool.false_eq_true, if_false]
      rw [tMap_pure (by omega), tb_ok]
      congr 1
      rw [Bool.eq_iff_iff, decide_eq_true_eq, List.all_map, List.all_eq_true]
      constructor
      · intro h
        exact ⟨hp, fun p hp => by have := h p hp; simpa using this⟩
      · intro h p hp
        have := h.nx p hp
        simpa using this
    · have hs : ¬ srt (r.map fun x => x.1) = rngL 0 k := fun e => hp (srt_rng.mp e)
      rw [decide_eq_false hs]
      simp only [Bool.not_false, if_true]
      congr 1
      exact (decide_eq_false fun h => hp h.pm).symm
  · rw [decide_eq_false hk]
    simp only [Bool.not_false, if_true, tb_ok]
    congr 1
    refine (decide_eq_false fun h => hk ?_).symm
    have := h.len; omega
open Classical in
theorem is_wide_ok {m : Mac} (h : Sm m) : t_is_wide m = .ok (decide (WideM m)) := by
  unfold t_is_wide
  by_cases c : (2 ≤ m.1 ∧ m.1 ≤ 4) ∧ (1 ≤ m.2.length ∧ m.2.length ≤ 200)
  · obtain ⟨⟨c1, c2⟩, c3, c4⟩ := c
    rw [decide_eq_true c1, decide_eq_true c2, decide_eq_true (show (1 : Int) ≤ (m.2.length : Int) by omega), decide_eq_true (show (m.2.length : Int) ≤ 200 by omega)]
    simp only [Bool.and_self, Bool.not_true, Bool.or_self, Bool.false_eq_true, if_false]
    have hm : tMap m.2 (fun x2 => tb (t__is_row x2 m.1 (m.2.length : Int)) fun v3 => .ok v3) = .ok (m.2.map fun r => decide (RowOk m.1 m.2.length r)) :=
      tMap_eq _ (by omega) fun r hr => by rw [tb_eta, is_row_ok (by omega) (by omega) (h.2 r hr)]
    rw [hm, tb_ok]
    congr 1
    rw [Bool.eq_iff_iff, decide_eq_true_eq, List.all_map, List.all_eq_true]
    constructor
    · intro q; exact ⟨c1, c2, c3, c4, fun r hr => by have := q r hr; simpa using this⟩
    · intro w r hr; have := w.row r hr; simpa using this
  · have hf : ((!((decide (2 ≤ m.1)) && (decide (m.1 ≤ 4)))) || (!((decide (1 ≤ (m.2.length : Int))) && (decide ((m.2.length : Int) ≤ 200))))) = true := by
      rw [Bool.or_eq_true, Bool.not_eq_true', Bool.not_eq_true', Bool.and_eq_false_iff, Bool.and_eq_false_iff, decide_eq_false_iff_not, decide_eq_false_iff_not, decide_eq_false_iff_not, decide_eq_false_iff_not]
      omega
    rw [if_pos hf]
    congr 1
    exact (decide_eq_false fun w => c ⟨⟨w.k0, w.k1⟩, w.n0, w.n1⟩).symm

open Classical in
theorem is_machine_ok {m : Mac} (h : Sm m) : t_is_machine m = .ok (decide (WideM m) && decide ((m.2.length : Int) ≤ 8)) := by
  unfold t_is_machine
  rw [tb_eta]
  by_cases c : (m.2.length : Int) ≤ 8
  · rw [decide_eq_true c, if_pos rfl, is_wide_ok h, tb_ok, Bool.and_true]
  · rw [decide_eq_false c, if_neg (by decide), Bool.and_false]
open Classical in
theorem check_machine_ok {m : Mac} (h : Sm m) : t_check_machine m = if (decide (WideM m) && decide ((m.2.length : Int) ≤ 8)) = true then .ok () else .ex ⟨"NotMachine", []⟩ := by
  unfold t_check_machine
  rw [is_machine_ok h, tb_ok]
  cases (decide (WideM m) && decide ((m.2.length : Int) ≤ 8)) <;> rfl

/-! the program's words -/
abbrev small8 : S := [97, 98, 99, 100, 101, 102, 103, 104]
abbrev large8 : S := [65, 66, 67, 68, 69, 70, 71, 72]
abbrev ord16 : S := [97, 65, 98, 66, 99, 67, 100, 68, 101, 69, 102, 70, 103, 71, 104, 72]
theorem sidx_of {s : S} {c i : Nat} (h : PySem.Builtin.Str.occurrences ⟨s.toArray⟩ ⟨[c].toArray⟩ 0 (⟨s.toArray⟩ : Str).length 1 = [i]) : tSIdx s [c] = .ok (i : Int) := by unfold tSIdx; rw [h]
theorem sidx_small {c : Nat} (h : c ∈ small8) : tSIdx small8 [c] = .ok ((c - 97 : Nat) : Int) := by
  have : ∀ c ∈ small8, PySem.Builtin.Str.occurrences ⟨small8.toArray⟩ ⟨[c].toArray⟩ 0 (⟨small8.toArray⟩ : Str).length 1 = [c - 97] := by decide +kernel
  exact sidx_of (this c h)
theorem sidx_large {c : Nat} (h : c ∈ large8) : tSIdx large8 [c] = .ok ((c - 65 : Nat) : Int) := by
  have : ∀ c ∈ large8, PySem.Builtin.Str.occurrences ⟨large8.toArray⟩ ⟨[c].toArray⟩ 0 (⟨large8.toArray⟩ : Str).length 1 = [c - 65] := by decide +kernel
  exact sidx_of (this c h)
theorem sidx_ord {c : Nat} (h : c ∈ ord16) : tSIdx ord16 [c] = .ok ((ord16.idxOf c : Nat) : Int) := by
  have : ∀ c ∈ ord16, PySem.Builtin.Str.occurrences ⟨ord16.toArray⟩ ⟨[c].toArray⟩ 0 (⟨ord16.toArray⟩ : Str).length 1 = [ord16.idxOf c] := by decide +kernel
  exact sidx_of (this c h)
theorem small_iff {c : Nat} : c ∈ small8 ↔ 97 ≤ c ∧ c ≤ 104 := by simp; omega
theorem large_iff {c : Nat} : c ∈ large8 ↔ 65 ≤ c ∧ c ≤ 72 := by simp; omega
theorem other_ok {c : Nat} (h : Lt c) : t_other c = .ok (sw c) := by
  unfold t_other
  have g1 : ∀ c ∈ small8, large8[c - 97]? = some (sw c) := by decide
  have g2 : ∀ c ∈ large8, small8[c - 65]? = some (sw c) := by decide
  rcases h with h | h
  · have hm := small_iff.mpr h
    rw [decide_eq_true hm, if_pos rfl, sidx_small hm, tb_ok, tIdx_nat (g1 c hm), tb_ok]
  · have hm := large_iff.mpr h
    rw [decide_eq_false (fun z => by have := small_iff.mp z; omega), if_neg (by decide), sidx_large hm, tb_ok, tIdx_nat (g2 c hm), tb_ok]
theorem lets_sub {n : Nat} {c : Nat} (h : c ∈ lets n) : c ∈ ord16 := List.mem_of_mem_take h
theorem ord_lt {c : Nat} (h : c ∈ ord16) : Lt c := by
  have : ∀ c ∈ ord16, (97 ≤ c ∧ c ≤ 104) ∨ (65 ≤ c ∧ c ≤ 72) := by decide
  exact this c h
theorem lets_sw {n : Nat} (hn : n ≤ 8) {c : Nat} (h : c ∈ lets n) : sw c ∈ lets n := by
  have key : ∀ n ∈ List.range 9, ∀ c ∈ lets n, sw c ∈ lets n := by decide
  exact key n (List.mem_range.mpr (by omega)) c h
theorem InW.all {n : Nat} {w : S} (h : InW n w) : AllL w := fun c hc => ord_lt (lets_sub (h c hc))
theorem InW.und {n : Nat} {w : S} (hn : n ≤ 8) (h : InW n w) : InW n (und w) := fun d hd => by
  unfold DL.und at hd
  obtain ⟨c, hc, rfl⟩ := List.mem_map.mp hd
  exact lets_sw hn (h c (List.mem_reverse.mp hc))
theorem InW.ct {n : Nat} {w : S} (h : InW n w) : InW n (ct w) := fun d hd => h d (ct_sub hd)
theorem InW.app {n : Nat} {v w : S} (h : InW n v) (k : InW n w) : InW n (v ++ w) := fun d hd => (List.mem_append.mp hd).elim (h d) (k d)
theorem last_get {s : S} (h : 0 < s.length) : tIdx s (-1 : Int) = .ok (s.getD (s.length - 1) 0) := by
  refine tIdx_neg (by decide) (by omega) ?_
  rw [show ((-1 : Int) + (s.length : Int)).toNat = s.length - 1 by omega, List.getD_eq_getElem?_getD, List.getElem?_eq_getElem (by omega)]; rfl
theorem cut_ok {w : S} (h : AllL w) (hl : w.length ≤ 1000) : t_cut w = .ok (ct w) := by
  have key : Ok (t_cut w) (fun v => v = ct w) := by
    unfold t_cut
    refine ok_tb (tfold_okN (fun i s => s = (pw [] (w.take i)).reverse) rfl ?_) ?_
    · intro i c s hc hs
      have hlt := (List.getElem?_eq_some_iff.mp hc).1
      have ht : w.take (i + 1) = w.take i ++ [c] := by rw [List.take_add_one, hc]; rfl
      have hcl : Lt c := h c (List.mem_of_getElem? hc)
      have hsl : s.length ≤ i := by
        rw [hs, List.length_reverse]
        have := pw_len (w.take i) []
        rw [List.length_take] at this
        have e : ([] : S).length = 0 := rfl
        omega
      refine ok_tb (P := fun v => v = (psh (pw [] (w.take i)) c).reverse) ?_ fun v hv => ok_ok (by rw [hv, ht, pw_snoc])
      generalize pw [] (w.take i) = st at hs
      cases st with
      | nil =>
        have hs : s = [] := hs
        subst hs
        rw [show (!([] : List Nat).isEmpty) = false from rfl, if_neg (by decide), tb_ok, if_neg (by decide), tApd_eq (by decide), tb_ok]
        exact ok_ok rfl
      | cons a r =>
        rw [List.reverse_cons] at hs
        have hne : 0 < s.length := by rw [hs, List.length_append]; simp
        have hem : (!s.isEmpty) = true := by cases s with
          | nil => simp at hne
          | cons _ _ => rfl
        have hlast : s.getD (s.length - 1) 0 = a := by rw [hs, List.length_append, List.length_singleton, List.getD_eq_getElem?_getD, List.getElem?_append_right (by omega)]; simp
        rw [hem, if_pos rfl, last_get hne, tb_ok, other_ok hcl, tb_ok, tb_ok, hlast]
        by_cases e : a = sw c
        · rw [decide_eq_true (by rw [e]), if_pos rfl, hs, tPop_eq, tb_ok]
          refine ok_ok ?_
          show r.reverse = _
          rw [show psh (a :: r) c = r from if_pos e]
        · rw [decide_eq_false (by simpa using e), if_neg (by decide), tApd_eq (by omega), tb_ok]
          refine ok_ok ?_
          rw [show psh (a :: r) c = c :: a :: r from if_neg e, hs]; simp
    · intro s hs
      rw [List.take_length] at hs
      have hsl := ct_len w
      unfold ct at hsl
      rw [tJoin_one (by rw [hs]; omega), tb_ok]
      exact ok_ok hs
  obtain ⟨v, e, rfl⟩ := key
  exact e
theorem undone_ok {w : S} (h : AllL w) (hl : w.length ≤ 1000) : t_undone w = .ok (und w) := by
  unfold t_undone
  have hm : tMap w.reverse (fun (x2 : Nat) => tb (t_other x2) fun v3 => .ok v3) = .ok (w.reverse.map sw) :=
    tMap_eq _ (by rw [List.length_reverse]; omega) fun c hc => by rw [tb_eta]; exact other_ok (h c (List.mem_reverse.mp hc))
  rw [hm, tb_ok, tJoin_one (by rw [List.length_map, List.length_reverse]; omega), tb_ok]; rfl
/-- the place in the order -/
def plc (w : S) : Int × List Int := ((w.length : Int), w.map fun c => ((ord16.idxOf c : Nat) : Int))
open Classical in
theorem is_word_ok {m : Mac} {w : S} (hl : w.length ≤ 100000) : t_is_word m w = .ok (decide (InW m.2.length w)) := by
  unfold t_is_word t_letters_of
  rw [tb_ok, lets_cut, tMap_pure (by omega), tb_ok]
  congr 1
  rw [Bool.eq_iff_iff, decide_eq_true_eq, List.all_map, List.all_eq_true]
  exact ⟨fun h c hc => by have := h c hc; simpa using this, fun h c hc => decide_eq_true (h c hc)⟩
open Classical in
theorem refuse_ok {m : Mac} {w : S} (hl : w.length ≤ 100000) : t_refuse_word m w = if w.length ≤ 60 ∧ InW m.2.length w then .ok () else .ex ⟨"NotWord", []⟩ := by
  unfold t_refuse_word
  by_cases c : w.length ≤ 60
  · rw [decide_eq_false (by omega), if_neg (by decide), is_word_ok hl, tb_ok]
    by_cases d : InW m.2.length w
    · rw [decide_eq_true d, if_pos ⟨c, d⟩]; rfl
    · rw [decide_eq_false d, if_neg fun z => d z.2]; rfl
  · rw [decide_eq_true (by omega), if_pos rfl, if_neg fun z => c z.1]; rfl

theorem cutL_but {α : Type} {xs : List α} : cutL xs none (some (-1 : Int)) = xs.take (xs.length - 1) := by
  have h : HT.sIx xs.length xs.length (some (-1 : Int)) = xs.length - 1 := by
    unfold HT.sIx
    simp only
    split <;> omega
  unfold cutL
  rw [h, sIx_no]
  simp
open Classical in
theorem has_digits_ok {k : Int} {z : S} (k0 : 2 ≤ k) (k1 : k ≤ 4) : t_has_digits k z = .ok (decide (z.length ≤ 60 ∧ DgS k z)) := by
  unfold t_has_digits
  rw [tb_eta]
  by_cases hl : z.length ≤ 60
  · rw [decide_eq_true (by omega), if_pos rfl, tMap_pure (by omega), tb_ok]
    congr 1
    rw [Bool.eq_iff_iff, decide_eq_true_eq, List.all_map, List.all_eq_true]
    constructor
    · intro h; exact ⟨hl, fun c hc => (digit_mem k0 k1).mp (by have := h c hc; simpa using this)⟩
    · intro h c hc; exact decide_eq_true ((digit_mem k0 k1).mpr (h.2 c hc))
  · rw [decide_eq_false (by omega), if_neg (by decide)]
    congr 1
    exact (decide_eq_false fun h => hl h.1).symm
open Classical in

theorem try_ok {ρ : Type} {v : ρ} {ns : List Str} {h : Ex → T ρ} : tTry (.ok v) ns h = .ok v := by unfold tTry; rfl
theorem try_ex {ρ : Type} {e : Ex} {ns : List Str} {h : Ex → T ρ} (m : e.c ∈ ns) : tTry (.ex e) ns h = h e := by unfold tTry; exact if_pos m
theorem ne_str {a b : S} (ha : okS a) (hb : okS b) : tNeD (eS a) (eS b) = .ok (!decide (a = b)) := by
  rw [tNeD_eq (okEq_of (k := 1) (shp_str ha) (shp_str hb))]
  congr 2
  show ((⟨a.toArray⟩ : Str) == ⟨b.toArray⟩) = _
  exact str_beq
theorem all_okS {w : S} (h : AllL w) : okS w := fun c hc => by have := h c hc; unfold Lt at this; omega
theorem eS_inj (a b : S) (h : eS a = eS b) : a = b := by injection h with h; exact str_inj.mp h
open Classical in
theorem chk_mac {m : Mac} (w : WideM m) (hl : m.2.length ≤ 4) : t_check_machine m = .ok () := by
  rw [check_machine_ok (wide_sm w), decide_eq_true w, decide_eq_true (show (m.2.length : Int) ≤ 8 by omega)]; rfl
theorem chk_word {m : Mac} (w : WideM m) (hl : m.2.length ≤ 4) {z : S} (hz : InW m.2.length z) (h : z.length ≤ 60) : t_check_word m z = .ok () := by
  unfold t_check_word; rw [chk_mac w hl, tb_ok, refuse_ok (by omega), if_pos ⟨h, hz⟩]; rfl
theorem chk_bad {m : Mac} (w : WideM m) (hl : m.2.length ≤ 4) {z : S} (hz : z.length ≤ 100000) (h : ¬ (z.length ≤ 60 ∧ InW m.2.length z)) : t_check_word m z = .ex ⟨"NotWord", []⟩ := by
  unfold t_check_word; rw [chk_mac w hl, tb_ok, refuse_ok hz, if_neg h]; rfl
open Classical in
theorem chk_none {rs : List MRow} (h : Sm (1, rs)) (z : S) : t_check_word (1, rs) z = .ex ⟨"NotMachine", []⟩ := by
  unfold t_check_word
  rw [check_machine_ok h, decide_eq_false (fun w : WideM (1, rs) => by have := w.k0; dsimp only at this; omega)]; rfl
abbrev sWord : S := [33, 119, 111, 114, 100]
abbrev sMac : S := [33, 109, 97, 99, 104, 105, 110, 101]
def hdl (e : Ex) : T D := if subE e.c "NotWord" = true then tExc e (tb (tIsE ["NotMachine", "NotWord"] "LeafError" e.c) fun v9 =>
  tb ((if v9 = true then (.ok [33, 119, 111, 114, 100]) else (.ok [33, 111, 116, 104, 101, 114]) : T S)) fun v10 =>
  .ok (eS v10)) else if subE e.c "NotMachine" = true then tnx (.ok (eS [33, 109, 97, 99, 104, 105, 110, 101])) else .ex e
theorem hd_word : hdl ⟨"NotWord", []⟩ = .ok (eS sWord) := by
  unfold hdl
  rw [if_pos (by decide), tIsE_eq (by decide), show subE "NotWord" "LeafError" = true by decide]; rfl
theorem hd_mac : hdl ⟨"NotMachine", []⟩ = .ok (eS sMac) := by
  unfold hdl
  rw [if_neg (by decide), if_pos (by decide)]; rfl
theorem plc_a : plc [97] = (1, [0]) := by decide
theorem in_a {n : Nat} (h1 : 1 ≤ n) (h : n ≤ 8) : InW n [97] := fun c hc => by
  have key : ∀ n ∈ List.range 9, 1 ≤ n → 97 ∈ lets n := by decide
  rw [List.mem_singleton.mp hc]; exact key n (List.mem_range.mpr (by omega)) h1
theorem cutw_ok {m : Mac} (w : WideM m) (hl : m.2.length ≤ 4) {z : S} (hz : InW m.2.length z) (h : z.length ≤ 60) : t_cut_word m z = .ok (ct z) := by
  unfold t_cut_word; rw [chk_word w hl hz h, tb_ok, cut_ok hz.all (by omega), tb_ok]
theorem undw_ok {m : Mac} (w : WideM m) (hl : m.2.length ≤ 4) {z : S} (hz : InW m.2.length z) (h : z.length ≤ 60) : t_undone_word m z = .ok (und z) := by
  unfold t_undone_word; rw [chk_word w hl hz h, tb_ok, undone_ok hz.all (by omega), tb_ok]

/-! the Actor -/
theorem digit_str {d : Int} (h0 : 0 ≤ d) (h1 : d < 4) : tStrI d = .ok [sgn d] := by
  have : d = 0 ∨ d = 1 ∨ d = 2 ∨ d = 3 := by omega
  unfold tStrI
  rcases this with rfl | rfl | rfl | rfl <;> rfl
theorem lets_iff {n : Nat} (hn : n ≤ 8) {c : Nat} : c ∈ lets n ↔ LtN n c := by
  have key : ∀ n ∈ List.range 9, (∀ c ∈ ord16, (c ∈ lets n ↔ (97 ≤ c ∧ c < 97 + n) ∨ (65 ≤ c ∧ c < 65 + n))) := by decide
  constructor
  · intro h; exact (key n (List.mem_range.mpr (by omega)) c (lets_sub h)).mp h
  · intro h
    refine (key n (List.mem_range.mpr (by omega)) c ?_).mpr h
    have : ∀ c, (97 ≤ c ∧ c ≤ 104) ∨ (65 ≤ c ∧ c ≤ 72) → c ∈ ord16 := by
      intro c hc; simp; omega
    exact this c (h.lt hn)
theorem InW.an {n : Nat} (hn : n ≤ 8) {w : S} (h : InW n w) : AllN n w := fun c hc => (lets_iff hn).mp (h c hc)
theorem iw_of {n : Nat} (hn : n ≤ 8) {w : S} (h : AllN n w) : InW n w := fun c hc => (lets_iff hn).mpr (h c hc)
theorem flat_one1 : ∀ xs : S, (xs.map fun c => ([c] : S)).flatten = xs
  | [] => rfl
  | x :: xs => by rw [List.map_cons, List.flatten_cons, flat_one1 xs]; rfl
theorem act_step {m : Mac} {a : Ty_Actor} (w : WideM m) (hn : m.2.length ≤ 8) (ta : TabOk m a.2) {v : S} (hv : AllN m.2.length v) (hl : v.length ≤ 1000) {x : Int} (hx : Dg m x) : t_Actor_step a v x = .ok (stw m v x) := by
  have key : ∀ (v : S) (x : Int) (acc : S), AllN m.2.length v → acc.length + v.length ≤ 1000 → Dg m x →
      tfold v ((x, acc.map fun c => [c]) : (Int × (List S))) (fun (s9 : (Int × (List S))) (x4 : Nat) => tb (tDGet a.2 [x4]) fun v10 => tb (tIdx v10 s9.1) fun v11 => tb (tApd s9.2 v11.2) fun letters12 => .ok (v11.1, letters12))
        = .ok ((stw m v x).1, (acc ++ (stw m v x).2).map fun c => [c]) := by
    intro v
    induction v with
    | nil => intro x acc _ _ _; rw [tfold_nil]; show _ = T.ok (x, (acc ++ []).map _); rw [List.append_nil]
    | cons c v ih =>
      intro x acc hv hl hx
      rw [List.length_cons] at hl
      rw [tfold_cons, tDGet_eq (ta c hv.hd), tb_ok, rowL_at hx, tb_ok, tApd_eq (by rw [List.length_map]; omega), tb_ok, tb_ok]
      have e : (acc.map fun c => ([c] : S)) ++ [[(stp m c x).2]] = (acc ++ [(stp m c x).2]).map fun c => [c] := by rw [List.map_append]; rfl
      dsimp only
      rw [e, ih _ _ hv.tail (by rw [List.length_append, List.length_singleton]; omega) (stp_ok w hn hv.hd hx).1, stw_cons, List.append_assoc]
      rfl
  unfold t_Actor_step
  have := key v x [] hv (by simpa using hl) hx
  rw [List.map_nil, List.nil_append] at this
  rw [this, tb_ok]
  dsimp only
  have h3 := (stw_ok w hn hv hx).2.2
  rw [tJoin_one (by omega), tb_ok]
theorem act_moved {m : Mac} {a : Ty_Actor} (w : WideM m) (hn : m.2.length ≤ 8) (ta : TabOk m a.2) {v z : S} (hv : AllN m.2.length v) (hl : v.length ≤ 1000) (hz : DgS m.1 z) (hzl : z.length ≤ 1000) : t_Actor_moved a v z = .ok (mvw m z v) := by
  have k1 := w.k1
  have key : ∀ (z v acc : S), AllN m.2.length v → v.length ≤ 1000 → DgS m.1 z → acc.length + z.length ≤ 1000 →
      tfold z ((v, acc.map fun c => [c]) : (S × (List S))) (fun (s10 : (S × (List S))) (x4 : Nat) => tb (tIntS [x4]) fun v11 => tb (t_Actor_step a s10.1 v11) fun v12 => tb (tStrI v12.1) fun v13 => tb (tApd s10.2 v13) fun image14 => .ok (v12.2, image14))
        = .ok ((mvw m z v).2, (acc ++ (mvw m z v).1).map fun c => [c]) := by
    intro z
    induction z with
    | nil => intro v acc _ _ _ _; rw [tfold_nil]; show _ = T.ok (v, (acc ++ []).map _); rw [List.append_nil]
    | cons c z ih =>
      intro v acc hv hvl hz hl
      obtain ⟨hc, hz⟩ := DgS.cons.mp hz
      rw [List.length_cons] at hl
      obtain ⟨h1, h2, h3⟩ := stw_ok w hn hv (dg_of hc)
      rw [tfold_cons, int_digit ⟨by omega, by omega⟩, tb_ok, act_step w hn ta hv hvl (dg_of hc), tb_ok, digit_str h1.1 (by have := h1.2; omega), tb_ok, tApd_eq (by rw [List.length_map]; omega), tb_ok, tb_ok]
      have e : (acc.map fun c => ([c] : S)) ++ [[sgn (stw m v ((c : Int) - 48)).1]] = (acc ++ [sgn (stw m v ((c : Int) - 48)).1]).map fun c => [c] := by rw [List.map_append]; rfl
      dsimp only
      rw [e, ih _ _ h2 (by omega) hz (by rw [List.length_append, List.length_singleton]; omega), mvw_cons, List.append_assoc]
      rfl
  unfold t_Actor_moved
  have := key z v [] hv hl hz (by simpa using hzl)
  rw [List.map_nil, List.nil_append] at this
  rw [this, tb_ok]
  dsimp only
  have h3 := (mvw_ok w hn hz hv).2.1
  rw [tJoin_one (by omega), tb_ok]
theorem set_at {α : Type} {xs : List α} {i : Int} {x : α} (h0 : 0 ≤ i) (h : i < xs.length) : tSet xs i x = .ok (xs.set i.toNat x) := by
  have := tSet_nat (xs := xs) (i := i.toNat) (x := x) (by omega)
  rwa [Int.toNat_of_nonneg h0] at this
theorem act_init {m : Mac} (w : WideM m) (hn : m.2.length ≤ 8) : Ok (t_Actor___init__ m) (fun a => a.1 = m.1 ∧ TabOk m a.2) := by
  have k0 := w.k0
  have k1 := w.k1
  unfold t_Actor___init__
  refine ok_tb (tfold_okN (fun i s => s.1 = m.1 ∧ s.2.length ≤ 2 * i ∧ ∀ j, j < i → dget s.2 [97 + j] = some (rowL m (97 + j)) ∧ dget s.2 [65 + j] = some (rowL m (65 + j))) ⟨rfl, by simp, fun j h => by omega⟩ ?_) ?_
  · intro i p s hp ⟨hs, hsl, hd⟩
    obtain ⟨ei, er⟩ := enumL_get hp
    obtain ⟨pi, row⟩ := p
    dsimp only at ei er ⊢
    have hi : i < m.2.length := (List.getElem?_eq_some_iff.mp er).1
    have erow : m.2.getD i [] = row := by rw [List.getD_eq_getElem?_getD, er]; rfl
    have ra := w.rowAt (s := (i : Int)) (by omega) (by omega)
    have hrl := ra.2.len
    rw [Int.toNat_natCast, erow] at hrl
    have hent : ∀ j : Nat, j < m.1.toNat → row[j]? = some (ent m (i : Int) (j : Int)) := fun j hj => by
      have := (w.entAt (s := (i : Int)) (x := (j : Int)) (by omega) (by omega) (by omega) (by omega)).1
      rw [Int.toNat_natCast, Int.toNat_natCast, erow] at this
      exact this
    have epi : pi = (i : Int) := by omega
    subst epi
    rw [hs, tRepL_eq (by omega) (by omega) (by simp; omega), tb_ok]
    have hl0 : (repL [((0 : Int), ([] : S))] m.1).length = m.1.toNat := by rw [repL_len]; simp
    refine ok_tb (P := fun b => b = rowL m (65 + i)) ?_ fun b hb => ?_
    · refine ok_imp (tfold_okN (fun j (b : List (Int × S)) => b.length = m.1.toNat ∧ ∀ x : Int, 0 ≤ x → x < j → b[(ent m (i : Int) x).1.toNat]? = some (x, [65 + (ent m (i : Int) x).2.toNat])) ⟨hl0, fun x h1 h2 => by omega⟩ ?_) fun b ⟨b1, b2⟩ => ?_
      · intro j q b hq ⟨b1, b2⟩
        obtain ⟨ej, eq⟩ := enumL_get hq
        obtain ⟨qj, q⟩ := q
        dsimp only at ej eq ⊢
        have hj : j < m.1.toNat := by have := (List.getElem?_eq_some_iff.mp eq).1; omega
        have eqj : qj = (j : Int) := by omega
        subst eqj
        rw [hent j hj] at eq
        have eq := (Option.some.inj eq).symm
        subst eq
        obtain ⟨_, ⟨e1, e2⟩, e3, e4⟩ := w.entAt (s := (i : Int)) (x := (j : Int)) (by omega) (by omega) (by omega) (by omega)
        rw [large_at e3 (by omega), tb_ok, set_at e1 (by omega), tb_ok]
        refine ok_ok ⟨by rw [List.length_set]; exact b1, fun x x0 x1 => ?_⟩
        by_cases hx : x = (j : Int)
        · subst hx
          rw [List.getElem?_set_self (by omega)]
        · obtain ⟨_, ⟨f1, f2⟩, _⟩ := w.entAt (s := (i : Int)) (x := x) (by omega) (by omega) x0 (by omega)
          rw [List.getElem?_set_ne]
          · exact b2 x x0 (by omega)
          · intro z
            exact hx (w.inj (s := (i : Int)) (by omega) (by omega) x0 (by omega) (by omega) (by omega) (by omega))
      · rw [enumL_len, hrl] at b2
        apply List.ext_getElem?
        intro y
        rcases Nat.lt_or_ge y m.1.toNat with hy | hy
        · obtain ⟨c0, c1, c2⟩ := w.bk (s := (i : Int)) (y := (y : Int)) (by omega) (by omega) (by omega) (by omega)
          have := b2 _ c0 (by omega)
          rw [c2, Int.toNat_natCast] at this
          rw [this]
          unfold rowL
          rw [List.getElem?_map]
          have hr := rngD_at (k := m.1) (x := (y : Int)) (by omega) (by omega)
          rw [Int.toNat_natCast] at hr
          rw [hr, Option.map_some, stp_large (by omega)]
        · rw [List.getElem?_eq_none (by omega), List.getElem?_eq_none]
          unfold rowL
          rw [List.length_map, rngL_len]; omega
    · subst hb
      have hm : tMap row (fun (x10 : (Int × Int)) => tb (tIdx [97, 98, 99, 100, 101, 102, 103, 104] x10.2) fun v11 => .ok (x10.1, ([v11] : S))) = .ok (row.map fun e => (e.1, [97 + e.2.toNat])) := by
        refine tMap_eq _ (by omega) fun e he => ?_
        obtain ⟨j, hj, rfl⟩ := List.getElem_of_mem he
        have := hent j (by omega)
        rw [List.getElem?_eq_getElem hj] at this
        have this := Option.some.inj this
        obtain ⟨_, _, e3, e4⟩ := w.entAt (s := (i : Int)) (x := (j : Int)) (by omega) (by omega) (by omega) (by omega)
        rw [this, small_at e3 (by omega), tb_ok]
      have hrow : (row.map fun e => (e.1, [97 + e.2.toNat])) = rowL m (97 + i) := by
        apply List.ext_getElem?
        intro y
        unfold rowL
        rw [List.getElem?_map, List.getElem?_map]
        rcases Nat.lt_or_ge y m.1.toNat with hy | hy
        · have hr := rngD_at (k := m.1) (x := (y : Int)) (by omega) (by omega)
          rw [Int.toNat_natCast] at hr
          rw [hent y hy, hr, Option.map_some, Option.map_some, stp_small]
        · rw [List.getElem?_eq_none (by omega), List.getElem?_eq_none (by rw [rngL_len]; omega)]; rfl
      rw [hm, tb_ok, hrow, small_at (by omega) (by omega), tb_ok, Int.toNat_natCast, tDPut_eq (by omega), tb_ok, large_at (by omega) (by omega), tb_ok, Int.toNat_natCast]
      have l1 := dput_len s.2 [97 + i] (rowL m (97 + i))
      rw [tDPut_eq (by omega), tb_ok]
      have l2 := dput_len (dput s.2 [97 + i] (rowL m (97 + i))) [65 + i] (rowL m (65 + i))
      refine ok_ok ⟨rfl, by dsimp only; omega, fun j hj => ?_⟩
      dsimp only
      rw [dget_put, dget_put, dget_put, dget_put]
      have ne1 : ∀ a b : Nat, a ≠ b → ([a] : S) ≠ [b] := fun a b h z => h (by injection z)
      by_cases hji : j = i
      · subst hji
        rw [if_neg (ne1 _ _ (by omega)), if_pos rfl, if_pos rfl]; exact ⟨rfl, rfl⟩
      · rw [if_neg (ne1 _ _ (by omega)), if_neg (ne1 _ _ (by omega)), if_neg (ne1 _ _ (by omega)), if_neg (ne1 _ _ (by omega))]
        exact hd j (by omega)
  · intro s ⟨h1, _, h2⟩
    rw [enumL_len] at h2
    exact ok_ok ⟨h1, fun c hc => hc.case (P := fun c => dget s.2 [c] = some (rowL m c)) hn (fun i hi => (h2 i hi).1) fun i hi => (h2 i hi).2⟩

/-! the law's own reading -/
theorem q_string_ok {n : Nat} {xs : List Int} {m : Mac} {most : Int} (h : Dw n xs) (k0 : 2 ≤ m.1) (k1 : m.1 ≤ 4) (m0 : 0 ≤ most) (m1 : most ≤ 1000) :
    Ok (t_q_string xs m most) (fun p => DgS m.1 p.1 ∧ (p.1.length : Int) ≤ most ∧ Dw n p.2) := by
  unfold t_q_string
  refine ok_tb ((next_ok h)) fun p ⟨_, p2⟩ => ?_
  rw [tMod_eq (by omega), tb_ok]
  have e0 := Int.emod_nonneg p.1 (show most + 1 ≠ 0 by omega)
  have e1 := Int.emod_lt_of_pos p.1 (show 0 < most + 1 by omega)
  generalize p.1 % (most + 1) = l at e0 e1
  rw [tRng_eq (by decide) (by decide) (by omega) (by omega), tb_ok]
  refine ok_tb (tMapS_ok (fun j s acc => Dw n s ∧ acc.length = j ∧ DgS m.1 acc) (by rw [rngL_len]; omega) ⟨p2, rfl, DgS.nil⟩ ?_) fun q ⟨q1, q2, q3⟩ => ?_
  · intro j x s acc hx ⟨a1, a2, a3⟩
    refine ok_tb ((next_ok a1)) fun u ⟨_, u2⟩ => ?_
    rw [tMod_eq (by omega), tb_ok]
    have f0 := Int.emod_nonneg u.1 (show m.1 ≠ 0 by omega)
    have f1 := Int.emod_lt_of_pos u.1 (show 0 < m.1 by omega)
    rw [pick_digit f0 (by omega), tb_ok]
    exact ok_ok ⟨u2, by simp [a2], a3.add fun d hd => by rw [List.mem_singleton.mp hd]; exact sgn_dg (m := m) ⟨f0, f1⟩⟩
  · rw [rngL_len] at q2
    rw [tJoin_one (by omega), tb_ok]
    exact ok_ok ⟨q3, by dsimp only; omega, q1⟩
theorem find_small {c : Nat} (h : 97 ≤ c ∧ c ≤ 104) : findL [97, 98, 99, 100, 101, 102, 103, 104] [c] = ((c - 97 : Nat) : Int) := by
  have key : ∀ c ∈ small8, findL [97, 98, 99, 100, 101, 102, 103, 104] [c] = ((c - 97 : Nat) : Int) := by decide +kernel
  exact key c (small_iff.mpr h)
theorem find_large {c : Nat} (h : 65 ≤ c ∧ c ≤ 72) : findL [97, 98, 99, 100, 101, 102, 103, 104] [c] = -1 := by
  have key : ∀ c ∈ large8, findL [97, 98, 99, 100, 101, 102, 103, 104] [c] = -1 := by decide +kernel
  exact key c (large_iff.mpr h)
theorem q_read_ok {m : Mac} (w : WideM m) (hn : m.2.length ≤ 8) {c : Nat} (hc : LtN m.2.length c) {x : Int} (hx : Dg m x) : t_q_read m c x = .ok (some ((stp m c x).1, [(stp m c x).2])) := by
  have k0 := w.k0
  have k1 := w.k1
  refine hc.case (P := fun c => t_q_read m c x = T.ok (some ((stp m c x).1, ([(stp m c x).2] : S)))) hn (fun i hi => ?_) fun i hi => ?_
  · unfold t_q_read
    obtain ⟨ee, _, e3, e4⟩ := w.entAt (s := (i : Int)) (x := x) (by omega) (by omega) hx.1 hx.2
    have ra := (w.rowAt (s := (i : Int)) (by omega) (by omega)).1
    rw [tb_ok, find_small ⟨by omega, by omega⟩, show 97 + i - 97 = i by omega, decide_eq_true (by omega), if_pos rfl, tIdx_int (by omega) ra, tb_ok, tIdx_int hx.1 ee, tb_ok, small_at e3 (by omega), tb_ok, stp_small]
  · unfold t_q_read
    have ra := w.rowAt (s := (i : Int)) (by omega) (by omega)
    have hl := ra.2.len
    rw [tb_ok, find_large ⟨by omega, by omega⟩, decide_eq_false (by omega), if_neg (by decide), sidx_large (large_iff.mpr ⟨by omega, by omega⟩), tb_ok, show 65 + i - 65 = i by omega, tIdx_int (by omega) ra.1, tb_ok,
      tRng_eq (by decide) (by decide) (by omega) (by omega), tb_ok]
    have key : Ok (tlp (tfor (rngL 0 ((m.2.getD ((i : Int)).toNat []).length : Int)) (() : Unit) fun (s12 : Unit) (x11 : Int) =>
        tb (tIdx (m.2.getD ((i : Int)).toNat []) x11) fun v13 =>
        if (decide (v13.1 = x)) = true then (tb (tIdx (m.2.getD ((i : Int)).toNat []) x11) fun v14 =>
        tb (tIdx [65, 66, 67, 68, 69, 70, 71, 72] v14.2) fun v15 =>
        .ok (.rt (some (x11, ([v15] : S)))))
        else .ok (.nx ())) fun s12 => .ok none) (fun v => v = some ((stp m (65 + i) x).1, [(stp m (65 + i) x).2])) := by
      obtain ⟨b0, b1, b2⟩ := w.bk (s := (i : Int)) (y := x) (by omega) (by omega) hx.1 hx.2
      refine ok_tlp (tfor_okN (fun j _ => ∀ y : Int, 0 ≤ y → y < j → (ent m (i : Int) y).1 ≠ x) (fun v => match v with | .dn _ => False | .rt v => v = some ((stp m (65 + i) x).1, [(stp m (65 + i) x).2])) (fun y h1 h2 => by omega) ?_ ?_) (fun _ h => h.elim) (fun v h => h)
      · intro j y s hy hj
        obtain ⟨rfl, hjl⟩ := rngL_get hy
        obtain ⟨ee, _, e3, e4⟩ := w.entAt (s := (i : Int)) (x := 0 + (j : Int)) (by omega) (by omega) (by omega) (by omega)
        rw [tIdx_int (by omega) ee, tb_ok]
        by_cases hxx : (ent m (i : Int) (0 + (j : Int))).1 = x
        · rw [decide_eq_true hxx, if_pos rfl, tb_ok, large_at e3 (by omega), tb_ok]
          have : bk m (i : Int) x = 0 + (j : Int) := by rw [← hxx]; exact w.bk_of (by omega) (by omega) (by omega) (by omega)
          refine ok_ok ?_
          show some _ = some _
          rw [stp_large (by omega), this]
        · rw [decide_eq_false hxx, if_neg (by decide)]
          refine ok_ok fun y y0 y1 => ?_
          by_cases hyj : y = 0 + (j : Int)
          · rw [hyj]; exact hxx
          · exact hj y y0 (by omega)
      · intro s h
        rw [rngL_len] at h
        exact h _ b0 (by omega) b2
    obtain ⟨v, e, rfl⟩ := key
    exact e
theorem q_step_ok {m : Mac} (w : WideM m) (hn : m.2.length ≤ 8) {v : S} (hv : AllN m.2.length v) (hl : v.length ≤ 1000) {x : Int} (hx : Dg m x) : t_q_step m v x = .ok (stw m v x) := by
  have key : ∀ (v : S) (x : Int) (acc : S), AllN m.2.length v → acc.length + v.length ≤ 1000 → Dg m x →
      tfold v ((x, acc) : (Int × S)) (fun (s5 : (Int × S)) (x4 : Nat) => tb (t_q_read m x4 s5.1) fun v6 => tb (tSome v6) fun v7 => tb (tCat s5.2 v7.2) fun v8 => .ok (v7.1, v8))
        = .ok ((stw m v x).1, acc ++ (stw m v x).2) := by
    intro v
    induction v with
    | nil => intro x acc _ _ _; rw [tfold_nil]; show _ = T.ok (x, acc ++ []); rw [List.append_nil]
    | cons c v ih =>
      intro x acc hv hl hx
      rw [List.length_cons] at hl
      rw [tfold_cons, q_read_ok w hn hv.hd hx, tb_ok, tSome_some, tb_ok, tCat_eq (by show acc.length + 1 ≤ _; omega), tb_ok, tb_ok]
      dsimp only
      rw [ih _ _ hv.tail (by rw [List.length_append, List.length_singleton]; omega) (stp_ok w hn hv.hd hx).1, stw_cons, List.append_assoc]
      rfl
  unfold t_q_step
  rw [key v x [] hv (by simpa using hl) hx, tb_ok]
  rfl
theorem q_moved_ok {m : Mac} (w : WideM m) (hn : m.2.length ≤ 8) {v z : S} (hv : AllN m.2.length v) (hl : v.length ≤ 1000) (hz : DgS m.1 z) (hzl : z.length ≤ 1000) : t_q_moved m v z = .ok (mvw m z v) := by
  have k1 := w.k1
  have key : ∀ (z v acc : S), AllN m.2.length v → v.length ≤ 1000 → DgS m.1 z → acc.length + z.length ≤ 1000 →
      tfold z ((v, acc) : (S × S)) (fun (s5 : (S × S)) (x4 : Nat) => tb (tIntS [x4]) fun v6 => tb (t_q_step m s5.1 v6) fun v7 => tb (tStrI v7.1) fun v8 => tb (tCat s5.2 v8) fun v9 => .ok (v7.2, v9))
        = .ok ((mvw m z v).2, acc ++ (mvw m z v).1) := by
    intro z
    induction z with
    | nil => intro v acc _ _ _ _; rw [tfold_nil]; show _ = T.ok (v, acc ++ []); rw [List.append_nil]
    | cons c z ih =>
      intro v acc hv hvl hz hl
      obtain ⟨hc, hz⟩ := DgS.cons.mp hz
      rw [List.length_cons] at hl
      obtain ⟨h1, h2, h3⟩ := stw_ok w hn hv (dg_of hc)
      rw [tfold_cons, int_digit ⟨by omega, by omega⟩, tb_ok, q_step_ok w hn hv hvl (dg_of hc), tb_ok, digit_str h1.1 (by have := h1.2; omega), tb_ok, tCat_eq (by show acc.length + 1 ≤ _; omega), tb_ok, tb_ok]
      dsimp only
      rw [ih _ _ h2 (by omega) hz (by rw [List.length_append, List.length_singleton]; omega), mvw_cons, List.append_assoc]
      rfl
  unfold t_q_moved
  rw [key z v [] hv hl hz (by simpa using hzl), tb_ok]
  rfl

theorem act_of {m : Mac} (w : WideM m) (hn : m.2.length ≤ 8) {v z : S} (hv : AllN m.2.length v) (hl : v.length ≤ 1000) (hz : DgS m.1 z) (hzl : z.length ≤ 1000) : t_moved m v z = .ok (mvw m z v) := by
  obtain ⟨a, e, _, h2⟩ := act_init w hn
  unfold t_moved
  rw [e, tb_ok, act_moved w hn h2 hv hl hz hzl, tb_ok]
open Classical in
theorem chk_str {m : Mac} (w : WideM m) {z : S} : t_check_string_sections m z = if z.length ≤ 60 ∧ DgS m.1 z then .ok () else .ex ⟨"NotString", []⟩ := by
  unfold t_check_string_sections t_check_string_machines
  rw [has_digits_ok w.k0 w.k1, tb_ok]
  by_cases h : z.length ≤ 60 ∧ DgS m.1 z
  · rw [decide_eq_true h, if_pos h]; rfl
  · rw [decide_eq_false h, if_neg h]; rfl
theorem image_ok {m : Mac} (w : WideM m) (hl : m.2.length ≤ 4) {v z : S} (hv : AllN m.2.length v) (hvl : v.length ≤ 60) (hz : DgS m.1 z) (hzl : z.length ≤ 60) : t_image_of m v z = .ok (mvw m z v).1 := by
  unfold t_image_of
  rw [chk_word w hl (iw_of (by omega) hv) hvl, tb_ok, chk_str w, if_pos ⟨hzl, hz⟩, tb_ok, act_of w (by omega) hv (by omega) hz (by omega), tb_ok]
theorem section_ok {m : Mac} (w : WideM m) (hl : m.2.length ≤ 4) {v z : S} (hv : AllN m.2.length v) (hvl : v.length ≤ 60) (hz : DgS m.1 z) (hzl : z.length ≤ 60) : t_section_of m v z = .ok (mvw m z v).2 := by
  unfold t_section_of
  rw [chk_word w hl (iw_of (by omega) hv) hvl, tb_ok, chk_str w, if_pos ⟨hzl, hz⟩, tb_ok, act_of w (by omega) hv (by omega) hz (by omega), tb_ok]
theorem eq_pair {a b c d : S} (ha : okS a) (hb : okS b) (hc : okS c) (hd : okS d) : tEqE (eL eS) [a, b] [c, d] = .ok (decide ([a, b] = [c, d])) := by
  refine tEqE_eq (okEq_of (k := 2) (shp_L (k := 1) eS fun x hx => ?_) (shp_L (k := 1) eS fun x hx => ?_))
  · simp only [List.mem_cons, List.not_mem_nil, or_false] at hx
    rcases hx with rfl | rfl
    · exact shp_str ha
    · exact shp_str hb
  · simp only [List.mem_cons, List.not_mem_nil, or_false] at hx
    rcases hx with rfl | rfl
    · exact shp_str hc
    · exact shp_str hd
theorem cutw {m : Mac} (w : WideM m) (hl : m.2.length ≤ 4) {z : S} (hz : AllN m.2.length z) (h : z.length ≤ 60) : t_cut_word m z = .ok (ct z) := by
  unfold t_cut_word; rw [chk_word w hl (iw_of (by omega) hz) h, tb_ok, cut_ok (hz.all (by omega)) (by omega), tb_ok]
theorem undw {m : Mac} (w : WideM m) (hl : m.2.length ≤ 4) {z : S} (hz : AllN m.2.length z) (h : z.length ≤ 60) : t_undone_word m z = .ok (und z) := by
  unfold t_undone_word; rw [chk_word w hl (iw_of (by omega) hz) h, tb_ok, undone_ok (hz.all (by omega)) (by omega), tb_ok]
theorem law_ok (ns : List Int) (hl : ns.length ≤ 63) : t_law ns = .ok true := by
  have key : Ok (t_law ns) (fun b => b = true) := by
    unfold t_law
    refine ok_tb (draws_ok ns hl) fun ds hds => ?_
    rw [tb_ok]
    refine ok_tb (machine_ok hds.rev (by decide) (by decide)) fun p ⟨w, pl, p2⟩ => ?_
    obtain ⟨m, xs⟩ := p
    dsimp only at w pl p2 ⊢
    have l4 : m.2.length ≤ 4 := by omega
    have l8 : m.2.length ≤ 8 := by omega
    have l1 := w.n0
    have k0 := w.k0
    have k1 := w.k1
    refine ok_tb (word_ok p2 l1 l4 (by decide) (by decide)) fun q ⟨q1, q2, q3⟩ => ?_
    obtain ⟨v, ys⟩ := q
    dsimp only at q1 q2 q3 ⊢
    refine ok_tb (word_ok q3 l1 l4 (by decide) (by decide)) fun q ⟨r1, r2, r3⟩ => ?_
    obtain ⟨u, us⟩ := q
    dsimp only at r1 r2 r3 ⊢
    refine ok_tb (q_string_ok r3 k0 k1 (by decide) (by decide)) fun r ⟨z1, z2, z3⟩ => ?_
    obtain ⟨z, zs⟩ := r
    dsimp only at z1 z2 z3 ⊢
    refine ok_tb (q_string_ok z3 k0 k1 (by decide) (by decide)) fun r ⟨y1, y2, y3⟩ => ?_
    obtain ⟨y, ys2⟩ := r
    dsimp only at y1 y2 y3 ⊢
    have va := q1.an l8
    have ua := r1.an l8
    obtain ⟨a1, a2, a3, a4⟩ := mvw_ok w l8 z1 va
    obtain ⟨b1, b2, b3, b4⟩ := mvw_ok w l8 y1 a3
    obtain ⟨c1, c2, c3, c4⟩ := mvw_ok w l8 a1 ua
    have vu : AllN m.2.length (v ++ u) := va.app ua
    have vul : (v ++ u).length ≤ 60 := by rw [List.length_append]; omega
    have uv := va.und l8
    have uvl := und_len v
    have cl := ct_len (v ++ u)
    have cl2 := ct_len v
    obtain ⟨d1, d2, d3, d4⟩ := mvw_ok w l8 z1 va.ct
    have dl := und_len (mvw m z v).2
    have e1 := mvw_app m z y v
    have e2 := mvw_mul w l8 (u := u) z1 va
    have e3 := mvw_und w l8 z1 va
    have e4 := mvw_ct w l8 z1 vu vu.ct (ct_ct (vu.all l8))
    have e5 := mvw_ct w l8 z1 va va.ct (ct_ct (va.all l8))
    have h1 : t_image_of m v z = .ok (mvw m z v).1 := image_ok w l4 va (by omega) z1 (by omega)
    have h2 : t_section_of m v z = .ok (mvw m z v).2 := section_ok w l4 va (by omega) z1 (by omega)
    have zy : DgS m.1 (z ++ y) := z1.add y1
    have zyl : (z ++ y).length ≤ 60 := by rw [List.length_append]; omega
    have h3 : tCat z y = .ok (z ++ y) := tCat_eq (by omega)
    have h4 : t_image_of m v (z ++ y) = .ok (mvw m (z ++ y) v).1 := image_ok w l4 va (by omega) zy zyl
    have h5 : t_image_of m (mvw m z v).2 y = .ok (mvw m y (mvw m z v).2).1 := image_ok w l4 a3 (by omega) y1 (by omega)
    have h6 : tCat (mvw m z v).1 (mvw m y (mvw m z v).2).1 = .ok ((mvw m z v).1 ++ (mvw m y (mvw m z v).2).1) := tCat_eq (by omega)
    have h7 : t_section_of m v (z ++ y) = .ok (mvw m (z ++ y) v).2 := section_ok w l4 va (by omega) zy zyl
    have h8 : t_section_of m (mvw m z v).2 y = .ok (mvw m y (mvw m z v).2).2 := section_ok w l4 a3 (by omega) y1 (by omega)
    have h9 : tCat v u = .ok (v ++ u) := tCat_eq (by omega)
    have h10 : t_image_of m (v ++ u) z = .ok (mvw m z (v ++ u)).1 := image_ok w l4 vu vul z1 (by omega)
    have h11 : t_image_of m u (mvw m z v).1 = .ok (mvw m (mvw m z v).1 u).1 := image_ok w l4 ua (by omega) a1 (by omega)
    have h12 : t_section_of m (v ++ u) z = .ok (mvw m z (v ++ u)).2 := section_ok w l4 vu vul z1 (by omega)
    have h13 : t_section_of m u (mvw m z v).1 = .ok (mvw m (mvw m z v).1 u).2 := section_ok w l4 ua (by omega) a1 (by omega)
    have h14 : tCat (mvw m z v).2 (mvw m (mvw m z v).1 u).2 = .ok ((mvw m z v).2 ++ (mvw m (mvw m z v).1 u).2) := tCat_eq (by omega)
    have h15 : t_undone_word m v = .ok (und v) := undw w l4 va (by omega)
    have h16 : t_image_of m (und v) (mvw m z v).1 = .ok (mvw m (mvw m z v).1 (und v)).1 := image_ok w l4 uv (by omega) a1 (by omega)
    have h17 : t_section_of m (und v) (mvw m z v).1 = .ok (mvw m (mvw m z v).1 (und v)).2 := section_ok w l4 uv (by omega) a1 (by omega)
    have h18 : t_undone_word m (mvw m z v).2 = .ok (und (mvw m z v).2) := undw w l4 a3 (by omega)
    have h19 : t_cut_word m (v ++ u) = .ok (ct (v ++ u)) := cutw w l4 vu vul
    have h20 : t_image_of m (ct (v ++ u)) z = .ok (mvw m z (ct (v ++ u))).1 := image_ok w l4 vu.ct (by omega) z1 (by omega)
    have h21 : t_cut_word m v = .ok (ct v) := cutw w l4 va (by omega)
    have h22 : t_section_of m (ct v) z = .ok (mvw m z (ct v)).2 := section_ok w l4 va.ct (by omega) z1 (by omega)
    have h23 : t_cut_word m (mvw m z (ct v)).2 = .ok (ct (mvw m z (ct v)).2) := cutw w l4 d3 (by omega)
    have h24 : t_cut_word m (mvw m z v).2 = .ok (ct (mvw m z v).2) := cutw w l4 a3 (by omega)
    have h25 : t_section_of m v [] = .ok v := section_ok w l4 va (by omega) DgS.nil (by decide)
    have h26 : t_q_moved m v z = .ok (mvw m z v) := q_moved_ok w l8 va (by omega) z1 (by omega)
    have s1 := a1.okS k1
    have s2 := all_okS (a3.all l8)
    have h27 := eq_pair s1 s2 s1 s2
    have h28 : decide (((mvw m z v).2.length : Int) = (v.length : Int)) = true := decide_eq_true (by omega)
    rw [e1] at h4 h7
    rw [e2] at h10 h12
    rw [e3] at h16 h17
    rw [e4.1, e2] at h20
    rw [e5.2] at h23
    simp only [h1, h2, h3, h4, h5, h6, h7, h8, h9, h10, h11, h12, h13, h14, h15, h16, h17, h18, h19, h20, h21, h22, h23, h24, h25, h26, h27, h28, tb_ok, decide_true, Bool.not_true, Bool.false_eq_true, if_false, if_true]
    exact ok_ok rfl
  obtain ⟨v, h, rfl⟩ := key
  exact h
theorem law_good (ns : List Int) (h : ns.length ≤ 63) : f_law none [.scr ns] = .ok (.fz (.bl true)) none := (r_law ns).good (law_ok ns h)

-- dropped: act_row due due_rp key_ok q_cut_ok q_other_eq row_of_ok told_bad told_none told_ok
end Law

set_option maxHeartbeats 4000000
namespace Law
open DL PySem PySem.Spec L2
theorem room_rep {k : Nat} {A : Around} (r : Room k A) : A.units + 128 < cLine := by have := r.un; omega
theorem hu_of {k : Nat} {A : Around} (r : Room k A) : A.units + 1 < cLine := by have := r.un; omega
def topS (i : Nat) : Stmt := PySem.Challenge.pw_leafturner_k10_whole_products_and_undoin.main.body.getD i (.Pass ⟨0, 0, 0, 0⟩)
abbrev s_q_number : Stmt := topS 42
abbrev N_q_number : List Str := ["_law_cell"]
theorem sc_q_number : FnScope ["_law_cell"] ["_law_cell"] (defScope s_q_number) := ⟨rfl, rfl, rfl, by decide +kernel, rfl, by decide +kernel, by decide +kernel⟩
abbrev s_q_draws : Stmt := topS 43
abbrev N_q_draws : List Str := ["_law_script", "_law_draws_here", "_law_cell", "_law_rest", "_law_k", "_law_once", "_law_twice"]
theorem sc_q_draws : FnScope ["_law_script", "_law_draws_here", "_law_cell", "_law_rest", "_law_k", "_law_once", "_law_twice"] ["_law_script"] (defScope s_q_draws) := ⟨rfl, rfl, rfl, by decide +kernel, rfl, by decide +kernel, by decide +kernel⟩
abbrev s_q_next : Stmt := topS 44
abbrev N_q_next : List Str := ["_law_draws_here"]
theorem sc_q_next : FnScope ["_law_draws_here"] ["_law_draws_here"] (defScope s_q_next) := ⟨rfl, rfl, rfl, by decide +kernel, rfl, by decide +kernel, by decide +kernel⟩
abbrev s_q_arranged : Stmt := topS 45
abbrev N_q_arranged : List Str := ["_law_draws_here", "_law_size", "_law_left", "_law_found", "_law_k", "_law_at"]
theorem sc_q_arranged : FnScope ["_law_draws_here", "_law_size", "_law_left", "_law_found", "_law_k", "_law_at"] ["_law_draws_here", "_law_size"] (defScope s_q_arranged) := ⟨rfl, rfl, rfl, by decide +kernel, rfl, by decide +kernel, by decide +kernel⟩
abbrev s_q_machine : Stmt := topS 46
abbrev N_q_machine : List Str := ["_law_draws_here", "_law_most", "_law_size", "_law_count", "_law_directed", "_law_rows", "_law_state", "_law_outs", "_law_nexts", "_law_at", "_law_digit"]
theorem sc_q_machine : FnScope ["_law_draws_here", "_law_most", "_law_size", "_law_count", "_law_directed", "_law_rows", "_law_state", "_law_outs", "_law_nexts", "_law_at", "_law_digit"] ["_law_draws_here", "_law_most"] (defScope s_q_machine) := ⟨rfl, rfl, rfl, by decide +kernel, rfl, by decide +kernel, by decide +kernel⟩
abbrev s_q_word : Stmt := topS 47
abbrev N_q_word : List Str := ["_law_draws_here", "_law_machine_here", "_law_most", "_law_letters", "_law_k"]
theorem sc_q_word : FnScope ["_law_draws_here", "_law_machine_here", "_law_most", "_law_letters", "_law_k"] ["_law_draws_here", "_law_machine_here", "_law_most"] (defScope s_q_word) := ⟨rfl, rfl, rfl, by decide +kernel, rfl, by decide +kernel, by decide +kernel⟩
abbrev s_q_string : Stmt := topS 48
abbrev N_q_string : List Str := ["_law_draws_here", "_law_machine_here", "_law_most", "_law_k"]
theorem sc_q_string : FnScope ["_law_draws_here", "_law_machine_here", "_law_most", "_law_k"] ["_law_draws_here", "_law_machine_here", "_law_most"] (defScope s_q_string) := ⟨rfl, rfl, rfl, by decide +kernel, rfl, by decide +kernel, by decide +kernel⟩
abbrev s__is_row : Stmt := topS 13
abbrev N__is_row : List Str := ["row", "k", "count", "out", "_", "following"]
theorem sc__is_row : FnScope ["row", "k", "count", "out", "_", "following"] ["row", "k", "count"] (defScope s__is_row) := ⟨rfl, rfl, rfl, by decide +kernel, rfl, by decide +kernel, by decide +kernel⟩
abbrev s_is_wide : Stmt := topS 14
abbrev N_is_wide : List Str := ["machine", "k", "rows", "row"]
theorem sc_is_wide : FnScope ["machine", "k", "rows", "row"] ["machine"] (defScope s_is_wide) := ⟨rfl, rfl, rfl, by decide +kernel, rfl, by decide +kernel, by decide +kernel⟩
abbrev s_is_machine : Stmt := topS 15
abbrev N_is_machine : List Str := ["machine"]
theorem sc_is_machine : FnScope ["machine"] ["machine"] (defScope s_is_machine) := ⟨rfl, rfl, rfl, by decide +kernel, rfl, by decide +kernel, by decide +kernel⟩
abbrev s_check_machine : Stmt := topS 16
abbrev N_check_machine : List Str := ["machine"]
theorem sc_check_machine : FnScope ["machine"] ["machine"] (defScope s_check_machine) := ⟨rfl, rfl, rfl, by decide +kernel, rfl, by decide +kernel, by decide +kernel⟩
abbrev s_letters_of : Stmt := topS 26
abbrev N_letters_of : List Str := ["machine"]
theorem sc_letters_of : FnScope ["machine"] ["machine"] (defScope s_letters_of) := ⟨rfl, rfl, rfl, by decide +kernel, rfl, by decide +kernel, by decide +kernel⟩
abbrev s_is_word : Stmt := topS 27
abbrev N_is_word : List Str := ["machine", "word", "allowed", "letter"]
theorem sc_is_word : FnScope ["machine", "word", "allowed", "letter"] ["machine", "word"] (defScope s_is_word) := ⟨rfl, rfl, rfl, by decide +kernel, rfl, by decide +kernel, by decide +kernel⟩
abbrev s_refuse_word : Stmt := topS 30
abbrev N_refuse_word : List Str := ["machine", "word"]
theorem sc_refuse_word : FnScope ["machine", "word"] ["machine", "word"] (defScope s_refuse_word) := ⟨rfl, rfl, rfl, by decide +kernel, rfl, by decide +kernel, by decide +kernel⟩
abbrev s_check_word : Stmt := topS 31
abbrev N_check_word : List Str := ["machine", "word"]
theorem sc_check_word : FnScope ["machine", "word"] ["machine", "word"] (defScope s_check_word) := ⟨rfl, rfl, rfl, by decide +kernel, rfl, by decide +kernel, by decide +kernel⟩
abbrev s_has_digits : Stmt := topS 17
abbrev N_has_digits : List Str := ["k", "string", "digit"]
theorem sc_has_digits : FnScope ["k", "string", "digit"] ["k", "string"] (defScope s_has_digits) := ⟨rfl, rfl, rfl, by decide +kernel, rfl, by decide +kernel, by decide +kernel⟩
abbrev s_check_string_machines : Stmt := topS 18
abbrev N_check_string_machines : List Str := ["k", "string"]
theorem sc_check_string_machines : FnScope ["k", "string"] ["k", "string"] (defScope s_check_string_machines) := ⟨rfl, rfl, rfl, by decide +kernel, rfl, by decide +kernel, by decide +kernel⟩
abbrev s_check_string_sections : Stmt := topS 36
abbrev N_check_string_sections : List Str := ["machine", "string"]
theorem sc_check_string_sections : FnScope ["machine", "string"] ["machine", "string"] (defScope s_check_string_sections) := ⟨rfl, rfl, rfl, by decide +kernel, rfl, by decide +kernel, by decide +kernel⟩
abbrev s_Actor_step : Stmt := inClass (topS 35) 1
abbrev N_Actor_step : List Str := ["self", "word", "digit", "letters", "letter", "following"]
theorem sc_Actor_step : FnScope ["self", "word", "digit", "letters", "letter", "following"] ["self", "word", "digit"] (defScope s_Actor_step) := ⟨rfl, rfl, rfl, by decide +kernel, rfl, by decide +kernel, by decide +kernel⟩
abbrev s_Actor_moved : Stmt := inClass (topS 35) 2
abbrev N_Actor_moved : List Str := ["self", "word", "string", "image", "sign", "digit"]
theorem sc_Actor_moved : FnScope ["self", "word", "string", "image", "sign", "digit"] ["self", "word", "string"] (defScope s_Actor_moved) := ⟨rfl, rfl, rfl, by decide +kernel, rfl, by decide +kernel, by decide +kernel⟩
abbrev s_Actor___init__ : Stmt := inClass (topS 35) 0
abbrev N_Actor___init__ : List Str := ["self", "machine", "state", "row", "back", "digit", "out", "following"]
theorem sc_Actor___init__ : FnScope ["self", "machine", "state", "row", "back", "digit", "out", "following"] ["self", "machine"] (defScope s_Actor___init__) := ⟨rfl, rfl, rfl, by decide +kernel, rfl, by decide +kernel, by decide +kernel⟩
abbrev s_moved : Stmt := topS 38
abbrev N_moved : List Str := ["machine", "word", "string"]
theorem sc_moved : FnScope ["machine", "word", "string"] ["machine", "word", "string"] (defScope s_moved) := ⟨rfl, rfl, rfl, by decide +kernel, rfl, by decide +kernel, by decide +kernel⟩
abbrev s_image_of : Stmt := topS 39
abbrev N_image_of : List Str := ["machine", "word", "string"]
theorem sc_image_of : FnScope ["machine", "word", "string"] ["machine", "word", "string"] (defScope s_image_of) := ⟨rfl, rfl, rfl, by decide +kernel, rfl, by decide +kernel, by decide +kernel⟩
abbrev s_section_of : Stmt := topS 40
abbrev N_section_of : List Str := ["machine", "word", "string"]
theorem sc_section_of : FnScope ["machine", "word", "string"] ["machine", "word", "string"] (defScope s_section_of) := ⟨rfl, rfl, rfl, by decide +kernel, rfl, by decide +kernel, by decide +kernel⟩
abbrev s_other : Stmt := topS 25
abbrev N_other : List Str := ["letter"]
theorem sc_other : FnScope ["letter"] ["letter"] (defScope s_other) := ⟨rfl, rfl, rfl, by decide +kernel, rfl, by decide +kernel, by decide +kernel⟩
abbrev s_undone : Stmt := topS 29
abbrev N_undone : List Str := ["word", "letter"]
theorem sc_undone : FnScope ["word", "letter"] ["word"] (defScope s_undone) := ⟨rfl, rfl, rfl, by decide +kernel, rfl, by decide +kernel, by decide +kernel⟩
abbrev s_undone_word : Stmt := topS 33
abbrev N_undone_word : List Str := ["machine", "word"]
theorem sc_undone_word : FnScope ["machine", "word"] ["machine", "word"] (defScope s_undone_word) := ⟨rfl, rfl, rfl, by decide +kernel, rfl, by decide +kernel, by decide +kernel⟩
abbrev s_cut : Stmt := topS 28
abbrev N_cut : List Str := ["word", "kept", "letter"]
theorem sc_cut : FnScope ["word", "kept", "letter"] ["word"] (defScope s_cut) := ⟨rfl, rfl, rfl, by decide +kernel, rfl, by decide +kernel, by decide +kernel⟩
abbrev s_cut_word : Stmt := topS 32
abbrev N_cut_word : List Str := ["machine", "word"]
theorem sc_cut_word : FnScope ["machine", "word"] ["machine", "word"] (defScope s_cut_word) := ⟨rfl, rfl, rfl, by decide +kernel, rfl, by decide +kernel, by decide +kernel⟩
abbrev s_q_read : Stmt := topS 49
abbrev N_q_read : List Str := ["_law_machine_here", "_law_letter", "_law_digit", "_law_small", "_law_out", "_law_following", "_law_row", "_law_source"]
theorem sc_q_read : FnScope ["_law_machine_here", "_law_letter", "_law_digit", "_law_small", "_law_out", "_law_following", "_law_row", "_law_source"] ["_law_machine_here", "_law_letter", "_law_digit"] (defScope s_q_read) := ⟨rfl, rfl, rfl, by decide +kernel, rfl, by decide +kernel, by decide +kernel⟩
abbrev s_q_step : Stmt := topS 50
abbrev N_q_step : List Str := ["_law_machine_here", "_law_word_here", "_law_digit", "_law_section", "_law_letter", "_law_following"]
theorem sc_q_step : FnScope ["_law_machine_here", "_law_word_here", "_law_digit", "_law_section", "_law_letter", "_law_following"] ["_law_machine_here", "_law_word_here", "_law_digit"] (defScope s_q_step) := ⟨rfl, rfl, rfl, by decide +kernel, rfl, by decide +kernel, by decide +kernel⟩
abbrev s_q_moved : Stmt := topS 51
abbrev N_q_moved : List Str := ["_law_machine_here", "_law_word_here", "_law_string_here", "_law_image", "_law_sign", "_law_digit"]
theorem sc_q_moved : FnScope ["_law_machine_here", "_law_word_here", "_law_string_here", "_law_image", "_law_sign", "_law_digit"] ["_law_machine_here", "_law_word_here", "_law_string_here"] (defScope s_q_moved) := ⟨rfl, rfl, rfl, by decide +kernel, rfl, by decide +kernel, by decide +kernel⟩
abbrev s_law : Stmt := topS 55
abbrev N_law : List Str := ["_law_script", "_law_draws_here", "_law_machine_here", "_law_one", "_law_two", "_law_string_here", "_law_behind", "_law_image", "_law_section", "_law_back", "_law_cut_here"]
theorem sc_law : FnScope ["_law_script", "_law_draws_here", "_law_machine_here", "_law_one", "_law_two", "_law_string_here", "_law_behind", "_law_image", "_law_section", "_law_back", "_law_cut_here"] ["_law_script"] (defScope s_law) := ⟨rfl, rfl, rfl, by decide +kernel, rfl, by decide +kernel, by decide +kernel⟩
structure Tx (K : PySem.W.Frag) (mg : Str → Option Value) where
  cls : Str → Value
  a_q_number : Addr
  fd_q_number : FuncData
  F_q_number : Fun K "_law_number" "_law_number" s_q_number a_q_number fd_q_number
  m_q_number : mg "_law_number" = some (.ref a_q_number)
  b_q_number : Binds K fd_q_number ["_law_cell"] []
  a_q_draws : Addr
  fd_q_draws : FuncData
  F_q_draws : Fun K "_law_draws" "_law_draws" s_q_draws a_q_draws fd_q_draws
  m_q_draws : mg "_law_draws" = some (.ref a_q_draws)
  b_q_draws : Binds K fd_q_draws ["_law_script"] []
  a_q_next : Addr
  fd_q_next : FuncData
  F_q_next : Fun K "_law_next" "_law_next" s_q_next a_q_next fd_q_next
  m_q_next : mg "_law_next" = some (.ref a_q_next)
  b_q_next : Binds K fd_q_next ["_law_draws_here"] []
  a_q_arranged : Addr
  fd_q_arranged : FuncData
  F_q_arranged : Fun K "_law_arranged" "_law_arranged" s_q_arranged a_q_arranged fd_q_arranged
  m_q_arranged : mg "_law_arranged" = some (.ref a_q_arranged)
  b_q_arranged : Binds K fd_q_arranged ["_law_draws_here", "_law_size"] []
  a_q_machine : Addr
  fd_q_machine : FuncData
  F_q_machine : Fun K "_law_machine" "_law_machine" s_q_machine a_q_machine fd_q_machine
  m_q_machine : mg "_law_machine" = some (.ref a_q_machine)
  b_q_machine : Binds K fd_q_machine ["_law_draws_here", "_law_most"] []
  a_q_word : Addr
  fd_q_word : FuncData
  F_q_word : Fun K "_law_word" "_law_word" s_q_word a_q_word fd_q_word
  m_q_word : mg "_law_word" = some (.ref a_q_word)
  b_q_word : Binds K fd_q_word ["_law_draws_here", "_law_machine_here", "_law_most"] []
  a_q_string : Addr
  fd_q_string : FuncData
  F_q_string : Fun K "_law_string" "_law_string" s_q_string a_q_string fd_q_string
  m_q_string : mg "_law_string" = some (.ref a_q_string)
  b_q_string : Binds K fd_q_string ["_law_draws_here", "_law_machine_here", "_law_most"] []
  a__is_row : Addr
  fd__is_row : FuncData
  F__is_row : Fun K "_is_row" "_is_row" s__is_row a__is_row fd__is_row
  m__is_row : mg "_is_row" = some (.ref a__is_row)
  b__is_row : Binds K fd__is_row ["row", "k", "count"] []
  a_is_wide : Addr
  fd_is_wide : FuncData
  F_is_wide : Fun K "is_wide" "is_wide" s_is_wide a_is_wide fd_is_wide
  m_is_wide : mg "is_wide" = some (.ref a_is_wide)
  b_is_wide : Binds K fd_is_wide ["machine"] []
  a_is_machine : Addr
  fd_is_machine : FuncData
  F_is_machine : Fun K "is_machine" "is_machine" s_is_machine a_is_machine fd_is_machine
  m_is_machine : mg "is_machine" = some (.ref a_is_machine)
  b_is_machine : Binds K fd_is_machine ["machine"] []
  a_check_machine : Addr
  fd_check_machine : FuncData
  F_check_machine : Fun K "check_machine" "check_machine" s_check_machine a_check_machine fd_check_machine
  m_check_machine : mg "check_machine" = some (.ref a_check_machine)
  b_check_machine : Binds K fd_check_machine ["machine"] []
  a_letters_of : Addr
  fd_letters_of : FuncData
  F_letters_of : Fun K "letters_of" "letters_of" s_letters_of a_letters_of fd_letters_of
  m_letters_of : mg "letters_of" = some (.ref a_letters_of)
  b_letters_of : Binds K fd_letters_of ["machine"] []
  a_is_word : Addr
  fd_is_word : FuncData
  F_is_word : Fun K "is_word" "is_word" s_is_word a_is_word fd_is_word
  m_is_word : mg "is_word" = some (.ref a_is_word)
  b_is_word : Binds K fd_is_word ["machine", "word"] []
  a_refuse_word : Addr
  fd_refuse_word : FuncData
  F_refuse_word : Fun K "refuse_word" "refuse_word" s_refuse_word a_refuse_word fd_refuse_word
  m_refuse_word : mg "refuse_word" = some (.ref a_refuse_word)
  b_refuse_word : Binds K fd_refuse_word ["machine", "word"] []
  a_check_word : Addr
  fd_check_word : FuncData
  F_check_word : Fun K "check_word" "check_word" s_check_word a_check_word fd_check_word
  m_check_word : mg "check_word" = some (.ref a_check_word)
  b_check_word : Binds K fd_check_word ["machine", "word"] []
  a_has_digits : Addr
  fd_has_digits : FuncData
  F_has_digits : Fun K "has_digits" "has_digits" s_has_digits a_has_digits fd_has_digits
  m_has_digits : mg "has_digits" = some (.ref a_has_digits)
  b_has_digits : Binds K fd_has_digits ["k", "string"] []
  a_check_string_machines : Addr
  fd_check_string_machines : FuncData
  F_check_string_machines : Fun K "check_string" "check_string" s_check_string_machines a_check_string_machines fd_check_string_machines
  m_check_string_machines : mg "check_string_machines" = some (.ref a_check_string_machines)
  b_check_string_machines : Binds K fd_check_string_machines ["k", "string"] []
  a_check_string_sections : Addr
  fd_check_string_sections : FuncData
  F_check_string_sections : Fun K "check_string" "check_string" s_check_string_sections a_check_string_sections fd_check_string_sections
  m_check_string_sections : mg "check_string_sections" = some (.ref a_check_string_sections)
  b_check_string_sections : Binds K fd_check_string_sections ["machine", "string"] []
  a_Actor_step : Addr
  fd_Actor_step : FuncData
  F_Actor_step : Fun K "step" "Actor.step" s_Actor_step a_Actor_step fd_Actor_step
  b_Actor_step : Binds K fd_Actor_step ["self", "word", "digit"] []
  a_Actor_moved : Addr
  fd_Actor_moved : FuncData
  F_Actor_moved : Fun K "moved" "Actor.moved" s_Actor_moved a_Actor_moved fd_Actor_moved
  b_Actor_moved : Binds K fd_Actor_moved ["self", "word", "string"] []
  a_Actor___init__ : Addr
  fd_Actor___init__ : FuncData
  F_Actor___init__ : Fun K "__init__" "Actor.__init__" s_Actor___init__ a_Actor___init__ fd_Actor___init__
  b_Actor___init__ : Binds K fd_Actor___init__ ["self", "machine"] []
  a_moved : Addr
  fd_moved : FuncData
  F_moved : Fun K "moved" "moved" s_moved a_moved fd_moved
  m_moved : mg "moved" = some (.ref a_moved)
  b_moved : Binds K fd_moved ["machine", "word", "string"] []
  a_image_of : Addr
  fd_image_of : FuncData
  F_image_of : Fun K "image_of" "image_of" s_image_of a_image_of fd_image_of
  m_image_of : mg "image_of" = some (.ref a_image_of)
  b_image_of : Binds K fd_image_of ["machine", "word", "string"] []
  a_section_of : Addr
  fd_section_of : FuncData
  F_section_of : Fun K "section_of" "section_of" s_section_of a_section_of fd_section_of
  m_section_of : mg "section_of" = some (.ref a_section_of)
  b_section_of : Binds K fd_section_of ["machine", "word", "string"] []
  a_other : Addr
  fd_other : FuncData
  F_other : Fun K "other" "other" s_other a_other fd_other
  m_other : mg "other" = some (.ref a_other)
  b_other : Binds K fd_other ["letter"] []
  a_undone : Addr
  fd_undone : FuncData
  F_undone : Fun K "undone" "undone" s_undone a_undone fd_undone
  m_undone : mg "undone" = some (.ref a_undone)
  b_undone : Binds K fd_undone ["word"] []
  a_undone_word : Addr
  fd_undone_word : FuncData
  F_undone_word : Fun K "undone_word" "undone_word" s_undone_word a_undone_word fd_undone_word
  m_undone_word : mg "undone_word" = some (.ref a_undone_word)
  b_undone_word : Binds K fd_undone_word ["machine", "word"] []
  a_cut : Addr
  fd_cut : FuncData
  F_cut : Fun K "cut" "cut" s_cut a_cut fd_cut
  m_cut : mg "cut" = some (.ref a_cut)
  b_cut : Binds K fd_cut ["word"] []
  a_cut_word : Addr
  fd_cut_word : FuncData
  F_cut_word : Fun K "cut_word" "cut_word" s_cut_word a_cut_word fd_cut_word
  m_cut_word : mg "cut_word" = some (.ref a_cut_word)
  b_cut_word : Binds K fd_cut_word ["machine", "word"] []
  a_q_read : Addr
  fd_q_read : FuncData
  F_q_read : Fun K "_law_read" "_law_read" s_q_read a_q_read fd_q_read
  m_q_read : mg "_law_read" = some (.ref a_q_read)
  b_q_read : Binds K fd_q_read ["_law_machine_here", "_law_letter", "_law_digit"] []
  a_q_step : Addr
  fd_q_step : FuncData
  F_q_step : Fun K "_law_step" "_law_step" s_q_step a_q_step fd_q_step
  m_q_step : mg "_law_step" = some (.ref a_q_step)
  b_q_step : Binds K fd_q_step ["_law_machine_here", "_law_word_here", "_law_digit"] []
  a_q_moved : Addr
  fd_q_moved : FuncData
  F_q_moved : Fun K "_law_moved" "_law_moved" s_q_moved a_q_moved fd_q_moved
  m_q_moved : mg "_law_moved" = some (.ref a_q_moved)
  b_q_moved : Binds K fd_q_moved ["_law_machine_here", "_law_word_here", "_law_string_here"] []
  a_law : Addr
  fd_law : FuncData
  F_law : Fun K "law" "law" s_law a_law fd_law
  m_law : mg "law" = some (.ref a_law)
  b_law : Binds K fd_law ["_law_script"] []
  C_Actor : Addr
  g_Actor : mg "Actor" = some (.ref C_Actor)
  w_Actor : PySem.W.nsIn K mainGlobals "Actor" = some (some (.ref C_Actor))
  l_Actor : Cls K C_Actor
  mk_Actor : Mk K C_Actor a_Actor___init__
  na_Actor_size : NoAttr K C_Actor "size"
  na_Actor_table : NoAttr K C_Actor "table"
  me_Actor_moved : Meth K C_Actor "moved" a_Actor_moved
  me_Actor_step : Meth K C_Actor "step" a_Actor_step
  C_NotMachine : Addr
  g_NotMachine : mg "NotMachine" = some (.ref C_NotMachine)
  x_NotMachine : PySem.W.excIn K C_NotMachine [.type "ValueError", .type "Exception", .type "BaseException", .type "object"] "ValueError.__new__" = true
  k_NotMachine : PySem.W.keepIn K (.ref C_NotMachine) = true
  s_NotMachine : PySem.W.subIn K (.ref C_NotMachine) (.type "BaseException") = some true
  t_NotMachine : PySem.W.typeIn K (.ref C_NotMachine) = some (.type "type")
  c_NotMachine : cls "NotMachine" = .ref C_NotMachine
  w_NotMachine : PySem.W.nsIn K mainGlobals "NotMachine" = some (some (.ref C_NotMachine))
  C_NotString : Addr
  g_NotString : mg "NotString" = some (.ref C_NotString)
  x_NotString : PySem.W.excIn K C_NotString [.type "ValueError", .type "Exception", .type "BaseException", .type "object"] "ValueError.__new__" = true
  k_NotString : PySem.W.keepIn K (.ref C_NotString) = true
  s_NotString : PySem.W.subIn K (.ref C_NotString) (.type "BaseException") = some true
  t_NotString : PySem.W.typeIn K (.ref C_NotString) = some (.type "type")
  c_NotString : cls "NotString" = .ref C_NotString
  w_NotString : PySem.W.nsIn K mainGlobals "NotString" = some (some (.ref C_NotString))
  C_NotWord : Addr
  g_NotWord : mg "NotWord" = some (.ref C_NotWord)
  x_NotWord : PySem.W.excIn K C_NotWord [.type "ValueError", .type "Exception", .type "BaseException", .type "object"] "ValueError.__new__" = true
  k_NotWord : PySem.W.keepIn K (.ref C_NotWord) = true
  s_NotWord : PySem.W.subIn K (.ref C_NotWord) (.type "BaseException") = some true
  t_NotWord : PySem.W.typeIn K (.ref C_NotWord) = some (.type "type")
  c_NotWord : cls "NotWord" = .ref C_NotWord
  w_NotWord : PySem.W.nsIn K mainGlobals "NotWord" = some (some (.ref C_NotWord))
  n_all : mg "all" = none
  n_enumerate : mg "enumerate" = none
  n_int : mg "int" = none
  n_len : mg "len" = none
  n_list : mg "list" = none
  n_range : mg "range" = none
  n_sorted : mg "sorted" = none
  n_str : mg "str" = none
  n_tuple : mg "tuple" = none
  tok_DIGITS : Tok
  v_DIGITS : mg "DIGITS" = some (.str "0123" tok_DIGITS)
  tok_LARGE : Tok
  v_LARGE : mg "LARGE" = some (.str "ABCDEFGH" tok_LARGE)
  tok_LEAST_DIGITS : Tok
  v_LEAST_DIGITS : mg "LEAST_DIGITS" = some (.int 2 tok_LEAST_DIGITS)
  tok_LONGEST : Tok
  v_LONGEST : mg "LONGEST" = some (.int 60 tok_LONGEST)
  tok_MOST_DIGITS : Tok
  v_MOST_DIGITS : mg "MOST_DIGITS" = some (.int 4 tok_MOST_DIGITS)
  tok_MOST_LENGTH : Tok
  v_MOST_LENGTH : mg "MOST_LENGTH" = some (.int 60 tok_MOST_LENGTH)
  tok_MOST_STATES : Tok
  v_MOST_STATES : mg "MOST_STATES" = some (.int 8 tok_MOST_STATES)
  tok_MOST_WIDE : Tok
  v_MOST_WIDE : mg "MOST_WIDE" = some (.int 200 tok_MOST_WIDE)
  tok_ORDER : Tok
  v_ORDER : mg "ORDER" = some (.str "aAbBcCdDeEfFgGhH" tok_ORDER)
  tok_SMALL : Tok
  v_SMALL : mg "SMALL" = some (.str "abcdefgh" tok_SMALL)
section
variable {P : Program} {w : World} {K : PySem.W.Frag} {mg : Str → Option Value} {base : Heap}
theorem ok_q_number (T : Tx K mg) : FnG P w K mg base 1 T.a_q_number T.fd_q_number ["_law_cell"] (spD ⟨K, w⟩ T.cls none 1 f_q_number) :=
  fn_D none T.F_q_number sc_q_number (by decide) fun cdv A outer s H E hr gd Y hc =>
    ds_cons (ds_if (dt_cmp (od_ltG hr.units) (de_var) (de_int) (nomark _)) (ds_one (ds_ret (de_bin od_sub (de_int) (de_var)))) (ds_nil))
    (ds_one (ds_ret (de_var)))
theorem ok_q_draws (T : Tx K mg) : FnG P w K mg base 2 T.a_q_draws T.fd_q_draws ["_law_script"] (spD ⟨K, w⟩ T.cls none 1 f_q_draws) :=
  fn_D none T.F_q_draws sc_q_draws (by decide) fun cdv A outer s H E hr gd Y hc =>
    ds_cons (ds_asg (de_lst (da_nil)) (dg_name sc_q_draws.nd))
    (ds_cons (ds_for (passes_of rfl) rfl (di_seq (de_var)) (dg_name sc_q_draws.nd) (ds_cons (ds_asg (de_call (ok_q_number T) (hr.mono (by decide)) gd (by rfl) T.m_q_number T.F_q_number.kp T.b_q_number (takes_of rfl rfl rfl rfl) hc (da_cons (de_esc (de_var)) (da_nil))) (dg_name sc_q_draws.nd))
    (ds_one (ds_if (dt_cmp od_ge (de_var) (de_int) (nomark _)) (ds_one (ds_for (passes_of rfl) rfl (di_rng1 (by rfl) T.n_range (da_cons (de_esc (de_int)) (da_nil))) (dg_name sc_q_draws.nd) (ds_cons (ds_if (dt_cmp (od_eq hr.units) (de_var) (de_int) (nomark _)) (ds_one (ds_break)) (ds_nil))
    (ds_cons (ds_expr (de_mut (by decide) PySem.F.plainAttrs_list PySem.F.slot_list_append PySem.F.type_list_append ud_append (de_var) (da_cons (de_esc (de_bin od_mod (de_callTy cd_int (by rfl) T.n_int PyProof.Rows.boot_int (da_cons (de_pk (de_var)) (da_nil))) (de_int))) (da_nil))))
    (ds_one (ds_asg (de_bin od_fdiv (de_var) (de_int)) (dg_name sc_q_draws.nd))))))) (ds_cons (ds_asg (de_bin od_mod (de_callTy cd_int (by rfl) T.n_int PyProof.Rows.boot_int (da_cons (de_pk (de_bin od_add (de_bin od_mul (de_var) (de_int)) (de_int))) (da_nil))) (de_int)) (dg_name sc_q_draws.nd))
    (ds_cons (ds_asg (de_bin od_mod (de_callTy cd_int (by rfl) T.n_int PyProof.Rows.boot_int (da_cons (de_pk (de_bin od_add (de_bin od_mul (de_var) (de_int)) (de_var))) (da_nil))) (de_int)) (dg_name sc_q_draws.nd))
    (ds_one (ds_expr (de_mut (by decide) PySem.F.plainAttrs_list PySem.F.slot_list_extend PySem.F.type_list_extend ud_extend (de_var) (da_cons (de_esc (de_lst (da_cons (de_esc (de_bin od_mod (de_callTy cd_int (by rfl) T.n_int PyProof.Rows.boot_int (da_cons (de_pk (de_var)) (da_nil))) (de_int))) (da_cons (de_esc (de_bin od_mod (de_callTy cd_int (by rfl) T.n_int PyProof.Rows.boot_int (da_cons (de_pk (de_var)) (da_nil))) (de_int))) (da_cons (de_esc (de_bin od_mod (de_callTy cd_int (by rfl) T.n_int PyProof.Rows.boot_int (da_cons (de_pk (de_var)) (da_nil))) (de_int))) (da_nil)))))) (da_nil)))))))))))
    (ds_one (ds_ret (de_var))))
theorem ok_q_next (T : Tx K mg) : FnG P w K mg base 1 T.a_q_next T.fd_q_next ["_law_draws_here"] (spD ⟨K, w⟩ T.cls (some 0) 1 f_q_next) :=
  fn_D (some 0) T.F_q_next sc_q_next (by decide) fun cdv A outer s H E hr gd Y hc =>
    ds_cons (ds_if (dt_truth (de_var)) (ds_one (ds_ret (de_mut0 (by decide) PySem.F.plainAttrs_list PySem.F.slot_list_pop PySem.F.type_list_pop ud_pop (de_var)))) (ds_nil))
    (ds_one (ds_ret (de_int)))
theorem ok_q_arranged (T : Tx K mg) : FnG P w K mg base 2 T.a_q_arranged T.fd_q_arranged ["_law_draws_here", "_law_size"] (spD ⟨K, w⟩ T.cls (some 0) 2 f_q_arranged) :=
  fn_D (some 0) T.F_q_arranged sc_q_arranged (by decide) fun cdv A outer s H E hr gd Y hc =>
    ds_cons (ds_asg (de_lrg1 rfl (by rfl) T.n_list (by rfl) T.n_range (de_var)) (dg_name sc_q_arranged.nd))
    (ds_cons (ds_asg (de_lst (da_nil)) (dg_name sc_q_arranged.nd))
    (ds_cons (ds_for (passes_of rfl) rfl (di_rng1 (by rfl) T.n_range (da_cons (de_esc (de_var)) (da_nil))) (dg_name sc_q_arranged.nd) (ds_cons (ds_asg (de_bin od_mod (de_callTy cd_int (by rfl) T.n_int PyProof.Rows.boot_int (da_cons (de_pk (de_call (ok_q_next T) (hr.mono (by decide)) gd (by rfl) T.m_q_next T.F_q_next.kp T.b_q_next (takes_of rfl rfl rfl rfl) hc (da_cons (de_var) (da_nil)))) (da_nil))) (de_callB cd_len (by rfl) T.n_len PySem.boot_len (da_cons (de_pk (de_var)) (da_nil)))) (dg_name sc_q_arranged.nd))
    (ds_cons (ds_expr (de_mut (by decide) PySem.F.plainAttrs_list PySem.F.slot_list_append PySem.F.type_list_append ud_append (de_var) (da_cons (de_esc (de_ix (de_var) (de_var))) (da_nil))))
    (ds_one (ds_asg (de_bin od_add (de_sl (de_var) (do_none) (do_some (de_var))) (de_sl (de_var) (do_some (de_bin od_add (de_var) (de_int))) (do_none))) (dg_name sc_q_arranged.nd))))))
    (ds_one (ds_ret (de_var)))))
theorem ok_q_machine (T : Tx K mg) : FnG P w K mg base 3 T.a_q_machine T.fd_q_machine ["_law_draws_here", "_law_most"] (spD ⟨K, w⟩ T.cls (some 0) 2 f_q_machine) :=
  fn_D (some 0) T.F_q_machine sc_q_machine (by decide) fun cdv A outer s H E hr gd Y hc =>
    ds_cons (ds_asg (de_ix (de_lst (da_cons (de_esc (de_int)) (da_cons (de_esc (de_int)) (da_cons (de_esc (de_int)) (da_cons (de_esc (de_int)) (da_cons (de_esc (de_int)) (da_nil))))))) (de_bin od_mod (de_callTy cd_int (by rfl) T.n_int PyProof.Rows.boot_int (da_cons (de_pk (de_call (ok_q_next T) (hr.mono (by decide)) gd (by rfl) T.m_q_next T.F_q_next.kp T.b_q_next (takes_of rfl rfl rfl rfl) hc (da_cons (de_var) (da_nil)))) (da_nil))) (de_int))) (dg_name sc_q_machine.nd))
    (ds_cons (ds_asg (de_bin od_add (de_int) (de_bin od_mod (de_callTy cd_int (by rfl) T.n_int PyProof.Rows.boot_int (da_cons (de_pk (de_call (ok_q_next T) (hr.mono (by decide)) gd (by rfl) T.m_q_next T.F_q_next.kp T.b_q_next (takes_of rfl rfl rfl rfl) hc (da_cons (de_var) (da_nil)))) (da_nil))) (de_var))) (dg_name sc_q_machine.nd))
    (ds_cons (ds_asg (de_cmp (od_eq hr.units) (de_bin od_mod (de_callTy cd_int (by rfl) T.n_int PyProof.Rows.boot_int (da_cons (de_pk (de_call (ok_q_next T) (hr.mono (by decide)) gd (by rfl) T.m_q_next T.F_q_next.kp T.b_q_next (takes_of rfl rfl rfl rfl) hc (da_cons (de_var) (da_nil)))) (da_nil))) (de_int)) (de_int) (nomark _)) (dg_name sc_q_machine.nd))
    (ds_cons (ds_asg (de_lst (da_nil)) (dg_name sc_q_machine.nd))
    (ds_cons (ds_for (passes_of rfl) rfl (di_rng1 (by rfl) T.n_range (da_cons (de_esc (de_var)) (da_nil))) (dg_name sc_q_machine.nd) (ds_cons (ds_asg (de_call (ok_q_arranged T) (hr.mono (by decide)) gd (by rfl) T.m_q_arranged T.F_q_arranged.kp T.b_q_arranged (takes_of rfl rfl rfl rfl) hc (da_cons (de_var) (da_cons (de_esc (de_var)) (da_nil)))) (dg_name sc_q_machine.nd))
    (ds_cons (ds_asg (de_lc [("_law_digit", 10)] rfl sc_q_machine.nd (blkOk_by (N := N_q_machine) (sc := defScope s_q_machine) (by decide +kernel)) (di_rng1 (by rfl) T.n_range (da_cons (de_esc (de_var)) (da_nil))) (fun Z1 hZ1 s H C cl fp => dg_name sc_q_machine.nd) (fun Z1 hZ1 s H C cl fp => dts_nil) (fun Z1 hZ1 s H C cl fp => de_bin od_mod (de_callTy cd_int (by rfl) T.n_int PyProof.Rows.boot_int (da_cons (de_pk (de_call (ok_q_next T) (hr.mono (by decide)) gd (by rfl) T.m_q_next T.F_q_next.kp T.b_q_next takes0 (hZ1.trans hc) (da_cons (de_var) (da_nil)))) (da_nil))) (de_var))) (dg_name sc_q_machine.nd))
    (ds_cons (ds_if (dt_truth (de_var)) (ds_cons (ds_asg (de_bin od_mod (de_callTy cd_int (by rfl) T.n_int PyProof.Rows.boot_int (da_cons (de_pk (de_call (ok_q_next T) (hr.mono (by decide)) gd (by rfl) T.m_q_next T.F_q_next.kp T.b_q_next (takes_of rfl rfl rfl rfl) hc (da_cons (de_var) (da_nil)))) (da_nil))) (de_var)) (dg_name sc_q_machine.nd))
    (ds_one (ds_asg (de_lc [("_law_digit", 10)] rfl sc_q_machine.nd (blkOk_by (N := N_q_machine) (sc := defScope s_q_machine) (by decide +kernel)) (di_rng1 (by rfl) T.n_range (da_cons (de_esc (de_var)) (da_nil))) (fun Z2 hZ2 s H C cl fp => dg_name sc_q_machine.nd) (fun Z2 hZ2 s H C cl fp => dts_nil) (fun Z2 hZ2 s H C cl fp => de_ifExp (dt_cmp (od_eq hr.units) (de_var) (de_var) (nomark _)) (de_ix (de_var) (de_var)) (de_var))) (dg_name sc_q_machine.nd)))) (ds_nil))
    (ds_one (ds_expr (de_mut (by decide) PySem.F.plainAttrs_list PySem.F.slot_list_append PySem.F.type_list_append ud_append (de_var) (da_cons (de_esc (de_callTy cd_tuple (by rfl) T.n_tuple PyProof.Rows.boot_tuple (da_cons (de_pk (de_lc [("_law_digit", 10)] rfl sc_q_machine.nd (blkOk_by (N := N_q_machine) (sc := defScope s_q_machine) (by decide +kernel)) (di_rng1 (by rfl) T.n_range (da_cons (de_esc (de_var)) (da_nil))) (fun Z3 hZ3 s H C cl fp => dg_name sc_q_machine.nd) (fun Z3 hZ3 s H C cl fp => dts_nil) (fun Z3 hZ3 s H C cl fp => de_tup (da_cons (de_esc (de_ix (de_var) (de_var))) (da_cons (de_esc (de_ix (de_var) (de_var))) (da_nil)))))) (da_nil)))) (da_nil)))))))))
    (ds_cons (ds_if (dt_truth (de_var)) (ds_one (ds_expr (de_mut (by decide) PySem.F.plainAttrs_list PySem.F.slot_list_append PySem.F.type_list_append ud_append (de_var) (da_cons (de_esc (de_callTy cd_tuple (by rfl) T.n_tuple PyProof.Rows.boot_tuple (da_cons (de_pk (de_lc [("_law_digit", 10)] rfl sc_q_machine.nd (blkOk_by (N := N_q_machine) (sc := defScope s_q_machine) (by decide +kernel)) (di_rng1 (by rfl) T.n_range (da_cons (de_esc (de_var)) (da_nil))) (fun Z4 hZ4 s H C cl fp => dg_name sc_q_machine.nd) (fun Z4 hZ4 s H C cl fp => dts_nil) (fun Z4 hZ4 s H C cl fp => de_tup (da_cons (de_esc (de_var)) (da_cons (de_esc (de_var)) (da_nil)))))) (da_nil)))) (da_nil))))) (ds_nil))
    (ds_one (ds_ret (de_tup (da_cons (de_esc (de_var)) (da_cons (de_esc (de_callTy cd_tuple (by rfl) T.n_tuple PyProof.Rows.boot_tuple (da_cons (de_pk (de_var)) (da_nil)))) (da_nil)))))))))))
theorem ok_q_word (T : Tx K mg) : FnG P w K mg base 2 T.a_q_word T.fd_q_word ["_law_draws_here", "_law_machine_here", "_law_most"] (spD ⟨K, w⟩ T.cls (some 0) 3 f_q_word) :=
  fn_D (some 0) T.F_q_word sc_q_word (by decide) fun cdv A outer s H E hr gd Y hc =>
    ds_cons (ds_asg (de_sl (de_str) (do_none) (do_some (de_bin od_mul (de_int) (de_callB cd_len (by rfl) T.n_len PySem.boot_len (da_cons (de_pk (de_ix (de_var) (de_int))) (da_nil)))))) (dg_name sc_q_word.nd))
    (ds_one (ds_ret (de_meth (by decide) PySem.F.plainAttrs_str PySem.F.slot_str_join PySem.F.type_str_join md_join (de_str) (da_cons (de_pk (de_lc [("_law_k", 4)] rfl sc_q_word.nd (blkOk_by (N := N_q_word) (sc := defScope s_q_word) (by decide +kernel)) (di_rng1 (by rfl) T.n_range (da_cons (de_esc (de_bin od_mod (de_callTy cd_int (by rfl) T.n_int PyProof.Rows.boot_int (da_cons (de_pk (de_call (ok_q_next T) (hr.mono (by decide)) gd (by rfl) T.m_q_next T.F_q_next.kp T.b_q_next (takes_of rfl rfl rfl rfl) hc (da_cons (de_var) (da_nil)))) (da_nil))) (de_bin od_add (de_var) (de_int)))) (da_nil))) (fun Z1 hZ1 s H C cl fp => dg_name sc_q_word.nd) (fun Z1 hZ1 s H C cl fp => dts_nil) (fun Z1 hZ1 s H C cl fp => de_ix (de_var) (de_bin od_mod (de_callTy cd_int (by rfl) T.n_int PyProof.Rows.boot_int (da_cons (de_pk (de_call (ok_q_next T) (hr.mono (by decide)) gd (by rfl) T.m_q_next T.F_q_next.kp T.b_q_next takes0 (hZ1.trans hc) (da_cons (de_var) (da_nil)))) (da_nil))) (de_callB cd_len (by rfl) T.n_len PySem.boot_len (da_cons (de_pk (de_var)) (da_nil))))))) (da_nil)))))
theorem ok_q_string (T : Tx K mg) : FnG P w K mg base 2 T.a_q_string T.fd_q_string ["_law_draws_here", "_law_machine_here", "_law_most"] (spD ⟨K, w⟩ T.cls (some 0) 3 f_q_string) :=
  fn_D (some 0) T.F_q_string sc_q_string (by decide) fun cdv A outer s H E hr gd Y hc =>
    ds_one (ds_ret (de_meth (by decide) PySem.F.plainAttrs_str PySem.F.slot_str_join PySem.F.type_str_join md_join (de_str) (da_cons (de_pk (de_lc [("_law_k", 3)] rfl sc_q_string.nd (blkOk_by (N := N_q_string) (sc := defScope s_q_string) (by decide +kernel)) (di_rng1 (by rfl) T.n_range (da_cons (de_esc (de_bin od_mod (de_callTy cd_int (by rfl) T.n_int PyProof.Rows.boot_int (da_cons (de_pk (de_call (ok_q_next T) (hr.mono (by decide)) gd (by rfl) T.m_q_next T.F_q_next.kp T.b_q_next (takes_of rfl rfl rfl rfl) hc (da_cons (de_var) (da_nil)))) (da_nil))) (de_bin od_add (de_var) (de_int)))) (da_nil))) (fun Z1 hZ1 s H C cl fp => dg_name sc_q_string.nd) (fun Z1 hZ1 s H C cl fp => dts_nil) (fun Z1 hZ1 s H C cl fp => de_ix (de_str) (de_bin od_mod (de_callTy cd_int (by rfl) T.n_int PyProof.Rows.boot_int (da_cons (de_pk (de_call (ok_q_next T) (hr.mono (by decide)) gd (by rfl) T.m_q_next T.F_q_next.kp T.b_q_next takes0 (hZ1.trans hc) (da_cons (de_var) (da_nil)))) (da_nil))) (de_ix (de_var) (de_int)))))) (da_nil))))
theorem ok__is_row (T : Tx K mg) : FnG P w K mg base 1 T.a__is_row T.fd__is_row ["row", "k", "count"] (spD ⟨K, w⟩ T.cls none 3 f__is_row) :=
  fn_D none T.F__is_row sc__is_row (by decide) fun cdv A outer s H E hr gd Y hc =>
    ds_cons (ds_if (dt_w (dw_or (dt_cmp (od_ne hr.units) (de_callB cd_len (by rfl) T.n_len PySem.boot_len (da_cons (de_pk (de_var)) (da_nil))) (de_var) (nomark _)) (dw_or1 (dt_cmp (od_ne hr.units) (de_callB cd_sortG (by rfl) T.n_sorted PyProof.Rows.boot_sorted (da_cons (de_pk (de_lc [("out", 3), ("_", 4)] rfl sc__is_row.nd (blkOk_by (N := N__is_row) (sc := defScope s__is_row) (by decide +kernel)) (di_seq (de_var)) (fun Z1 hZ1 s H C cl fp => dg_un rfl (dgs_cons (dg_name sc__is_row.nd) (dgs_cons (dg_name sc__is_row.nd) (dgs_nil)))) (fun Z1 hZ1 s H C cl fp => dts_nil) (fun Z1 hZ1 s H C cl fp => de_var))) (da_nil))) (de_lrg1 rfl (by rfl) T.n_list (by rfl) T.n_range (de_var)) (nomark _))))) (ds_one (ds_ret (de_bl))) (ds_nil))
    (ds_one (ds_ret (de_callB (cd_all rfl) (by rfl) T.n_all PyProof.Rows.boot_all (da_cons (de_pk (de_lc [("_", 4), ("following", 5)] rfl sc__is_row.nd (blkOk_by (N := N__is_row) (sc := defScope s__is_row) (by decide +kernel)) (di_seq (de_var)) (fun Z2 hZ2 s H C cl fp => dg_un rfl (dgs_cons (dg_name sc__is_row.nd) (dgs_cons (dg_name sc__is_row.nd) (dgs_nil)))) (fun Z2 hZ2 s H C cl fp => dts_nil) (fun Z2 hZ2 s H C cl fp => de_chain od_le (od_ltG hr.units) (de_int) (de_var) (de_var)))) (da_nil)))))
theorem ok_is_wide (T : Tx K mg) : FnG P w K mg base 2 T.a_is_wide T.fd_is_wide ["machine"] (spD ⟨K, w⟩ T.cls none 1 f_is_wide) :=
  fn_D none T.F_is_wide sc_is_wide (by decide) fun cdv A outer s H E hr gd Y hc =>
    ds_cons (ds_asg (de_var) (dg_un rfl (dgs_cons (dg_name sc_is_wide.nd) (dgs_cons (dg_name sc_is_wide.nd) (dgs_nil)))))
    (ds_cons (ds_if (dt_w (dw_or (dt_not (dt_chain od_le od_le ((de_gI T.v_LEAST_DIGITS)) (de_var) ((de_gI T.v_MOST_DIGITS)))) (dw_or1 (dt_not (dt_chain od_le od_le (de_int) (de_callB cd_len (by rfl) T.n_len PySem.boot_len (da_cons (de_pk (de_var)) (da_nil))) ((de_gI T.v_MOST_WIDE))))))) (ds_one (ds_ret (de_bl))) (ds_nil))
    (ds_one (ds_ret (de_callB (cd_all rfl) (by rfl) T.n_all PyProof.Rows.boot_all (da_cons (de_pk (de_lc [("row", 3)] rfl sc_is_wide.nd (blkOk_by (N := N_is_wide) (sc := defScope s_is_wide) (by decide +kernel)) (di_seq (de_var)) (fun Z1 hZ1 s H C cl fp => dg_name sc_is_wide.nd) (fun Z1 hZ1 s H C cl fp => dts_nil) (fun Z1 hZ1 s H C cl fp => de_call (ok__is_row T) (hr.mono (by decide)) gd (by rfl) T.m__is_row T.F__is_row.kp T.b__is_row takes0 (hZ1.trans hc) (da_cons (de_esc (de_var)) (da_cons (de_esc (de_var)) (da_cons (de_esc (de_callB cd_len (by rfl) T.n_len PySem.boot_len (da_cons (de_pk (de_var)) (da_nil)))) (da_nil))))))) (da_nil))))))
theorem ok_is_machine (T : Tx K mg) : FnG P w K mg base 3 T.a_is_machine T.fd_is_machine ["machine"] (spD ⟨K, w⟩ T.cls none 1 f_is_machine) :=
  fn_D none T.F_is_machine sc_is_machine (by decide) fun cdv A outer s H E hr gd Y hc =>
    ds_one (ds_ret (de_and (de_cmp od_le (de_callB cd_len (by rfl) T.n_len PySem.boot_len (da_cons (de_pk (de_ix (de_var) (de_int))) (da_nil))) ((de_gI T.v_MOST_STATES)) (nomark _)) (de_one (de_call (ok_is_wide T) (hr.mono (by decide)) gd (by rfl) T.m_is_wide T.F_is_wide.kp T.b_is_wide (takes_of rfl rfl rfl rfl) hc (da_cons (de_esc (de_var)) (da_nil))))))
theorem ok_check_machine (T : Tx K mg) : FnG P w K mg base 4 T.a_check_machine T.fd_check_machine ["machine"] (spD ⟨K, w⟩ T.cls none 1 f_check_machine) :=
  fn_D none T.F_check_machine sc_check_machine (by decide) fun cdv A outer s H E hr gd Y hc =>
    ds_one (ds_if (dt_not (dt_truth (de_call (ok_is_machine T) (hr.mono (by decide)) gd (by rfl) T.m_is_machine T.F_is_machine.kp T.b_is_machine (takes_of rfl rfl rfl rfl) hc (da_cons (de_esc (de_var)) (da_nil))))) (ds_one (ds_raise rfl (takes_of rfl rfl rfl rfl) PySem.F.excBase_ValueError T.x_NotMachine T.g_NotMachine T.k_NotMachine T.s_NotMachine T.t_NotMachine (by rw [hc]; exact T.c_NotMachine))) (ds_nil))
theorem ok_letters_of (T : Tx K mg) : FnG P w K mg base 1 T.a_letters_of T.fd_letters_of ["machine"] (spD ⟨K, w⟩ T.cls none 1 f_letters_of) :=
  fn_D none T.F_letters_of sc_letters_of (by decide) fun cdv A outer s H E hr gd Y hc =>
    ds_one (ds_ret (de_sl ((de_gS T.v_ORDER)) (do_none) (do_some (de_bin od_mul (de_int) (de_callB cd_len (by rfl) T.n_len PySem.boot_len (da_cons (de_pk (de_ix (de_var) (de_int))) (da_nil)))))))
theorem ok_is_word (T : Tx K mg) : FnG P w K mg base 2 T.a_is_word T.fd_is_word ["machine", "word"] (spD ⟨K, w⟩ T.cls none 2 f_is_word) :=
  fn_D none T.F_is_word sc_is_word (by decide) fun cdv A outer s H E hr gd Y hc =>
    ds_cons (ds_asg (de_call (ok_letters_of T) (hr.mono (by decide)) gd (by rfl) T.m_letters_of T.F_letters_of.kp T.b_letters_of (takes_of rfl rfl rfl rfl) hc (da_cons (de_esc (de_var)) (da_nil))) (dg_name sc_is_word.nd))
    (ds_one (ds_ret (de_callB (cd_all rfl) (by rfl) T.n_all PyProof.Rows.boot_all (da_cons (de_pk (de_lc [("letter", 3)] rfl sc_is_word.nd (blkOk_by (N := N_is_word) (sc := defScope s_is_word) (by decide +kernel)) (di_seq (de_var)) (fun Z1 hZ1 s H C cl fp => dg_name sc_is_word.nd) (fun Z1 hZ1 s H C cl fp => dts_nil) (fun Z1 hZ1 s H C cl fp => de_cmp od_inT (de_var) (de_var) (by with_unfolding_all rfl)))) (da_nil)))))
theorem ok_refuse_word (T : Tx K mg) : FnG P w K mg base 3 T.a_refuse_word T.fd_refuse_word ["machine", "word"] (spD ⟨K, w⟩ T.cls none 2 f_refuse_word) :=
  fn_D none T.F_refuse_word sc_refuse_word (by decide) fun cdv A outer s H E hr gd Y hc =>
    ds_one (ds_if (dt_w (dw_or (dt_cmp od_gt (de_callB cd_len (by rfl) T.n_len PySem.boot_len (da_cons (de_pk (de_var)) (da_nil))) ((de_gI T.v_LONGEST)) (nomark _)) (dw_or1 (dt_not (dt_truth (de_call (ok_is_word T) (hr.mono (by decide)) gd (by rfl) T.m_is_word T.F_is_word.kp T.b_is_word (takes_of rfl rfl rfl rfl) hc (da_cons (de_esc (de_var)) (da_cons (de_esc (de_var)) (da_nil))))))))) (ds_one (ds_raise rfl (takes_of rfl rfl rfl rfl) PySem.F.excBase_ValueError T.x_NotWord T.g_NotWord T.k_NotWord T.s_NotWord T.t_NotWord (by rw [hc]; exact T.c_NotWord))) (ds_nil))
theorem ok_check_word (T : Tx K mg) : FnG P w K mg base 5 T.a_check_word T.fd_check_word ["machine", "word"] (spD ⟨K, w⟩ T.cls none 2 f_check_word) :=
  fn_D none T.F_check_word sc_check_word (by decide) fun cdv A outer s H E hr gd Y hc =>
    ds_cons (ds_expr (de_call (ok_check_machine T) (hr.mono (by decide)) gd (by rfl) T.m_check_machine T.F_check_machine.kp T.b_check_machine (takes_of rfl rfl rfl rfl) hc (da_cons (de_esc (de_var)) (da_nil))))
    (ds_one (ds_expr (de_call (ok_refuse_word T) (hr.mono (by decide)) gd (by rfl) T.m_refuse_word T.F_refuse_word.kp T.b_refuse_word (takes_of rfl rfl rfl rfl) hc (da_cons (de_esc (de_var)) (da_cons (de_esc (de_var)) (da_nil))))))
theorem ok_has_digits (T : Tx K mg) : FnG P w K mg base 1 T.a_has_digits T.fd_has_digits ["k", "string"] (spD ⟨K, w⟩ T.cls none 2 f_has_digits) :=
  fn_D none T.F_has_digits sc_has_digits (by decide) fun cdv A outer s H E hr gd Y hc =>
    ds_one (ds_ret (de_and (de_cmp od_le (de_callB cd_len (by rfl) T.n_len PySem.boot_len (da_cons (de_pk (de_var)) (da_nil))) ((de_gI T.v_MOST_LENGTH)) (nomark _)) (de_one (de_callB (cd_all rfl) (by rfl) T.n_all PyProof.Rows.boot_all (da_cons (de_pk (de_lc [("digit", 2)] rfl sc_has_digits.nd (blkOk_by (N := N_has_digits) (sc := defScope s_has_digits) (by decide +kernel)) (di_seq (de_var)) (fun Z1 hZ1 s H C cl fp => dg_name sc_has_digits.nd) (fun Z1 hZ1 s H C cl fp => dts_nil) (fun Z1 hZ1 s H C cl fp => de_cmp od_inT (de_var) (de_sl ((de_gS T.v_DIGITS)) (do_none) (do_some (de_var))) (by with_unfolding_all rfl)))) (da_nil))))))
theorem ok_check_string_machines (T : Tx K mg) : FnG P w K mg base 2 T.a_check_string_machines T.fd_check_string_machines ["k", "string"] (spD ⟨K, w⟩ T.cls none 2 f_check_string_machines) :=
  fn_D none T.F_check_string_machines sc_check_string_machines (by decide) fun cdv A outer s H E hr gd Y hc =>
    ds_one (ds_if (dt_not (dt_truth (de_call (ok_has_digits T) (hr.mono (by decide)) gd (by rfl) T.m_has_digits T.F_has_digits.kp T.b_has_digits (takes_of rfl rfl rfl rfl) hc (da_cons (de_esc (de_var)) (da_cons (de_esc (de_var)) (da_nil)))))) (ds_one (ds_raise rfl (takes_of rfl rfl rfl rfl) PySem.F.excBase_ValueError T.x_NotString T.g_NotString T.k_NotString T.s_NotString T.t_NotString (by rw [hc]; exact T.c_NotString))) (ds_nil))
theorem ok_check_string_sections (T : Tx K mg) : FnG P w K mg base 3 T.a_check_string_sections T.fd_check_string_sections ["machine", "string"] (spD ⟨K, w⟩ T.cls none 2 f_check_string_sections) :=
  fn_D none T.F_check_string_sections sc_check_string_sections (by decide) fun cdv A outer s H E hr gd Y hc =>
    ds_one (ds_expr (de_call (ok_check_string_machines T) (hr.mono (by decide)) gd (by rfl) T.m_check_string_machines T.F_check_string_machines.kp T.b_check_string_machines (takes_of rfl rfl rfl rfl) hc (da_cons (de_esc (de_ix (de_var) (de_int))) (da_cons (de_esc (de_var)) (da_nil)))))
theorem ok_Actor_step (T : Tx K mg) : FnG P w K mg base 1 T.a_Actor_step T.fd_Actor_step ["self", "word", "digit"] (spD ⟨K, w⟩ T.cls none 3 f_Actor_step) :=
  fn_D none T.F_Actor_step sc_Actor_step (by decide) fun cdv A outer s H E hr gd Y hc =>
    ds_cons (ds_asg (de_lst (da_nil)) (dg_name sc_Actor_step.nd))
    (ds_cons (ds_for (passes_of rfl) rfl (di_seq (de_var)) (dg_name sc_Actor_step.nd) (ds_cons (ds_asg (de_ix (de_dget (hu_of hr) (de_fld T.w_Actor T.l_Actor T.na_Actor_table (de_var)) (de_var) (by exact fun _ _ => rfl)) (de_var)) (dg_un rfl (dgs_cons (dg_name sc_Actor_step.nd) (dgs_cons (dg_name sc_Actor_step.nd) (dgs_nil)))))
    (ds_one (ds_expr (de_mut (by decide) PySem.F.plainAttrs_list PySem.F.slot_list_append PySem.F.type_list_append ud_append (de_var) (da_cons (de_esc (de_var)) (da_nil)))))))
    (ds_one (ds_ret (de_tup (da_cons (de_esc (de_var)) (da_cons (de_esc (de_meth (by decide) PySem.F.plainAttrs_str PySem.F.slot_str_join PySem.F.type_str_join md_join (de_str) (da_cons (de_pk (de_var)) (da_nil)))) (da_nil)))))))
theorem ok_Actor_moved (T : Tx K mg) : FnG P w K mg base 2 T.a_Actor_moved T.fd_Actor_moved ["self", "word", "string"] (spD ⟨K, w⟩ T.cls none 3 f_Actor_moved) :=
  fn_D none T.F_Actor_moved sc_Actor_moved (by decide) fun cdv A outer s H E hr gd Y hc =>
    ds_cons (ds_asg (de_lst (da_nil)) (dg_name sc_Actor_moved.nd))
    (ds_cons (ds_for (passes_of rfl) rfl (di_seq (de_var)) (dg_name sc_Actor_moved.nd) (ds_cons (ds_asg (de_self T.w_Actor T.l_Actor T.me_Actor_step (ok_Actor_step T) (hr.mono (by decide)) gd T.b_Actor_step (takes_of rfl rfl rfl rfl) hc (de_var) (da_cons (de_esc (de_var)) (da_cons (de_esc (de_callTy cd_int (by rfl) T.n_int PyProof.Rows.boot_int (da_cons (de_pk (de_var)) (da_nil)))) (da_nil)))) (dg_un rfl (dgs_cons (dg_name sc_Actor_moved.nd) (dgs_cons (dg_name sc_Actor_moved.nd) (dgs_nil)))))
    (ds_one (ds_expr (de_mut (by decide) PySem.F.plainAttrs_list PySem.F.slot_list_append PySem.F.type_list_append ud_append (de_var) (da_cons (de_esc (de_callTy cd_str (by rfl) T.n_str PyProof.Rows.boot_str (da_cons (de_pk (de_var)) (da_nil)))) (da_nil)))))))
    (ds_one (ds_ret (de_tup (da_cons (de_esc (de_meth (by decide) PySem.F.plainAttrs_str PySem.F.slot_str_join PySem.F.type_str_join md_join (de_str) (da_cons (de_pk (de_var)) (da_nil)))) (da_cons (de_esc (de_var)) (da_nil)))))))
theorem ok_Actor___init__ (T : Tx K mg) : FnG P w K mg base 1 T.a_Actor___init__ T.fd_Actor___init__ ["self", "machine"] (spI ⟨K, w⟩ T.cls "Actor" 2 f_Actor___init__) :=
  fn_I T.F_Actor___init__ sc_Actor___init__ (by decide) fun cdv A outer s H E hr gd Y hc =>
    ds_cons (ds_fld T.w_Actor T.l_Actor T.na_Actor_size (de_pk (de_ix (de_var) (de_int))))
    (ds_cons (ds_sealA 0 (ds_fld T.w_Actor T.l_Actor T.na_Actor_table (de_newK)))
    (ds_one (ds_for (passes_of rfl) rfl (di_en (by rfl) T.n_enumerate (da_cons (de_esc (de_ix (de_var) (de_int))) (da_nil))) (dg_un rfl (dgs_cons (dg_name sc_Actor___init__.nd) (dgs_cons (dg_name sc_Actor___init__.nd) (dgs_nil)))) (ds_cons (ds_asg (de_bin od_mul (de_lst (da_cons (de_esc (de_tup (da_cons (de_esc (de_int)) (da_cons (de_esc (de_str)) (da_nil))))) (da_nil))) (de_fld T.w_Actor T.l_Actor T.na_Actor_size (de_var))) (dg_name sc_Actor___init__.nd))
    (ds_cons (ds_for (passes_of rfl) rfl (di_en (by rfl) T.n_enumerate (da_cons (de_esc (de_var)) (da_nil))) (dg_un rfl (dgs_cons (dg_name sc_Actor___init__.nd) (dgs_cons (dg_un rfl (dgs_cons (dg_name sc_Actor___init__.nd) (dgs_cons (dg_name sc_Actor___init__.nd) (dgs_nil)))) (dgs_nil)))) (ds_one (ds_set sd_list (de_var) (de_var) (de_tup (da_cons (de_esc (de_var)) (da_cons (de_esc (de_ix ((de_gS T.v_LARGE)) (de_var))) (da_nil)))))))
    (ds_cons (ds_set (sd_dk (hu_of hr)) (de_fld T.w_Actor T.l_Actor T.na_Actor_table (de_var)) (de_ix ((de_gS T.v_SMALL)) (de_var)) (de_lc [("out", 6), ("following", 7)] rfl sc_Actor___init__.nd (blkOk_by (N := N_Actor___init__) (sc := defScope s_Actor___init__) (by decide +kernel)) (di_seq (de_var)) (fun Z1 hZ1 s H C cl fp => dg_un rfl (dgs_cons (dg_name sc_Actor___init__.nd) (dgs_cons (dg_name sc_Actor___init__.nd) (dgs_nil)))) (fun Z1 hZ1 s H C cl fp => dts_nil) (fun Z1 hZ1 s H C cl fp => de_tup (da_cons (de_esc (de_var)) (da_cons (de_esc (de_ix ((de_gS T.v_SMALL)) (de_var))) (da_nil))))))
    (ds_one (ds_set (sd_dk (hu_of hr)) (de_fld T.w_Actor T.l_Actor T.na_Actor_table (de_var)) (de_ix ((de_gS T.v_LARGE)) (de_var)) (de_var)))))))))
theorem ok_moved (T : Tx K mg) : FnG P w K mg base 3 T.a_moved T.fd_moved ["machine", "word", "string"] (spD ⟨K, w⟩ T.cls none 3 f_moved) :=
  fn_D none T.F_moved sc_moved (by decide) fun cdv A outer s H E hr gd Y hc =>
    ds_one (ds_ret (de_self T.w_Actor T.l_Actor T.me_Actor_moved (ok_Actor_moved T) (hr.mono (by decide)) gd T.b_Actor_moved (takes_of rfl rfl rfl rfl) hc (de_pk (de_make T.w_Actor T.mk_Actor (ok_Actor___init__ T) (hr.mono (by decide)) gd (by rfl) T.g_Actor T.b_Actor___init__ (takes_of rfl rfl rfl rfl) hc (da_cons (de_esc (de_var)) (da_nil)))) (da_cons (de_esc (de_var)) (da_cons (de_esc (de_var)) (da_nil)))))
theorem ok_image_of (T : Tx K mg) : FnG P w K mg base 6 T.a_image_of T.fd_image_of ["machine", "word", "string"] (spD ⟨K, w⟩ T.cls none 3 f_image_of) :=
  fn_D none T.F_image_of sc_image_of (by decide) fun cdv A outer s H E hr gd Y hc =>
    ds_cons (ds_expr (de_call (ok_check_word T) (hr.mono (by decide)) gd (by rfl) T.m_check_word T.F_check_word.kp T.b_check_word (takes_of rfl rfl rfl rfl) hc (da_cons (de_esc (de_var)) (da_cons (de_esc (de_var)) (da_nil)))))
    (ds_cons (ds_expr (de_call (ok_check_string_sections T) (hr.mono (by decide)) gd (by rfl) T.m_check_string_sections T.F_check_string_sections.kp T.b_check_string_sections (takes_of rfl rfl rfl rfl) hc (da_cons (de_esc (de_var)) (da_cons (de_esc (de_var)) (da_nil)))))
    (ds_one (ds_ret (de_ix (de_call (ok_moved T) (hr.mono (by decide)) gd (by rfl) T.m_moved T.F_moved.kp T.b_moved (takes_of rfl rfl rfl rfl) hc (da_cons (de_esc (de_var)) (da_cons (de_esc (de_var)) (da_cons (de_esc (de_var)) (da_nil))))) (de_int)))))
theorem ok_section_of (T : Tx K mg) : FnG P w K mg base 6 T.a_section_of T.fd_section_of ["machine", "word", "string"] (spD ⟨K, w⟩ T.cls none 3 f_section_of) :=
  fn_D none T.F_section_of sc_section_of (by decide) fun cdv A outer s H E hr gd Y hc =>
    ds_cons (ds_expr (de_call (ok_check_word T) (hr.mono (by decide)) gd (by rfl) T.m_check_word T.F_check_word.kp T.b_check_word (takes_of rfl rfl rfl rfl) hc (da_cons (de_esc (de_var)) (da_cons (de_esc (de_var)) (da_nil)))))
    (ds_cons (ds_expr (de_call (ok_check_string_sections T) (hr.mono (by decide)) gd (by rfl) T.m_check_string_sections T.F_check_string_sections.kp T.b_check_string_sections (takes_of rfl rfl rfl rfl) hc (da_cons (de_esc (de_var)) (da_cons (de_esc (de_var)) (da_nil)))))
    (ds_one (ds_ret (de_ix (de_call (ok_moved T) (hr.mono (by decide)) gd (by rfl) T.m_moved T.F_moved.kp T.b_moved (takes_of rfl rfl rfl rfl) hc (da_cons (de_esc (de_var)) (da_cons (de_esc (de_var)) (da_cons (de_esc (de_var)) (da_nil))))) (de_int)))))
theorem ok_other (T : Tx K mg) : FnG P w K mg base 1 T.a_other T.fd_other ["letter"] (spD ⟨K, w⟩ T.cls none 1 f_other) :=
  fn_D none T.F_other sc_other (by decide) fun cdv A outer s H E hr gd Y hc =>
    ds_cons (ds_if (dt_cmp od_inT (de_var) ((de_gS T.v_SMALL)) (by with_unfolding_all rfl)) (ds_one (ds_ret (de_ix ((de_gS T.v_LARGE)) (de_meth (by decide) PySem.F.plainAttrs_str PySem.F.slot_str_index PySem.F.type_str_index md_index ((de_gS T.v_SMALL)) (da_cons (de_pk (de_var)) (da_nil)))))) (ds_nil))
    (ds_one (ds_ret (de_ix ((de_gS T.v_SMALL)) (de_meth (by decide) PySem.F.plainAttrs_str PySem.F.slot_str_index PySem.F.type_str_index md_index ((de_gS T.v_LARGE)) (da_cons (de_pk (de_var)) (da_nil))))))
theorem ok_undone (T : Tx K mg) : FnG P w K mg base 2 T.a_undone T.fd_undone ["word"] (spD ⟨K, w⟩ T.cls none 1 f_undone) :=
  fn_D none T.F_undone sc_undone (by decide) fun cdv A outer s H E hr gd Y hc =>
    ds_one (ds_ret (de_meth (by decide) PySem.F.plainAttrs_str PySem.F.slot_str_join PySem.F.type_str_join md_join (de_str) (da_cons (de_pk (de_lc [("letter", 1)] rfl sc_undone.nd (blkOk_by (N := N_undone) (sc := defScope s_undone) (by decide +kernel)) (di_seq (de_revG (de_var))) (fun Z1 hZ1 s H C cl fp => dg_name sc_undone.nd) (fun Z1 hZ1 s H C cl fp => dts_nil) (fun Z1 hZ1 s H C cl fp => de_call (ok_other T) (hr.mono (by decide)) gd (by rfl) T.m_other T.F_other.kp T.b_other takes0 (hZ1.trans hc) (da_cons (de_esc (de_var)) (da_nil))))) (da_nil))))
theorem ok_undone_word (T : Tx K mg) : FnG P w K mg base 6 T.a_undone_word T.fd_undone_word ["machine", "word"] (spD ⟨K, w⟩ T.cls none 2 f_undone_word) :=
  fn_D none T.F_undone_word sc_undone_word (by decide) fun cdv A outer s H E hr gd Y hc =>
    ds_cons (ds_expr (de_call (ok_check_word T) (hr.mono (by decide)) gd (by rfl) T.m_check_word T.F_check_word.kp T.b_check_word (takes_of rfl rfl rfl rfl) hc (da_cons (de_esc (de_var)) (da_cons (de_esc (de_var)) (da_nil)))))
    (ds_one (ds_ret (de_call (ok_undone T) (hr.mono (by decide)) gd (by rfl) T.m_undone T.F_undone.kp T.b_undone (takes_of rfl rfl rfl rfl) hc (da_cons (de_esc (de_var)) (da_nil)))))
theorem ok_cut (T : Tx K mg) : FnG P w K mg base 2 T.a_cut T.fd_cut ["word"] (spD ⟨K, w⟩ T.cls none 1 f_cut) :=
  fn_D none T.F_cut sc_cut (by decide) fun cdv A outer s H E hr gd Y hc =>
    ds_cons (ds_asg (de_lst (da_nil)) (dg_name sc_cut.nd))
    (ds_cons (ds_for (passes_of rfl) rfl (di_seq (de_var)) (dg_name sc_cut.nd) (ds_one (ds_if (dt_w (dw_and (dt_truth (de_var)) (dw_and1 (dt_cmp (od_eq hr.units) (de_ix (de_var) (de_neg (de_int))) (de_call (ok_other T) (hr.mono (by decide)) gd (by rfl) T.m_other T.F_other.kp T.b_other (takes_of rfl rfl rfl rfl) hc (da_cons (de_esc (de_var)) (da_nil))) (nomark _))))) (ds_one (ds_expr (de_mut0 (by decide) PySem.F.plainAttrs_list PySem.F.slot_list_pop PySem.F.type_list_pop ud_pop (de_var)))) (ds_one (ds_expr (de_mut (by decide) PySem.F.plainAttrs_list PySem.F.slot_list_append PySem.F.type_list_append ud_append (de_var) (da_cons (de_esc (de_var)) (da_nil))))))))
    (ds_one (ds_ret (de_meth (by decide) PySem.F.plainAttrs_str PySem.F.slot_str_join PySem.F.type_str_join md_join (de_str) (da_cons (de_pk (de_var)) (da_nil))))))
theorem ok_cut_word (T : Tx K mg) : FnG P w K mg base 6 T.a_cut_word T.fd_cut_word ["machine", "word"] (spD ⟨K, w⟩ T.cls none 2 f_cut_word) :=
  fn_D none T.F_cut_word sc_cut_word (by decide) fun cdv A outer s H E hr gd Y hc =>
    ds_cons (ds_expr (de_call (ok_check_word T) (hr.mono (by decide)) gd (by rfl) T.m_check_word T.F_check_word.kp T.b_check_word (takes_of rfl rfl rfl rfl) hc (da_cons (de_esc (de_var)) (da_cons (de_esc (de_var)) (da_nil)))))
    (ds_one (ds_ret (de_call (ok_cut T) (hr.mono (by decide)) gd (by rfl) T.m_cut T.F_cut.kp T.b_cut (takes_of rfl rfl rfl rfl) hc (da_cons (de_esc (de_var)) (da_nil)))))
theorem ok_q_read (T : Tx K mg) : FnG P w K mg base 1 T.a_q_read T.fd_q_read ["_law_machine_here", "_law_letter", "_law_digit"] (spD ⟨K, w⟩ T.cls none 3 f_q_read) :=
  fn_D none T.F_q_read sc_q_read (by decide) fun cdv A outer s H E hr gd Y hc =>
    ds_cons (ds_asg (de_meth (by decide) PySem.F.plainAttrs_str PySem.F.slot_str_find PySem.F.type_str_find md_find (de_str) (da_cons (de_pk (de_var)) (da_nil))) (dg_name sc_q_read.nd))
    (ds_cons (ds_if (dt_cmp od_ge (de_var) (de_int) (nomark _)) (ds_cons (ds_asg (de_ix (de_ix (de_ix (de_var) (de_int)) (de_var)) (de_var)) (dg_un rfl (dgs_cons (dg_name sc_q_read.nd) (dgs_cons (dg_name sc_q_read.nd) (dgs_nil)))))
    (ds_one (ds_ret (de_pk (de_lst (da_cons (de_esc (de_var)) (da_cons (de_esc (de_ix (de_str) (de_var))) (da_nil)))))))) (ds_nil))
    (ds_cons (ds_asg (de_ix (de_ix (de_var) (de_int)) (de_meth (by decide) PySem.F.plainAttrs_str PySem.F.slot_str_index PySem.F.type_str_index md_index (de_str) (da_cons (de_pk (de_var)) (da_nil)))) (dg_name sc_q_read.nd))
    (ds_cons (ds_for (passes_of rfl) rfl (di_rng1 (by rfl) T.n_range (da_cons (de_esc (de_callB cd_len (by rfl) T.n_len PySem.boot_len (da_cons (de_pk (de_var)) (da_nil)))) (da_nil))) (dg_name sc_q_read.nd) (ds_one (ds_if (dt_cmp (od_eq hr.units) (de_ix (de_ix (de_var) (de_var)) (de_int)) (de_var) (nomark _)) (ds_one (ds_ret (de_pk (de_lst (da_cons (de_esc (de_var)) (da_cons (de_esc (de_ix (de_str) (de_ix (de_ix (de_var) (de_var)) (de_int)))) (da_nil))))))) (ds_nil))))
    (ds_one (ds_ret (de_non))))))
theorem ok_q_step (T : Tx K mg) : FnG P w K mg base 2 T.a_q_step T.fd_q_step ["_law_machine_here", "_law_word_here", "_law_digit"] (spD ⟨K, w⟩ T.cls none 3 f_q_step) :=
  fn_D none T.F_q_step sc_q_step (by decide) fun cdv A outer s H E hr gd Y hc =>
    ds_cons (ds_asg (de_str) (dg_name sc_q_step.nd))
    (ds_cons (ds_for (passes_of rfl) rfl (di_seq (de_var)) (dg_name sc_q_step.nd) (ds_cons (ds_asg (de_call (ok_q_read T) (hr.mono (by decide)) gd (by rfl) T.m_q_read T.F_q_read.kp T.b_q_read (takes_of rfl rfl rfl rfl) hc (da_cons (de_esc (de_var)) (da_cons (de_esc (de_var)) (da_cons (de_esc (de_var)) (da_nil))))) (dg_un rfl (dgs_cons (dg_name sc_q_step.nd) (dgs_cons (dg_name sc_q_step.nd) (dgs_nil)))))
    (ds_one (ds_asg (de_bin od_add (de_var) (de_var)) (dg_name sc_q_step.nd)))))
    (ds_one (ds_ret (de_pk (de_lst (da_cons (de_esc (de_var)) (da_cons (de_esc (de_var)) (da_nil))))))))
theorem ok_q_moved (T : Tx K mg) : FnG P w K mg base 3 T.a_q_moved T.fd_q_moved ["_law_machine_here", "_law_word_here", "_law_string_here"] (spD ⟨K, w⟩ T.cls none 3 f_q_moved) :=
  fn_D none T.F_q_moved sc_q_moved (by decide) fun cdv A outer s H E hr gd Y hc =>
    ds_cons (ds_asg (de_str) (dg_name sc_q_moved.nd))
    (ds_cons (ds_for (passes_of rfl) rfl (di_seq (de_var)) (dg_name sc_q_moved.nd) (ds_cons (ds_asg (de_call (ok_q_step T) (hr.mono (by decide)) gd (by rfl) T.m_q_step T.F_q_step.kp T.b_q_step (takes_of rfl rfl rfl rfl) hc (da_cons (de_esc (de_var)) (da_cons (de_esc (de_var)) (da_cons (de_esc (de_callTy cd_int (by rfl) T.n_int PyProof.Rows.boot_int (da_cons (de_pk (de_var)) (da_nil)))) (da_nil))))) (dg_un rfl (dgs_cons (dg_name sc_q_moved.nd) (dgs_cons (dg_name sc_q_moved.nd) (dgs_nil)))))
    (ds_one (ds_asg (de_bin od_add (de_var) (de_callTy cd_str (by rfl) T.n_str PyProof.Rows.boot_str (da_cons (de_pk (de_var)) (da_nil)))) (dg_name sc_q_moved.nd)))))
    (ds_one (ds_ret (de_pk (de_lst (da_cons (de_esc (de_var)) (da_cons (de_esc (de_var)) (da_nil))))))))
theorem ok_law (T : Tx K mg) : FnG P w K mg base 7 T.a_law T.fd_law ["_law_script"] (spD ⟨K, w⟩ T.cls none 1 f_law) :=
  fn_D none T.F_law sc_law (by decide) fun cdv A outer s H E hr gd Y hc =>
    ds_cons (ds_asg (de_call (ok_q_draws T) (hr.mono (by decide)) gd (by rfl) T.m_q_draws T.F_q_draws.kp T.b_q_draws (takes_of rfl rfl rfl rfl) hc (da_cons (de_esc (de_var)) (da_nil))) (dg_name sc_law.nd))
    (ds_cons (ds_expr (de_mut0 (by decide) PySem.F.plainAttrs_list PySem.F.slot_list_reverse PySem.F.type_list_reverse ud_reverse (de_var)))
    (ds_cons (ds_asg (de_call (ok_q_machine T) (hr.mono (by decide)) gd (by rfl) T.m_q_machine T.F_q_machine.kp T.b_q_machine (takes_of rfl rfl rfl rfl) hc (da_cons (de_var) (da_cons (de_esc (de_int)) (da_nil)))) (dg_name sc_law.nd))
    (ds_cons (ds_asg (de_call (ok_q_word T) (hr.mono (by decide)) gd (by rfl) T.m_q_word T.F_q_word.kp T.b_q_word (takes_of rfl rfl rfl rfl) hc (da_cons (de_var) (da_cons (de_esc (de_var)) (da_cons (de_esc (de_int)) (da_nil))))) (dg_name sc_law.nd))
    (ds_cons (ds_asg (de_call (ok_q_word T) (hr.mono (by decide)) gd (by rfl) T.m_q_word T.F_q_word.kp T.b_q_word (takes_of rfl rfl rfl rfl) hc (da_cons (de_var) (da_cons (de_esc (de_var)) (da_cons (de_esc (de_int)) (da_nil))))) (dg_name sc_law.nd))
    (ds_cons (ds_asg (de_call (ok_q_string T) (hr.mono (by decide)) gd (by rfl) T.m_q_string T.F_q_string.kp T.b_q_string (takes_of rfl rfl rfl rfl) hc (da_cons (de_var) (da_cons (de_esc (de_var)) (da_cons (de_esc (de_int)) (da_nil))))) (dg_name sc_law.nd))
    (ds_cons (ds_asg (de_call (ok_q_string T) (hr.mono (by decide)) gd (by rfl) T.m_q_string T.F_q_string.kp T.b_q_string (takes_of rfl rfl rfl rfl) hc (da_cons (de_var) (da_cons (de_esc (de_var)) (da_cons (de_esc (de_int)) (da_nil))))) (dg_name sc_law.nd))
    (ds_cons (ds_asg (de_call (ok_image_of T) (hr.mono (by decide)) gd (by rfl) T.m_image_of T.F_image_of.kp T.b_image_of (takes_of rfl rfl rfl rfl) hc (da_cons (de_esc (de_var)) (da_cons (de_esc (de_var)) (da_cons (de_esc (de_var)) (da_nil))))) (dg_name sc_law.nd))
    (ds_cons (ds_asg (de_call (ok_section_of T) (hr.mono (by decide)) gd (by rfl) T.m_section_of T.F_section_of.kp T.b_section_of (takes_of rfl rfl rfl rfl) hc (da_cons (de_esc (de_var)) (da_cons (de_esc (de_var)) (da_cons (de_esc (de_var)) (da_nil))))) (dg_name sc_law.nd))
    (ds_cons (ds_if (dt_cmp (od_ne hr.units) (de_call (ok_image_of T) (hr.mono (by decide)) gd (by rfl) T.m_image_of T.F_image_of.kp T.b_image_of (takes_of rfl rfl rfl rfl) hc (da_cons (de_esc (de_var)) (da_cons (de_esc (de_var)) (da_cons (de_esc (de_bin od_add (de_var) (de_var))) (da_nil))))) (de_bin od_add (de_var) (de_call (ok_image_of T) (hr.mono (by decide)) gd (by rfl) T.m_image_of T.F_image_of.kp T.b_image_of (takes_of rfl rfl rfl rfl) hc (da_cons (de_esc (de_var)) (da_cons (de_esc (de_var)) (da_cons (de_esc (de_var)) (da_nil)))))) (nomark _)) (ds_one (ds_ret (de_bl))) (ds_nil))
    (ds_cons (ds_if (dt_cmp (od_ne hr.units) (de_call (ok_section_of T) (hr.mono (by decide)) gd (by rfl) T.m_section_of T.F_section_of.kp T.b_section_of (takes_of rfl rfl rfl rfl) hc (da_cons (de_esc (de_var)) (da_cons (de_esc (de_var)) (da_cons (de_esc (de_bin od_add (de_var) (de_var))) (da_nil))))) (de_call (ok_section_of T) (hr.mono (by decide)) gd (by rfl) T.m_section_of T.F_section_of.kp T.b_section_of (takes_of rfl rfl rfl rfl) hc (da_cons (de_esc (de_var)) (da_cons (de_esc (de_var)) (da_cons (de_esc (de_var)) (da_nil))))) (nomark _)) (ds_one (ds_ret (de_bl))) (ds_nil))
    (ds_cons (ds_if (dt_cmp (od_ne hr.units) (de_call (ok_image_of T) (hr.mono (by decide)) gd (by rfl) T.m_image_of T.F_image_of.kp T.b_image_of (takes_of rfl rfl rfl rfl) hc (da_cons (de_esc (de_var)) (da_cons (de_esc (de_bin od_add (de_var) (de_var))) (da_cons (de_esc (de_var)) (da_nil))))) (de_call (ok_image_of T) (hr.mono (by decide)) gd (by rfl) T.m_image_of T.F_image_of.kp T.b_image_of (takes_of rfl rfl rfl rfl) hc (da_cons (de_esc (de_var)) (da_cons (de_esc (de_var)) (da_cons (de_esc (de_var)) (da_nil))))) (nomark _)) (ds_one (ds_ret (de_bl))) (ds_nil))
    (ds_cons (ds_if (dt_cmp (od_ne hr.units) (de_call (ok_section_of T) (hr.mono (by decide)) gd (by rfl) T.m_section_of T.F_section_of.kp T.b_section_of (takes_of rfl rfl rfl rfl) hc (da_cons (de_esc (de_var)) (da_cons (de_esc (de_bin od_add (de_var) (de_var))) (da_cons (de_esc (de_var)) (da_nil))))) (de_bin od_add (de_var) (de_call (ok_section_of T) (hr.mono (by decide)) gd (by rfl) T.m_section_of T.F_section_of.kp T.b_section_of (takes_of rfl rfl rfl rfl) hc (da_cons (de_esc (de_var)) (da_cons (de_esc (de_var)) (da_cons (de_esc (de_var)) (da_nil)))))) (nomark _)) (ds_one (ds_ret (de_bl))) (ds_nil))
    (ds_cons (ds_asg (de_call (ok_undone_word T) (hr.mono (by decide)) gd (by rfl) T.m_undone_word T.F_undone_word.kp T.b_undone_word (takes_of rfl rfl rfl rfl) hc (da_cons (de_esc (de_var)) (da_cons (de_esc (de_var)) (da_nil)))) (dg_name sc_law.nd))
    (ds_cons (ds_if (dt_w (dw_or (dt_cmp (od_ne hr.units) (de_call (ok_image_of T) (hr.mono (by decide)) gd (by rfl) T.m_image_of T.F_image_of.kp T.b_image_of (takes_of rfl rfl rfl rfl) hc (da_cons (de_esc (de_var)) (da_cons (de_esc (de_var)) (da_cons (de_esc (de_var)) (da_nil))))) (de_var) (nomark _)) (dw_or1 (dt_cmp (od_ne hr.units) (de_call (ok_section_of T) (hr.mono (by decide)) gd (by rfl) T.m_section_of T.F_section_of.kp T.b_section_of (takes_of rfl rfl rfl rfl) hc (da_cons (de_esc (de_var)) (da_cons (de_esc (de_var)) (da_cons (de_esc (de_var)) (da_nil))))) (de_call (ok_undone_word T) (hr.mono (by decide)) gd (by rfl) T.m_undone_word T.F_undone_word.kp T.b_undone_word (takes_of rfl rfl rfl rfl) hc (da_cons (de_esc (de_var)) (da_cons (de_esc (de_var)) (da_nil)))) (nomark _))))) (ds_one (ds_ret (de_bl))) (ds_nil))
    (ds_cons (ds_if (dt_cmp (od_ne hr.units) (de_call (ok_image_of T) (hr.mono (by decide)) gd (by rfl) T.m_image_of T.F_image_of.kp T.b_image_of (takes_of rfl rfl rfl rfl) hc (da_cons (de_esc (de_var)) (da_cons (de_esc (de_call (ok_cut_word T) (hr.mono (by decide)) gd (by rfl) T.m_cut_word T.F_cut_word.kp T.b_cut_word (takes_of rfl rfl rfl rfl) hc (da_cons (de_esc (de_var)) (da_cons (de_esc (de_bin od_add (de_var) (de_var))) (da_nil))))) (da_cons (de_esc (de_var)) (da_nil))))) (de_call (ok_image_of T) (hr.mono (by decide)) gd (by rfl) T.m_image_of T.F_image_of.kp T.b_image_of (takes_of rfl rfl rfl rfl) hc (da_cons (de_esc (de_var)) (da_cons (de_esc (de_bin od_add (de_var) (de_var))) (da_cons (de_esc (de_var)) (da_nil))))) (nomark _)) (ds_one (ds_ret (de_bl))) (ds_nil))
    (ds_cons (ds_asg (de_call (ok_section_of T) (hr.mono (by decide)) gd (by rfl) T.m_section_of T.F_section_of.kp T.b_section_of (takes_of rfl rfl rfl rfl) hc (da_cons (de_esc (de_var)) (da_cons (de_esc (de_call (ok_cut_word T) (hr.mono (by decide)) gd (by rfl) T.m_cut_word T.F_cut_word.kp T.b_cut_word (takes_of rfl rfl rfl rfl) hc (da_cons (de_esc (de_var)) (da_cons (de_esc (de_var)) (da_nil))))) (da_cons (de_esc (de_var)) (da_nil))))) (dg_name sc_law.nd))
    (ds_cons (ds_if (dt_w (dw_or (dt_cmp (od_ne hr.units) (de_call (ok_cut_word T) (hr.mono (by decide)) gd (by rfl) T.m_cut_word T.F_cut_word.kp T.b_cut_word (takes_of rfl rfl rfl rfl) hc (da_cons (de_esc (de_var)) (da_cons (de_esc (de_var)) (da_nil)))) (de_call (ok_cut_word T) (hr.mono (by decide)) gd (by rfl) T.m_cut_word T.F_cut_word.kp T.b_cut_word (takes_of rfl rfl rfl rfl) hc (da_cons (de_esc (de_var)) (da_cons (de_esc (de_var)) (da_nil)))) (nomark _)) (dw_or1 (dt_cmp (od_ne hr.units) (de_call (ok_section_of T) (hr.mono (by decide)) gd (by rfl) T.m_section_of T.F_section_of.kp T.b_section_of (takes_of rfl rfl rfl rfl) hc (da_cons (de_esc (de_var)) (da_cons (de_esc (de_var)) (da_cons (de_esc (de_str)) (da_nil))))) (de_var) (nomark _))))) (ds_one (ds_ret (de_bl))) (ds_nil))
    (ds_one (ds_ret (de_and (de_cmp (od_eq hr.units) (de_callB cd_len (by rfl) T.n_len PySem.boot_len (da_cons (de_pk (de_var)) (da_nil))) (de_callB cd_len (by rfl) T.n_len PySem.boot_len (da_cons (de_pk (de_var)) (da_nil))) (nomark _)) (de_one (de_cmp (od_eq hr.units) (de_lst (da_cons (de_esc (de_var)) (da_cons (de_esc (de_var)) (da_nil)))) (de_call (ok_q_moved T) (hr.mono (by decide)) gd (by rfl) T.m_q_moved T.F_q_moved.kp T.b_q_moved (takes_of rfl rfl rfl rfl) hc (da_cons (de_esc (de_var)) (da_cons (de_esc (de_var)) (da_cons (de_esc (de_var)) (da_nil))))) (nomark _)))))))))))))))))))))))
end
end Law

namespace Law
open DL PySem PySem.Spec L2
/-! the facts of the top -/
set_option maxHeartbeats 0 in
theorem all_mk {P : Program} {w : World} {K : PySem.W.Frag} {h : Heap} {mg : Str → Option Value} {fa : Addr} (X : K.In h) (G : h.Ns mainGlobals mg) (hfa : mg "law" = some (.ref fa))
    {C_Actor : Addr}
    {f0 : Addr} {od0 an0 : Option Addr} {sl0 : Array (Option Value)} {oc0 kV0 dc0 pm0 cd0 ct0 : Value}
    {f1 : Addr} {od1 an1 : Option Addr} {sl1 : Array (Option Value)} {oc1 kV1 dc1 pm1 cd1 ct1 : Value}
    {f2 : Addr} {od2 an2 : Option Addr} {sl2 : Array (Option Value)} {oc2 kV2 dc2 pm2 cd2 ct2 : Value}
    {f3 : Addr} {od3 an3 : Option Addr} {sl3 : Array (Option Value)} {oc3 kV3 dc3 pm3 cd3 ct3 : Value}
    {f4 : Addr} {od4 an4 : Option Addr} {sl4 : Array (Option Value)} {oc4 kV4 dc4 pm4 cd4 ct4 : Value}
    {f5 : Addr} {od5 an5 : Option Addr} {sl5 : Array (Option Value)} {oc5 kV5 dc5 pm5 cd5 ct5 : Value}
    {f6 : Addr} {od6 an6 : Option Addr} {sl6 : Array (Option Value)} {oc6 kV6 dc6 pm6 cd6 ct6 : Value}
    {f7 : Addr} {od7 an7 : Option Addr} {sl7 : Array (Option Value)} {oc7 kV7 dc7 pm7 cd7 ct7 : Value}
    {f8 : Addr} {od8 an8 : Option Addr} {sl8 : Array (Option Value)} {oc8 kV8 dc8 pm8 cd8 ct8 : Value}
    {f9 : Addr} {od9 an9 : Option Addr} {sl9 : Array (Option Value)} {oc9 kV9 dc9 pm9 cd9 ct9 : Value}
    {f10 : Addr} {od10 an10 : Option Addr} {sl10 : Array (Option Value)} {oc10 kV10 dc10 pm10 cd10 ct10 : Value}
    {f11 : Addr} {od11 an11 : Option Addr} {sl11 : Array (Option Value)} {oc11 kV11 dc11 pm11 cd11 ct11 : Value}
    {f12 : Addr} {od12 an12 : Option Addr} {sl12 : Array (Option Value)} {oc12 kV12 dc12 pm12 cd12 ct12 : Value}
    {f13 : Addr} {od13 an13 : Option Addr} {sl13 : Array (Option Value)} {oc13 kV13 dc13 pm13 cd13 ct13 : Value}
    {f14 : Addr} {od14 an14 : Option Addr} {sl14 : Array (Option Value)} {oc14 kV14 dc14 pm14 cd14 ct14 : Value}
    {f15 : Addr} {od15 an15 : Option Addr} {sl15 : Array (Option Value)} {oc15 kV15 dc15 pm15 cd15 ct15 : Value}
    {f16 : Addr} {od16 an16 : Option Addr} {sl16 : Array (Option Value)} {oc16 kV16 dc16 pm16 cd16 ct16 : Value}
    {f17 : Addr} {od17 an17 : Option Addr} {sl17 : Array (Option Value)} {oc17 kV17 dc17 pm17 cd17 ct17 : Value}
    {f18 : Addr} {od18 an18 : Option Addr} {sl18 : Array (Option Value)} {oc18 kV18 dc18 pm18 cd18 ct18 : Value}
    {f19 : Addr} {od19 an19 : Option Addr} {sl19 : Array (Option Value)} {oc19 kV19 dc19 pm19 cd19 ct19 : Value}
    {f20 : Addr} {od20 an20 : Option Addr} {sl20 : Array (Option Value)} {oc20 kV20 dc20 pm20 cd20 ct20 : Value}
    {f21 : Addr} {od21 an21 : Option Addr} {sl21 : Array (Option Value)} {oc21 kV21 dc21 pm21 cd21 ct21 : Value}
    {f22 : Addr} {od22 an22 : Option Addr} {sl22 : Array (Option Value)} {oc22 kV22 dc22 pm22 cd22 ct22 : Value}
    {f23 : Addr} {od23 an23 : Option Addr} {sl23 : Array (Option Value)} {oc23 kV23 dc23 pm23 cd23 ct23 : Value}
    {f24 : Addr} {od24 an24 : Option Addr} {sl24 : Array (Option Value)} {oc24 kV24 dc24 pm24 cd24 ct24 : Value}
    {f25 : Addr} {od25 an25 : Option Addr} {sl25 : Array (Option Value)} {oc25 kV25 dc25 pm25 cd25 ct25 : Value}
    {f26 : Addr} {od26 an26 : Option Addr} {sl26 : Array (Option Value)} {oc26 kV26 dc26 pm26 cd26 ct26 : Value}
    {f27 : Addr} {od27 an27 : Option Addr} {sl27 : Array (Option Value)} {oc27 kV27 dc27 pm27 cd27 ct27 : Value}
    {f28 : Addr} {od28 an28 : Option Addr} {sl28 : Array (Option Value)} {oc28 kV28 dc28 pm28 cd28 ct28 : Value}
    {f29 : Addr} {od29 an29 : Option Addr} {sl29 : Array (Option Value)} {oc29 kV29 dc29 pm29 cd29 ct29 : Value}
    {f30 : Addr} {od30 an30 : Option Addr} {sl30 : Array (Option Value)} {oc30 kV30 dc30 pm30 cd30 ct30 : Value}
    {f31 : Addr} {od31 an31 : Option Addr} {sl31 : Array (Option Value)} {oc31 kV31 dc31 pm31 cd31 ct31 : Value}
    {f32 : Addr} {od32 an32 : Option Addr} {sl32 : Array (Option Value)} {oc32 kV32 dc32 pm32 cd32 ct32 : Value}
    {C_NotMachine : Addr}
    {C_NotString : Addr}
    {C_NotWord : Addr}
    {tok_DIGITS : Tok}
    {tok_LARGE : Tok}
    {tok_LEAST_DIGITS : Tok}
    {tok_LONGEST : Tok}
    {tok_MOST_DIGITS : Tok}
    {tok_MOST_LENGTH : Tok}
    {tok_MOST_STATES : Tok}
    {tok_MOST_WIDE : Tok}
    {tok_ORDER : Tok}
    {tok_SMALL : Tok}
    (g_Actor : PySem.W.nsIn K mainGlobals "Actor" = some (some (.ref C_Actor)))
    (pg_Actor : PySem.W.plainGet K C_Actor Str.empty = true)
    (hd_Actor : PySem.W.hasDictIn K C_Actor = true)
    (po_Actor : PySem.W.plainOver K C_Actor = true)
    (sa_Actor : PySem.W.findIn K (.ref C_Actor) "__setattr__" = some (some (.builtin "object.__setattr__")))
    (mk_Actor : PySem.W.makesIn K C_Actor = true)
    (kc_Actor : PySem.W.keepIn K (.ref C_Actor) = true)
    (na_Actor_size : PySem.W.findIn K (.ref C_Actor) "size" = some none)
    (na_Actor_table : PySem.W.findIn K (.ref C_Actor) "table" = some none)
    (a0 : PySem.W.nsIn K mainGlobals "_law_number" = some (some (.ref f0)))
    (l0 : K.lookup f0 = some ⟨oc0, od0, .func (PySem.W.fnOf "_law_number" "_law_number" (defArgs s_q_number) (defBody s_q_number) (defScope s_q_number) .none kV0 dc0 pm0 an0 cd0 ct0), sl0⟩)
    (c0 : PySem.W.codeIn K cd0 "_law_number" = true)
    (k0 : PySem.W.keepIn K (.ref f0) = true)
    (a1 : PySem.W.nsIn K mainGlobals "_law_draws" = some (some (.ref f1)))
    (l1 : K.lookup f1 = some ⟨oc1, od1, .func (PySem.W.fnOf "_law_draws" "_law_draws" (defArgs s_q_draws) (defBody s_q_draws) (defScope s_q_draws) .none kV1 dc1 pm1 an1 cd1 ct1), sl1⟩)
    (c1 : PySem.W.codeIn K cd1 "_law_draws" = true)
    (k1 : PySem.W.keepIn K (.ref f1) = true)
    (a2 : PySem.W.nsIn K mainGlobals "_law_next" = some (some (.ref f2)))
    (l2 : K.lookup f2 = some ⟨oc2, od2, .func (PySem.W.fnOf "_law_next" "_law_next" (defArgs s_q_next) (defBody s_q_next) (defScope s_q_next) .none kV2 dc2 pm2 an2 cd2 ct2), sl2⟩)
    (c2 : PySem.W.codeIn K cd2 "_law_next" = true)
    (k2 : PySem.W.keepIn K (.ref f2) = true)
    (a3 : PySem.W.nsIn K mainGlobals "_law_arranged" = some (some (.ref f3)))
    (l3 : K.lookup f3 = some ⟨oc3, od3, .func (PySem.W.fnOf "_law_arranged" "_law_arranged" (defArgs s_q_arranged) (defBody s_q_arranged) (defScope s_q_arranged) .none kV3 dc3 pm3 an3 cd3 ct3), sl3⟩)
    (c3 : PySem.W.codeIn K cd3 "_law_arranged" = true)
    (k3 : PySem.W.keepIn K (.ref f3) = true)
    (a4 : PySem.W.nsIn K mainGlobals "_law_machine" = some (some (.ref f4)))
    (l4 : K.lookup f4 = some ⟨oc4, od4, .func (PySem.W.fnOf "_law_machine" "_law_machine" (defArgs s_q_machine) (defBody s_q_machine) (defScope s_q_machine) .none kV4 dc4 pm4 an4 cd4 ct4), sl4⟩)
    (c4 : PySem.W.codeIn K cd4 "_law_machine" = true)
    (k4 : PySem.W.keepIn K (.ref f4) = true)
    (a5 : PySem.W.nsIn K mainGlobals "_law_word" = some (some (.ref f5)))
    (l5 : K.lookup f5 = some ⟨oc5, od5, .func (PySem.W.fnOf "_law_word" "_law_word" (defArgs s_q_word) (defBody s_q_word) (defScope s_q_word) .none kV5 dc5 pm5 an5 cd5 ct5), sl5⟩)
    (c5 : PySem.W.codeIn K cd5 "_law_word" = true)
    (k5 : PySem.W.keepIn K (.ref f5) = true)
    (a6 : PySem.W.nsIn K mainGlobals "_law_string" = some (some (.ref f6)))
    (l6 : K.lookup f6 = some ⟨oc6, od6, .func (PySem.W.fnOf "_law_string" "_law_string" (defArgs s_q_string) (defBody s_q_string) (defScope s_q_string) .none kV6 dc6 pm6 an6 cd6 ct6), sl6⟩)
    (c6 : PySem.W.codeIn K cd6 "_law_string" = true)
    (k6 : PySem.W.keepIn K (.ref f6) = true)
    (a7 : PySem.W.nsIn K mainGlobals "_is_row" = some (some (.ref f7)))
    (l7 : K.lookup f7 = some ⟨oc7, od7, .func (PySem.W.fnOf "_is_row" "_is_row" (defArgs s__is_row) (defBody s__is_row) (defScope s__is_row) .none kV7 dc7 pm7 an7 cd7 ct7), sl7⟩)
    (c7 : PySem.W.codeIn K cd7 "_is_row" = true)
    (k7 : PySem.W.keepIn K (.ref f7) = true)
    (a8 : PySem.W.nsIn K mainGlobals "is_wide" = some (some (.ref f8)))
    (l8 : K.lookup f8 = some ⟨oc8, od8, .func (PySem.W.fnOf "is_wide" "is_wide" (defArgs s_is_wide) (defBody s_is_wide) (defScope s_is_wide) .none kV8 dc8 pm8 an8 cd8 ct8), sl8⟩)
    (c8 : PySem.W.codeIn K cd8 "is_wide" = true)
    (k8 : PySem.W.keepIn K (.ref f8) = true)
    (a9 : PySem.W.nsIn K mainGlobals "is_machine" = some (some (.ref f9)))
    (l9 : K.lookup f9 = some ⟨oc9, od9, .func (PySem.W.fnOf "is_machine" "is_machine" (defArgs s_is_machine) (defBody s_is_machine) (defScope s_is_machine) .none kV9 dc9 pm9 an9 cd9 ct9), sl9⟩)
    (c9 : PySem.W.codeIn K cd9 "is_machine" = true)
    (k9 : PySem.W.keepIn K (.ref f9) = true)
    (a10 : PySem.W.nsIn K mainGlobals "check_machine" = some (some (.ref f10)))
    (l10 : K.lookup f10 = some ⟨oc10, od10, .func (PySem.W.fnOf "check_machine" "check_machine" (defArgs s_check_machine) (defBody s_check_machine) (defScope s_check_machine) .none kV10 dc10 pm10 an10 cd10 ct10), sl10⟩)
    (c10 : PySem.W.codeIn K cd10 "check_machine" = true)
    (k10 : PySem.W.keepIn K (.ref f10) = true)
    (a11 : PySem.W.nsIn K mainGlobals "letters_of" = some (some (.ref f11)))
    (l11 : K.lookup f11 = some ⟨oc11, od11, .func (PySem.W.fnOf "letters_of" "letters_of" (defArgs s_letters_of) (defBody s_letters_of) (defScope s_letters_of) .none kV11 dc11 pm11 an11 cd11 ct11), sl11⟩)
    (c11 : PySem.W.codeIn K cd11 "letters_of" = true)
    (k11 : PySem.W.keepIn K (.ref f11) = true)
    (a12 : PySem.W.nsIn K mainGlobals "is_word" = some (some (.ref f12)))
    (l12 : K.lookup f12 = some ⟨oc12, od12, .func (PySem.W.fnOf "is_word" "is_word" (defArgs s_is_word) (defBody s_is_word) (defScope s_is_word) .none kV12 dc12 pm12 an12 cd12 ct12), sl12⟩)
    (c12 : PySem.W.codeIn K cd12 "is_word" = true)
    (k12 : PySem.W.keepIn K (.ref f12) = true)
    (a13 : PySem.W.nsIn K mainGlobals "refuse_word" = some (some (.ref f13)))
    (l13 : K.lookup f13 = some ⟨oc13, od13, .func (PySem.W.fnOf "refuse_word" "refuse_word" (defArgs s_refuse_word) (defBody s_refuse_word) (defScope s_refuse_word) .none kV13 dc13 pm13 an13 cd13 ct13), sl13⟩)
    (c13 : PySem.W.codeIn K cd13 "refuse_word" = true)
    (k13 : PySem.W.keepIn K (.ref f13) = true)
    (a14 : PySem.W.nsIn K mainGlobals "check_word" = some (some (.ref f14)))
    (l14 : K.lookup f14 = some ⟨oc14, od14, .func (PySem.W.fnOf "check_word" "check_word" (defArgs s_check_word) (defBody s_check_word) (defScope s_check_word) .none kV14 dc14 pm14 an14 cd14 ct14), sl14⟩)
    (c14 : PySem.W.codeIn K cd14 "check_word" = true)
    (k14 : PySem.W.keepIn K (.ref f14) = true)
    (a15 : PySem.W.nsIn K mainGlobals "has_digits" = some (some (.ref f15)))
    (l15 : K.lookup f15 = some ⟨oc15, od15, .func (PySem.W.fnOf "has_digits" "has_digits" (defArgs s_has_digits) (defBody s_has_digits) (defScope s_has_digits) .none kV15 dc15 pm15 an15 cd15 ct15), sl15⟩)
    (c15 : PySem.W.codeIn K cd15 "has_digits" = true)
    (k15 : PySem.W.keepIn K (.ref f15) = true)
    (a16 : PySem.W.nsIn K mainGlobals "check_string_machines" = some (some (.ref f16)))
    (l16 : K.lookup f16 = some ⟨oc16, od16, .func (PySem.W.fnOf "check_string" "check_string" (defArgs s_check_string_machines) (defBody s_check_string_machines) (defScope s_check_string_machines) .none kV16 dc16 pm16 an16 cd16 ct16), sl16⟩)
    (c16 : PySem.W.codeIn K cd16 "check_string" = true)
    (k16 : PySem.W.keepIn K (.ref f16) = true)
    (a17 : PySem.W.nsIn K mainGlobals "check_string_sections" = some (some (.ref f17)))
    (l17 : K.lookup f17 = some ⟨oc17, od17, .func (PySem.W.fnOf "check_string" "check_string" (defArgs s_check_string_sections) (defBody s_check_string_sections) (defScope s_check_string_sections) .none kV17 dc17 pm17 an17 cd17 ct17), sl17⟩)
    (c17 : PySem.W.codeIn K cd17 "check_string" = true)
    (k17 : PySem.W.keepIn K (.ref f17) = true)
    (a18 : PySem.W.findIn K (.ref C_Actor) "step" = some (some (.ref f18)))
    (i18 : PySem.W.isFn K (.ref f18) = true)
    (l18 : K.lookup f18 = some ⟨oc18, od18, .func (PySem.W.fnOf "step" "Actor.step" (defArgs s_Actor_step) (defBody s_Actor_step) (defScope s_Actor_step) .none kV18 dc18 pm18 an18 cd18 ct18), sl18⟩)
    (c18 : PySem.W.codeIn K cd18 "Actor.step" = true)
    (k18 : PySem.W.keepIn K (.ref f18) = true)
    (a19 : PySem.W.findIn K (.ref C_Actor) "moved" = some (some (.ref f19)))
    (i19 : PySem.W.isFn K (.ref f19) = true)
    (l19 : K.lookup f19 = some ⟨oc19, od19, .func (PySem.W.fnOf "moved" "Actor.moved" (defArgs s_Actor_moved) (defBody s_Actor_moved) (defScope s_Actor_moved) .none kV19 dc19 pm19 an19 cd19 ct19), sl19⟩)
    (c19 : PySem.W.codeIn K cd19 "Actor.moved" = true)
    (k19 : PySem.W.keepIn K (.ref f19) = true)
    (a20 : PySem.W.findIn K (.ref C_Actor) "__init__" = some (some (.ref f20)))
    (i20 : PySem.W.isFn K (.ref f20) = true)
    (l20 : K.lookup f20 = some ⟨oc20, od20, .func (PySem.W.fnOf "__init__" "Actor.__init__" (defArgs s_Actor___init__) (defBody s_Actor___init__) (defScope s_Actor___init__) .none kV20 dc20 pm20 an20 cd20 ct20), sl20⟩)
    (c20 : PySem.W.codeIn K cd20 "Actor.__init__" = true)
    (k20 : PySem.W.keepIn K (.ref f20) = true)
    (a21 : PySem.W.nsIn K mainGlobals "moved" = some (some (.ref f21)))
    (l21 : K.lookup f21 = some ⟨oc21, od21, .func (PySem.W.fnOf "moved" "moved" (defArgs s_moved) (defBody s_moved) (defScope s_moved) .none kV21 dc21 pm21 an21 cd21 ct21), sl21⟩)
    (c21 : PySem.W.codeIn K cd21 "moved" = true)
    (k21 : PySem.W.keepIn K (.ref f21) = true)
    (a22 : PySem.W.nsIn K mainGlobals "image_of" = some (some (.ref f22)))
    (l22 : K.lookup f22 = some ⟨oc22, od22, .func (PySem.W.fnOf "image_of" "image_of" (defArgs s_image_of) (defBody s_image_of) (defScope s_image_of) .none kV22 dc22 pm22 an22 cd22 ct22), sl22⟩)
    (c22 : PySem.W.codeIn K cd22 "image_of" = true)
    (k22 : PySem.W.keepIn K (.ref f22) = true)
    (a23 : PySem.W.nsIn K mainGlobals "section_of" = some (some (.ref f23)))
    (l23 : K.lookup f23 = some ⟨oc23, od23, .func (PySem.W.fnOf "section_of" "section_of" (defArgs s_section_of) (defBody s_section_of) (defScope s_section_of) .none kV23 dc23 pm23 an23 cd23 ct23), sl23⟩)
    (c23 : PySem.W.codeIn K cd23 "section_of" = true)
    (k23 : PySem.W.keepIn K (.ref f23) = true)
    (a24 : PySem.W.nsIn K mainGlobals "other" = some (some (.ref f24)))
    (l24 : K.lookup f24 = some ⟨oc24, od24, .func (PySem.W.fnOf "other" "other" (defArgs s_other) (defBody s_other) (defScope s_other) .none kV24 dc24 pm24 an24 cd24 ct24), sl24⟩)
    (c24 : PySem.W.codeIn K cd24 "other" = true)
    (k24 : PySem.W.keepIn K (.ref f24) = true)
    (a25 : PySem.W.nsIn K mainGlobals "undone" = some (some (.ref f25)))
    (l25 : K.lookup f25 = some ⟨oc25, od25, .func (PySem.W.fnOf "undone" "undone" (defArgs s_undone) (defBody s_undone) (defScope s_undone) .none kV25 dc25 pm25 an25 cd25 ct25), sl25⟩)
    (c25 : PySem.W.codeIn K cd25 "undone" = true)
    (k25 : PySem.W.keepIn K (.ref f25) = true)
    (a26 : PySem.W.nsIn K mainGlobals "undone_word" = some (some (.ref f26)))
    (l26 : K.lookup f26 = some ⟨oc26, od26, .func (PySem.W.fnOf "undone_word" "undone_word" (defArgs s_undone_word) (defBody s_undone_word) (defScope s_undone_word) .none kV26 dc26 pm26 an26 cd26 ct26), sl26⟩)
    (c26 : PySem.W.codeIn K cd26 "undone_word" = true)
    (k26 : PySem.W.keepIn K (.ref f26) = true)
    (a27 : PySem.W.nsIn K mainGlobals "cut" = some (some (.ref f27)))
    (l27 : K.lookup f27 = some ⟨oc27, od27, .func (PySem.W.fnOf "cut" "cut" (defArgs s_cut) (defBody s_cut) (defScope s_cut) .none kV27 dc27 pm27 an27 cd27 ct27), sl27⟩)
    (c27 : PySem.W.codeIn K cd27 "cut" = true)
    (k27 : PySem.W.keepIn K (.ref f27) = true)
    (a28 : PySem.W.nsIn K mainGlobals "cut_word" = some (some (.ref f28)))
    (l28 : K.lookup f28 = some ⟨oc28, od28, .func (PySem.W.fnOf "cut_word" "cut_word" (defArgs s_cut_word) (defBody s_cut_word) (defScope s_cut_word) .none kV28 dc28 pm28 an28 cd28 ct28), sl28⟩)
    (c28 : PySem.W.codeIn K cd28 "cut_word" = true)
    (k28 : PySem.W.keepIn K (.ref f28) = true)
    (a29 : PySem.W.nsIn K mainGlobals "_law_read" = some (some (.ref f29)))
    (l29 : K.lookup f29 = some ⟨oc29, od29, .func (PySem.W.fnOf "_law_read" "_law_read" (defArgs s_q_read) (defBody s_q_read) (defScope s_q_read) .none kV29 dc29 pm29 an29 cd29 ct29), sl29⟩)
    (c29 : PySem.W.codeIn K cd29 "_law_read" = true)
    (k29 : PySem.W.keepIn K (.ref f29) = true)
    (a30 : PySem.W.nsIn K mainGlobals "_law_step" = some (some (.ref f30)))
    (l30 : K.lookup f30 = some ⟨oc30, od30, .func (PySem.W.fnOf "_law_step" "_law_step" (defArgs s_q_step) (defBody s_q_step) (defScope s_q_step) .none kV30 dc30 pm30 an30 cd30 ct30), sl30⟩)
    (c30 : PySem.W.codeIn K cd30 "_law_step" = true)
    (k30 : PySem.W.keepIn K (.ref f30) = true)
    (a31 : PySem.W.nsIn K mainGlobals "_law_moved" = some (some (.ref f31)))
    (l31 : K.lookup f31 = some ⟨oc31, od31, .func (PySem.W.fnOf "_law_moved" "_law_moved" (defArgs s_q_moved) (defBody s_q_moved) (defScope s_q_moved) .none kV31 dc31 pm31 an31 cd31 ct31), sl31⟩)
    (c31 : PySem.W.codeIn K cd31 "_law_moved" = true)
    (k31 : PySem.W.keepIn K (.ref f31) = true)
    (a32 : PySem.W.nsIn K mainGlobals "law" = some (some (.ref f32)))
    (l32 : K.lookup f32 = some ⟨oc32, od32, .func (PySem.W.fnOf "law" "law" (defArgs s_law) (defBody s_law) (defScope s_law) .none kV32 dc32 pm32 an32 cd32 ct32), sl32⟩)
    (c32 : PySem.W.codeIn K cd32 "law" = true)
    (k32 : PySem.W.keepIn K (.ref f32) = true)
    (g_NotMachine : PySem.W.nsIn K mainGlobals "NotMachine" = some (some (.ref C_NotMachine)))
    (x_NotMachine : PySem.W.excIn K C_NotMachine [.type "ValueError", .type "Exception", .type "BaseException", .type "object"] "ValueError.__new__" = true)
    (k_NotMachine : PySem.W.keepIn K (.ref C_NotMachine) = true)
    (s_NotMachine : PySem.W.subIn K (.ref C_NotMachine) (.type "BaseException") = some true)
    (t_NotMachine : PySem.W.typeIn K (.ref C_NotMachine) = some (.type "type"))
    (g_NotString : PySem.W.nsIn K mainGlobals "NotString" = some (some (.ref C_NotString)))
    (x_NotString : PySem.W.excIn K C_NotString [.type "ValueError", .type "Exception", .type "BaseException", .type "object"] "ValueError.__new__" = true)
    (k_NotString : PySem.W.keepIn K (.ref C_NotString) = true)
    (s_NotString : PySem.W.subIn K (.ref C_NotString) (.type "BaseException") = some true)
    (t_NotString : PySem.W.typeIn K (.ref C_NotString) = some (.type "type"))
    (g_NotWord : PySem.W.nsIn K mainGlobals "NotWord" = some (some (.ref C_NotWord)))
    (x_NotWord : PySem.W.excIn K C_NotWord [.type "ValueError", .type "Exception", .type "BaseException", .type "object"] "ValueError.__new__" = true)
    (k_NotWord : PySem.W.keepIn K (.ref C_NotWord) = true)
    (s_NotWord : PySem.W.subIn K (.ref C_NotWord) (.type "BaseException") = some true)
    (t_NotWord : PySem.W.typeIn K (.ref C_NotWord) = some (.type "type"))
    (n_all : PySem.W.nsIn K mainGlobals "all" = some none)
    (n_enumerate : PySem.W.nsIn K mainGlobals "enumerate" = some none)
    (n_int : PySem.W.nsIn K mainGlobals "int" = some none)
    (n_len : PySem.W.nsIn K mainGlobals "len" = some none)
    (n_list : PySem.W.nsIn K mainGlobals "list" = some none)
    (n_range : PySem.W.nsIn K mainGlobals "range" = some none)
    (n_sorted : PySem.W.nsIn K mainGlobals "sorted" = some none)
    (n_str : PySem.W.nsIn K mainGlobals "str" = some none)
    (n_tuple : PySem.W.nsIn K mainGlobals "tuple" = some none)
    (v_DIGITS : PySem.W.nsIn K mainGlobals "DIGITS" = some (some (.str "0123" tok_DIGITS)))
    (v_LARGE : PySem.W.nsIn K mainGlobals "LARGE" = some (some (.str "ABCDEFGH" tok_LARGE)))
    (v_LEAST_DIGITS : PySem.W.nsIn K mainGlobals "LEAST_DIGITS" = some (some (.int 2 tok_LEAST_DIGITS)))
    (v_LONGEST : PySem.W.nsIn K mainGlobals "LONGEST" = some (some (.int 60 tok_LONGEST)))
    (v_MOST_DIGITS : PySem.W.nsIn K mainGlobals "MOST_DIGITS" = some (some (.int 4 tok_MOST_DIGITS)))
    (v_MOST_LENGTH : PySem.W.nsIn K mainGlobals "MOST_LENGTH" = some (some (.int 60 tok_MOST_LENGTH)))
    (v_MOST_STATES : PySem.W.nsIn K mainGlobals "MOST_STATES" = some (some (.int 8 tok_MOST_STATES)))
    (v_MOST_WIDE : PySem.W.nsIn K mainGlobals "MOST_WIDE" = some (some (.int 200 tok_MOST_WIDE)))
    (v_ORDER : PySem.W.nsIn K mainGlobals "ORDER" = some (some (.str "aAbBcCdDeEfFgGhH" tok_ORDER)))
    (v_SMALL : PySem.W.nsIn K mainGlobals "SMALL" = some (some (.str "abcdefgh" tok_SMALL)))
    : ∃ (fd : FuncData) (cls : Str → Value), (∀ (s : Shared) (v : Value), BindsTo s fd ⟨[v], []⟩ [("_law_script", v)]) ∧ ∀ base : Heap, K.In base → base.Ns mainGlobals mg → FnG P w K mg base 7 fa fd ["_law_script"] (spD ⟨K, w⟩ cls none 1 f_law) := by
  have e := hfa.symm.trans (PySem.W.mg_of X G a32)
  cases e
  have F0 := fun_mk (st := s_q_number) l0 c0 k0
  have b0 := F0.binds (ps := ["_law_cell"]) fun _ _ _ _ _ _ us hl => match us, hl with | [_], _ => rfl
  have F1 := fun_mk (st := s_q_draws) l1 c1 k1
  have b1 := F1.binds (ps := ["_law_script"]) fun _ _ _ _ _ _ us hl => match us, hl with | [_], _ => rfl
  have F2 := fun_mk (st := s_q_next) l2 c2 k2
  have b2 := F2.binds (ps := ["_law_draws_here"]) fun _ _ _ _ _ _ us hl => match us, hl with | [_], _ => rfl
  have F3 := fun_mk (st := s_q_arranged) l3 c3 k3
  have b3 := F3.binds (ps := ["_law_draws_here", "_law_size"]) fun _ _ _ _ _ _ us hl => match us, hl with | [_, _], _ => rfl
  have F4 := fun_mk (st := s_q_machine) l4 c4 k4
  have b4 := F4.binds (ps := ["_law_draws_here", "_law_most"]) fun _ _ _ _ _ _ us hl => match us, hl with | [_, _], _ => rfl
  have F5 := fun_mk (st := s_q_word) l5 c5 k5
  have b5 := F5.binds (ps := ["_law_draws_here", "_law_machine_here", "_law_most"]) fun _ _ _ _ _ _ us hl => match us, hl with | [_, _, _], _ => rfl
  have F6 := fun_mk (st := s_q_string) l6 c6 k6
  have b6 := F6.binds (ps := ["_law_draws_here", "_law_machine_here", "_law_most"]) fun _ _ _ _ _ _ us hl => match us, hl with | [_, _, _], _ => rfl
  have F7 := fun_mk (st := s__is_row) l7 c7 k7
  have b7 := F7.binds (ps := ["row", "k", "count"]) fun _ _ _ _ _ _ us hl => match us, hl with | [_, _, _], _ => rfl
  have F8 := fun_mk (st := s_is_wide) l8 c8 k8
  have b8 := F8.binds (ps := ["machine"]) fun _ _ _ _ _ _ us hl => match us, hl with | [_], _ => rfl
  have F9 := fun_mk (st := s_is_machine) l9 c9 k9
  have b9 := F9.binds (ps := ["machine"]) fun _ _ _ _ _ _ us hl => match us, hl with | [_], _ => rfl
  have F10 := fun_mk (st := s_check_machine) l10 c10 k10
  have b10 := F10.binds (ps := ["machine"]) fun _ _ _ _ _ _ us hl => match us, hl with | [_], _ => rfl
  have F11 := fun_mk (st := s_letters_of) l11 c11 k11
  have b11 := F11.binds (ps := ["machine"]) fun _ _ _ _ _ _ us hl => match us, hl with | [_], _ => rfl
  have F12 := fun_mk (st := s_is_word) l12 c12 k12
  have b12 := F12.binds (ps := ["machine", "word"]) fun _ _ _ _ _ _ us hl => match us, hl with | [_, _], _ => rfl
  have F13 := fun_mk (st := s_refuse_word) l13 c13 k13
  have b13 := F13.binds (ps := ["machine", "word"]) fun _ _ _ _ _ _ us hl => match us, hl with | [_, _], _ => rfl
  have F14 := fun_mk (st := s_check_word) l14 c14 k14
  have b14 := F14.binds (ps := ["machine", "word"]) fun _ _ _ _ _ _ us hl => match us, hl with | [_, _], _ => rfl
  have F15 := fun_mk (st := s_has_digits) l15 c15 k15
  have b15 := F15.binds (ps := ["k", "string"]) fun _ _ _ _ _ _ us hl => match us, hl with | [_, _], _ => rfl
  have F16 := fun_mk (st := s_check_string_machines) l16 c16 k16
  have b16 := F16.binds (ps := ["k", "string"]) fun _ _ _ _ _ _ us hl => match us, hl with | [_, _], _ => rfl
  have F17 := fun_mk (st := s_check_string_sections) l17 c17 k17
  have b17 := F17.binds (ps := ["machine", "string"]) fun _ _ _ _ _ _ us hl => match us, hl with | [_, _], _ => rfl
  have F18 := fun_mk (st := s_Actor_step) l18 c18 k18
  have b18 := F18.binds (ps := ["self", "word", "digit"]) fun _ _ _ _ _ _ us hl => match us, hl with | [_, _, _], _ => rfl
  have F19 := fun_mk (st := s_Actor_moved) l19 c19 k19
  have b19 := F19.binds (ps := ["self", "word", "string"]) fun _ _ _ _ _ _ us hl => match us, hl with | [_, _, _], _ => rfl
  have F20 := fun_mk (st := s_Actor___init__) l20 c20 k20
  have b20 := F20.binds (ps := ["self", "machine"]) fun _ _ _ _ _ _ us hl => match us, hl with | [_, _], _ => rfl
  have F21 := fun_mk (st := s_moved) l21 c21 k21
  have b21 := F21.binds (ps := ["machine", "word", "string"]) fun _ _ _ _ _ _ us hl => match us, hl with | [_, _, _], _ => rfl
  have F22 := fun_mk (st := s_image_of) l22 c22 k22
  have b22 := F22.binds (ps := ["machine", "word", "string"]) fun _ _ _ _ _ _ us hl => match us, hl with | [_, _, _], _ => rfl
  have F23 := fun_mk (st := s_section_of) l23 c23 k23
  have b23 := F23.binds (ps := ["machine", "word", "string"]) fun _ _ _ _ _ _ us hl => match us, hl with | [_, _, _], _ => rfl
  have F24 := fun_mk (st := s_other) l24 c24 k24
  have b24 := F24.binds (ps := ["letter"]) fun _ _ _ _ _ _ us hl => match us, hl with | [_], _ => rfl
  have F25 := fun_mk (st := s_undone) l25 c25 k25
  have b25 := F25.binds (ps := ["word"]) fun _ _ _ _ _ _ us hl => match us, hl with | [_], _ => rfl
  have F26 := fun_mk (st := s_undone_word) l26 c26 k26
  have b26 := F26.binds (ps := ["machine", "word"]) fun _ _ _ _ _ _ us hl => match us, hl with | [_, _], _ => rfl
  have F27 := fun_mk (st := s_cut) l27 c27 k27
  have b27 := F27.binds (ps := ["word"]) fun _ _ _ _ _ _ us hl => match us, hl with | [_], _ => rfl
  have F28 := fun_mk (st := s_cut_word) l28 c28 k28
  have b28 := F28.binds (ps := ["machine", "word"]) fun _ _ _ _ _ _ us hl => match us, hl with | [_, _], _ => rfl
  have F29 := fun_mk (st := s_q_read) l29 c29 k29
  have b29 := F29.binds (ps := ["_law_machine_here", "_law_letter", "_law_digit"]) fun _ _ _ _ _ _ us hl => match us, hl with | [_, _, _], _ => rfl
  have F30 := fun_mk (st := s_q_step) l30 c30 k30
  have b30 := F30.binds (ps := ["_law_machine_here", "_law_word_here", "_law_digit"]) fun _ _ _ _ _ _ us hl => match us, hl with | [_, _, _], _ => rfl
  have F31 := fun_mk (st := s_q_moved) l31 c31 k31
  have b31 := F31.binds (ps := ["_law_machine_here", "_law_word_here", "_law_string_here"]) fun _ _ _ _ _ _ us hl => match us, hl with | [_, _, _], _ => rfl
  have F32 := fun_mk (st := s_law) l32 c32 k32
  have b32 := F32.binds (ps := ["_law_script"]) fun _ _ _ _ _ _ us hl => match us, hl with | [_], _ => rfl
  let cls : Str → Value := fun s => (([("NotMachine", Value.ref C_NotMachine), ("NotString", Value.ref C_NotString), ("NotWord", Value.ref C_NotWord)] : List (Str × Value)).lookup s).getD .none
  let T : Tx K mg := {
    cls := cls
    a_q_number := f0, fd_q_number := _, F_q_number := F0, m_q_number := PySem.W.mg_of X G a0, b_q_number := b0
    a_q_draws := f1, fd_q_draws := _, F_q_draws := F1, m_q_draws := PySem.W.mg_of X G a1, b_q_draws := b1
    a_q_next := f2, fd_q_next := _, F_q_next := F2, m_q_next := PySem.W.mg_of X G a2, b_q_next := b2
    a_q_arranged := f3, fd_q_arranged := _, F_q_arranged := F3, m_q_arranged := PySem.W.mg_of X G a3, b_q_arranged := b3
    a_q_machine := f4, fd_q_machine := _, F_q_machine := F4, m_q_machine := PySem.W.mg_of X G a4, b_q_machine := b4
    a_q_word := f5, fd_q_word := _, F_q_word := F5, m_q_word := PySem.W.mg_of X G a5, b_q_word := b5
    a_q_string := f6, fd_q_string := _, F_q_string := F6, m_q_string := PySem.W.mg_of X G a6, b_q_string := b6
    a__is_row := f7, fd__is_row := _, F__is_row := F7, m__is_row := PySem.W.mg_of X G a7, b__is_row := b7
    a_is_wide := f8, fd_is_wide := _, F_is_wide := F8, m_is_wide := PySem.W.mg_of X G a8, b_is_wide := b8
    a_is_machine := f9, fd_is_machine := _, F_is_machine := F9, m_is_machine := PySem.W.mg_of X G a9, b_is_machine := b9
    a_check_machine := f10, fd_check_machine := _, F_check_machine := F10, m_check_machine := PySem.W.mg_of X G a10, b_check_machine := b10
    a_letters_of := f11, fd_letters_of := _, F_letters_of := F11, m_letters_of := PySem.W.mg_of X G a11, b_letters_of := b11
    a_is_word := f12, fd_is_word := _, F_is_word := F12, m_is_word := PySem.W.mg_of X G a12, b_is_word := b12
    a_refuse_word := f13, fd_refuse_word := _, F_refuse_word := F13, m_refuse_word := PySem.W.mg_of X G a13, b_refuse_word := b13
    a_check_word := f14, fd_check_word := _, F_check_word := F14, m_check_word := PySem.W.mg_of X G a14, b_check_word := b14
    a_has_digits := f15, fd_has_digits := _, F_has_digits := F15, m_has_digits := PySem.W.mg_of X G a15, b_has_digits := b15
    a_check_string_machines := f16, fd_check_string_machines := _, F_check_string_machines := F16, m_check_string_machines := PySem.W.mg_of X G a16, b_check_string_machines := b16
    a_check_string_sections := f17, fd_check_string_sections := _, F_check_string_sections := F17, m_check_string_sections := PySem.W.mg_of X G a17, b_check_string_sections := b17
    a_Actor_step := f18, fd_Actor_step := _, F_Actor_step := F18, b_Actor_step := b18
    a_Actor_moved := f19, fd_Actor_moved := _, F_Actor_moved := F19, b_Actor_moved := b19
    a_Actor___init__ := f20, fd_Actor___init__ := _, F_Actor___init__ := F20, b_Actor___init__ := b20
    a_moved := f21, fd_moved := _, F_moved := F21, m_moved := PySem.W.mg_of X G a21, b_moved := b21
    a_image_of := f22, fd_image_of := _, F_image_of := F22, m_image_of := PySem.W.mg_of X G a22, b_image_of := b22
    a_section_of := f23, fd_section_of := _, F_section_of := F23, m_section_of := PySem.W.mg_of X G a23, b_section_of := b23
    a_other := f24, fd_other := _, F_other := F24, m_other := PySem.W.mg_of X G a24, b_other := b24
    a_undone := f25, fd_undone := _, F_undone := F25, m_undone := PySem.W.mg_of X G a25, b_undone := b25
    a_undone_word := f26, fd_undone_word := _, F_undone_word := F26, m_undone_word := PySem.W.mg_of X G a26, b_undone_word := b26
    a_cut := f27, fd_cut := _, F_cut := F27, m_cut := PySem.W.mg_of X G a27, b_cut := b27
    a_cut_word := f28, fd_cut_word := _, F_cut_word := F28, m_cut_word := PySem.W.mg_of X G a28, b_cut_word := b28
    a_q_read := f29, fd_q_read := _, F_q_read := F29, m_q_read := PySem.W.mg_of X G a29, b_q_read := b29
    a_q_step := f30, fd_q_step := _, F_q_step := F30, m_q_step := PySem.W.mg_of X G a30, b_q_step := b30
    a_q_moved := f31, fd_q_moved := _, F_q_moved := F31, m_q_moved := PySem.W.mg_of X G a31, b_q_moved := b31
    a_law := fa, fd_law := _, F_law := F32, m_law := PySem.W.mg_of X G a32, b_law := b32
    C_Actor := C_Actor, g_Actor := PySem.W.mg_of X G g_Actor, w_Actor := g_Actor, l_Actor := ⟨pg_Actor, hd_Actor, po_Actor, sa_Actor⟩
    mk_Actor := ⟨mk_Actor, a20, i20, kc_Actor⟩
    na_Actor_size := na_Actor_size
    na_Actor_table := na_Actor_table
    me_Actor_moved := ⟨a19, i19, k19⟩
    me_Actor_step := ⟨a18, i18, k18⟩
    C_NotMachine := C_NotMachine, g_NotMachine := PySem.W.mg_of X G g_NotMachine, x_NotMachine := x_NotMachine, k_NotMachine := k_NotMachine, s_NotMachine := s_NotMachine, t_NotMachine := t_NotMachine, c_NotMachine := by rfl, w_NotMachine := g_NotMachine
    C_NotString := C_NotString, g_NotString := PySem.W.mg_of X G g_NotString, x_NotString := x_NotString, k_NotString := k_NotString, s_NotString := s_NotString, t_NotString := t_NotString, c_NotString := by rfl, w_NotString := g_NotString
    C_NotWord := C_NotWord, g_NotWord := PySem.W.mg_of X G g_NotWord, x_NotWord := x_NotWord, k_NotWord := k_NotWord, s_NotWord := s_NotWord, t_NotWord := t_NotWord, c_NotWord := by rfl, w_NotWord := g_NotWord
    n_all := PySem.W.mg_none_of X G n_all
    n_enumerate := PySem.W.mg_none_of X G n_enumerate
    n_int := PySem.W.mg_none_of X G n_int
    n_len := PySem.W.mg_none_of X G n_len
    n_list := PySem.W.mg_none_of X G n_list
    n_range := PySem.W.mg_none_of X G n_range
    n_sorted := PySem.W.mg_none_of X G n_sorted
    n_str := PySem.W.mg_none_of X G n_str
    n_tuple := PySem.W.mg_none_of X G n_tuple
    tok_DIGITS := tok_DIGITS, v_DIGITS := PySem.W.mg_of X G v_DIGITS
    tok_LARGE := tok_LARGE, v_LARGE := PySem.W.mg_of X G v_LARGE
    tok_LEAST_DIGITS := tok_LEAST_DIGITS, v_LEAST_DIGITS := PySem.W.mg_of X G v_LEAST_DIGITS
    tok_LONGEST := tok_LONGEST, v_LONGEST := PySem.W.mg_of X G v_LONGEST
    tok_MOST_DIGITS := tok_MOST_DIGITS, v_MOST_DIGITS := PySem.W.mg_of X G v_MOST_DIGITS
    tok_MOST_LENGTH := tok_MOST_LENGTH, v_MOST_LENGTH := PySem.W.mg_of X G v_MOST_LENGTH
    tok_MOST_STATES := tok_MOST_STATES, v_MOST_STATES := PySem.W.mg_of X G v_MOST_STATES
    tok_MOST_WIDE := tok_MOST_WIDE, v_MOST_WIDE := PySem.W.mg_of X G v_MOST_WIDE
    tok_ORDER := tok_ORDER, v_ORDER := PySem.W.mg_of X G v_ORDER
    tok_SMALL := tok_SMALL, v_SMALL := PySem.W.mg_of X G v_SMALL
  }
  exact ⟨_, cls, fun s v => .of_eq rfl, fun base _ _ => ok_law T⟩
end Law
open PySem PySem.W PyProof.Rows in
set_option maxRecDepth 100000 in
set_option maxHeartbeats 0 in
theorem PySem.Challenge.cw_leafturner_k10_whole_products_and_undoin_holds : PySem.Challenge.rw_leafturner_k10_whole_products_and_undoin.Holds := by
  w_on; o_law; k_head; (case hw => w_witness2)
  k_fill
  refine DL.walk_law (l := PySem.Challenge.rw_leafturner_k10_whole_products_and_undoin) (k := 7) (x := "_law_script") rfl rfl ⟨rfl, by decide, by decide⟩ (fun w h Y => PySem.W.kIn_of Y) Law.law_good ?F
  case F =>
    intro w mg fa h KX G hmg
    refine' Law.all_mk KX G hmg ?g_Actor ?pg_Actor ?hd_Actor ?po_Actor ?sa_Actor ?mk_Actor ?kc_Actor ?na_Actor_size ?na_Actor_table ?a0 ?l0 ?c0 ?k0 ?a1 ?l1 ?c1 ?k1 ?a2 ?l2 ?c2 ?k2 ?a3 ?l3 ?c3 ?k3 ?a4 ?l4 ?c4 ?k4 ?a5 ?l5 ?c5 ?k5 ?a6 ?l6 ?c6 ?k6 ?a7 ?l7 ?c7 ?k7 ?a8 ?l8 ?c8 ?k8 ?a9 ?l9 ?c9 ?k9 ?a10 ?l10 ?c10 ?k10 ?a11 ?l11 ?c11 ?k11 ?a12 ?l12 ?c12 ?k12 ?a13 ?l13 ?c13 ?k13 ?a14 ?l14 ?c14 ?k14 ?a15 ?l15 ?c15 ?k15 ?a16 ?l16 ?c16 ?k16 ?a17 ?l17 ?c17 ?k17 ?a18 ?i18 ?l18 ?c18 ?k18 ?a19 ?i19 ?l19 ?c19 ?k19 ?a20 ?i20 ?l20 ?c20 ?k20 ?a21 ?l21 ?c21 ?k21 ?a22 ?l22 ?c22 ?k22 ?a23 ?l23 ?c23 ?k23 ?a24 ?l24 ?c24 ?k24 ?a25 ?l25 ?c25 ?k25 ?a26 ?l26 ?c26 ?k26 ?a27 ?l27 ?c27 ?k27 ?a28 ?l28 ?c28 ?k28 ?a29 ?l29 ?c29 ?k29 ?a30 ?l30 ?c30 ?k30 ?a31 ?l31 ?c31 ?k31 ?a32 ?l32 ?c32 ?k32 ?g_NotMachine ?x_NotMachine ?k_NotMachine ?s_NotMachine ?t_NotMachine ?g_NotString ?x_NotString ?k_NotString ?s_NotString ?t_NotString ?g_NotWord ?x_NotWord ?k_NotWord ?s_NotWord ?t_NotWord ?n_all ?n_enumerate ?n_int ?n_len ?n_list ?n_range ?n_sorted ?n_str ?n_tuple ?v_DIGITS ?v_LARGE ?v_LEAST_DIGITS ?v_LONGEST ?v_MOST_DIGITS ?v_MOST_LENGTH ?v_MOST_STATES ?v_MOST_WIDE ?v_ORDER ?v_SMALL
    (case g_Actor => k_is)
    (case pg_Actor => k_is)
    (case hd_Actor => k_is)
    (case po_Actor => k_is)
    (case sa_Actor => k_is)
    (case mk_Actor => k_is)
    (case kc_Actor => k_is)
    (case na_Actor_size => k_is)
    (case na_Actor_table => k_is)
    (case a0 => k_is)
    (case l0 => k_is)
    (case c0 => k_is)
    (case k0 => k_is)
    (case a1 => k_is)
    (case l1 => k_is)
    (case c1 => k_is)
    (case k1 => k_is)
    (case a2 => k_is)
    (case l2 => k_is)
    (case c2 => k_is)
    (case k2 => k_is)
    (case a3 => k_is)
    (case l3 => k_is)
    (case c3 => k_is)
    (case k3 => k_is)
    (case a4 => k_is)
    (case l4 => k_is)
    (case c4 => k_is)
    (case k4 => k_is)
    (case a5 => k_is)
    (case l5 => k_is)
    (case c5 => k_is)
    (case k5 => k_is)
    (case a6 => k_is)
    (case l6 => k_is)
    (case c6 => k_is)
    (case k6 => k_is)
    (case a7 => k_is)
    (case l7 => k_is)
    (case c7 => k_is)
    (case k7 => k_is)
    (case a8 => k_is)
    (case l8 => k_is)
    (case c8 => k_is)
    (case k8 => k_is)
    (case a9 => k_is)
    (case l9 => k_is)
    (case c9 => k_is)
    (case k9 => k_is)
    (case a10 => k_is)
    (case l10 => k_is)
    (case c10 => k_is)
    (case k10 => k_is)
    (case a11 => k_is)
    (case l11 => k_is)
    (case c11 => k_is)
    (case k11 => k_is)
    (case a12 => k_is)
    (case l12 => k_is)
    (case c12 => k_is)
    (case k12 => k_is)
    (case a13 => k_is)
    (case l13 => k_is)
    (case c13 => k_is)
    (case k13 => k_is)
    (case a14 => k_is)
    (case l14 => k_is)
    (case c14 => k_is)
    (case k14 => k_is)
    (case a15 => k_is)
    (case l15 => k_is)
    (case c15 => k_is)
    (case k15 => k_is)
    (case a16 => k_is)
    (case l16 => k_is)
    (case c16 => k_is)
    (case k16 => k_is)
    (case a17 => k_is)
    (case l17 => k_is)
    (case c17 => k_is)
    (case k17 => k_is)
    (case a18 => k_is)
    (case i18 => k_is)
    (case l18 => k_is)
    (case c18 => k_is)
    (case k18 => k_is)
    (case a19 => k_is)
    (case i19 => k_is)
    (case l19 => k_is)
    (case c19 => k_is)
    (case k19 => k_is)
    (case a20 => k_is)
    (case i20 => k_is)
    (case l20 => k_is)
    (case c20 => k_is)
    (case k20 => k_is)
    (case a21 => k_is)
    (case l21 => k_is)
    (case c21 => k_is)
    (case k21 => k_is)
    (case a22 => k_is)
    (case l22 => k_is)
    (case c22 => k_is)
    (case k22 => k_is)
    (case a23 => k_is)
    (case l23 => k_is)
    (case c23 => k_is)
    (case k23 => k_is)
    (case a24 => k_is)
    (case l24 => k_is)
    (case c24 => k_is)
    (case k24 => k_is)
    (case a25 => k_is)
    (case l25 => k_is)
    (case c25 => k_is)
    (case k25 => k_is)
    (case a26 => k_is)
    (case l26 => k_is)
    (case c26 => k_is)
    (case k26 => k_is)
    (case a27 => k_is)
    (case l27 => k_is)
    (case c27 => k_is)
    (case k27 => k_is)
    (case a28 => k_is)
    (case l28 => k_is)
    (case c28 => k_is)
    (case k28 => k_is)
    (case a29 => k_is)
    (case l29 => k_is)
    (case c29 => k_is)
    (case k29 => k_is)
    (case a30 => k_is)
    (case l30 => k_is)
    (case c30 => k_is)
    (case k30 => k_is)
    (case a31 => k_is)
    (case l31 => k_is)
    (case c31 => k_is)
    (case k31 => k_is)
    (case a32 => k_is)
    (case l32 => k_is)
    (case c32 => k_is)
    (case k32 => k_is)
    (case g_NotMachine => k_is)
    (case x_NotMachine => k_exc)
    (case k_NotMachine => k_is)
    (case s_NotMachine => k_is)
    (case t_NotMachine => k_is)
    (case g_NotString => k_is)
    (case x_NotString => k_exc)
    (case k_NotString => k_is)
    (case s_NotString => k_is)
    (case t_NotString => k_is)
    (case g_NotWord => k_is)
    (case x_NotWord => k_exc)
    (case k_NotWord => k_is)
    (case s_NotWord => k_is)
    (case t_NotWord => k_is)
    (case n_all => k_is)
    (case n_enumerate => k_is)
    (case n_int => k_is)
    (case n_len => k_is)
    (case n_list => k_is)
    (case n_range => k_is)
    (case n_sorted => k_is)
    (case n_str => k_is)
    (case n_tuple => k_is)
    (case v_DIGITS => k_is)
    (case v_LARGE => k_is)
    (case v_LEAST_DIGITS => k_is)
    (case v_LONGEST => k_is)
    (case v_MOST_DIGITS => k_is)
    (case v_MOST_LENGTH => k_is)
    (case v_MOST_STATES => k_is)
    (case v_MOST_WIDE => k_is)
    (case v_ORDER => k_is)
    (case v_SMALL => k_is)
