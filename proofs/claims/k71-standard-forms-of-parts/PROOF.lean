import PyProof.Rows.All
import KE.KeyNested
import KE.KDictDisplayH
import PyProof.DictMoreH
import HandS.ForMost
import HandS.Exc
import HandS.TryOnly
import HandS.TryMany
import HandS.ExcOwn
import HandS.WordsExc
import HandS.CallSlots
import HandS.IsInst
import HandS.SortInts
import HandS.TupAny
import HandS.TupMul
import HandS.RaiseMore
import HandS.StrMore
import HandS.Style
import HandS.SetFor
import HandS.Replace
import KE.KSortedM
import HandS.Walk
import HandS.EndBits
import HandS.Conv
import PyProof.Rows.SortShellAny
import PyProof.EnumMake
import KE.GoesEnum
import KE.GoesMore
import PyProof.ReprLen
import HandS.RevTup
import HandS.HotCalls
import HandS.ExcIs
import KE.LtData
import PyProof.SliceStr2
import HandS.SetKeys
import HandS.DictComp
import HandS.Zip
import HandS.TupLen
import HandS.Strs
import HandS.Deep
import KE.BitLaws
import HandS.Rev
import HandS.MapJoin
import HandS.Star
import HandS.SortOrd
import HandS.NamedTupSort
import HandS.TupSets
import KE.KSortTupAny
import HandS.Gcd
import KE.KMathGC
import HandS.Sort
import KE.KDictCopyH
import KE.DataMinMax
import PyProof.FitsInt
import Wide.All
import OpenK.AllK
import Wide.FinOn
import PySem.Challenge.RW_leafturner_k71_standard_forms_of_parts
set_option Elab.async false
set_option linter.all false
set_option maxRecDepth 100000
/-! The data layer: what a def computes, as a Lean function over plain data; heaps are hidden once and for all. -/
namespace DL
open PySem PySem.Spec L2

/-- the written part, and the world -/
structure KW where
  K : PySem.W.Frag
  w : World
instance : Coe KW PySem.W.Frag := ⟨KW.K⟩
abbrev _root_.L2.Cx.kw (X : Cx) : KW := ⟨X.K, X.w⟩
/-- keys that are tuples, three deep -/
abbrev NK := PySem.NestedKey

/-- plain data -/
inductive D where
  | non | bl (b : Bool) | int (i : Int) | str (s : Str)
  | tup (xs : List D) | lst (xs : List D)
  | dk (kvs : List (Key × D)) | dt (kvs : List (List Key × D))
  /-- a dict whose keys are tuples -/
  | dd (kvs : List (NK × D))
  /-- an instance of the class c -/
  | obj (c : Str) (fs : List (Str × D))
  /-- the script -/
  | scr (ns : List Int)
  /-- a caught error of the class c, no fields of its own -/
  | exc (c : Str)
  /-- a frozen dict that may be walked; one whose keys are tuples -/
  | lk (kvs : List (Key × D)) | ld (kvs : List (NK × D))
  /-- a tuple whose whole object is known -/
  | tux (xs : List D)

mutual
/-- what an owned object holds; an instance's own fields are fixed, what they hold is frozen or owned -/
inductive O where
  | ls (xs : List D) | dk (kvs : List (Key × D)) | dt (kvs : List (List Key × D)) | dd (kvs : List (NK × D))
  | ob (c : Str) (fs : Fs)
inductive Fs where
  | nil | fz (f : Str) (d : D) (r : Fs) | ow (f : Str) (o : O) (r : Fs)
end
mutual
def O.d : O → D
  | .ls xs => .lst xs
  | .dk kvs => .dk kvs
  | .dt kvs => .dt kvs
  | .dd kvs => .dd kvs
  | .ob c fs => .obj c fs.d
def Fs.d : Fs → List (Str × D)
  | .nil => []
  | .fz f d r => (f, d) :: r.d
  | .ow f o r => (f, o.d) :: r.d
end
/-- a slot: frozen data; an owned object (lent: it is the caller's); an instance under way -/
inductive Sl where
  | fz (d : D) | ow (lent : Bool) (o : O) | op (c : Str) (fs : Fs)
abbrev G := List (Option Sl)
/-- a result: frozen data, a new owned object, the object of a slot, of a field of it -/
inductive R where
  | fz (d : D) | ow (o : O) | at (i : Nat) | sub (i : Nat) (f : Str)
/-- an exception: its class's name, its own fields -/
structure Ex where
  c : Str
  p : List (Str × D) := []
inductive Rs (α : Type) where
  | ok (a : α) (g : G) | ex (e : Ex) (g : G) | bad
abbrev M (α : Type) := G → Rs α
inductive Fl where
  | nx | rt (r : R) | bk | ct

def Rs.andThen {α β : Type} (x : Rs α) (k : α → G → Rs β) : Rs β :=
  match x with
  | .ok a g => k a g
  | .ex e g => .ex e g
  | .bad => .bad
@[simp] theorem then_ok {α β : Type} (a : α) (g : G) (k : α → G → Rs β) : (Rs.ok a g).andThen k = k a g := rfl
@[simp] theorem then_ex {α β : Type} (e : Ex) (g : G) (k : α → G → Rs β) : (Rs.ex e g : Rs α).andThen k = .ex e g := rfl
@[simp] theorem then_bad {α β : Type} (k : α → G → Rs β) : (Rs.bad : Rs α).andThen k = .bad := rfl
def mb {α β : Type} (m : M α) (k : α → M β) : M β := fun g => (m g).andThen k
def mp {α : Type} (a : α) : M α := fun g => .ok a g

/-- an error's object at a, of the class cls -/
def ExA (cls : Value) (a : Addr) : HO := .ext fun h => ∃ (oe : Obj) (vs : Array Value), h.get? a = some oe ∧ Zc cls none oe ∧ oe.data = .fields vs
/-! keys that are tuples -/
/-- the dict at a: its keys, where they stand, its values -/
def DdA (w : World) (a : Addr) (xs : List (NK × Addr × Value)) : HO :=
  .ext fun h => ∃ o es ep, h.get? a = some o ∧ o.ExactDict ∧ o.data = .dict es ep ∧ es.toList = xs.map fun x => ⟨x.1.hash w, .ref x.2.1, x.2.2⟩
mutual
/-- v is the key -/
def NKv (K : PySem.W.Frag) (F : Hp) : NK → V → Prop
  | .none, v => v = .non
  | .num i, v => v = .int i
  | .text x, v => v = .str x
  | .tup ks, v => ∃ a vs, v = .ref a ∧ SqT K F a vs ∧ NKs K F ks vs
def NKs (K : PySem.W.Frag) (F : Hp) : List NK → List V → Prop
  | [], vs => vs = []
  | k :: ks, vs => ∃ v us, vs = v :: us ∧ NKv K F k v ∧ NKs K F ks us
end
/-- the tuple at a is the key -/
def IsNK (K : PySem.W.Frag) (F : Hp) (a : Addr) (k : NK) : Prop := NKv K F k (.ref a) ∧ k.depth ≤ 8
section
variable (K : KW)
mutual
/-- v is the data d, read in the frozen heap F -/
def Is (F : Hp) (v : V) : D → Prop
  | .non => v = .non
  | .bl b => v = .bl b
  | .int i => v = .int i
  | .str s => v = .str s ∧ s.length ≤ sizeLine
  | .tup ds => ∃ a vs, v = .ref a ∧ SqT K.K F a vs ∧ ds.length ≤ sizeLine ∧ IsL F vs ds
  | .lst ds => ∃ a vs, v = .ref a ∧ F a = some (.lst vs) ∧ ds.length ≤ sizeLine ∧ IsL F vs ds
  | .dk kvs => ∃ a ks, v = .ref a ∧ F a = some (.dK ks) ∧ kvs.length ≤ sizeLine ∧ IsK F ks kvs
  | .dt kvs => ∃ a ks, v = .ref a ∧ F a = some (.dT ks) ∧ kvs.length ≤ sizeLine ∧ IsT F ks kvs
  | .dd kvs => ∃ a xs, v = .ref a ∧ F a = some (DdA K.w a xs) ∧ ((a == sysModules) = false ∧ (kvs.map (·.1)).Nodup) ∧ kvs.length ≤ sizeLine ∧ IsN F xs kvs
  | .obj c fs => ∃ a C dx vs, v = .ref a ∧ F a = some (.ins C dx vs) ∧ PySem.W.nsIn K.K mainGlobals c = some (some (.ref C)) ∧ IsF F vs fs
  | .scr ns => ∃ a, v = .ref a ∧ SqL K.K F a (ns.map V.int) ∧ ns.length ≤ sizeLine
  | .exc c => ∃ a cls, v = .ref a ∧ F a = some (ExA cls a) ∧ PySem.W.nsIn K.K mainGlobals c = some (some cls)
  | .lk kvs => ∃ a ob ks, v = .ref a ∧ F a = some (.frz ob (.dK ks)) ∧ kvs.length ≤ sizeLine ∧ IsK F ks kvs
  | .ld kvs => ∃ a ob xs, v = .ref a ∧ F a = some (.frz ob (DdA K.w a xs)) ∧ ((a == sysModules) = false ∧ (kvs.map (·.1)).Nodup) ∧ kvs.length ≤ sizeLine ∧ IsN F xs kvs
  | .tux ds => ∃ a ob vs, v = .ref a ∧ F a = some (.frz ob (.tup vs)) ∧ (ob.cls = .type "tuple" ∧ ob.dict = none) ∧ ds.length ≤ sizeLine ∧ IsL F vs ds
def IsL (F : Hp) (vs : List V) : List D → Prop
  | [] => vs = []
  | d :: ds => ∃ v r, vs = v :: r ∧ Is F v d ∧ IsL F r ds
def IsK (F : Hp) (ks : List (Key × V)) : List (Key × D) → Prop
  | [] => ks = []
  | (k, d) :: kvs => ∃ v r, ks = (k, v) :: r ∧ Is F v d ∧ IsK F r kvs
def IsT (F : Hp) (ks : List (List Key × V)) : List (List Key × D) → Prop
  | [] => ks = []
  | (k, d) :: kvs => ∃ v r, ks = (k, v) :: r ∧ Is F v d ∧ IsT F r kvs
def IsN (F : Hp) (xs : List (NK × Addr × Value)) : List (NK × D) → Prop
  | [] => xs = []
  | (k, d) :: kvs => ∃ b u v r, xs = (k, b, u) :: r ∧ IsNK K.K F b k ∧ RelV v u ∧ Is F v d ∧ IsN F r kvs
def IsF (F : Hp) (vs : List (Str × V)) : List (Str × D) → Prop
  | [] => vs = []
  | (f, d) :: fs => ∃ v r, vs = (f, v) :: r ∧ Is F v d ∧ IsF F r fs
end
mutual
/-- the object at a holds o -/
def OwAt (F H : Hp) (a : Addr) : O → Prop
  | .ls ds => ∃ vs, H a = some (.lst vs) ∧ ds.length ≤ sizeLine ∧ IsL K F vs ds
  | .dk kvs => ∃ ks, H a = some (.dK ks) ∧ kvs.length ≤ sizeLine ∧ IsK K F ks kvs
  | .dt kvs => ∃ ks, H a = some (.dT ks) ∧ kvs.length ≤ sizeLine ∧ IsT K F ks kvs
  | .dd kvs => ∃ xs, H a = some (DdA K.w a xs) ∧ ((a == sysModules) = false ∧ (kvs.map (·.1)).Nodup) ∧ kvs.length ≤ sizeLine ∧ IsN K F xs kvs
  | .ob c fs => ∃ C dx vs, F a = some (.ins C dx vs) ∧ PySem.W.nsIn K.K mainGlobals c = some (some (.ref C)) ∧ FsAt F H vs fs
def FsAt (F H : Hp) (vs : List (Str × V)) : Fs → Prop
  | .nil => vs = []
  | .fz f d r => ∃ v us, vs = (f, v) :: us ∧ Is K F v d ∧ FsAt F H us r
  | .ow f o r => ∃ b us, vs = (f, .ref b) :: us ∧ OwAt F H b o ∧ FsAt F H us r
end
end
mutual
/-- the cells that an owned object may change -/
def foot (F : Hp) (a : Addr) : O → List Addr
  | .ls _ => [a]
  | .dk _ => [a]
  | .dt _ => [a]
  | .dd _ => [a]
  | .ob _ fs => match F a with
    | some (.ins _ _ vs) => footF F vs fs
    | _ => []
def footF (F : Hp) (vs : List (Str × V)) : Fs → List Addr
  | .nil => []
  | .fz _ _ r => footF F vs.tail r
  | .ow _ o r => (match vs.head? with
    | some (_, .ref b) => foot F b o
    | _ => []) ++ footF F vs.tail r
end
/-- the field's object; with another one -/
def Fs.get : Fs → Str → Option (D ⊕ O)
  | .nil, _ => none
  | .fz g d r, f => if f == g then some (.inl d) else r.get f
  | .ow g o r, f => if f == g then some (.inr o) else r.get f
def Fs.put : Fs → Str → O → Fs
  | .nil, _, _ => .nil
  | .fz g d r, f, o => if f == g then .fz g d r else .fz g d (r.put f o)
  | .ow g o' r, f, o => if f == g then .ow g o r else .ow g o' (r.put f o)

section
variable {K : KW}
theorem sqT_mono {K : PySem.W.Frag} {F F' : Hp} (h : Same F F') {a : Addr} {xs : List V} (q : SqT K F a xs) : SqT K F' a xs := by
  rcases q with r | r
  · rcases r with r | ⟨o, r⟩
    · exact .inl (.inl (h _ _ r))
    · exact .inl (.inr ⟨o, h _ _ r⟩)
  · exact .inr r
mutual
theorem NKv.mono {K : PySem.W.Frag} {F F' : Hp} (h : Same F F') : ∀ (k : NK) (v : V), NKv K F k v → NKv K F' k v
  | .none, _, q => q
  | .num _, _, q => q
  | .text _, _, q => q
  | .tup ks, _, ⟨a, vs, e, s, t⟩ => ⟨a, vs, e, sqT_mono h s, NKs.mono h ks vs t⟩
theorem NKs.mono {K : PySem.W.Frag} {F F' : Hp} (h : Same F F') : ∀ (ks : List NK) (vs : List V), NKs K F ks vs → NKs K F' ks vs
  | [], _, q => q
  | k :: ks, _, ⟨v, us, e, q, t⟩ => ⟨v, us, e, NKv.mono h k v q, NKs.mono h ks us t⟩
end
theorem IsNK.mono {K : PySem.W.Frag} {F F' : Hp} (h : Same F F') {a : Addr} {k : NK} : IsNK K F a k → IsNK K F' a k := fun ⟨q, z⟩ => ⟨NKv.mono h _ _ q, z⟩
mutual
theorem Is.mono {F F' : Hp} (h : Same F F') : ∀ (d : D) (v : V), Is K F v d → Is K F' v d
  | .non, _, q => q
  | .bl _, _, q => q
  | .int _, _, q => q
  | .str _, _, q => q
  | .tup ds, _, ⟨a, vs, e, s, z, q⟩ => ⟨a, vs, e, sqT_mono h s, z, IsL.mono h ds vs q⟩
  | .lst ds, _, ⟨a, vs, e, s, z, q⟩ => ⟨a, vs, e, h _ _ s, z, IsL.mono h ds vs q⟩
  | .dk kvs, _, ⟨a, vs, e, s, z, q⟩ => ⟨a, vs, e, h _ _ s, z, IsK.mono h kvs vs q⟩
  | .dt kvs, _, ⟨a, vs, e, s, z, q⟩ => ⟨a, vs, e, h _ _ s, z, IsT.mono h kvs vs q⟩
  | .dd kvs, _, ⟨a, xs, e, s, n, z, q⟩ => ⟨a, xs, e, h _ _ s, n, z, IsN.mono h kvs xs q⟩
  | .obj _ fs, _, ⟨a, C, dx, vs, e, s, z, q⟩ => ⟨a, C, dx, vs, e, h _ _ s, z, IsF.mono h fs vs q⟩
  | .scr ns, _, ⟨a, e, s, z⟩ => ⟨a, e, h.seq s, z⟩
  | .exc c, _, ⟨a, cl, e, s, z⟩ => ⟨a, cl, e, h _ _ s, z⟩
  | .lk kvs, _, ⟨a, ob, vs, e, s, z, q⟩ => ⟨a, ob, vs, e, h _ _ s, z, IsK.mono h kvs vs q⟩
  | .ld kvs, _, ⟨a, ob, xs, e, s, n, z, q⟩ => ⟨a, ob, xs, e, h _ _ s, n, z, IsN.mono h kvs xs q⟩
  | .tux ds, _, ⟨a, ob, vs, e, s, n, z, q⟩ => ⟨a, ob, vs, e, h _ _ s, n, z, IsL.mono h ds vs q⟩
theorem IsL.mono {F F' : Hp} (h : Same F F') : ∀ (ds : List D) (vs : List V), IsL K F vs ds → IsL K F' vs ds
  | [], _, q => q
  | d :: ds, _, ⟨v, r, e, q, t⟩ => ⟨v, r, e, Is.mono h d v q, IsL.mono h ds r t⟩
theorem IsK.mono {F F' : Hp} (h : Same F F') : ∀ (ds : List (Key × D)) (vs : List (Key × V)), IsK K F vs ds → IsK K F' vs ds
  | [], _, q => q
  | (_, d) :: ds, _, ⟨v, r, e, q, t⟩ => ⟨v, r, e, Is.mono h d v q, IsK.mono h ds r t⟩
theorem IsT.mono {F F' : Hp} (h : Same F F') : ∀ (ds : List (List Key × D)) (vs : List (List Key × V)), IsT K F vs ds → IsT K F' vs ds
  | [], _, q => q
  | (_, d) :: ds, _, ⟨v, r, e, q, t⟩ => ⟨v, r, e, Is.mono h d v q, IsT.mono h ds r t⟩
theorem IsN.mono {F F' : Hp} (h : Same F F') : ∀ (ds : List (NK × D)) (vs : List (NK × Addr × Value)), IsN K F vs ds → IsN K F' vs ds
  | [], _, q => q
  | (_, d) :: ds, _, ⟨b, u, v, r, e, k, rv, q, t⟩ => ⟨b, u, v, r, e, k.mono h, rv, Is.mono h d v q, IsN.mono h ds r t⟩
theorem IsF.mono {F F' : Hp} (h : Same F F') : ∀ (ds : List (Str × D)) (vs : List (Str × V)), IsF K F vs ds → IsF K F' vs ds
  | [], _, q => q
  | (_, d) :: ds, _, ⟨v, r, e, q, t⟩ => ⟨v, r, e, Is.mono h d v q, IsF.mono h ds r t⟩
end
mutual
theorem foot_mono {F F' H : Hp} (h : Same F F') : ∀ (o : O) (a : Addr), OwAt K F H a o → foot F' a o = foot F a o
  | .ls _, _, _ => by unfold foot; rfl
  | .dk _, _, _ => by unfold foot; rfl
  | .dt _, _, _ => by unfold foot; rfl
  | .dd _, _, _ => by unfold foot; rfl
  | .ob c fs, a, q => by
    unfold OwAt at q
    obtain ⟨C, dx, vs, e, _, t⟩ := q
    unfold foot
    rw [h _ _ e, e]
    exact footF_mono h fs vs t
theorem footF_mono {F F' H : Hp} (h : Same F F') : ∀ (fs : Fs) (vs : List (Str × V)), FsAt K F H vs fs → footF F' vs fs = footF F vs fs
  | .nil, _, _ => by unfold footF; rfl
  | .fz f d r, vs, q => by
    unfold FsAt at q
    obtain ⟨v, us, rfl, _, t⟩ := q
    unfold footF
    exact footF_mono h r us t
  | .ow f o r, vs, q => by
    unfold FsAt at q
    obtain ⟨b, us, rfl, q, t⟩ := q
    unfold footF
    show foot F' b o ++ footF F' us r = foot F b o ++ footF F us r
    rw [foot_mono h o b q, footF_mono h r us t]
end
mutual
theorem OwAt.mono {F F' H H' : Hp} (h : Same F F') : ∀ (o : O) (a : Addr), (∀ b ∈ foot F a o, H' b = H b) → OwAt K F H a o → OwAt K F' H' a o
  | .ls ds, a, e, q => by
    unfold OwAt at q ⊢
    obtain ⟨vs, x, z, y⟩ := q
    exact ⟨vs, (e a (by unfold foot; simp)).trans x, z, IsL.mono h _ _ y⟩
  | .dk ds, a, e, q => by
    unfold OwAt at q ⊢
    obtain ⟨vs, x, z, y⟩ := q
    exact ⟨vs, (e a (by unfold foot; simp)).trans x, z, IsK.mono h _ _ y⟩
  | .dt ds, a, e, q => by
    unfold OwAt at q ⊢
    obtain ⟨vs, x, z, y⟩ := q
    exact ⟨vs, (e a (by unfold foot; simp)).trans x, z, IsT.mono h _ _ y⟩
  | .dd ds, a, e, q => by
    unfold OwAt at q ⊢
    obtain ⟨vs, x, n, z, y⟩ := q
    exact ⟨vs, (e a (by unfold foot; simp)).trans x, n, z, IsN.mono h _ _ y⟩
  | .ob c fs, a, e, q => by
    unfold OwAt at q ⊢
    obtain ⟨C, dx, vs, x, n, t⟩ := q
    refine ⟨C, dx, vs, h _ _ x, n, FsAt.mono h fs vs (fun b hb => e b ?_) t⟩
    unfold foot
    rw [x]; exact hb
theorem FsAt.mono {F F' H H' : Hp} (h : Same F F') : ∀ (fs : Fs) (vs : List (Str × V)), (∀ b ∈ footF F vs fs, H' b = H b) → FsAt K F H vs fs → FsAt K F' H' vs fs
  | .nil, _, _, q => by unfold FsAt at q ⊢; exact q
  | .fz f d r, vs, e, q => by
    unfold FsAt at q ⊢
    obtain ⟨v, us, rfl, q, t⟩ := q
    exact ⟨v, us, rfl, Is.mono h d v q, FsAt.mono h r us (fun b hb => e b (by unfold footF; exact hb)) t⟩
  | .ow f o r, vs, e, q => by
    unfold FsAt at q ⊢
    obtain ⟨b, us, rfl, q, t⟩ := q
    exact ⟨b, us, rfl, OwAt.mono h o b (fun c hc => e c (by unfold footF; exact List.mem_append_left _ hc)) q,
      FsAt.mono h r us (fun c hc => e c (by unfold footF; exact List.mem_append_right _ hc)) t⟩
end
mutual
/-- the cells are tracked, and may be written -/
theorem foot_mut {F H : Hp} : ∀ (o : O) (a : Addr), OwAt K F H a o → ∀ b ∈ foot F a o, ∃ u, H b = some u ∧ Mut (some u)
  | .ls _, a, q, b, hb => by unfold foot at hb; unfold OwAt at q; obtain ⟨vs, x, _⟩ := q; rw [List.mem_singleton.mp hb]; exact ⟨_, x, trivial⟩
  | .dk _, a, q, b, hb => by unfold foot at hb; unfold OwAt at q; obtain ⟨vs, x, _⟩ := q; rw [List.mem_singleton.mp hb]; exact ⟨_, x, trivial⟩
  | .dt _, a, q, b, hb => by unfold foot at hb; unfold OwAt at q; obtain ⟨vs, x, _⟩ := q; rw [List.mem_singleton.mp hb]; exact ⟨_, x, trivial⟩
  | .dd _, a, q, b, hb => by unfold foot at hb; unfold OwAt at q; obtain ⟨vs, x, _⟩ := q; rw [List.mem_singleton.mp hb]; exact ⟨_, x, trivial⟩
  | .ob c fs, a, q, b, hb => by
    unfold OwAt at q
    obtain ⟨C, dx, vs, x, _, t⟩ := q
    unfold foot at hb
    rw [x] at hb
    exact footF_mut fs vs t b hb
theorem footF_mut {F H : Hp} : ∀ (fs : Fs) (vs : List (Str × V)), FsAt K F H vs fs → ∀ b ∈ footF F vs fs, ∃ u, H b = some u ∧ Mut (some u)
  | .nil, _, _, b, hb => by unfold footF at hb; cases hb
  | .fz f d r, vs, q, b, hb => by
    unfold FsAt at q
    obtain ⟨v, us, rfl, q, t⟩ := q
    unfold footF at hb
    exact footF_mut r us t b hb
  | .ow f o r, vs, q, b, hb => by
    unfold FsAt at q
    obtain ⟨c, us, rfl, q, t⟩ := q
    unfold footF at hb
    rcases List.mem_append.mp hb with hb | hb
    · exact foot_mut o c q b hb
    · exact footF_mut r us t b hb
end
mutual
/-- frozen -/
theorem OwAt.freeze {F F' H : Hp} (h : Same F F') : ∀ (o : O) (a : Addr), (∀ b ∈ foot F a o, F' b = H b) → OwAt K F H a o → Is K F' (.ref a) o.d
  | .ls _, a, e, q => by unfold OwAt at q; obtain ⟨vs, x, z, y⟩ := q; unfold O.d; exact ⟨a, vs, rfl, (e a (by unfold foot; simp)).trans x, z, IsL.mono h _ _ y⟩
  | .dk _, a, e, q => by unfold OwAt at q; obtain ⟨vs, x, z, y⟩ := q; unfold O.d; exact ⟨a, vs, rfl, (e a (by unfold foot; simp)).trans x, z, IsK.mono h _ _ y⟩
  | .dt _, a, e, q => by unfold OwAt at q; obtain ⟨vs, x, z, y⟩ := q; unfold O.d; exact ⟨a, vs, rfl, (e a (by unfold foot; simp)).trans x, z, IsT.mono h _ _ y⟩
  | .dd _, a, e, q => by unfold OwAt at q; obtain ⟨vs, x, n, z, y⟩ := q; unfold O.d; exact ⟨a, vs, rfl, (e a (by unfold foot; simp)).trans x, n, z, IsN.mono h _ _ y⟩
  | .ob c fs, a, e, q => by
    unfold OwAt at q
    obtain ⟨C, dx, vs, x, n, t⟩ := q
    unfold O.d
    exact ⟨a, C, dx, vs, rfl, h _ _ x, n, FsAt.freeze h fs vs (fun b hb => e b (by unfold foot; rw [x]; exact hb)) t⟩
theorem FsAt.freeze {F F' H : Hp} (h : Same F F') : ∀ (fs : Fs) (vs : List (Str × V)), (∀ b ∈ footF F vs fs, F' b = H b) → FsAt K F H vs fs → IsF K F' vs fs.d
  | .nil, _, _, q => by unfold FsAt at q; unfold Fs.d; exact q
  | .fz f d r, vs, e, q => by
    unfold FsAt at q
    obtain ⟨v, us, rfl, q, t⟩ := q
    unfold Fs.d
    exact ⟨v, us, rfl, Is.mono h d v q, FsAt.freeze h r us (fun b hb => e b (by unfold footF; exact hb)) t⟩
  | .ow f o r, vs, e, q => by
    unfold FsAt at q
    obtain ⟨b, us, rfl, q, t⟩ := q
    unfold Fs.d
    exact ⟨.ref b, us, rfl, OwAt.freeze h o b (fun c hc => e c (by unfold footF; exact List.mem_append_left _ hc)) q,
      FsAt.freeze h r us (fun c hc => e c (by unfold footF; exact List.mem_append_right _ hc)) t⟩
end
/-- a leaf -/
def O.leaf : O → Bool
  | .ob _ _ => false
  | _ => true
theorem foot_leaf {F : Hp} {a : Addr} {o : O} (h : o.leaf = true) : foot F a o = [a] := by cases o <;> first | (unfold foot; rfl) | cases h
theorem foot_ls {F : Hp} {a : Addr} {xs : List D} : foot F a (.ls xs) = [a] := foot_leaf rfl
theorem foot_dk {F : Hp} {a : Addr} {xs : List (Key × D)} : foot F a (.dk xs) = [a] := foot_leaf rfl
theorem IsL.length {F : Hp} : ∀ {ds : List D} {vs : List V}, IsL K F vs ds → vs.length = ds.length
  | [], _, e => by rw [show _ = [] from e]; rfl
  | d :: ds, _, ⟨v, r, e, _, t⟩ => by rw [e, List.length_cons, List.length_cons, IsL.length t]
theorem IsL.get {F : Hp} : ∀ {ds : List D} {vs : List V} {i : Nat} {d : D}, IsL K F vs ds → ds[i]? = some d → ∃ v, vs[i]? = some v ∧ Is K F v d
  | [], _, _, _, _, h => by simp at h
  | d :: ds, _, 0, d', ⟨v, r, e, q, t⟩, h => by
    have : d = d' := by simpa using h
    subst this; subst e; exact ⟨v, rfl, q⟩
  | d :: ds, _, i + 1, d', ⟨v, r, e, q, t⟩, h => by
    subst e
    obtain ⟨u, h1, h2⟩ := IsL.get (i := i) t (by simpa using h)
    exact ⟨u, by simpa using h1, h2⟩
theorem IsL.append {F : Hp} : ∀ {ds es : List D} {vs us : List V}, IsL K F vs ds → IsL K F us es → IsL K F (vs ++ us) (ds ++ es)
  | [], _, _, _, e, q => by rw [show _ = [] from e]; exact q
  | d :: ds, es, _, us, ⟨v, r, e, q, t⟩, q' => by subst e; exact ⟨v, r ++ us, rfl, q, IsL.append t q'⟩
theorem IsL.take {F : Hp} : ∀ {ds : List D} {vs : List V} (n : Nat), IsL K F vs ds → IsL K F (vs.take n) (ds.take n)
  | _, _, 0, _ => by simp [IsL]
  | [], _, n + 1, e => by rw [show _ = [] from e]; exact rfl
  | d :: ds, _, n + 1, ⟨v, r, e, q, t⟩ => by subst e; exact ⟨v, r.take n, rfl, q, IsL.take n t⟩
theorem IsL.drop {F : Hp} : ∀ {ds : List D} {vs : List V} (n : Nat), IsL K F vs ds → IsL K F (vs.drop n) (ds.drop n)
  | _, _, 0, q => q
  | [], _, n + 1, e => by rw [show _ = [] from e]; exact rfl
  | d :: ds, _, n + 1, ⟨v, r, e, q, t⟩ => by subst e; exact IsL.drop n t
theorem IsL.reverse {F : Hp} : ∀ {ds : List D} {vs : List V}, IsL K F vs ds → IsL K F vs.reverse ds.reverse
  | [], _, e => by rw [show _ = [] from e]; exact rfl
  | d :: ds, _, ⟨v, r, e, q, t⟩ => by
    subst e; rw [List.reverse_cons, List.reverse_cons]
    exact IsL.append (IsL.reverse t) ⟨v, [], rfl, q, rfl⟩
theorem IsL.set {F : Hp} : ∀ {ds : List D} {vs : List V} (i : Nat) {v : V} {d : D}, IsL K F vs ds → Is K F v d → IsL K F (vs.set i v) (ds.set i d)
  | [], _, _, _, _, e, _ => by rw [show _ = [] from e]; exact rfl
  | d :: ds, _, 0, v', d', ⟨v, r, e, q, t⟩, q' => by subst e; exact ⟨v', r, rfl, q', t⟩
  | d :: ds, _, i + 1, v', d', ⟨v, r, e, q, t⟩, q' => by subst e; exact ⟨v, r.set i v', rfl, q, IsL.set i t q'⟩
theorem IsL.one {F : Hp} {v : V} {d : D} (q : Is K F v d) : IsL K F [v] [d] := ⟨v, [], rfl, q, rfl⟩
theorem IsL.replicate {F : Hp} {v : V} {d : D} (q : Is K F v d) : ∀ n : Nat, IsL K F (List.replicate n v) (List.replicate n d)
  | 0 => rfl
  | n + 1 => ⟨v, List.replicate n v, rfl, q, IsL.replicate q n⟩
theorem IsL.ints {F : Hp} : ∀ ns : List Int, IsL K F (ns.map V.int) (ns.map D.int)
  | [] => rfl
  | n :: ns => ⟨.int n, ns.map V.int, rfl, rfl, IsL.ints ns⟩
theorem IsL.ints' {F : Hp} : ∀ (ns : List Int) (vs : List V), IsL K F vs (ns.map D.int) → vs = ns.map V.int
  | [], _, e => e
  | n :: ns, _, ⟨v, r, e, q, t⟩ => by subst e; rw [show v = .int n from q, IsL.ints' ns r t]; rfl
end


/-! ### the state -/
/-- a def's entry: what must stand, what was frozen, all that was tracked; how classes of errors are called -/
structure Ent where
  B : Hp
  F0 : Hp
  H0 : Hp
  cls : Str → Value
  /-- the lent object; its cells -/
  lr : Option Addr := none
  la : List Addr := []
/-- the cells of a slot -/
def sf (F H : Hp) (v : V) (s : Sl) : List Addr := match v with
  | .ref a => (match s with
    | .fz _ => []
    | .ow _ o => foot F a o
    | .op _ fs => a :: (match H a with
      | some (.ins _ _ vs) => footF F vs fs
      | _ => []))
  | _ => []
/-- v is what the slot says -/
def SlAt (K : KW) (Y : Ent) (F H : Hp) (v : V) : Sl → Prop
  | .fz d => Is K F v d
  | .ow l o => ∃ a, v = .ref a ∧ OwAt K F H a o ∧ (foot F a o).Nodup ∧ (∀ b ∈ foot F a o, F b = none ∧ Y.B b = none ∧ (l = false → Y.H0 b = none) ∧ (Y.H0 b = none ∨ b ∈ Y.la)) ∧ (l = true → Y.lr = some a)
  | .op c fs => ∃ a C dx vs, v = .ref a ∧ H a = some (.ins C dx vs) ∧ PySem.W.nsIn K.K mainGlobals c = some (some (.ref C)) ∧ FsAt K F H vs fs ∧ (a :: footF F vs fs).Nodup ∧
      (∀ b ∈ a :: footF F vs fs, F b = none ∧ Y.B b = none ∧ (Y.H0 b = none ∨ b ∈ Y.la)) ∧ Y.lr = some a
structure Rel (K : KW) (Y : Ent) (σ : St) (H : Hp) (g : G) (F : Hp) : Prop where
  sub : Same F H
  base : Same Y.F0 F
  keep : Same Y.B H
  dom : ∀ a, Y.H0 a ≠ none → H a ≠ none
  fr : ∀ a, F a ≠ none → Y.F0 a ≠ none ∨ Y.H0 a = none ∨ a ∈ Y.la
  lad : ∀ a ∈ Y.la, Y.H0 a ≠ none
  len : σ.length = g.length
  sl : ∀ (i : Nat) (s : Sl), g[i]? = some (some s) → ∃ v, σ[i]? = some (some v) ∧ SlAt K Y F H v s
  inj : ∀ (i j : Nat) (s s' : Sl) (v v' : V), i ≠ j → g[i]? = some (some s) → g[j]? = some (some s') → σ[i]? = some (some v) → σ[j]? = some (some v') → ∀ b ∈ sf F H v s, b ∉ sf F H v' s'
/-- what a result is -/
def RV (K : KW) (Y : Ent) (σ : St) (F H : Hp) (g : G) (v : V) : R → Prop
  | .fz d => Is K F v d
  | .at i => σ[i]? = some (some v)
  | .sub i f => ∃ a C dx vs, σ[i]? = some (some (.ref a)) ∧ F a = some (.ins C dx vs) ∧ vs.lookup f = some v
  | .ow o => ∃ a, v = .ref a ∧ OwAt K F H a o ∧ (foot F a o).Nodup ∧ ∀ b ∈ foot F a o, F b = none ∧ Y.B b = none ∧ Y.H0 b = none ∧ ∀ (i : Nat) (s : Sl) (u : V), g[i]? = some (some s) → σ[i]? = some (some u) → b ∉ sf F H u s
/-- an exception's own dict -/
def XD (K : KW) (F H : Hp) (d : Option Addr) (p : List (Str × D)) : Prop :=
  match p with
  | [] => d = none
  | p => ∃ a fs, d = some a ∧ H a = some (.xd fs) ∧ ∀ f x, p.lookup f = some x → ∃ v, fs.lookup f = some v ∧ Is K F v x
/-- what is wanted of an evaluation's end -/
def Post {α : Type} (K : KW) (Y : Ent) (W : WX) (σ : St) (F : Hp) (J : α → G → Hp → Hp → Prop) : Rs α → Prop
  | .bad => False
  | .ok a g => ∀ H' F', Rel K Y σ H' g F' → Same F F' → J a g H' F'
  | .ex e g => ∀ d H' F', Rel K Y σ H' g F' → Same F F' → XD K F' H' d e.p → W (Y.cls e.c) d σ H'
theorem Post.bind {α β : Type} {K : KW} {Y : Ent} {W : WX} {σ : St} {F : Hp} {J : β → G → Hp → Hp → Prop} {x : Rs α} {k : α → G → Rs β} (h : Post K Y W σ F J (x.andThen k)) :
    Post K Y W σ F (fun a g _ F' => Post K Y W σ F' J (k a g)) x := by
  cases x with
  | bad => exact h
  | ex e g => exact h
  | ok a g =>
    intro H1 F1 r s
    have h' : Post K Y W σ F J (k a g) := h
    revert h'
    cases k a g with
    | bad => exact id
    | ok b g2 => exact fun h' H2 F2 r2 s2 => h' H2 F2 r2 (s.trans s2)
    | ex e g2 => exact fun h' d H2 F2 r2 s2 => h' d H2 F2 r2 (s.trans s2)
theorem Post.imp {α : Type} {K : KW} {Y : Ent} {W : WX} {σ : St} {F : Hp} {J J' : α → G → Hp → Hp → Prop} {x : Rs α} (h : Post K Y W σ F J x)
    (i : ∀ a g H' F', Rel K Y σ H' g F' → Same F F' → J a g H' F' → J' a g H' F') : Post K Y W σ F J' x := by
  cases x with
  | bad => exact h
  | ex e g => exact h
  | ok a g => exact fun H1 F1 r s => i a g H1 F1 r s (h H1 F1 r s)

def JV (K : KW) (Y : Ent) (σ : St) (Q : VK) : R → G → Hp → Hp → Prop := fun r g H' F' => ∀ v, RV K Y σ F' H' g v r → Q v H'
def JB (Q : Bool → Hp → Prop) : Bool → G → Hp → Hp → Prop := fun b _ H' _ => Q b H'
def RVs (K : KW) (Y : Ent) (σ : St) (F H : Hp) (g : G) : List V → List R → Prop
  | vs, [] => vs = []
  | vs, r :: rs => ∃ v us, vs = v :: us ∧ RV K Y σ F H g v r ∧ RVs K Y σ F H g us rs
def JA (K : KW) (Y : Ent) (σ : St) (Q : List V → Hp → Prop) : List R → G → Hp → Hp → Prop := fun rs g H' F' => ∀ vs, RVs K Y σ F' H' g vs rs → Q vs H'

def tD (K : KW) (Y : Ent) (W : WX) (f : M R) : TE := fun σ H Q => ∃ g F, Rel K Y σ H g F ∧ Post K Y W σ F (JV K Y σ Q) (f g)
def tT (K : KW) (Y : Ent) (W : WX) (f : M Bool) : TT := fun σ H Q => ∃ g F, Rel K Y σ H g F ∧ Post K Y W σ F (JB Q) (f g)
def tA (K : KW) (Y : Ent) (W : WX) (f : M (List R)) : TA := fun σ H Q => ∃ g F, Rel K Y σ H g F ∧ Post K Y W σ F (JA K Y σ Q) (f g)

/-- an expression computes f; a test; arguments -/
def DE (X : Cx) (Y : Ent) (W : WX) (e : Expr) (f : M R) : Prop := PE X e (tD X.kw Y W f)
def DT (X : Cx) (Y : Ent) (W : WX) (e : Expr) (f : M Bool) : Prop := PT X e (tT X.kw Y W f)
def DW (X : Cx) (Y : Ent) (W : WX) (e : Expr) (f : M Bool) : Prop := PW X e (tT X.kw Y W f)
def DA (X : Cx) (Y : Ent) (W : WX) (es : List Expr) (f : M (List R)) : Prop := PA X es (tA X.kw Y W f)

theorem pe_mono {X : Cx} {e : Expr} {t t' : TE} (h : PE X e t) (i : ∀ σ H Q, t' σ H Q → t σ H Q) : PE X e t' := ⟨fun pins s σ H Q I q => h.run pins s σ H Q I (i σ H Q q)⟩
theorem pt_mono {X : Cx} {e : Expr} {t t' : TT} (h : PT X e t) (i : ∀ σ H Q, t' σ H Q → t σ H Q) : PT X e t' := ⟨fun pins s σ H Q I q => h.run pins s σ H Q I (i σ H Q q)⟩
theorem pw_mono {X : Cx} {e : Expr} {t t' : TT} (h : PW X e t) (i : ∀ σ H Q, t' σ H Q → t σ H Q) : PW X e t' := ⟨fun w pins s σ H Q I q => h.run w pins s σ H Q I (i σ H Q q)⟩
theorem pa_mono {X : Cx} {e : List Expr} {t t' : TA} (h : PA X e t) (i : ∀ σ H Q, t' σ H Q → t σ H Q) : PA X e t' := ⟨fun p pins s σ H Q I q => h.run p pins s σ H Q I (i σ H Q q)⟩
theorem ps_mono {X : Cx} {e : Stmt} {t t' : TS} (h : PS X e t) (i : ∀ D σ H, t' D σ H → t D σ H) : PS X e t' := ⟨fun pins s σ H D I q => h.run pins s σ H D I (i D σ H q)⟩
theorem pss_mono {X : Cx} {e : List Stmt} {t t' : TS} (h : PSs X e t) (i : ∀ D σ H, t' D σ H → t D σ H) : PSs X e t' := ⟨fun pins s σ H D I q => h.run pins s σ H D I (i D σ H q)⟩
theorem pg_mono {X : Cx} {e : Expr} {t t' : TG} (h : PG X e t) (i : ∀ v σ H Q, t' v σ H Q → t v σ H Q) : PG X e t' := ⟨fun pins s σ H v u Q I r q => h.run pins s σ H v u Q I r (i v σ H Q q)⟩

section
variable {K : KW} {Y : Ent} {σ : St} {H H' F F' : Hp} {g : G}
theorem SlAt.mono {v : V} (s : Same F F') : ∀ {x : Sl}, (∀ b ∈ sf F H v x, H' b = H b ∧ F' b = none) → SlAt K Y F H v x → SlAt K Y F' H' v x ∧ sf F' H' v x = sf F H v x
  | .fz d, _, q => ⟨Is.mono s d v q, by unfold sf; cases v <;> rfl⟩
  | .ow l o, e, q => by
    obtain ⟨a, rfl, q, nd, n, r⟩ := q
    have ef := foot_mono s o a q
    refine ⟨⟨a, rfl, OwAt.mono s o a (fun b hb => (e b hb).1) q, by rw [ef]; exact nd, fun b hb => ?_, r⟩, ef⟩
    rw [ef] at hb
    exact ⟨(e b hb).2, (n b hb).2⟩
  | .op c fs, e, q => by
    obtain ⟨a, C, dx, vs, rfl, hi, hc, t, nd, n, r⟩ := q
    have e' : ∀ b ∈ a :: footF F vs fs, H' b = H b ∧ F' b = none := fun b hb => e b (by unfold sf; simp only; rw [hi]; exact hb)
    have ef := footF_mono s fs vs t
    have hi' : H' a = some (.ins C dx vs) := (e' a List.mem_cons_self).1.trans hi
    refine ⟨⟨a, C, dx, vs, rfl, hi', hc, FsAt.mono s fs vs (fun b hb => (e' b (List.mem_cons_of_mem _ hb)).1) t, by rw [ef]; exact nd, fun b hb => ?_, r⟩, ?_⟩
    · rw [ef] at hb
      exact ⟨(e' b hb).2, (n b hb).2⟩
    · unfold sf; simp only; rw [hi', hi]; simp only; rw [ef]
theorem SlAt.cells {v : V} : ∀ {x : Sl}, SlAt K Y F H v x → ∀ b ∈ sf F H v x, F b = none ∧ Y.B b = none ∧ (Y.H0 b = none ∨ b ∈ Y.la) ∧ ∃ u, H b = some u
  | .fz d, _, b, hb => by
    unfold sf at hb
    split at hb <;> cases hb
  | .ow l o, q, b, hb => by
    obtain ⟨a, rfl, q, nd, n, r⟩ := q
    obtain ⟨h1, h2, h3, h4⟩ := n b hb
    obtain ⟨u, h5, _⟩ := foot_mut o a q b hb
    exact ⟨h1, h2, h4, u, h5⟩
  | .op c fs, q, b, hb => by
    obtain ⟨a, C, dx, vs, rfl, hi, hc, t, nd, n, r⟩ := q
    have hb' : b ∈ a :: footF F vs fs := by unfold sf at hb; simp only at hb; rw [hi] at hb; exact hb
    obtain ⟨h1, h2, h3⟩ := n b hb'
    refine ⟨h1, h2, h3, ?_⟩
    rcases List.mem_cons.mp hb' with rfl | hb'
    · exact ⟨_, hi⟩
    · obtain ⟨u, h5, _⟩ := footF_mut fs vs t b hb'; exact ⟨u, h5⟩
theorem SlAt.cl {v : V} {x : Sl} (q : SlAt K Y F H v x) {b : Addr} (hb : b ∈ sf F H v x) : H b ≠ none := by obtain ⟨_, _, _, u, e⟩ := q.cells b hb; rw [e]; simp
/-- a slot's value -/
theorem Rel.at_ (r : Rel K Y σ H g F) {i : Nat} {s : Sl} (e : g[i]? = some (some s)) {v : V} (hv : σ[i]? = some (some v)) : SlAt K Y F H v s := by
  obtain ⟨u, h1, h2⟩ := r.sl i s e
  rw [hv] at h1; cases h1; exact h2
theorem Rel.ow (r : Rel K Y σ H g F) (i : Nat) (l : Bool) (o : O) (e : g[i]? = some (some (.ow l o))) : ∃ a, σ[i]? = some (some (.ref a)) ∧ OwAt K F H a o := by
  obtain ⟨v, h1, a, rfl, h2, _⟩ := r.sl i _ e
  exact ⟨a, h1, h2⟩
theorem FsAt.get {f : Str} {o : O} : ∀ {fs : Fs} {vs : List (Str × V)}, FsAt K F H vs fs → fs.get f = some (.inr o) → ∃ b, vs.lookup f = some (.ref b) ∧ OwAt K F H b o ∧ ∀ c ∈ foot F b o, c ∈ footF F vs fs
  | .nil, _, _, e => by unfold Fs.get at e; cases e
  | .fz k d r, vs, q, e => by
    unfold FsAt at q
    obtain ⟨v, us, rfl, _, t⟩ := q
    unfold Fs.get at e
    cases h : f == k with
    | true => rw [h] at e; cases e
    | false =>
      rw [h] at e
      obtain ⟨b, h1, h2, h3⟩ := FsAt.get t e
      refine ⟨b, ?_, h2, fun c hc => by unfold footF; exact h3 c hc⟩
      rw [List.lookup_cons, h]; exact h1
  | .ow k o' r, vs, q, e => by
    unfold FsAt at q
    obtain ⟨b', us, rfl, q, t⟩ := q
    unfold Fs.get at e
    cases h : f == k with
    | true =>
      rw [h] at e
      cases e
      exact ⟨b', by rw [List.lookup_cons, h], q, fun c hc => by unfold footF; exact List.mem_append_left _ hc⟩
    | false =>
      rw [h] at e
      obtain ⟨b, h1, h2, h3⟩ := FsAt.get t e
      refine ⟨b, ?_, h2, fun c hc => by unfold footF; exact List.mem_append_right _ (h3 c hc)⟩
      rw [List.lookup_cons, h]; exact h1
theorem FsAt.nodup {f : Str} {o : O} {b : Addr} : ∀ {fs : Fs} {vs : List (Str × V)}, FsAt K F H vs fs → (footF F vs fs).Nodup → fs.get f = some (.inr o) → vs.lookup f = some (.ref b) → (foot F b o).Nodup
  | .nil, _, _, _, e, _ => by unfold Fs.get at e; cases e
  | .fz k d r, vs, q, nd, e, el => by
    unfold FsAt at q
    obtain ⟨v, us, rfl, _, t⟩ := q
    unfold footF at nd
    unfold Fs.get at e
    cases h : f == k with
    | true => rw [h] at e; cases e
    | false =>
      rw [h] at e
      rw [List.lookup_cons, h] at el
      exact FsAt.nodup t nd e el
  | .ow k p r, vs, q, nd, e, el => by
    unfold FsAt at q
    obtain ⟨c, us, rfl, _, t⟩ := q
    unfold footF at nd
    obtain ⟨n1, n2, _⟩ := List.nodup_append.mp nd
    unfold Fs.get at e
    cases h : f == k with
    | true =>
      rw [h] at e; cases e
      rw [List.lookup_cons, h] at el
      cases el
      exact n1
    | false =>
      rw [h] at e
      rw [List.lookup_cons, h] at el
      exact FsAt.nodup t n2 e el
theorem footF_ow {F : Hp} {k k' : Str} {c : Addr} {p : O} {r : Fs} {us : List (Str × V)} : footF F ((k, V.ref c) :: us) (.ow k' p r) = foot F c p ++ footF F us r := by
  conv => lhs; unfold footF
  rfl
theorem put_fzN {k f : Str} {d : D} {r : Fs} {o : O} (h : (f == k) = false) : (Fs.fz k d r).put f o = .fz k d (r.put f o) := by
  show (if (f == k) = true then _ else _) = _
  rw [h]; exact if_neg Bool.false_ne_true
theorem put_owN {k f : Str} {p : O} {r : Fs} {o : O} (h : (f == k) = false) : (Fs.ow k p r).put f o = .ow k p (r.put f o) := by
  show (if (f == k) = true then _ else _) = _
  rw [h]; exact if_neg Bool.false_ne_true
theorem put_owY {k f : Str} {p : O} {r : Fs} {o : O} (h : (f == k) = true) : (Fs.ow k p r).put f o = .ow k o r := by
  show (if (f == k) = true then _ else _) = _
  rw [h]; exact if_pos rfl
/-- a field's object changes -/
theorem FsAt.put {f : Str} {o o' : O} {b : Addr} (sF : Same F F') (hb : OwAt K F' H' b o') (nd' : (foot F' b o').Nodup) (nf : ∀ x ∈ foot F' b o', x ∈ foot F b o ∨ H x = none) :
    ∀ {fs : Fs} {vs : List (Str × V)}, FsAt K F H vs fs → (footF F vs fs).Nodup → fs.get f = some (.inr o) → vs.lookup f = some (.ref b) → (∀ x ∈ footF F vs fs, x ∉ foot F b o → H' x = H x) →
      FsAt K F' H' vs (fs.put f o') ∧ (footF F' vs (fs.put f o')).Nodup ∧ ∀ x ∈ footF F' vs (fs.put f o'), (x ∈ footF F vs fs ∧ x ∉ foot F b o) ∨ x ∈ foot F' b o'
  | .nil, _, _, _, e, _, _ => by unfold Fs.get at e; cases e
  | .fz k d r, vs, q, nd, e, el, st => by
    unfold FsAt at q
    obtain ⟨v, us, rfl, qd, t⟩ := q
    unfold Fs.get at e
    cases h : f == k with
    | true => rw [h] at e; cases e
    | false =>
      rw [h] at e
      rw [List.lookup_cons, h] at el
      have nd0 : (footF F us r).Nodup := by unfold footF at nd; exact nd
      obtain ⟨h1, h2, h3⟩ := FsAt.put sF hb nd' nf t nd0 e el (fun x hx => st x (by unfold footF; exact hx))
      have ep := put_fzN (d := d) (r := r) (o := o') h
      rw [ep]
      refine ⟨?_, ?_, fun x hx => ?_⟩
      · unfold FsAt; exact ⟨v, us, rfl, Is.mono sF d v qd, h1⟩
      · unfold footF; exact h2
      · unfold footF at hx ⊢; exact h3 x hx
  | .ow k p r, vs, q, nd, e, el, st => by
    unfold FsAt at q
    obtain ⟨c, us, rfl, qc, t⟩ := q
    have ef : footF F ((k, V.ref c) :: us) (.ow k p r) = foot F c p ++ footF F us r := footF_ow
    rw [ef] at nd st
    obtain ⟨n1, n2, n3⟩ := List.nodup_append.mp nd
    unfold Fs.get at e
    cases h : f == k with
    | true =>
      rw [h] at e
      cases e
      rw [List.lookup_cons, h] at el
      cases el
      have ep := put_owY (p := o) (r := r) (o := o') h
      have out : ∀ x ∈ footF F us r, x ∉ foot F b o := fun x hx z => n3 x z x hx rfl
      have tm := FsAt.mono sF r us (H' := H') (fun x hx => st x (List.mem_append_right _ hx) (out x hx)) t
      have em := footF_mono sF r us t
      have ef' : footF F' ((k, V.ref b) :: us) (.ow k o' r) = foot F' b o' ++ footF F us r := by rw [← em]; exact footF_ow
      rw [ep, ef']
      refine ⟨?_, List.nodup_append.mpr ⟨nd', n2, fun x hx y hy z => ?_⟩, fun x hx => ?_⟩
      · unfold FsAt; exact ⟨b, us, rfl, hb, tm⟩
      · subst z
        rcases nf x hx with w | w
        · exact out x hy w
        · obtain ⟨u, hu, _⟩ := footF_mut r us t x hy; rw [w] at hu; cases hu
      · rcases List.mem_append.mp hx with hx | hx
        · exact .inr hx
        · exact .inl ⟨by rw [ef]; exact List.mem_append_right _ hx, out x hx⟩
    | false =>
      rw [h] at e
      rw [List.lookup_cons, h] at el
      obtain ⟨h1, h2, h3⟩ := FsAt.put sF hb nd' nf t n2 e el (fun x hx => st x (List.mem_append_right _ hx))
      have ep := put_owN (p := p) (r := r) (o := o') h
      obtain ⟨b', hl, _, hsub⟩ := t.get e
      have el : List.lookup f us = some (.ref b) := el
      rw [el] at hl; cases hl
      have out : ∀ x ∈ foot F c p, x ∉ foot F b o := fun x hx z => n3 x hx x (hsub x z) rfl
      have em := foot_mono sF p c qc
      have ef' : footF F' ((k, V.ref c) :: us) (.ow k p (r.put f o')) = foot F c p ++ footF F' us (r.put f o') := by rw [← em]; exact footF_ow
      rw [ep, ef']
      refine ⟨?_, List.nodup_append.mpr ⟨n1, h2, fun x hx y hy z => ?_⟩, fun x hx => ?_⟩
      · unfold FsAt; exact ⟨c, us, rfl, OwAt.mono sF p c (fun x hx => st x (List.mem_append_left _ hx) (out x hx)) qc, h1⟩
      · subst z
        rcases h3 x hy with w | w
        · exact n3 x hx x w.1 rfl
        · rcases nf x w with z | z
          · exact out x hx z
          · obtain ⟨u, hu, _⟩ := foot_mut p c qc x hx; rw [z] at hu; cases hu
      · rcases List.mem_append.mp hx with hx | hx
        · exact .inl ⟨by rw [ef]; exact List.mem_append_left _ hx, out x hx⟩
        · exact (h3 x hx).imp (fun w => ⟨by rw [ef]; exact List.mem_append_right _ w.1, w.2⟩) id
theorem Rel.fz (r : Rel K Y σ H g F) (i : Nat) (d : D) (e : g[i]? = some (some (.fz d))) : ∃ v, σ[i]? = some (some v) ∧ Is K F v d := r.sl i _ e
theorem Rel.own (r : Rel K Y σ H g F) {i : Nat} {l : Bool} {o : O} (e : g[i]? = some (some (.ow l o))) {v : V} (hv : σ[i]? = some (some v)) : ∃ a, v = .ref a ∧ OwAt K F H a o := by
  obtain ⟨a, h1, h2, _⟩ := r.at_ e hv
  exact ⟨a, h1, h2⟩
theorem none_of_dom (d : ∀ a, Y.H0 a ≠ none → H a ≠ none) {a : Addr} (h : H a = none) : Y.H0 a = none := by
  cases e : Y.H0 a with
  | none => rfl
  | some u => exact absurd h (d a (by rw [e]; simp))
/-- a step that keeps all that was tracked: new frozen things are new -/
structure Ext (F H F' H' : Hp) : Prop where
  hh : Same H H'
  ff : Same F F'
  fh : Same F' H'
  nw : ∀ a, F' a ≠ none → F a ≠ none ∨ H a = none
theorem Ext.refl (h : Same F H) : Ext F H F H := ⟨Same.refl _, Same.refl _, h, fun _ q => .inl q⟩
theorem Ext.none (x : Ext F H F' H') {a : Addr} (h1 : H a ≠ none) (h2 : F a = none) : F' a = none := by
  cases e : F' a with
  | none => rfl
  | some u => exact (x.nw a (by rw [e]; simp)).elim (fun q => absurd h2 q) (fun q => absurd q h1)
theorem Same.eq {H H' : Hp} (s : Same H H') {a : Addr} (h : H a ≠ none) : H' a = H a := by
  cases e : H a with
  | none => exact absurd e h
  | some u => exact s _ _ e
theorem Same.ne {H H' : Hp} (s : Same H H') {a : Addr} (h : H a ≠ none) : H' a ≠ none := by rw [Same.eq s h]; exact h
theorem Rel.ext (r : Rel K Y σ H g F) (x : Ext F H F' H') : Rel K Y σ H' g F' := by
  have st : ∀ (i : Nat) (s : Sl) (v : V), g[i]? = some (some s) → σ[i]? = some (some v) → SlAt K Y F' H' v s ∧ sf F' H' v s = sf F H v s := fun i s v e hv => by
    have q := r.at_ e hv
    exact q.mono x.ff fun b hb => ⟨Same.eq x.hh (q.cl hb), x.none (q.cl hb) (q.cells b hb).1⟩
  refine ⟨x.fh, r.base.trans x.ff, r.keep.trans x.hh, fun a h => Same.ne x.hh (r.dom a h), fun a h => ?_, r.lad, r.len, fun i s e => ?_, fun i j s s' v v' n e1 e2 h1 h2 b hb => ?_⟩
  · exact (x.nw a h).elim (r.fr a) fun q => .inr (.inl (none_of_dom r.dom q))
  · obtain ⟨v, h1, _⟩ := r.sl i s e
    exact ⟨v, h1, (st i s v e h1).1⟩
  · rw [(st i s v e1 h1).2] at hb
    rw [(st j s' v' e2 h2).2]
    exact r.inj i j s s' v v' n e1 e2 h1 h2 b hb
theorem upd_none {H : Hp} {a b : Addr} {o : HO} (h : upd H a o b = none) : b ≠ a ∧ H b = none := by
  by_cases e : b = a
  · subst e; rw [upd_same] at h; cases h
  · exact ⟨e, by rw [upd_ne e] at h; exact h⟩
theorem same_new {H : Hp} {p : Addr} {o : HO} (h : H p = none) : Same H (upd H p o) := fun b x e => by rw [upd_ne (ne_of_none e h)]; exact e
theorem get_set {g : G} {i j : Nat} {x y : Option Sl} (h : (g.set i x)[j]? = some y) : (j = i ∧ x = y) ∨ (j ≠ i ∧ g[j]? = some y) := by
  by_cases e : j = i
  · subst e
    by_cases l : j < g.length
    · rw [List.getElem?_set_self l] at h; exact .inl ⟨rfl, Option.some.inj h⟩
    · rw [List.getElem?_eq_none (by rw [List.length_set]; omega)] at h; cases h
  · rw [List.getElem?_set_ne (Ne.symm e)] at h; exact .inr ⟨e, h⟩
/-- the others, where one slot's object changes -/
theorem Rel.other (r : Rel K Y σ H g F) {i : Nat} {s : Sl} {v : V} (e : g[i]? = some (some s)) (hv : σ[i]? = some (some v)) (sH : ∀ b x, b ∉ sf F H v s → H b = some x → H' b = some x) (sF : Same F F')
    (nF : ∀ b, F' b ≠ none → F b ≠ none ∨ H b = none ∨ b ∈ sf F H v s) (j : Nat) (t : Sl) (u : V) (n : j ≠ i) (ej : g[j]? = some (some t)) (hu : σ[j]? = some (some u)) : SlAt K Y F' H' u t ∧ sf F' H' u t = sf F H u t := by
  have q := r.at_ ej hu
  refine q.mono sF fun b hb => ?_
  have hn : b ∉ sf F H v s := r.inj j i t s u v n ej e hu hv b hb
  obtain ⟨h1, _, _, x, hx⟩ := q.cells b hb
  refine ⟨by rw [sH b x hn hx, hx], ?_⟩
  cases e' : F' b with
  | none => rfl
  | some y =>
    rcases nF b (by rw [e']; simp) with z | z | z
    · exact absurd h1 z
    · rw [hx] at z; cases z
    · exact absurd z hn
/-- one slot's object changes, and things of no other slot come -/
theorem Rel.chgG (r : Rel K Y σ H g F) {i : Nat} {s s' : Sl} {v : V} (e : g[i]? = some (some s)) (hv : σ[i]? = some (some v)) (sH : ∀ b x, b ∉ sf F H v s → H b = some x → H' b = some x) (sF : Same F F') (sFH : Same F' H')
    (nF : ∀ b, F' b ≠ none → F b ≠ none ∨ H b = none ∨ b ∈ sf F H v s) (dm : ∀ b, H b ≠ none → H' b ≠ none) (new : SlAt K Y F' H' v s') (nf : ∀ b ∈ sf F' H' v s', b ∈ sf F H v s ∨ ∀ (j : Nat) (t : Sl) (u : V), j ≠ i → g[j]? = some (some t) → σ[j]? = some (some u) → b ∉ sf F H u t) : Rel K Y σ H' (g.set i (some s')) F' := by
  have own := r.at_ e hv
  have st := r.other e hv sH sF nF
  refine ⟨sFH, r.base.trans sF, fun b x hb => ?_, fun a h => dm a (r.dom a h), fun a h => ?_, r.lad, r.len.trans (List.length_set ..).symm, fun j t ej => ?_, fun j k t t' u u' n e1 e2 h1 h2 b hb => ?_⟩
  · refine sH b x (fun z => ?_) (r.keep _ _ hb)
    rw [(own.cells b z).2.1] at hb; cases hb
  · rcases nF a h with z | z | z
    · exact r.fr a z
    · exact .inr (.inl (none_of_dom r.dom z))
    · exact .inr (own.cells a z).2.2.1
  · rcases get_set ej with ⟨rfl, e'⟩ | ⟨n, e'⟩
    · rw [← Option.some.inj e']; exact ⟨v, hv, new⟩
    · obtain ⟨u, h1, _⟩ := r.sl j t e'
      exact ⟨u, h1, (st j t u n e' h1).1⟩
  · rcases get_set e1 with ⟨rfl, z1⟩ | ⟨n1, y1⟩
    · have z1 := Option.some.inj z1; subst z1
      rcases get_set e2 with ⟨rfl, e2⟩ | ⟨n2, y2⟩
      · exact absurd rfl n
      · rw [hv] at h1; cases h1
        rw [(st k t' u' n2 y2 h2).2]
        rcases nf b hb with z | z
        · exact r.inj j k s t' v u' n e y2 hv h2 b z
        · exact z k t' u' n2 y2 h2
    · rw [(st j t u n1 y1 h1).2] at hb
      rcases get_set e2 with ⟨rfl, z2⟩ | ⟨n2, y2⟩
      · have z2 := Option.some.inj z2; subst z2
        rw [hv] at h2; cases h2
        intro q
        rcases nf b q with z | z
        · exact r.inj j k t s u v n y1 e h1 hv b hb z
        · exact z j t u n1 y1 h1 hb
      · rw [(st k t' u' n2 y2 h2).2]
        exact r.inj j k t t' u u' n y1 y2 h1 h2 b hb
/-- one slot's object changes, and new things come -/
theorem Rel.chg (r : Rel K Y σ H g F) {i : Nat} {s s' : Sl} {v : V} (e : g[i]? = some (some s)) (hv : σ[i]? = some (some v)) (sH : ∀ b x, b ∉ sf F H v s → H b = some x → H' b = some x) (sF : Same F F') (sFH : Same F' H')
    (nF : ∀ b, F' b ≠ none → F b ≠ none ∨ H b = none ∨ b ∈ sf F H v s) (dm : ∀ b, H b ≠ none → H' b ≠ none) (new : SlAt K Y F' H' v s') (nf : ∀ b ∈ sf F' H' v s', b ∈ sf F H v s ∨ H b = none) : Rel K Y σ H' (g.set i (some s')) F' :=
  r.chgG e hv sH sF sFH nF dm new fun b hb => (nf b hb).imp id fun z j t u _ ej hu q => (r.at_ ej hu).cl q z
/-- fewer slots -/
theorem Rel.mask (r : Rel K Y σ H g F) {g' : G} {σ' : St} (hl : σ'.length = g'.length) (h : ∀ (j : Nat) (s : Sl), g'[j]? = some (some s) → g[j]? = some (some s) ∧ σ'[j]? = σ[j]?) : Rel K Y σ' H g' F :=
  ⟨r.sub, r.base, r.keep, r.dom, r.fr, r.lad, hl, fun i s e => by
    obtain ⟨h1, h2⟩ := h i s e
    rw [h2]; exact r.sl i s h1, fun i j s s' v v' n e1 e2 h1 h2 => by
    obtain ⟨k1, k2⟩ := h i s e1
    obtain ⟨k3, k4⟩ := h j s' e2
    rw [k2] at h1; rw [k4] at h2
    exact r.inj i j s s' v v' n k1 k3 h1 h2⟩
/-- a slot of new things -/
theorem Rel.putS (r : Rel K Y σ H g F) {i : Nat} {s : Sl} {v : V} (q : SlAt K Y F H v s) (hd : ∀ b ∈ sf F H v s, ∀ (j : Nat) (t : Sl) (u : V), j ≠ i → g[j]? = some (some t) → σ[j]? = some (some u) → b ∉ sf F H u t) : Rel K Y (σ.set i (some v)) H (g.set i (some s)) F := by
  have li : ∀ {j : Nat} {x : Sl}, (g.set i (some s))[j]? = some (some x) → (j = i ∧ s = x ∧ (σ.set i (some v))[j]? = some (some v)) ∨ (j ≠ i ∧ g[j]? = some (some x) ∧ (σ.set i (some v))[j]? = σ[j]?) := by
    intro j x ej
    rcases get_set ej with ⟨rfl, e'⟩ | ⟨n, e'⟩
    · have hlt : j < g.length := by
        have := (List.getElem?_eq_some_iff.mp ej).1
        rw [List.length_set] at this; exact this
      exact .inl ⟨rfl, Option.some.inj e', List.getElem?_set_self (by rw [r.len]; exact hlt)⟩
    · exact .inr ⟨n, e', List.getElem?_set_ne (Ne.symm n)⟩
  refine ⟨r.sub, r.base, r.keep, r.dom, r.fr, r.lad, by rw [List.length_set, List.length_set]; exact r.len, fun j x ej => ?_, fun j m x x' u u' n e1 e2 h1 h2 b hb => ?_⟩
  · rcases li ej with ⟨rfl, es, hs⟩ | ⟨n, e', hs⟩
    · subst es; exact ⟨v, hs, q⟩
    · rw [hs]; exact r.sl j x e'
  · rcases li e1 with ⟨rfl, es1, hs1⟩ | ⟨n1, e1', hs1⟩
    · subst es1
      rw [hs1] at h1; cases h1
      rcases li e2 with ⟨rfl, es2, hs2⟩ | ⟨n2, e2', hs2⟩
      · exact absurd rfl n
      · rw [hs2] at h2
        exact hd b hb m x' u' n2 e2' h2
    · rw [hs1] at h1
      rcases li e2 with ⟨rfl, es2, hs2⟩ | ⟨n2, e2', hs2⟩
      · subst es2
        rw [hs2] at h2; cases h2
        exact fun z => hd b z j x u n1 e1' h1 hb
      · rw [hs2] at h2
        exact r.inj j m x x' u u' n e1' e2' h1 h2 b hb
/-- cells are frozen -/
def frzF (F H : Hp) (L : List Addr) : Hp := fun b => if b ∈ L then H b else F b
theorem frzF_in {L : List Addr} {b : Addr} (h : b ∈ L) : frzF F H L b = H b := if_pos h
theorem frzF_out {L : List Addr} {b : Addr} (h : b ∉ L) : frzF F H L b = F b := if_neg h
theorem frzF_same {L : List Addr} (h : ∀ b ∈ L, F b = none) : Same F (frzF F H L) := fun b x e => by
  rw [frzF_out (fun z => by rw [h b z] at e; cases e)]; exact e
theorem frzF_sub {L : List Addr} (s : Same F H) : Same (frzF F H L) H := fun b x e => by
  by_cases z : b ∈ L
  · rw [frzF_in z] at e; exact e
  · rw [frzF_out z] at e; exact s _ _ e
theorem sf_fz {v : V} {d : D} : sf F H v (.fz d) = [] := by unfold sf; cases v <;> rfl
theorem Rel.freezeSlot (r : Rel K Y σ H g F) {i : Nat} {o : O} (e : g[i]? = some (some (.ow false o))) {v : V} (hv : σ[i]? = some (some v)) :
    ∃ F', Rel K Y σ H (g.set i (some (.fz o.d))) F' ∧ Same F F' ∧ Is K F' v o.d := by
  obtain ⟨a, rfl, q, nd, n, _⟩ := r.at_ e hv
  have s : Same F (frzF F H (foot F a o)) := frzF_same fun b hb => (n b hb).1
  have q' : Is K (frzF F H (foot F a o)) (.ref a) o.d := OwAt.freeze s o a (fun b hb => frzF_in hb) q
  refine ⟨_, r.chg e hv (fun _ _ _ h => h) s (frzF_sub r.sub) (fun b hb => ?_) (fun _ h => h) q' (fun b hb => ?_), s, q'⟩
  · by_cases z : b ∈ foot F a o
    · exact .inr (.inr z)
    · rw [frzF_out z] at hb; exact .inl hb
  · rw [sf_fz] at hb; cases hb
theorem Rel.freezeTmp (r : Rel K Y σ H g F) {o : O} {v : V} (hv : RV K Y σ F H g v (.ow o)) : ∃ F', Rel K Y σ H g F' ∧ Same F F' ∧ Is K F' v o.d := by
  obtain ⟨a, rfl, q, nd, n⟩ := hv
  have s : Same F (frzF F H (foot F a o)) := frzF_same fun b hb => (n b hb).1
  have q' : Is K (frzF F H (foot F a o)) (.ref a) o.d := OwAt.freeze s o a (fun b hb => frzF_in hb) q
  have st : ∀ (i : Nat) (x : Sl) (u : V), g[i]? = some (some x) → σ[i]? = some (some u) → SlAt K Y (frzF F H (foot F a o)) H u x ∧ sf (frzF F H (foot F a o)) H u x = sf F H u x := fun i x u e hu => by
    have q := r.at_ e hu
    refine q.mono s fun b hb => ⟨rfl, ?_⟩
    rw [frzF_out fun z => (n b z).2.2.2 i x u e hu hb]; exact (q.cells b hb).1
  refine ⟨_, ⟨frzF_sub r.sub, r.base.trans s, r.keep, r.dom, fun b hb => ?_, r.lad, r.len, fun i x e => ?_, fun i j x x' u u' ne e1 e2 h1 h2 b hb => ?_⟩, s, q'⟩
  · by_cases z : b ∈ foot F a o
    · exact .inr (.inl (n b z).2.2.1)
    · rw [frzF_out z] at hb; exact r.fr b hb
  · obtain ⟨u, h1, _⟩ := r.sl i x e
    exact ⟨u, h1, (st i x u e h1).1⟩
  · rw [(st i x u e1 h1).2] at hb
    rw [(st j x' u' e2 h2).2]
    exact r.inj i j x x' u u' ne e1 e2 h1 h2 b hb
/-- the cell of a slot's own leaf changes -/
theorem Rel.mut {i : Nat} {l : Bool} {o o' : O} {a : Addr} {u : HO} (r : Rel K Y σ H g F) (e : g[i]? = some (some (.ow l o))) (hv : σ[i]? = some (some (.ref a))) (lf : o.leaf = true) (lf' : o'.leaf = true) (q : OwAt K F (upd H a u) a o') :
    Rel K Y σ (upd H a u) (g.set i (some (.ow l o'))) F := by
  obtain ⟨a', ea, q0, nd, n, lr⟩ := r.at_ e hv
  cases ea
  have es : sf F H (.ref a) (.ow l o) = [a] := foot_leaf lf
  have ef : foot F a o = [a] := foot_leaf lf
  have ef' : foot F a o' = [a] := foot_leaf lf'
  obtain ⟨n1, n2, n3, n4⟩ := n a (by rw [ef]; simp)
  refine r.chg e hv (fun b x hb hx => ?_) (Same.refl _) (fun b x hb => ?_) (fun b hb => .inl hb) (fun b hb => ?_) ⟨a, rfl, q, by rw [ef']; simp, fun b hb => ?_, lr⟩ (fun b hb => .inl ?_)
  · rw [es, List.mem_singleton] at hb; rw [upd_ne hb]; exact hx
  · rw [upd_ne (fun z => by subst z; rw [n1] at hb; cases hb)]; exact r.sub _ _ hb
  · by_cases z : b = a
    · subst z; rw [upd_same]; simp
    · rw [upd_ne z]; exact hb
  · rw [ef', List.mem_singleton] at hb; subst hb; exact ⟨n1, n2, n3, n4⟩
  · rw [es]; have hb : b ∈ foot F a o' := hb; rw [ef'] at hb; exact hb
/-- what stands in a field of an own instance -/
theorem Rel.subAt {i : Nat} {l : Bool} {c f : Str} {fs : Fs} {o : O} {v : V} (r : Rel K Y σ H g F) (e : g[i]? = some (some (.ow l (.ob c fs)))) (hv : RV K Y σ F H g v (.sub i f)) (eo : fs.get f = some (.inr o)) :
    ∃ a C dx vs b, σ[i]? = some (some (.ref a)) ∧ v = .ref b ∧ F a = some (.ins C dx vs) ∧ vs.lookup f = some (.ref b) ∧ OwAt K F H b o ∧ (∀ x ∈ foot F b o, x ∈ footF F vs fs) ∧ FsAt K F H vs fs ∧ foot F a (.ob c fs) = footF F vs fs := by
  obtain ⟨a, C, dx, vs, k1, k2, k3⟩ := hv
  obtain ⟨a', e', q⟩ := r.own e k1
  cases e'
  unfold OwAt at q
  obtain ⟨C', dx', vs', e1, _, t⟩ := q
  rw [k2] at e1; cases e1
  obtain ⟨b, h1, h2, h3⟩ := t.get eo
  rw [k3] at h1; cases h1
  exact ⟨a, C, dx, vs, b, k1, rfl, k2, k3, h2, h3, t, by unfold foot; rw [k2]⟩
/-- .. changes -/
theorem Rel.putSub {i : Nat} {l : Bool} {c f : Str} {fs : Fs} {o o' : O} {b : Addr} (r : Rel K Y σ H g F) (e : g[i]? = some (some (.ow l (.ob c fs)))) (hv : RV K Y σ F H g (.ref b) (.sub i f)) (eo : fs.get f = some (.inr o))
    (sF : Same F F') (sFH : Same F' H') (sH : ∀ x y, x ∉ foot F b o → H x = some y → H' x = some y) (nF : ∀ x, F' x ≠ none → F x ≠ none ∨ H x = none ∨ x ∈ foot F b o) (dm : ∀ x, H x ≠ none → H' x ≠ none)
    (q : OwAt K F' H' b o') (nd : (foot F' b o').Nodup) (nf : ∀ x ∈ foot F' b o', F' x = none ∧ (x ∈ foot F b o ∨ H x = none)) : Rel K Y σ H' (g.set i (some (.ow l (.ob c (fs.put f o'))))) F' := by
  obtain ⟨a, C, dx, vs, b', k1, eb, k2, k3, k4, k5, t, ef⟩ := r.subAt e hv eo
  cases eb
  obtain ⟨a', ea, q0, nd0, n, lr⟩ := r.at_ e k1
  cases ea
  rw [ef] at nd0 n
  have es : sf F H (.ref a) (.ow l (.ob c fs)) = footF F vs fs := ef
  unfold OwAt at q0
  obtain ⟨C', dx', vs', e1, hc, _⟩ := q0
  rw [k2] at e1; cases e1
  obtain ⟨p1, p2, p3⟩ := t.put (H' := H') sF q nd (fun x hx => (nf x hx).2) nd0 eo k3 (fun x hx hn => by
    obtain ⟨u, hu, _⟩ := footF_mut fs vs t x hx
    rw [hu]; exact sH x u hn hu)
  have ef' : foot F' a (.ob c (fs.put f o')) = footF F' vs (fs.put f o') := by unfold foot; rw [sF _ _ k2]
  refine r.chg e k1 (fun x y hx hy => sH x y (fun z => hx (by rw [es]; exact k5 x z)) hy) sF sFH (fun x hx => (nF x hx).imp id fun z => z.imp id fun z => by rw [es]; exact k5 x z) dm ⟨a, rfl, ?_, by rw [ef']; exact p2, fun x hx => ?_, lr⟩ (fun x hx => ?_)
  · unfold OwAt; exact ⟨C, dx, vs, sF _ _ k2, hc, p1⟩
  · rw [ef'] at hx
    rcases p3 x hx with ⟨w, wn⟩ | w
    · obtain ⟨n1, n2, n3, n4⟩ := n x w
      refine ⟨?_, n2, n3, n4⟩
      cases e' : F' x with
      | none => rfl
      | some y =>
        rcases nF x (by rw [e']; simp) with z | z | z
        · exact absurd n1 z
        · obtain ⟨u, hu, _⟩ := footF_mut fs vs t x w; rw [z] at hu; cases hu
        · exact absurd z wn
    · obtain ⟨m1, m2⟩ := nf x w
      rcases m2 with z | z
      · obtain ⟨n1, n2, n3, n4⟩ := n x (k5 x z)
        exact ⟨m1, n2, n3, n4⟩
      · refine ⟨m1, ?_, fun _ => none_of_dom r.dom z, .inl (none_of_dom r.dom z)⟩
        cases e' : Y.B x with
        | none => rfl
        | some y => rw [r.keep _ _ e'] at z; cases z
  · have hx : x ∈ foot F' a (.ob c (fs.put f o')) := hx
    rw [ef'] at hx
    rw [es]
    rcases p3 x hx with ⟨w, _⟩ | w
    · exact .inl w
    · exact (nf x w).2.imp (k5 x) id
/-- .. a leaf's cell -/
theorem Rel.mutSub {i : Nat} {l : Bool} {c f : Str} {fs : Fs} {o o' : O} {b : Addr} {u : HO} (r : Rel K Y σ H g F) (e : g[i]? = some (some (.ow l (.ob c fs)))) (hv : RV K Y σ F H g (.ref b) (.sub i f)) (eo : fs.get f = some (.inr o)) (lf : o.leaf = true) (lf' : o'.leaf = true)
    (q : OwAt K F (upd H b u) b o') : Rel K Y σ (upd H b u) (g.set i (some (.ow l (.ob c (fs.put f o'))))) F := by
  obtain ⟨a, C, dx, vs, b', k1, eb, k2, k3, k4, k5, t, ef⟩ := r.subAt e hv eo
  cases eb
  have ef1 : foot F b o = [b] := foot_leaf lf
  have ef2 : foot F b o' = [b] := foot_leaf lf'
  have n1 : F b = none := ((r.at_ e k1).cells b (show b ∈ foot F a (.ob c fs) by rw [ef]; exact k5 b (by rw [ef1]; simp))).1
  refine r.putSub e hv eo (Same.refl _) (fun x y hx => ?_) (fun x y hx hy => ?_) (fun x hx => .inl hx) (fun x hx => ?_) q (by rw [ef2]; simp) (fun x hx => ?_)
  · rw [upd_ne (fun z => by subst z; rw [n1] at hx; cases hx)]; exact r.sub _ _ hx
  · rw [ef1, List.mem_singleton] at hx; rw [upd_ne hx]; exact hy
  · by_cases z : x = b
    · subst z; rw [upd_same]; simp
    · rw [upd_ne z]; exact hx
  · rw [ef2, List.mem_singleton] at hx; subst hx; exact ⟨n1, .inl (by rw [ef1]; simp)⟩
end

/-! ### freezing on the way -/
/-- an owned new object is frozen -/
def pkR : R → M R := fun r g => match r with
  | .ow o => .ok (.fz o.d) g
  | r => .ok r g
def pk (f : M R) : M R := mb f pkR
/-- .. a slot's object too -/
def escR : R → M R := fun r g => match r with
  | .ow o => .ok (.fz o.d) g
  | .fz d => .ok (.fz d) g
  | .at i => match g[i]? with
    | some (some (.ow false o)) => .ok (.fz o.d) (g.set i (some (.fz o.d)))
    | some (some (.fz d)) => .ok (.fz d) g
    | _ => .bad
  | .sub _ _ => .bad
def esc (f : M R) : M R := mb f escR
theorem Post.pkR {K : KW} {Y : Ent} {W : WX} {σ : St} {H F : Hp} {Q : VK} {r : R} {g : G} {v : V} (h : Post K Y W σ F (JV K Y σ Q) (pkR r g)) (rl : Rel K Y σ H g F) (hv : RV K Y σ F H g v r) : Q v H := by
  cases r with
  | fz d => exact h H F rl (Same.refl _) v hv
  | «at» i => exact h H F rl (Same.refl _) v hv
  | sub i f => exact h H F rl (Same.refl _) v hv
  | ow o =>
    obtain ⟨F', r', s', q⟩ := rl.freezeTmp hv
    exact h H F' r' s' v q
theorem Post.escR {K : KW} {Y : Ent} {W : WX} {σ : St} {H F : Hp} {Q : VK} {r : R} {g : G} {v : V} (h : Post K Y W σ F (JV K Y σ Q) (escR r g)) (rl : Rel K Y σ H g F) (hv : RV K Y σ F H g v r) : Q v H := by
  cases r with
  | fz d => exact h H F rl (Same.refl _) v hv
  | sub i f => exact h.elim
  | ow o =>
    obtain ⟨F', r', s', q⟩ := rl.freezeTmp hv
    exact h H F' r' s' v q
  | «at» i =>
    unfold DL.escR at h
    simp only at h
    split at h
    · rename_i o e
      obtain ⟨F', r', s', q⟩ := rl.freezeSlot e hv
      exact h H F' r' s' v q
    · rename_i d e
      obtain ⟨u, h1, h2⟩ := rl.fz i d e
      rw [show σ[i]? = some (some v) from hv] at h1
      cases h1
      exact h H F rl (Same.refl _) v h2
    · exact h.elim
theorem de_pk {X : Cx} {Y : Ent} {W : WX} {e : Expr} {f : M R} (h : DE X Y W e f) : DE X Y W e (pk f) :=
  pe_mono h fun σ H Q ⟨g, F, r, p⟩ => ⟨g, F, r, p.bind.imp fun a g' H' F' r' s' q v hv => q.pkR r' hv⟩
theorem de_esc {X : Cx} {Y : Ent} {W : WX} {e : Expr} {f : M R} (h : DE X Y W e f) : DE X Y W e (esc f) :=
  pe_mono h fun σ H Q ⟨g, F, r, p⟩ => ⟨g, F, r, p.bind.imp fun a g' H' F' r' s' q v hv => q.escR r' hv⟩
end DL

namespace DL
open PySem PySem.Spec L2

/-! ### contents and results -/
def cont (g : G) : R → Option D
  | .fz d => some d
  | .at i => match g[i]? with
    | some (some (.ow _ o)) => some o.d
    | some (some (.fz d)) => some d
    | _ => none
  | .sub i f => match g[i]? with
    | some (some (.ow _ (.ob _ fs))) => (match fs.get f with
      | some (.inr o) => some o.d
      | _ => none)
    | _ => none
  | .ow _ => none
/-- the value v holds d now -/
def CV (K : KW) (F H : Hp) (v : V) (d : D) : Prop := Is K F v d ∨ ∃ a o, v = .ref a ∧ OwAt K F H a o ∧ o.d = d
def CVs (K : KW) (F H : Hp) : List V → List D → Prop
  | vs, [] => vs = []
  | vs, d :: ds => ∃ v us, vs = v :: us ∧ CV K F H v d ∧ CVs K F H us ds
def RP (K : KW) (F H : Hp) (Q : VK) : R → Prop
  | .fz d => ∀ v H' F', Ext F H F' H' → Is K F' v d → Q v H'
  | .ow o => ∀ a H' F', Ext F H F' H' → OwAt K F' H' a o → (foot F' a o).Nodup → (∀ b ∈ foot F' a o, F' b = none ∧ H b = none) → Q (.ref a) H'
  | .at _ => False
  | .sub _ _ => False
section
variable {K : KW} {Y : Ent} {σ : St} {H F F' : Hp} {g : G} {W : WX} {Q : VK}
theorem Rel.cv (r : Rel K Y σ H g F) {v : V} {x : R} {d : D} (hv : RV K Y σ F H g v x) (h : cont g x = some d) : CV K F H v d := by
  cases x with
  | fz e => exact .inl (by rw [show e = d from Option.some.inj h] at hv; exact hv)
  | ow o => cases h
  | «at» i =>
    unfold cont at h
    simp only at h
    split at h
    · rename_i l o e
      obtain ⟨a, rfl, q⟩ := r.own e hv
      exact .inr ⟨a, o, rfl, q, Option.some.inj h⟩
    · rename_i e' e
      obtain ⟨u, h1, h2⟩ := r.fz i e' e
      rw [show σ[i]? = some (some v) from hv] at h1
      cases h1
      exact .inl (by rw [← Option.some.inj h]; exact h2)
    · cases h
  | sub i f =>
    unfold cont at h
    simp only at h
    split at h
    · rename_i l c fs e
      split at h
      · rename_i o eo
        obtain ⟨a, C, dx, vs, k1, k2, k3⟩ := hv
        obtain ⟨a', e', q⟩ := r.own e k1
        cases e'
        unfold OwAt at q
        obtain ⟨C', dx', vs', e1, _, t⟩ := q
        rw [k2] at e1; cases e1
        obtain ⟨b, h1, h2, _⟩ := t.get eo
        rw [k3] at h1; cases h1
        exact .inr ⟨b, o, rfl, h2, Option.some.inj h⟩
      · cases h
    · cases h
theorem RV.keep {H' : Hp} {g' : G} {v : V} {x : R} (s : Same F F') (h : RV K Y σ F H g v x) (hc : ∀ o, x ≠ .ow o) : RV K Y σ F' H' g' v x := by
  cases x with
  | fz e => exact Is.mono s _ _ h
  | «at» i => exact h
  | sub i f => obtain ⟨a, C, dx, vs, h1, h2, h3⟩ := h; exact ⟨a, C, dx, vs, h1, s _ _ h2, h3⟩
  | ow o => exact absurd rfl (hc o)
theorem cont_ne {x : R} {d : D} (h : cont g x = some d) : ∀ o, x ≠ .ow o := fun o e => by subst e; cases h
theorem Post.rp {r : R} (hr : (match r with | .at _ => False | .sub _ _ => False | _ => True)) (rl : Rel K Y σ H g F) (p : ∀ H' F', Rel K Y σ H' g F' → Same F F' → JV K Y σ Q r g H' F') : RP K F H Q r := by
  cases r with
  | fz d => exact fun v H' F' x q => p H' F' (rl.ext x) x.ff v q
  | «at» i => exact hr.elim
  | sub i f => exact hr.elim
  | ow o =>
    refine fun a H' F' x q nd h1 => p H' F' (rl.ext x) x.ff (.ref a) ⟨a, rfl, q, nd, fun b hb => ?_⟩
    obtain ⟨h2, h3⟩ := h1 b hb
    refine ⟨h2, ?_, none_of_dom rl.dom h3, fun i s u e hu z => ?_⟩
    · cases e : Y.B b with
      | none => rfl
      | some u => rw [rl.keep _ _ e] at h3; cases h3
    · have q := rl.at_ e hu
      rw [(q.mono x.ff fun c hc => ⟨Same.eq x.hh (q.cl hc), x.none (q.cl hc) (q.cells c hc).1⟩).2] at z
      exact q.cl z h3
theorem RP.now {v : V} {d : D} (s : Same F H) (h : RP K F H Q (.fz d)) (q : Is K F v d) : Q v H := h v H F (Ext.refl s) q
theorem none_of_same {a : Addr} (s : Same F H) (h : H a = none) : F a = none := by
  cases e : F a with
  | none => rfl
  | some u => rw [s _ _ e] at h; cases h
theorem ext_tup {p : Addr} {vs : List V} (s : Same F H) (hp : H p = none) : Ext F H (upd F p (.tup vs)) (upd H p (.tup vs)) :=
  ⟨same_new hp, same_new (none_of_same s hp), fun b o e => by
    by_cases q : b = p
    · subst q; rw [upd_same] at e ⊢; exact e
    · rw [upd_ne q] at e ⊢; exact s _ _ e, fun a h => by
    by_cases q : a = p
    · subst q; exact .inr hp
    · rw [upd_ne q] at h; exact .inl h⟩
theorem RP.tup {p : Addr} {vs : List V} {ds : List D} (s : Same F H) (h : RP K F H Q (.fz (.tup ds))) (q : IsL K F vs ds) (hz : ds.length ≤ sizeLine) (hp : H p = none) : Q (.ref p) (upd H p (.tup vs)) :=
  h (.ref p) _ _ (ext_tup s hp) ⟨p, vs, rfl, SqT.of upd_same, hz, IsL.mono (same_new (none_of_same s hp)) _ _ q⟩
theorem ext_own {p : Addr} {u : HO} (s : Same F H) (hp : H p = none) : Ext F H F (upd H p u) :=
  ⟨same_new hp, Same.refl _, s.trans (same_new hp), fun a h => .inl h⟩
theorem RP.ls {p : Addr} {vs : List V} {ds : List D} (s : Same F H) (h : RP K F H Q (.ow (.ls ds))) (q : IsL K F vs ds) (hz : ds.length ≤ sizeLine) (hp : H p = none) : Q (.ref p) (upd H p (.lst vs)) :=
  h p _ _ (ext_own s hp) ⟨vs, upd_same, hz, q⟩ (by rw [foot_ls]; simp) (fun b hb => by rw [foot_ls, List.mem_singleton] at hb; subst hb; exact ⟨none_of_same s hp, hp⟩)
/-! inversions -/
theorem CV.int {v : V} {i : Int} (h : CV K F H v (.int i)) : v = .int i := by
  rcases h with h | ⟨a, o, _, _, e⟩
  · exact h
  · cases o <;> cases e
theorem CV.bl {v : V} {i : Bool} (h : CV K F H v (.bl i)) : v = .bl i := by
  rcases h with h | ⟨a, o, _, _, e⟩
  · exact h
  · cases o <;> cases e
theorem CV.non {v : V} (h : CV K F H v .non) : v = .non := by
  rcases h with h | ⟨a, o, _, _, e⟩
  · exact h
  · cases o <;> cases e
theorem CV.str {v : V} {z : Str} (h : CV K F H v (.str z)) : v = .str z ∧ z.length ≤ sizeLine := by
  rcases h with h | ⟨a, o, _, _, e⟩
  · exact h
  · cases o <;> cases e
theorem CV.tup {v : V} {ds : List D} (h : CV K F H v (.tup ds)) : ∃ a vs, v = .ref a ∧ SqT K F a vs ∧ ds.length ≤ sizeLine ∧ IsL K F vs ds := by
  rcases h with h | ⟨a, o, _, _, e⟩
  · exact h
  · cases o <;> cases e
theorem CV.scr {v : V} {ns : List Int} (h : CV K F H v (.scr ns)) : ∃ a, v = .ref a ∧ SqL K F a (ns.map V.int) ∧ ns.length ≤ sizeLine := by
  rcases h with h | ⟨a, o, _, _, e⟩
  · exact h
  · cases o <;> cases e
theorem CV.lst {v : V} {ds : List D} (s : Same F H) (h : CV K F H v (.lst ds)) : ∃ a vs, v = .ref a ∧ H a = some (.lst vs) ∧ ds.length ≤ sizeLine ∧ IsL K F vs ds := by
  rcases h with h | ⟨a, o, e1, q, e⟩
  · obtain ⟨a, vs, e, q, z, t⟩ := h
    exact ⟨a, vs, e, s _ _ q, z, t⟩
  · cases o with
    | ls xs => cases e; obtain ⟨vs, h1, h2, h3⟩ := q; exact ⟨a, vs, e1, h1, h2, h3⟩
    | dk xs => cases e
    | dt xs => cases e
    | dd xs => cases e
    | ob c fs => cases e
theorem CVs.one {vs : List V} {d : D} (h : CVs K F H vs [d]) : ∃ v, vs = [v] ∧ CV K F H v d := by
  obtain ⟨v, us, rfl, q, e⟩ := h
  exact ⟨v, by rw [show us = [] from e], q⟩
theorem CVs.two {vs : List V} {d e : D} (h : CVs K F H vs [d, e]) : ∃ v u, vs = [v, u] ∧ CV K F H v d ∧ CV K F H u e := by
  obtain ⟨v, us, rfl, q, t⟩ := h
  obtain ⟨u, rfl, q2⟩ := CVs.one t
  exact ⟨v, u, rfl, q, q2⟩
end

/-! ### names, constants -/
def eVar (i : Nat) : M R := fun g => match g[i]? with
  | some (some (.fz d)) => .ok (.fz d) g
  | some (some (.ow _ _)) => .ok (.at i) g
  | some (some (.op _ _)) => .ok (.at i) g
  | _ => .bad
def eC (d : D) : M R := fun g => .ok (.fz d) g
section
variable {X : Cx} {Y : Ent} {W : WX} {pos : Pos}
theorem de_var {i : Nat} {x : Str} (hN : X.N[i]? = some x := by rfl) (hv : Vis X.env.scope x := by first | exact Or.inl rfl | exact Or.inr (Or.inl rfl) | exact Or.inr (Or.inr rfl))
    (hd : (x == ("__debug__" : Str)) = false := by decide) (hcd : (x == ("__classdict__" : Str)) = false := by decide) : DE X Y W (.Name x pos) (eVar i) := by
  refine pe_mono (pe_var hN hv hd hcd) fun σ H Q ⟨g, F, r, p⟩ => ?_
  unfold eVar at p
  split at p
  · rename_i d e
    obtain ⟨v, h1, h2⟩ := r.fz i d e
    exact ⟨v, h1, p H F r (Same.refl _) v h2⟩
  · rename_i l o e
    obtain ⟨a, h1, h2⟩ := r.ow i l o e
    exact ⟨_, h1, p H F r (Same.refl _) _ h1⟩
  · rename_i c fs e
    obtain ⟨v, h1, _⟩ := r.sl i _ e
    exact ⟨_, h1, p H F r (Same.refl _) _ h1⟩
  · exact p.elim
theorem de_const {e : Expr} {v : V} {d : D} (h : PE X e (tC v)) (q : ∀ F, Is X.kw F v d) : DE X Y W e (eC d) :=
  pe_mono h fun σ H Q ⟨g, F, r, p⟩ => p H F r (Same.refl _) v (q F)
theorem de_int {i : Int} {j : Nat} : DE X Y W (.Constant (.int i) j pos) (eC (.int i)) := de_const pe_int fun _ => rfl
theorem de_bl {b : Bool} {j : Nat} : DE X Y W (.Constant (.bool b) j pos) (eC (.bl b)) := de_const pe_bl fun _ => rfl
theorem de_str {x : Str} {j : Nat} (h : x.length ≤ sizeLine := by decide) : DE X Y W (.Constant (.str x) j pos) (eC (.str x)) := de_const pe_str fun _ => ⟨rfl, h⟩
/-- a constant of the module -/
theorem de_glob {x : Str} {v : V} {u : Value} {d : D} (hg : Gl X x) (hm : X.mg x = some u) (r : RelV v u) (q : ∀ F, Is X.kw F v d) (hd : (x == ("__debug__" : Str)) = false := by decide) : DE X Y W (.Name x pos) (eC d) :=
  de_const (pe_glob hg hm r hd) q

/-! ### operators -/
def OpD (X : Cx) (f : Value → Value → Sem Value) (op : D → D → Option R) : Prop :=
  OpR X f fun x y H Q => ∃ F a b r, Same F H ∧ CV X.kw F H x a ∧ CV X.kw F H y b ∧ op a b = some r ∧ RP X.kw F H Q r
def done : Option R → M R := fun o g => match o with
  | some (.fz d) => .ok (.fz d) g
  | some (.ow o) => .ok (.ow o) g
  | _ => .bad
theorem Post.done {K : KW} {σ : St} {H F : Hp} {Q : VK} {g : G} {o : Option R} (h : Post K Y W σ F (JV K Y σ Q) (done o g)) (rl : Rel K Y σ H g F) : ∃ r, o = some r ∧ RP K F H Q r := by
  unfold DL.done at h
  split at h
  · exact ⟨_, rfl, Post.rp trivial rl h⟩
  · exact ⟨_, rfl, Post.rp trivial rl h⟩
  · exact h.elim
def op2 (op : D → D → Option R) (x y : R) : M R := fun g => match cont g x, cont g y with
  | some a, some b => done (op a b) g
  | _, _ => .bad
theorem Post.op2 {K : KW} {σ : St} {H F : Hp} {Q : VK} {g : G} {op : D → D → Option R} {x y : R} (h : Post K Y W σ F (JV K Y σ Q) (op2 op x y g)) (rl : Rel K Y σ H g F) :
    ∃ a b r, cont g x = some a ∧ cont g y = some b ∧ op a b = some r ∧ RP K F H Q r := by
  unfold DL.op2 at h
  split at h
  · rename_i a b e1 e2
    obtain ⟨r, h1, h2⟩ := Post.done h rl
    exact ⟨a, b, r, e1, e2, h1, h2⟩
  · exact h.elim
def eB (op : D → D → Option R) (f k : M R) : M R := mb (pk f) fun x => mb (pk k) fun y => op2 op x y
theorem two_args {a b : Expr} {f k : M R} (ha : DE X Y W a f) (hb : DE X Y W b k) {op : D → D → Option R} {σ : St} {H : Hp} {Q : VK} (h : tD X.kw Y W (eB op f k) σ H Q) :
    tD X.kw Y W (pk f) σ H fun x H1 => tD X.kw Y W (pk k) σ H1 fun y H2 => ∃ F a b r, Same F H2 ∧ CV X.kw F H2 x a ∧ CV X.kw F H2 y b ∧ op a b = some r ∧ RP X.kw F H2 Q r := by
  obtain ⟨g, F, rl, p⟩ := h
  refine ⟨g, F, rl, (p.bind).imp fun x g1 H1 F1 r1 s1 q v hv => ⟨g1, F1, r1, (q.bind).imp fun y g2 H2 F2 r2 s2 q2 u hu => ?_⟩⟩
  obtain ⟨da, db, r, e1, e2, h1, h2⟩ := Post.op2 q2 r2
  exact ⟨F2, da, db, r, r2.sub, r2.cv (hv.keep s2 (cont_ne e1)) e1, r2.cv hu e2, h1, h2⟩
theorem de_bin {a b : Expr} {op : Operator} {bop : D → D → Option R} {f k : M R} (ho : OpD X (binaryOp op) bop) (ha : DE X Y W a f) (hb : DE X Y W b k) : DE X Y W (.BinOp a op b pos) (eB bop f k) :=
  pe_mono (pe_op ho (de_pk ha) (de_pk hb)) fun σ H Q h => two_args ha hb h
theorem de_cmp {a b : Expr} {op : CmpOp} {bop : D → D → Option R} {f k : M R} (ho : OpD X (compareOp op) bop) (ha : DE X Y W a f) (hb : DE X Y W b k) (hm : behindInMarks op b = false) : DE X Y W (.Compare a [op] [b] pos) (eB bop f k) :=
  pe_mono (pe_cmpR ho (de_pk ha) (de_pk hb) hm) fun σ H Q h => two_args ha hb h
/-- a value that is a bool, as a test -/
def toB (r : R) : M Bool := fun g => match r with
  | .fz (.bl b) => .ok b g
  | _ => .bad
def eTest (f : M R) : M Bool := mb f toB
theorem Post.toB {K : KW} {σ : St} {H F : Hp} {Q : Bool → Hp → Prop} {g : G} {r : R} (h : Post K Y W σ F (JB Q) (toB r g)) (rl : Rel K Y σ H g F) : ∃ b, r = .fz (.bl b) ∧ Q b H := by
  unfold DL.toB at h
  split at h
  · exact ⟨_, rfl, h H F rl (Same.refl _)⟩
  · exact h.elim
theorem test_of {f : M R} {σ : St} {H : Hp} {Q : Bool → Hp → Prop} {K : KW} (h : tT K Y W (eTest f) σ H Q) : tD K Y W f σ H fun x H' => ∃ c, x = .bl c ∧ Q c H' := by
  obtain ⟨g, F, rl, p⟩ := h
  refine ⟨g, F, rl, (p.bind).imp fun x g1 H1 F1 r1 s1 q v hv => ?_⟩
  obtain ⟨b, rfl, q2⟩ := Post.toB q r1
  exact ⟨b, hv, q2⟩
theorem dt_cmp {a b : Expr} {op : CmpOp} {bop : D → D → Option R} {f k : M R} (ho : OpD X (compareOp op) bop) (ha : DE X Y W a f) (hb : DE X Y W b k) (hm : behindInMarks op b = false) : DT X Y W (.Compare a [op] [b] pos) (eTest (eB bop f k)) :=
  pt_mono (pt_cmpR ho (de_pk ha) (de_pk hb) hm) fun σ H Q h => two_args ha hb (test_of h)
/-- a op b op' c -/
def eCh (op op' : D → D → Option R) (f k j : M R) : M R := mb (pk f) fun x => mb (pk k) fun y => mb (op2 op x y) fun z => mb (toB z) fun t => if t = true then mb (pk j) fun w => op2 op' y w else eC (.bl false)
theorem chain_args {a b c : Expr} {f k j : M R} (ha : DE X Y W a f) (hb : DE X Y W b k) (hc : DE X Y W c j) {op op' : D → D → Option R} {σ : St} {H : Hp} {Q : VK} (h : tD X.kw Y W (eCh op op' f k j) σ H Q) :
    tChain (fun x y H Q => ∃ F a b r, Same F H ∧ CV X.kw F H x a ∧ CV X.kw F H y b ∧ op a b = some r ∧ RP X.kw F H Q r)
      (fun x y H Q => ∃ F a b r, Same F H ∧ CV X.kw F H x a ∧ CV X.kw F H y b ∧ op' a b = some r ∧ RP X.kw F H Q r) (tD X.kw Y W (pk f)) (tD X.kw Y W (pk k)) (tD X.kw Y W (pk j)) σ H Q := by
  obtain ⟨g, F, rl, p⟩ := h
  refine ⟨g, F, rl, (p.bind).imp fun x g1 H1 F1 r1 s1 q v hv => ⟨g1, F1, r1, (q.bind).imp fun y g2 H2 F2 r2 s2 q2 u hu => ?_⟩⟩
  have q3 := q2.bind
  have q4 : ∃ a b r, cont g2 x = some a ∧ cont g2 y = some b ∧ op a b = some r ∧ (∃ t, r = .fz (.bl t)) := by
    unfold DL.op2 at q3
    split at q3
    · rename_i a b e1 e2
      refine ⟨a, b, ?_⟩
      cases e : op a b with
      | none => rw [e] at q3; exact q3.elim
      | some r =>
        rw [e] at q3
        refine ⟨r, e1, e2, rfl, ?_⟩
        cases r with
        | «at» i => exact q3.elim
        | sub i f => exact q3.elim
        | ow o =>
          have q3 : Post X.kw Y W σ F2 (JV X.kw Y σ Q) (mb (toB (.ow o)) (fun t => if t = true then mb (pk j) fun w => op2 op' y w else eC (.bl false)) g2) := q2 |> fun q2 => by
            have z : Post X.kw Y W σ F2 (JV X.kw Y σ Q) ((DL.op2 op x y g2).andThen fun z => mb (toB z) fun t => if t = true then mb (pk j) fun w => DL.op2 op' y w else eC (.bl false)) := q2
            unfold DL.op2 at z
            rw [e1, e2] at z
            simp only [e, done, then_ok] at z
            exact z
          exact q3.elim
        | fz d =>
          have z : Post X.kw Y W σ F2 (JV X.kw Y σ Q) ((DL.op2 op x y g2).andThen fun z => mb (toB z) fun t => if t = true then mb (pk j) fun w => DL.op2 op' y w else eC (.bl false)) := q2
          unfold DL.op2 at z
          rw [e1, e2] at z
          simp only [e, done, then_ok] at z
          cases d with
          | bl t => exact ⟨t, rfl⟩
          | non => exact z.elim
          | int _ => exact z.elim
          | str _ => exact z.elim
          | tup _ => exact z.elim
          | lst _ => exact z.elim
          | dk _ => exact z.elim
          | dt _ => exact z.elim
          | dd _ => exact z.elim
          | obj _ _ => exact z.elim
          | scr _ => exact z.elim
          | exc _ => exact z.elim
          | lk _ => exact z.elim
          | ld _ => exact z.elim
          | tux _ => exact z.elim
    · exact q3.elim
  obtain ⟨da, db, r, e1, e2, h1, t, rfl⟩ := q4
  have z : Post X.kw Y W σ F2 (JV X.kw Y σ Q) ((DL.op2 op x y g2).andThen fun z => mb (toB z) fun t => if t = true then mb (pk j) fun w => DL.op2 op' y w else eC (.bl false)) := q2
  unfold DL.op2 at z
  rw [e1, e2] at z
  simp only [h1, done, then_ok] at z
  have z2 : Post X.kw Y W σ F2 (JV X.kw Y σ Q) ((if t = true then mb (pk j) fun w => DL.op2 op' y w else eC (.bl false)) g2) := z
  refine ⟨F2, da, db, .fz (.bl t), r2.sub, r2.cv (hv.keep s2 (cont_ne e1)) e1, r2.cv hu e2, h1, fun v' H3 F3 x3 hv' => ⟨t, hv', ?_⟩⟩
  have r3 := r2.ext x3
  cases t with
  | false =>
    rw [if_neg Bool.false_ne_true] at z2 ⊢
    exact z2 H3 F3 r3 x3.ff _ rfl
  | true =>
    rw [if_pos rfl] at z2 ⊢
    refine ⟨g2, F3, r3, ?_⟩
    have z3 := Post.bind z2
    revert z3
    cases pk j g2 with
    | bad => exact id
    | ex e g' => exact fun z3 d H4 F4 r4 s4 => z3 d H4 F4 r4 (x3.ff.trans s4)
    | ok w g4 =>
      intro z3 H4 F4 r4 s4 w' hw'
      obtain ⟨da', db', r', e1', e2', h1', h2'⟩ := Post.op2 (z3 H4 F4 r4 (x3.ff.trans s4)) r4
      exact ⟨F4, da', db', r', r4.sub, r4.cv (hu.keep (x3.ff.trans s4) (cont_ne e1')) e1', r4.cv hw' e2', h1', h2'⟩
theorem dt_chain {a b c : Expr} {op op' : CmpOp} {bop bop' : D → D → Option R} {f k j : M R} (ho : OpD X (compareOp op) bop) (ho' : OpD X (compareOp op') bop') (ha : DE X Y W a f) (hb : DE X Y W b k) (hc : DE X Y W c j)
    (hm : lastMarks [op, op'] [b, c] = false := by with_unfolding_all rfl) : DT X Y W (.Compare a [op, op'] [b, c] pos) (eTest (eCh bop bop' f k j)) :=
  pt_mono (pt_chain ho ho' (de_pk ha) (de_pk hb) (de_pk hc) hm) fun σ H Q h => chain_args ha hb hc (test_of h)
end
end DL

namespace DL
open PySem PySem.Spec L2

/-! ### data as the library's data -/
mutual
def D.py : D → PyData
  | .non => .none
  | .bl b => .bool b
  | .int i => .int i
  | .str s => .str s
  | .tup ds => .tuple (pyL ds)
  | .lst ds => .list (pyL ds)
  | .dk _ => .dict []
  | .dt _ => .dict []
  | .dd _ => .dict []
  | .obj _ _ => .none
  | .scr _ => .none
  | .exc _ => .none
  | .lk _ => .dict []
  | .ld _ => .dict []
  | .tux _ => .none
def pyL : List D → List PyData
  | [] => []
  | d :: ds => d.py :: pyL ds
/-- no dicts in it -/
def D.flat : D → Bool
  | .tup ds => flatL ds
  | .lst ds => flatL ds
  | .dk _ => false
  | .dt _ => false
  | .dd _ => false
  | .obj _ _ => false
  | .scr _ => false
  | .exc _ => false
  | .lk _ => false
  | .ld _ => false
  | .tux _ => false
  | _ => true
def flatL : List D → Bool
  | [] => true
  | d :: ds => d.flat && flatL ds
end
theorem pyL_map : ∀ ds : List D, pyL ds = ds.map D.py
  | [] => rfl
  | d :: ds => by rw [pyL, pyL_map ds]; rfl
section
variable {K : KW}
mutual
theorem Is.dp {F H : Hp} (h : Same F H) : ∀ (d : D) (v : V), d.flat = true → Is K F v d → Dp K H v d.py
  | .non, _, _, q => by rw [show _ = V.non from q]; exact .non
  | .bl b, _, _, q => by rw [show _ = V.bl b from q]; exact .bl b
  | .int i, _, _, q => by rw [show _ = V.int i from q]; exact .int i
  | .str s, _, _, q => by rw [show _ = V.str s from q.1]; exact .str s
  | .tup ds, _, f, ⟨a, vs, e, s, z, q⟩ => by rw [e]; exact .tup (sqT_mono h s) (IsL.dp h ds vs f q)
  | .lst ds, _, f, ⟨a, vs, e, s, z, q⟩ => by rw [e]; exact .lst (SqL.of (h _ _ s)) (IsL.dp h ds vs f q)
  | .dk _, _, f, _ => by cases f
  | .dt _, _, f, _ => by cases f
  | .dd _, _, f, _ => by cases f
  | .obj _ _, _, f, _ => by cases f
  | .scr _, _, f, _ => by cases f
  | .exc _, _, f, _ => by cases f
  | .lk _, _, f, _ => by cases f
  | .ld _, _, f, _ => by cases f
  | .tux _, _, f, _ => by cases f
theorem IsL.dp {F H : Hp} (h : Same F H) : ∀ (ds : List D) (vs : List V), flatL ds = true → IsL K F vs ds → DpAll K H vs (pyL ds)
  | [], _, _, q => by rw [show _ = [] from q]; exact .nil
  | d :: ds, _, f, ⟨v, r, e, q, t⟩ => by
    rw [flatL, Bool.and_eq_true] at f
    rw [e]; exact .cons (Is.dp h d v f.1 q) (IsL.dp h ds r f.2 t)
end
theorem CV.dp {F H : Hp} (s : Same F H) {v : V} {d : D} (f : d.flat = true) (h : CV K F H v d) : Dp K H v d.py := by
  rcases h with h | ⟨a, o, rfl, q, rfl⟩
  · exact Is.dp s _ _ f h
  · cases o with
    | ls ds => obtain ⟨vs, h1, h2, h3⟩ := q; exact .lst (SqL.of h1) (IsL.dp s ds vs f h3)
    | dk _ => cases f
    | dt _ => cases f
    | dd _ => cases f
    | ob _ _ => unfold O.d at f; cases f
end

/-! ### the operators' meaning -/
def bAdd : D → D → Option R
  | .int i, .int j => some (.fz (.int (i + j)))
  | .str a, .str b => if a.length + b.length ≤ sizeLine then some (.fz (.str (a ++ b))) else none
  | .lst xs, .lst ys => if xs.length + ys.length ≤ sizeLine then some (.ow (.ls (xs ++ ys))) else none
  | .tup xs, .tup ys => if xs.length + ys.length ≤ sizeLine then some (.fz (.tup (xs ++ ys))) else none
  | _, _ => none
def bSub : D → D → Option R
  | .int i, .int j => some (.fz (.int (i - j)))
  | _, _ => none
def repS (a : Str) (k : Nat) : Str := ⟨(List.replicate k a.cps.toList).flatten.toArray⟩
theorem repS_length (a : Str) (k : Nat) : (repS a k).length = k * a.length := by
  show (List.replicate k a.cps.toList).flatten.toArray.size = _
  rw [List.size_toArray, PyProof.Rows.lm_len_rep_flat]; rfl
def bMul : D → D → Option R
  | .int i, .int j => if (-(2 ^ 64) < i ∧ i < 2 ^ 64) ∨ (-(2 ^ 64) < j ∧ j < 2 ^ 64) then some (.fz (.int (i * j))) else none
  | .lst xs, .int k => if -(2 ^ 63) ≤ k ∧ k < 2 ^ 63 ∧ xs.length * k.toNat ≤ sizeLine then some (.ow (.ls (List.replicate k.toNat xs).flatten)) else none
  | .str a, .int k => if -(2 ^ 63) ≤ k ∧ k < 2 ^ 63 ∧ a.length * k.toNat ≤ sizeLine then some (.fz (.str (repS a k.toNat))) else none
  | .tup xs, .int k => if xs ≠ [] ∧ 2 ≤ k ∧ k ≤ 1000 ∧ xs.length ≤ 1000 ∧ xs.length * k.toNat ≤ sizeLine then some (.fz (.tup (List.replicate k.toNat xs).flatten)) else none
  | _, _ => none
def bFdiv : D → D → Option R
  | .int i, .int j => if 0 < j ∧ j < 1073741824 then some (.fz (.int (i / j))) else none
  | _, _ => none
def bMod : D → D → Option R
  | .int i, .int j => if 0 < j then some (.fz (.int (i % j))) else none
  | _, _ => none
def bPow : D → D → Option R
  | .int i, .int j => if 0 ≤ j ∧ j ≤ 1000000 ∧ i.natAbs < 2 ^ 64 then some (.fz (.int (i ^ j.toNat))) else none
  | _, _ => none
def okEq (a b : D) : Bool := a.flat && b.flat && SeqAt.shaped a.py && SeqAt.shaped b.py
def cEq : D → D → Option R
  | .int i, .int j => some (.fz (.bl (i == j)))
  | .str a, .str b => some (.fz (.bl (a == b)))
  | .bl a, .bl b => some (.fz (.bl (a == b)))
  | a, b => if okEq a b = true then some (.fz (.bl (PyData.eqv a.py b.py))) else none
def cNe : D → D → Option R
  | .int i, .int j => some (.fz (.bl (!(i == j))))
  | .str a, .str b => some (.fz (.bl (!(a == b))))
  | .bl a, .bl b => some (.fz (.bl (!(a == b))))
  | a, b => if okEq a b = true then some (.fz (.bl (!PyData.eqv a.py b.py))) else none
def cI (p : Int → Int → Bool) : D → D → Option R
  | .int i, .int j => some (.fz (.bl (p i j)))
  | _, _ => none
def cLt : D → D → Option R := cI fun i j => decide (i < j)
def cLe : D → D → Option R := cI fun i j => decide (i ≤ j)
def cGt : D → D → Option R := cI fun i j => decide (j < i)
def cGe : D → D → Option R := cI fun i j => decide (j ≤ i)
/-- a text within a text -/
def subS (i j : Str) : Bool := !(Builtin.Str.occurrences j i 0 j.length 1).isEmpty
def flatI : D → Bool
  | .non => true | .bl _ => true | .int _ => true | .str _ => true | _ => false
def toV : D → V
  | .non => .non | .bl b => .bl b | .int i => .int i | .str s => .str s | _ => .non
def memD (x : D) (xs : List D) : Bool := inV (toV x) (xs.map toV)
def hasK (k : Key) (kvs : List (Key × D)) : Bool := kvs.any fun kv => decide (kv.1 = k)
def cIn (neg : Bool) : D → D → Option R
  | .str i, .str j => some (.fz (.bl (if neg then !subS i j else subS i j)))
  | x, .lst xs => if flatI x && xs.all flatI then some (.fz (.bl (if neg then !memD x xs else memD x xs))) else none
  | x, .tup xs => if flatI x && xs.all flatI then some (.fz (.bl (if neg then !memD x xs else memD x xs))) else none
  | _, _ => none
def isNon : D → Bool
  | .non => true
  | _ => false
def cIsN (neg : Bool) : D → D → Option R
  | a, .non => some (.fz (.bl (if neg then !isNon a else isNon a)))
  | _, _ => none


theorem str_add_length (a b : Str) : (a ++ b).length = a.length + b.length := by
  show (a.cps ++ b.cps).size = _
  rw [Array.size_append]; rfl
theorem IsL.nil_iff {K : KW} {F : Hp} {vs : List V} {ds : List D} (q : IsL K F vs ds) : vs = [] ↔ ds = [] := by
  have h := q.length
  cases vs <;> cases ds <;> simp_all
theorem IsL.rep {K : KW} {F : Hp} {vs : List V} {ds : List D} (q : IsL K F vs ds) : ∀ k : Nat, IsL K F (List.replicate k vs).flatten (List.replicate k ds).flatten
  | 0 => rfl
  | k + 1 => by
    rw [List.replicate_succ, List.replicate_succ, List.flatten_cons, List.flatten_cons]
    exact IsL.append q (IsL.rep q k)
theorem rep_length {α : Type} (xs : List α) (k : Nat) : (List.replicate k xs).flatten.length = xs.length * k := by
  induction k with
  | zero => simp
  | succ k ih => rw [List.replicate_succ, List.flatten_cons, List.length_append, ih, Nat.mul_succ, Nat.add_comm]
section
variable {X : Cx}
theorem od_add : OpD X (binaryOp .Add) bAdd := by
  intro pins s σ H x y v u Q I rx ry ⟨F, a, b, r, sm, ha, hb, ho, hr⟩
  unfold bAdd at ho
  split at ho
  · cases ho; exact op_add pins s σ H x y v u Q I rx ry ⟨_, _, ha.int, hb.int, hr.now sm rfl⟩
  · split at ho
    · rename_i i j hz
      cases ho
      exact op_add_str pins s σ H x y v u Q I rx ry ⟨_, _, ha.str.1, hb.str.1, hz, hr.now sm ⟨rfl, by rw [str_add_length]; exact hz⟩⟩
    · cases ho
  · split at ho
    · rename_i xs ys hz
      cases ho
      obtain ⟨p, vs, rfl, h1, h2, h3⟩ := ha.lst sm
      obtain ⟨q, us, rfl, h4, h5, h6⟩ := hb.lst sm
      exact op_cat pins s σ H _ _ v u Q I rx ry ⟨p, q, vs, us, rfl, rfl, h1, h4, by rw [h3.length, h6.length]; exact hz, fun l hl => hr.ls sm (h3.append h6) (by rw [List.length_append]; exact hz) hl⟩
    · cases ho
  · split at ho
    · rename_i xs ys hz
      cases ho
      obtain ⟨p, vs, rfl, h1, h2, h3⟩ := ha.tup
      obtain ⟨q, us, rfl, h4, h5, h6⟩ := hb.tup
      refine op_catA pins s σ H _ _ v u Q I rx ry ⟨p, q, vs, us, rfl, rfl, sqT_mono sm h1, sqT_mono sm h4, by rw [h3.length, h6.length]; exact hz, fun e => ?_, fun _ e => ?_, fun _ _ l hl => hr.tup sm (h3.append h6) (by rw [List.length_append]; exact hz) hl⟩
      · have : xs = [] := h3.nil_iff.mp e
        subst this
        exact hr.now sm ⟨q, us, rfl, h4, h5, h6⟩
      · have : ys = [] := h6.nil_iff.mp e
        subst this
        rw [List.append_nil] at hr
        exact hr.now sm ⟨p, vs, rfl, h1, h2, h3⟩
    · cases ho
  · cases ho
theorem foldl_repN (l : List Nat) : ∀ (m : Nat) (acc : List Nat), (List.replicate m l.toArray).foldl (· ++ ·) acc.toArray = (acc ++ (List.replicate m l).flatten).toArray
  | 0, acc => by simp
  | m + 1, acc => by
    rw [List.replicate_succ, List.foldl_cons, List.append_toArray, foldl_repN l m (acc ++ l)]
    simp [List.replicate_succ]
theorem od_mul : OpD X (binaryOp .Mult) bMul := by
  intro pins s σ H x y v u Q I rx ry ⟨F, a, b, r, sm, ha, hb, ho, hr⟩
  unfold bMul at ho
  split at ho
  · split at ho
    · rename_i i j hz
      cases ho; exact op_mul pins s σ H x y v u Q I rx ry ⟨_, _, ha.int, hb.int, hz, hr.now sm rfl⟩
    · cases ho
  · split at ho
    · rename_i xs k hz
      cases ho
      obtain ⟨p, vs, rfl, h1, h2, h3⟩ := ha.lst sm
      exact op_rep pins s σ H _ _ v u Q I rx ry ⟨p, k, vs, rfl, hb.int, h1, hz.1, hz.2.1, by rw [h3.length]; exact hz.2.2, fun l hl => hr.ls sm (h3.rep _) (by rw [rep_length]; exact hz.2.2) hl⟩
    · cases ho
  · split at ho
    · rename_i a k hz
      cases ho
      obtain ⟨rfl, _⟩ := ha.str
      cases hb.int
      obtain ⟨t, rfl⟩ := rx
      obtain ⟨t2, rfl⟩ := ry
      have hl : (repS a k.toNat).length ≤ sizeLine := by
        rw [repS_length, Nat.mul_comm]; exact hz.2.2
      have eq : (⟨(List.replicate k.toNat a.cps).foldl (· ++ ·) #[]⟩ : Str) = repS a k.toNat := by
        unfold repS
        congr 1
        have := foldl_repN a.cps.toList k.toNat []
        simpa using this
      refine PySem.P.mul_str (by
        have h1 : ¬ k < -(2 ^ 63 : Int) := by omega
        have h2 : ¬ k ≥ 2 ^ 63 := by omega
        rw [decide_eq_false h1, decide_eq_false h2]; rfl) (fun hk1 _ => ?_) (fun _ _ => ?_) ?_
      · have hm : (a.length : Int) * k ≤ 16777216 := by
          have e : ((a.length * k.toNat : Nat) : Int) = (a.length : Int) * k := by rw [Int.natCast_mul, Int.toNat_of_nonneg (by omega)]
          have h3 := hz.2.2
          rw [sizeLine_eq] at h3
          omega
        have : (a.length : Int) ≤ (2 ^ 63 - 1) / k := (Int.le_ediv_iff_mul_le (by omega)).mpr (by omega)
        omega
      · refine decide_eq_false ?_
        have h3 := hz.2.2
        omega
      · by_cases c1 : k < 1
        · rw [if_pos c1]
          have e0 : repS a k.toNat = Str.empty := by
            have : k.toNat = 0 := by omega
            rw [this]; rfl
          rw [e0] at hr
          exact ⟨by decide, .str Str.empty, H, I.tok _, ⟨_, rfl⟩, hr.now sm ⟨rfl, by decide⟩⟩
        · rw [if_neg c1]
          by_cases c2 : (k == 1 || a.length == 0) = true
          · rw [if_pos c2]
            have e0 : repS a k.toNat = a := by
              unfold repS
              rcases Bool.or_eq_true _ _ ▸ c2 with h | h
              · have : k = 1 := by simpa using h
                subst this
                cases a; simp
              · have h : a.length = 0 := by simpa using h
                have h : a.cps.size = 0 := h
                cases a with | mk c =>
                have : c = #[] := Array.eq_empty_of_size_eq_zero h
                subst this; simp
            rw [e0] at hr
            exact ⟨.str a, H, I, ⟨_, rfl⟩, hr.now sm ⟨rfl, by have h4 := hl; rw [e0] at h4; exact h4⟩⟩
          · rw [if_neg c2, eq]
            exact ⟨hl, .str (repS a k.toNat), H, I.tok _, ⟨_, rfl⟩, hr.now sm ⟨rfl, hl⟩⟩
    · cases ho
  · split at ho
    · rename_i xs k hz
      cases ho
      obtain ⟨p, vs, rfl, h1, h2, h3⟩ := ha.tup
      exact op_repT pins s σ H _ _ v u Q I rx ry ⟨p, k, vs, rfl, hb.int, sqT_mono sm h1, fun e => hz.1 (h3.nil_iff.mp e), hz.2.1, hz.2.2.1, by rw [h3.length]; exact hz.2.2.2.1, fun l hl => hr.tup sm (h3.rep _) (by rw [rep_length]; exact hz.2.2.2.2) hl⟩
    · cases ho
  · cases ho
theorem od_fdiv : OpD X (binaryOp .FloorDiv) bFdiv := by
  intro pins s σ H x y v u Q I rx ry ⟨F, a, b, r, sm, ha, hb, ho, hr⟩
  unfold bFdiv at ho
  split at ho
  · split at ho
    · rename_i i j hz
      cases ho; exact op_fdiv pins s σ H x y v u Q I rx ry ⟨_, _, ha.int, hb.int, hz, hr.now sm rfl⟩
    · cases ho
  · cases ho
theorem od_mod : OpD X (binaryOp .Mod) bMod := by
  intro pins s σ H x y v u Q I rx ry ⟨F, a, b, r, sm, ha, hb, ho, hr⟩
  unfold bMod at ho
  split at ho
  · split at ho
    · rename_i i j hz
      cases ho; exact op_mod pins s σ H x y v u Q I rx ry ⟨_, _, ha.int, hb.int, hz, hr.now sm rfl⟩
    · cases ho
  · cases ho
theorem cI_case {p : Int → Int → Bool} {a b : D} {r : R} (h : cI p a b = some r) : ∃ i j, a = .int i ∧ b = .int j ∧ r = .fz (.bl (p i j)) := by
  unfold cI at h
  split at h
  · cases h; exact ⟨_, _, rfl, rfl, rfl⟩
  · cases h
theorem od_cI {p : Int → Int → Bool} {op : CmpOp} (h : OpR X (compareOp op) (rI0 fun i j => .bl (p i j))) : OpD X (compareOp op) (cI p) := by
  intro pins s σ H x y v u Q I rx ry ⟨F, a, b, r, sm, ha, hb, ho, hr⟩
  obtain ⟨i, j, rfl, rfl, rfl⟩ := cI_case ho
  exact h pins s σ H x y v u Q I rx ry ⟨_, _, ha.int, hb.int, hr.now sm rfl⟩
theorem od_lt : OpD X (compareOp .Lt) cLt := od_cI op_lt
theorem od_le : OpD X (compareOp .LtE) cLe := od_cI op_le
theorem od_gt : OpD X (compareOp .Gt) cGt := od_cI op_gt
theorem okEq_cases {a b : D} (h : okEq a b = true) : a.flat = true ∧ b.flat = true ∧ SeqAt.shaped a.py = true ∧ SeqAt.shaped b.py = true := by
  unfold okEq at h
  rw [Bool.and_eq_true, Bool.and_eq_true, Bool.and_eq_true] at h
  exact ⟨h.1.1.1, h.1.1.2, h.1.2, h.2⟩
theorem od_eq (hu : X.A.units + 64 < cLine) : OpD X (compareOp .Eq) cEq := by
  intro pins s σ H x y v u Q I rx ry ⟨F, a, b, r, sm, ha, hb, ho, hr⟩
  unfold cEq at ho
  split at ho
  · cases ho; exact op_eq pins s σ H x y v u Q I rx ry (by rw [ha.int, hb.int]; exact ⟨rfl, by rw [dec_int]; exact hr.now sm rfl⟩)
  · cases ho; exact op_eq pins s σ H x y v u Q I rx ry (by rw [ha.str.1, hb.str.1]; exact ⟨rfl, by rw [dec_str]; exact hr.now sm rfl⟩)
  · cases ho; exact op_eq pins s σ H x y v u Q I rx ry (by rw [ha.bl, hb.bl]; exact ⟨rfl, by rw [dec_bl]; exact hr.now sm rfl⟩)
  · split at ho
    · rename_i hz
      obtain ⟨f1, f2, s1, s2⟩ := okEq_cases hz
      cases ho
      exact op_eqD hu pins s σ H x y v u Q I rx ry ⟨_, _, ha.dp sm f1, hb.dp sm f2, s1, s2, hr.now sm rfl⟩
    · cases ho
theorem od_ne (hu : X.A.units + 64 < cLine) : OpD X (compareOp .NotEq) cNe := by
  intro pins s σ H x y v u Q I rx ry ⟨F, a, b, r, sm, ha, hb, ho, hr⟩
  unfold cNe at ho
  split at ho
  · cases ho; exact op_ne pins s σ H x y v u Q I rx ry (by rw [ha.int, hb.int]; exact ⟨rfl, by rw [dec_int]; exact hr.now sm rfl⟩)
  · cases ho; exact op_ne pins s σ H x y v u Q I rx ry (by rw [ha.str.1, hb.str.1]; exact ⟨rfl, by rw [dec_str]; exact hr.now sm rfl⟩)
  · cases ho; exact op_ne pins s σ H x y v u Q I rx ry (by rw [ha.bl, hb.bl]; exact ⟨rfl, by rw [dec_bl]; exact hr.now sm rfl⟩)
  · split at ho
    · rename_i hz
      obtain ⟨f1, f2, s1, s2⟩ := okEq_cases hz
      cases ho
      exact op_neD hu pins s σ H x y v u Q I rx ry ⟨_, _, ha.dp sm f1, hb.dp sm f2, s1, s2, hr.now sm rfl⟩
    · cases ho
theorem flatI_V {F H : Hp} {d : D} {v : V} {K : KW} (f : flatI d = true) (h : CV K F H v d) : v = toV d ∧ flatV v = true := by
  cases d with
  | non => rw [h.non]; exact ⟨rfl, rfl⟩
  | bl b => rw [h.bl]; exact ⟨rfl, rfl⟩
  | int i => rw [h.int]; exact ⟨rfl, rfl⟩
  | str z => rw [h.str.1]; exact ⟨rfl, rfl⟩
  | tup _ => cases f
  | lst _ => cases f
  | dk _ => cases f
  | dt _ => cases f
  | dd _ => cases f
  | obj _ _ => cases f
  | scr _ => cases f
  | exc _ => cases f
  | lk _ => cases f
  | ld _ => cases f
  | tux _ => cases f
theorem flatI_L {F H : Hp} {K : KW} : ∀ {ds : List D} {vs : List V}, ds.all flatI = true → IsL K F vs ds → vs = ds.map toV ∧ vs.all flatV = true
  | [], _, _, q => by rw [show _ = [] from q]; exact ⟨rfl, rfl⟩
  | d :: ds, _, f, ⟨v, r, e, q, t⟩ => by
    rw [List.all_cons, Bool.and_eq_true] at f
    obtain ⟨h1, h2⟩ := flatI_V (H := H) f.1 (.inl q)
    obtain ⟨h3, h4⟩ := flatI_L (H := H) f.2 t
    subst e
    exact ⟨by rw [List.map_cons, ← h1, ← h3], by rw [List.all_cons, h2, h4]; rfl⟩
theorem od_in (neg : Bool) : OpD X (compareOp (if neg then .NotIn else .In)) (cIn neg) := by
  intro pins s σ H x y v u Q I rx ry ⟨F, a, b, r, sm, ha, hb, ho, hr⟩
  have seq : ∀ (p : Addr) (vs : List V) (xs : List D), y = .ref p → (SqL X.kw H p vs ∨ SqT X.kw H p vs) → IsL X.kw F vs xs → flatI a = true → xs.all flatI = true → r = .fz (.bl (if neg then !memD a xs else memD a xs)) →
      wpAny (model X.prog X.w) X.A (compareOp (if neg then .NotIn else .In) v u) (EP X pins σ Q) X.xe s := by
    intro p vs xs e hs hl f1 f2 er
    obtain ⟨e1, fl⟩ := flatI_V f1 ha
    obtain ⟨e2, fls⟩ := flatI_L (H := H) f2 hl
    subst er
    have q : rIn X.kw neg x y H Q := ⟨p, vs, e, hs, fl, fls, by rw [e1, e2]; exact hr.now sm rfl⟩
    cases neg
    · exact op_in_seq pins s σ H x y v u Q I rx ry q
    · exact op_notIn_seq pins s σ H x y v u Q I rx ry q
  unfold cIn at ho
  split at ho
  · cases ho
    rename_i i j
    have q : Q (.bl (if neg then !subS i j else subS i j)) H := hr.now sm rfl
    cases neg
    · exact op_in_str pins s σ H x y v u Q I rx ry ⟨i, j, ha.str.1, hb.str.1, q⟩
    · exact op_notIn_str pins s σ H x y v u Q I rx ry ⟨i, j, ha.str.1, hb.str.1, q⟩
  · split at ho
    · rename_i xs hz
      rw [Bool.and_eq_true] at hz
      cases ho
      obtain ⟨p, vs, rfl, h1, h2, h3⟩ := hb.lst sm
      exact seq p vs xs rfl (.inl (SqL.of h1)) h3 hz.1 hz.2 rfl
    · cases ho
  · split at ho
    · rename_i xs hz
      rw [Bool.and_eq_true] at hz
      cases ho
      obtain ⟨p, vs, rfl, h1, h2, h3⟩ := hb.tup
      exact seq p vs xs rfl (.inr (sqT_mono sm h1)) h3 hz.1 hz.2 rfl
    · cases ho
  · cases ho
end
end DL

namespace DL
open PySem PySem.Spec L2

/-! ### tests -/
def tAndM (f k : M Bool) : M Bool := mb f fun c => if c = true then k else mp false
def tOrM (f k : M Bool) : M Bool := mb f fun c => if c = true then mp true else k
def tNotM (f : M Bool) : M Bool := mb f fun c => mp (!c)
def vAnd (f k : M R) : M R := mb f fun x => mb (toB x) fun c => if c = true then k else eC (.bl false)
def vOr (f k : M R) : M R := mb f fun x => mb (toB x) fun c => if c = true then eC (.bl true) else k
def vNot (f : M R) : M R := mb f fun x => mb (toB x) fun c => eC (.bl (!c))
def eIf (c : M Bool) (f k : M R) : M R := mb c fun b => if b = true then f else k
def truD : D → Option Bool
  | .non => some false
  | .bl b => some b
  | .int i => some (i != 0)
  | .str s => some ((s.length : Int) != 0)
  | .tup xs => some (!xs.isEmpty)
  | .lst xs => some (!xs.isEmpty)
  | .dk kvs => some (!kvs.isEmpty)
  | .scr ns => some (!ns.isEmpty)
  | .dt _ => none
  | .dd _ => none
  | .obj _ _ => none
  | .exc _ => none
  | .lk _ => none
  | .ld _ => none
  | .tux _ => none
def toTru (x : R) : M Bool := fun g => match (cont g x).bind truD with
  | some b => .ok b g
  | none => .bad
def eTru (f : M R) : M Bool := mb (pk f) toTru

theorem Post.pb {α β : Type} {K : KW} {Y : Ent} {W : WX} {σ : St} {F H : Hp} {J : β → G → Hp → Hp → Prop} {a : α} {k : α → G → Rs β} {g : G} (h : Post K Y W σ F J ((Rs.ok a g).andThen k)) : Post K Y W σ F J (k a g) := h
section
variable {X : Cx} {Y : Ent} {W : WX} {pos : Pos} {a b c e : Expr} {rest : List Expr}
theorem dw_or1 {f : M Bool} (ha : DT X Y W a f) : DW X Y W (.BoolOp .Or [a] pos) f := pw_or1 ha
theorem dw_or {f k : M Bool} (ha : DT X Y W a f) (hb : DW X Y W (.BoolOp .Or (b :: rest) pos) k) : DW X Y W (.BoolOp .Or (a :: b :: rest) pos) (tOrM f k) :=
  pw_mono (pw_or ha hb) fun σ H Q ⟨g, F, r, p⟩ => ⟨g, F, r, (p.bind).imp fun c g1 H1 F1 r1 s1 q => by
    cases c with
    | true => exact q H1 F1 r1 (Same.refl _)
    | false => exact ⟨g1, F1, r1, q⟩⟩
theorem dt_w {f : M Bool} (h : DW X Y W e f) : DT X Y W e f := PW.pt h
theorem dt_not {f : M Bool} (ha : DT X Y W a f) : DT X Y W (.UnaryOp .Not a pos) (tNotM f) :=
  pt_mono (pt_not ha) fun σ H Q ⟨g, F, r, p⟩ => ⟨g, F, r, (p.bind).imp fun c g1 H1 F1 r1 s1 q => q H1 F1 r1 (Same.refl _)⟩
theorem truV_of {K : KW} {F H : Hp} {v : V} {d : D} {k : Bool} (sm : Same F H) (h : CV K F H v d) (e : truD d = some k) : TruV K v H k := by
  cases d with
  | non => rw [h.non]; exact (Option.some.inj e).symm
  | bl x => rw [h.bl]; exact (Option.some.inj e).symm
  | int x => rw [h.int]; exact (Option.some.inj e).symm
  | str x => rw [h.str.1]; exact ⟨h.str.2, (Option.some.inj e).symm⟩
  | tup xs =>
    obtain ⟨p, vs, rfl, h1, h2, h3⟩ := h.tup
    refine .inr (.inl ⟨vs, sqT_mono sm h1, ?_⟩)
    rw [← Option.some.inj e]
    have := h3.length
    cases vs <;> cases xs <;> simp_all
  | lst xs =>
    obtain ⟨p, vs, rfl, h1, h2, h3⟩ := h.lst sm
    refine .inl ⟨vs, SqL.of h1, ?_⟩
    rw [← Option.some.inj e]
    have := h3.length
    cases vs <;> cases xs <;> simp_all
  | scr ns =>
    obtain ⟨p, rfl, h1, h2⟩ := h.scr
    refine .inl ⟨_, sm.seq h1, ?_⟩
    rw [← Option.some.inj e]
    cases ns <;> rfl
  | dk kvs =>
    have len : ∀ {ks : List (Key × V)} {kvs : List (Key × D)}, IsK K F ks kvs → (!kvs.isEmpty) = !ks.isEmpty := fun {ks kvs} q => by
      cases kvs with
      | nil => rw [show ks = [] from q]; rfl
      | cons y r => obtain ⟨v, r', rfl, _⟩ := (show ∃ v r', ks = (y.1, v) :: r' ∧ _ from q); rfl
    rcases h with h | ⟨a, o, rfl, q, e'⟩
    · obtain ⟨a, ks, rfl, h1, h2, h3⟩ := h
      exact .inr (.inr ⟨ks, sm _ _ h1, by rw [← Option.some.inj e]; exact len h3⟩)
    · cases o with
      | dk ys => cases e'; obtain ⟨ks, h1, h2, h3⟩ := q; exact .inr (.inr ⟨ks, h1, by rw [← Option.some.inj e]; exact len h3⟩)
      | ls _ => cases e'
      | dt _ => cases e'
      | dd _ => cases e'
      | ob _ _ => cases e'
  | dt _ => cases e
  | dd _ => cases e
  | obj _ _ => cases e
  | exc _ => cases e
  | lk _ => cases e
  | ld _ => cases e
  | tux _ => cases e
theorem dt_truth {f : M R} (ha : DE X Y W a f) (he : ∀ whole, isTrue a X.env whole = (do let v ← whole; standAt a.pos; holding [v] (truthy v)) := by intro _; rfl) : DT X Y W a (eTru f) :=
  pt_mono (pt_truth (de_pk ha) he) fun σ H Q ⟨g, F, r, p⟩ => ⟨g, F, r, (p.bind).imp fun x g1 H1 F1 r1 s1 q v hv => by
    unfold toTru at q
    cases e : cont g1 x with
    | none => rw [e] at q; exact q.elim
    | some d =>
      rw [e] at q
      cases e2 : truD d with
      | none => simp only [Option.bind_some, e2] at q; exact q.elim
      | some k =>
        simp only [Option.bind_some, e2] at q
        exact ⟨k, truV_of r1.sub (r1.cv hv e) e2, q H1 F1 r1 (Same.refl _)⟩⟩
end

/-! ### arguments, displays -/
def aNil : M (List R) := mp []
def aPush (x : R) (xs : List R) : M (List R) := fun g => match x with
  | .ow _ => .bad
  | x => .ok (x :: xs) g
def aCons (f : M R) (k : M (List R)) : M (List R) := mb f fun x => mb k fun xs => aPush x xs
def allFz : List R → Option (List D)
  | [] => some []
  | .fz d :: r => (allFz r).map (d :: ·)
  | _ => none
def conts (g : G) : List R → Option (List D)
  | [] => some []
  | r :: rs => match cont g r, conts g rs with
    | some d, some ds => some (d :: ds)
    | _, _ => none
def mkTup (rs : List R) : M R := fun g => match allFz rs with
  | some ds => if ds.length ≤ 1000 then .ok (.fz (.tup ds)) g else .bad
  | none => .bad
def mkLst (rs : List R) : M R := fun g => match allFz rs with
  | some ds => if ds.length ≤ 1000 then .ok (.ow (.ls ds)) g else .bad
  | none => .bad
def eTup (k : M (List R)) : M R := mb k mkTup
def eLst (k : M (List R)) : M R := mb k mkLst
section
variable {K : KW} {Y : Ent} {W : WX} {σ : St} {H F : Hp} {g : G}
theorem RVs.fz : ∀ {rs : List R} {vs : List V} {ds : List D}, RVs K Y σ F H g vs rs → allFz rs = some ds → IsL K F vs ds
  | [], _, _, h, e => by cases e; exact h
  | .fz d :: r, _, ds, ⟨v, us, rfl, h, t⟩, e => by
    unfold allFz at e
    cases e2 : allFz r with
    | none => rw [e2] at e; cases e
    | some ds' => rw [e2] at e; cases e; exact ⟨v, us, rfl, h, RVs.fz t e2⟩
  | .ow o :: r, _, _, _, e => by cases e
  | .at i :: r, _, _, _, e => by cases e
  | .sub i f :: r, _, _, _, e => by cases e
theorem RVs.cvs (rl : Rel K Y σ H g F) : ∀ {rs : List R} {vs : List V} {ds : List D}, RVs K Y σ F H g vs rs → conts g rs = some ds → CVs K F H vs ds
  | [], _, _, h, e => by cases e; exact h
  | r :: rs, _, ds, ⟨v, us, rfl, h, t⟩, e => by
    unfold conts at e
    split at e
    · rename_i d ds' e1 e2
      cases e
      exact ⟨v, us, rfl, rl.cv h e1, RVs.cvs rl t e2⟩
    · cases e
end
section
variable {X : Cx} {Y : Ent} {W : WX} {pos : Pos} {e o : Expr} {es : List Expr} {x : Str} {p apos : Pos} {id T name : String}
theorem da_nil : DA X Y W [] aNil := pa_mono pa_nil fun σ H Q ⟨g, F, r, p⟩ => p H F r (Same.refl _) [] rfl
theorem da_cons {f : M R} {k : M (List R)} (ha : DE X Y W e f) (hr : DA X Y W es k) (hs : starEach (e :: es) X.env = (false, eval e X.env) :: starEach es X.env := by rfl) : DA X Y W (e :: es) (aCons f k) :=
  pa_mono (pa_cons ha hr hs) fun σ H Q ⟨g, F, r, p⟩ => ⟨g, F, r, (p.bind).imp fun x g1 H1 F1 r1 s1 q v hv => ⟨g1, F1, r1, (q.bind).imp fun xs g2 H2 F2 r2 s2 q2 us hus => by
    cases x with
    | ow o => exact q2.elim
    | fz d => exact q2 H2 F2 r2 (Same.refl _) (v :: us) ⟨v, us, rfl, hv.keep (H' := H2) (g' := g2) s2 (fun _ e => nomatch e), hus⟩
    | «at» i => exact q2 H2 F2 r2 (Same.refl _) (v :: us) ⟨v, us, rfl, hv, hus⟩
    | sub i f => exact q2 H2 F2 r2 (Same.refl _) (v :: us) ⟨v, us, rfl, hv.keep (H' := H2) (g' := g2) s2 (fun _ e => nomatch e), hus⟩⟩⟩
theorem Rel.small {n : Nat} (h : n ≤ 1000) : n ≤ sizeLine := Nat.le_trans h (by decide)
theorem de_tup {k : M (List R)} {x1} (h : DA X Y W es k) : DE X Y W (.Tuple es x1 pos) (eTup k) :=
  pe_mono (pe_tup h) fun σ H Q ⟨g, F, r, p⟩ => ⟨g, F, r, (p.bind).imp fun rs g1 H1 F1 r1 s1 q vs hv => by
    unfold mkTup at q
    split at q
    · rename_i ds e
      split at q
      · rename_i hz
        have hl := RVs.fz hv e
        have rp : RP X.kw F1 H1 Q (.fz (.tup ds)) := Post.rp trivial r1 q
        exact ⟨by rw [hl.length]; exact Rel.small hz, fun p hp => rp.tup r1.sub hl (Rel.small hz) hp⟩
      · exact q.elim
    · exact q.elim⟩
theorem de_lst {k : M (List R)} (h : DA X Y W es k) : DE X Y W (.List es pos) (eLst k) :=
  pe_mono (pe_lst h) fun σ H Q ⟨g, F, r, p⟩ => ⟨g, F, r, (p.bind).imp fun rs g1 H1 F1 r1 s1 q vs hv => by
    unfold mkLst at q
    split at q
    · rename_i ds e
      split at q
      · rename_i hz
        have hl := RVs.fz hv e
        have rp : RP X.kw F1 H1 Q (.ow (.ls ds)) := Post.rp trivial r1 q
        exact ⟨by rw [hl.length]; exact Rel.small hz, fun p hp => rp.ls r1.sub hl (Rel.small hz) hp⟩
      · exact q.elim
    · exact q.elim⟩

/-! ### calls of built-ins, methods of built-ins by values -/
def CallD (X : Cx) (f : Value) (op : List D → Option R) : Prop :=
  CallR X f fun xs H Q => ∃ F ds r, Same F H ∧ CVs X.kw F H xs ds ∧ op ds = some r ∧ RP X.kw F H Q r
def opN (op : List D → Option R) (rs : List R) : M R := fun g => match conts g rs with
  | some ds => done (op ds) g
  | none => .bad
def eCallB (op : List D → Option R) (k : M (List R)) : M R := mb k (opN op)
theorem callB_args {k : M (List R)} {op : List D → Option R} {σ : St} {H : Hp} {Q : VK} {K : KW} (h : tD K Y W (eCallB op k) σ H Q) :
    tA K Y W k σ H fun xs H1 => ∃ F ds r, Same F H1 ∧ CVs K F H1 xs ds ∧ op ds = some r ∧ RP K F H1 Q r := by
  obtain ⟨g, F, r, p⟩ := h
  refine ⟨g, F, r, (p.bind).imp fun rs g1 H1 F1 r1 s1 q vs hv => ?_⟩
  unfold opN at q
  split at q
  · rename_i ds e
    obtain ⟨r', h1, h2⟩ := Post.done q r1
    exact ⟨F1, ds, r', r1.sub, hv.cvs r1 e, h1, h2⟩
  · exact q.elim
theorem de_callB {k : M (List R)} {op : List D → Option R} (hc : CallD X (.builtin id) op) (hg : Gl X x) (hm : X.mg x = none) (hv : bootBuiltins x = some (.builtin id)) (ha : DA X Y W (e :: es) k) (hn : x ≠ "__name__" := by decide) (hdb : (x == ("__debug__" : Str)) = false := by decide)
    (he : starEach (e :: es) X.env = (false, eval e X.env) :: starEach es X.env := by rfl) (hpl : (backTo pos (starEach es X.env)).any (·.1) = false := by rfl) :
    DE X Y W (.Call (.Name x p) (e :: es) [] pos) (eCallB op k) :=
  pe_mono (pe_callB hc hg hm hv ha hn hdb he hpl) fun σ H Q h => callB_args h
theorem de_callTy {k : M (List R)} {op : List D → Option R} (hc : CallD X (.type T) op) (hg : Gl X x) (hm : X.mg x = none) (hv : bootBuiltins x = some (.type T)) (ha : DA X Y W (e :: es) k) (hn : x ≠ "__name__" := by decide) (hdb : (x == ("__debug__" : Str)) = false := by decide)
    (he : starEach (e :: es) X.env = (false, eval e X.env) :: starEach es X.env := by rfl) (hpl : (backTo pos (starEach es X.env)).any (·.1) = false := by rfl) :
    DE X Y W (.Call (.Name x p) (e :: es) [] pos) (eCallB op k) :=
  pe_mono (pe_callTy hc hg hm hv ha hn hdb he hpl) fun σ H Q h => callB_args h
/-- a method by values -/
def MtD (X : Cx) (id : String) (op : D → List D → Option R) : Prop :=
  MtR X id fun x xs H Q => ∃ F d ds r, Same F H ∧ CV X.kw F H x d ∧ CVs X.kw F H xs ds ∧ op d ds = some r ∧ RP X.kw F H Q r
def kindD : D → String
  | .str _ => "str" | .int _ => "int" | .lst _ => "list" | .scr _ => "list" | .dk _ => "dict" | .dt _ => "dict" | _ => ""
def chkT (T : String) (x : R) : M Unit := fun g => match cont g x with
  | some d => if kindD d = T then .ok () g else .bad
  | none => .bad
def opM (op : D → List D → Option R) (x : R) (ys : List R) : M R := fun g => match cont g x, conts g ys with
  | some d, some ds => done (op d ds) g
  | _, _ => .bad
def eMeth (T : String) (op : D → List D → Option R) (f : M R) (k : M (List R)) : M R := mb (pk f) fun x => mb (chkT T x) fun _ => mb k fun ys => opM op x ys
theorem tyV_of {K : KW} {F H : Hp} {v : V} {d : D} (sm : Same F H) (h : CV K F H v d) (hT : kindD d ≠ "") : tyV K (kindD d) v H := by
  have cases4 : ∀ {a : Addr} {u : HO}, H a = some u → (∀ kvs, u = .dK kvs → tyV K "dict" (.ref a) H) ∧ (∀ kvs, u = .dT kvs → tyV K "dict" (.ref a) H) := fun {a u} e =>
    ⟨fun kvs z => .inr (.inr (.inl ⟨rfl, .inl ⟨kvs, z ▸ e⟩⟩)), fun kvs z => .inr (.inr (.inl ⟨rfl, .inr ⟨kvs, z ▸ e⟩⟩))⟩
  cases d with
  | str z => rw [h.str.1]; exact rfl
  | int z => rw [h.int]; exact rfl
  | lst xs => obtain ⟨p, vs, rfl, h1, _⟩ := h.lst sm; exact .inl ⟨rfl, vs, SqL.of h1⟩
  | scr ns => obtain ⟨p, rfl, h1, _⟩ := h.scr; exact .inl ⟨rfl, _, sm.seq h1⟩
  | dk kvs =>
    rcases h with h | ⟨a, o, rfl, q, e⟩
    · obtain ⟨a, ks, rfl, h1, _⟩ := h; exact (cases4 (sm _ _ h1)).1 _ rfl
    · cases o with
      | dk ys => obtain ⟨ks, h1, _⟩ := q; exact (cases4 h1).1 _ rfl
      | ls _ => cases e
      | dt _ => cases e
      | dd _ => cases e
      | ob _ _ => cases e
  | dt kvs =>
    rcases h with h | ⟨a, o, rfl, q, e⟩
    · obtain ⟨a, ks, rfl, h1, _⟩ := h; exact (cases4 (sm _ _ h1)).2 _ rfl
    · cases o with
      | dt ys => obtain ⟨ks, h1, _⟩ := q; exact (cases4 h1).2 _ rfl
      | ls _ => cases e
      | dk _ => cases e
      | dd _ => cases e
      | ob _ _ => cases e
  | non => exact absurd rfl hT
  | bl _ => exact absurd rfl hT
  | tup _ => exact absurd rfl hT
  | dd _ => exact absurd rfl hT
  | obj _ _ => exact absurd rfl hT
  | exc _ => exact absurd rfl hT
  | lk _ => exact absurd rfl hT
  | ld _ => exact absurd rfl hT
  | tux _ => exact absurd rfl hT
theorem chkT_of {α : Type} {K : KW} {σ : St} {F H : Hp} {J : α → G → Hp → Hp → Prop} {T : String} {x : R} {g : G} {k : Unit → M α} (h : Post K Y W σ F J (mb (chkT T x) k g)) : (∃ d, cont g x = some d ∧ kindD d = T) ∧ Post K Y W σ F J (k () g) := by
  have h' : Post K Y W σ F J ((chkT T x g).andThen k) := h
  unfold chkT at h'
  split at h'
  · rename_i d e
    split at h'
    · rename_i e2; exact ⟨⟨d, e, e2⟩, h'⟩
    · exact h'.elim
  · exact h'.elim
theorem meth_args {f : M R} {k : M (List R)} {op : D → List D → Option R} {T : String} {σ : St} {H : Hp} {Q : VK} {K : KW} (hT : T ≠ "") (h : tD K Y W (eMeth T op f k) σ H Q) :
    tD K Y W (pk f) σ H fun x H1 => tyV K T x H1 ∧ tA K Y W k σ H1 fun xs H2 => ∃ F d ds r, Same F H2 ∧ CV K F H2 x d ∧ CVs K F H2 xs ds ∧ op d ds = some r ∧ RP K F H2 Q r := by
  obtain ⟨g, F, r, p⟩ := h
  refine ⟨g, F, r, (p.bind).imp fun x g1 H1 F1 r1 s1 q v hv => ?_⟩
  obtain ⟨⟨d, e1, e2⟩, q2⟩ := chkT_of (H := H1) q
  refine ⟨by rw [← e2]; exact tyV_of r1.sub (r1.cv hv e1) (by rw [e2]; exact hT), g1, F1, r1, (q2.bind).imp fun ys g2 H2 F2 r2 s2 q3 us hus => ?_⟩
  unfold opM at q3
  split at q3
  · rename_i d' ds e3 e4
    obtain ⟨r', h1, h2⟩ := Post.done q3 r2
    exact ⟨F2, d', ds, r', r2.sub, r2.cv (hv.keep s2 (cont_ne e3)) e3, hus.cvs r2 e4, h1, h2⟩
  · exact q3.elim
theorem de_meth {f : M R} {k : M (List R)} {op : D → List D → Option R} (hT : T ≠ "") (pa : PlainAttrs T) (slot : Slot T name id) (hty : typeOf (.builtin id) = pure (.type "method_descriptor")) (hm : MtD X id op) (ho : DE X Y W o f) (ha : DA X Y W (e :: es) k)
    (hbase : attributeBase o name X.env (eval o X.env) = eval o X.env := by rfl)
    (hfew : ((backTo pos (starEach (e :: es) X.env)).all (fun x => !x.1) && (backToKw pos (keywordEach [] X.env)).all (fun x => x.1.isSome)
      && decide ((e :: es).length + ([] : List Keyword).length + (if ([] : List Keyword).isEmpty then 0 else 1) < 30)) = true := by rfl)
    (hline : (apos.endLine == pos.line) = true := by rfl) (hs : starEach (e :: es) X.env = (false, eval e X.env) :: starEach es X.env := by rfl) (hplain : (backTo pos (starEach es X.env)).any (·.1) = false := by rfl) :
    DE X Y W (.Call (.Attribute o name apos) (e :: es) [] pos) (eMeth T op f k) :=
  pe_mono (pe_bm pa slot hty hm (de_pk ho) ha hbase hfew hline hs hplain) fun σ H Q h => meth_args hT h
/-! ### methods that change a list of a slot -/
def MutD (X : Cx) (id : String) (op : O → List D → Option (O × D)) : Prop :=
  MtR X id fun x xs H Q => ∃ F a o ds o' d, x = .ref a ∧ OwAt X.kw F H a o ∧ F a = none ∧ Same F H ∧ IsL X.kw F xs ds ∧ op o ds = some (o', d) ∧ ∀ u v, OwAt X.kw F (upd H a u) a o' → Is X.kw F v d → Q v (upd H a u)
/-- an operation on leaves -/
class LeafOp (op : O → List D → Option (O × D)) : Prop where
  h : ∀ o ds o' d, op o ds = some (o', d) → o.leaf = true ∧ o'.leaf = true
def opMut (op : O → List D → Option (O × D)) (x : R) (ys : List R) : M R := fun g => match x with
  | .at i => match g[i]?, allFz ys with
    | some (some (.ow l o)), some ds => match op o ds with
      | some (o', d) => .ok (.fz d) (g.set i (some (.ow l o')))
      | none => .bad
    | _, _ => .bad
  | .sub i f => match g[i]?, allFz ys with
    | some (some (.ow l (.ob c fs))), some ds => (match fs.get f with
      | some (.inr o) => (match op o ds with
        | some (o', d) => .ok (.fz d) (g.set i (some (.ow l (.ob c (fs.put f o')))))
        | none => .bad)
      | _ => .bad)
    | _, _ => .bad
  | _ => .bad
def eMut (T : String) (op : O → List D → Option (O × D)) (f : M R) (k : M (List R)) : M R := mb f fun x => mb (chkT T x) fun _ => mb k fun ys => opMut op x ys
theorem opMut_of {K : KW} {σ : St} {F H : Hp} {Q : VK} {g : G} {op : O → List D → Option (O × D)} [lo : LeafOp op] {x : R} {ys : List R} {v : V} {us : List V} (h : Post K Y W σ F (JV K Y σ Q) (opMut op x ys g)) (r : Rel K Y σ H g F) (hv : RV K Y σ F H g v x)
    (hu : RVs K Y σ F H g us ys) : ∃ F a o ds o' d, v = .ref a ∧ OwAt K F H a o ∧ F a = none ∧ Same F H ∧ IsL K F us ds ∧ op o ds = some (o', d) ∧ ∀ u w, OwAt K F (upd H a u) a o' → Is K F w d → Q w (upd H a u) := by
  cases x with
  | fz d => exact h.elim
  | ow d => exact h.elim
  | «at» i =>
    unfold opMut at h
    simp only at h
    split at h
    · rename_i l o ds e1 e2
      split at h
      · rename_i o' d e3
        obtain ⟨a, rfl, k1, _, k2, _⟩ := r.at_ e1 hv
        obtain ⟨l1, l2⟩ := lo.h _ _ _ _ e3
        exact ⟨F, a, o, ds, o', d, rfl, k1, (k2 a (by rw [foot_leaf l1]; simp)).1, r.sub, hu.fz e2, e3, fun u w q1 q2 => h _ F (r.mut e1 hv l1 l2 q1) (Same.refl _) w q2⟩
      · exact h.elim
    · exact h.elim
  | sub i f =>
    unfold opMut at h
    simp only at h
    split at h
    · rename_i l c fs ds e1 e2
      split at h
      · rename_i o eo
        split at h
        · rename_i o' d e3
          obtain ⟨l1, l2⟩ := lo.h _ _ _ _ e3
          obtain ⟨a, C, dx, vs, b, k1, rfl, k2, k3, k4, k5, t, ef⟩ := r.subAt e1 hv eo
          have n1 : F b = none := ((r.at_ e1 k1).cells b (show b ∈ foot F a (.ob c fs) by rw [ef]; exact k5 b (by rw [foot_leaf l1]; simp))).1
          exact ⟨F, b, o, ds, o', d, rfl, k4, n1, r.sub, hu.fz e2, e3, fun u w q1 q2 => h _ F (r.mutSub e1 hv eo l1 l2 q1) (Same.refl _) w q2⟩
        · exact h.elim
      · exact h.elim
    · exact h.elim
theorem mut_args {f : M R} {k : M (List R)} {op : O → List D → Option (O × D)} [LeafOp op] {T : String} {σ : St} {H : Hp} {Q : VK} {K : KW} (hT : T ≠ "") (h : tD K Y W (eMut T op f k) σ H Q) :
    tD K Y W f σ H fun x H1 => tyV K T x H1 ∧ tA K Y W k σ H1 fun xs H2 => ∃ F a o ds o' d, x = .ref a ∧ OwAt K F H2 a o ∧ F a = none ∧ Same F H2 ∧ IsL K F xs ds ∧ op o ds = some (o', d) ∧ ∀ u v, OwAt K F (upd H2 a u) a o' → Is K F v d → Q v (upd H2 a u) := by
  obtain ⟨g, F, r, p⟩ := h
  refine ⟨g, F, r, (p.bind).imp fun x g1 H1 F1 r1 s1 q v hv => ?_⟩
  obtain ⟨⟨d, e1, e2⟩, q2⟩ := chkT_of (H := H1) q
  refine ⟨by rw [← e2]; exact tyV_of r1.sub (r1.cv hv e1) (by rw [e2]; exact hT), g1, F1, r1, (q2.bind).imp fun ys g2 H2 F2 r2 s2 q3 us hus => ?_⟩
  exact opMut_of q3 r2 (hv.keep s2 (cont_ne e1)) hus
theorem de_mut {f : M R} {k : M (List R)} {op : O → List D → Option (O × D)} [LeafOp op] (hT : T ≠ "") (pa : PlainAttrs T) (slot : Slot T name id) (hty : typeOf (.builtin id) = pure (.type "method_descriptor")) (hm : MutD X id op) (ho : DE X Y W o f) (ha : DA X Y W (e :: es) k)
    (hbase : attributeBase o name X.env (eval o X.env) = eval o X.env := by rfl)
    (hfew : ((backTo pos (starEach (e :: es) X.env)).all (fun x => !x.1) && (backToKw pos (keywordEach [] X.env)).all (fun x => x.1.isSome)
      && decide ((e :: es).length + ([] : List Keyword).length + (if ([] : List Keyword).isEmpty then 0 else 1) < 30)) = true := by rfl)
    (hline : (apos.endLine == pos.line) = true := by rfl) (hs : starEach (e :: es) X.env = (false, eval e X.env) :: starEach es X.env := by rfl) (hplain : (backTo pos (starEach es X.env)).any (·.1) = false := by rfl) :
    DE X Y W (.Call (.Attribute o name apos) (e :: es) [] pos) (eMut T op f k) :=
  pe_mono (pe_bm pa slot hty hm ho ha hbase hfew hline hs hplain) fun σ H Q h => mut_args hT h
end
end DL

namespace DL
open PySem PySem.Spec L2

/-! ### what built-ins compute -/
def intsOf : List D → Option (List Int)
  | [] => some []
  | .int i :: r => (intsOf r).map (i :: ·)
  | _ => none
def bolsOf : List D → Option (List Bool)
  | [] => some []
  | .bl i :: r => (bolsOf r).map (i :: ·)
  | _ => none
def strsOf : List D → Option (List Str)
  | [] => some []
  | .str i :: r => (strsOf r).map (i :: ·)
  | _ => none
@[simp] theorem intsOf_map : ∀ ns : List Int, intsOf (ns.map D.int) = some ns
  | [] => rfl
  | n :: ns => by rw [List.map_cons, intsOf, intsOf_map ns]; rfl
@[simp] theorem bolsOf_map : ∀ ns : List Bool, bolsOf (ns.map D.bl) = some ns
  | [] => rfl
  | n :: ns => by rw [List.map_cons, bolsOf, bolsOf_map ns]; rfl
@[simp] theorem strsOf_map : ∀ ns : List Str, strsOf (ns.map D.str) = some ns
  | [] => rfl
  | n :: ns => by rw [List.map_cons, strsOf, strsOf_map ns]; rfl
theorem intsOf_eq : ∀ {ds : List D} {ns : List Int}, intsOf ds = some ns → ds = ns.map D.int
  | [], _, h => by cases h; rfl
  | .int i :: r, ns, h => by
    unfold intsOf at h
    cases e : intsOf r with
    | none => rw [e] at h; cases h
    | some m => rw [e] at h; cases h; rw [List.map_cons, intsOf_eq e]
  | .non :: _, _, h => by cases h
  | .bl _ :: _, _, h => by cases h
  | .str _ :: _, _, h => by cases h
  | .tup _ :: _, _, h => by cases h
  | .lst _ :: _, _, h => by cases h
  | .dk _ :: _, _, h => by cases h
  | .dt _ :: _, _, h => by cases h
  | .scr _ :: _, _, h => by cases h
theorem bolsOf_eq : ∀ {ds : List D} {ns : List Bool}, bolsOf ds = some ns → ds = ns.map D.bl
  | [], _, h => by cases h; rfl
  | .bl i :: r, ns, h => by
    unfold bolsOf at h
    cases e : bolsOf r with
    | none => rw [e] at h; cases h
    | some m => rw [e] at h; cases h; rw [List.map_cons, bolsOf_eq e]
  | .non :: _, _, h => by cases h
  | .int _ :: _, _, h => by cases h
  | .str _ :: _, _, h => by cases h
  | .tup _ :: _, _, h => by cases h
  | .lst _ :: _, _, h => by cases h
  | .dk _ :: _, _, h => by cases h
  | .dt _ :: _, _, h => by cases h
  | .scr _ :: _, _, h => by cases h
theorem strsOf_eq : ∀ {ds : List D} {ns : List Str}, strsOf ds = some ns → ds = ns.map D.str
  | [], _, h => by cases h; rfl
  | .str i :: r, ns, h => by
    unfold strsOf at h
    cases e : strsOf r with
    | none => rw [e] at h; cases h
    | some m => rw [e] at h; cases h; rw [List.map_cons, strsOf_eq e]
  | .non :: _, _, h => by cases h
  | .int _ :: _, _, h => by cases h
  | .bl _ :: _, _, h => by cases h
  | .tup _ :: _, _, h => by cases h
  | .lst _ :: _, _, h => by cases h
  | .dk _ :: _, _, h => by cases h
  | .dt _ :: _, _, h => by cases h
  | .scr _ :: _, _, h => by cases h
theorem IsL.bols' {K : KW} {F : Hp} : ∀ (ns : List Bool) (vs : List V), IsL K F vs (ns.map D.bl) → vs = ns.map V.bl
  | [], _, e => e
  | n :: ns, _, ⟨v, r, e, q, t⟩ => by subst e; rw [show v = .bl n from q, IsL.bols' ns r t]; rfl
theorem IsL.strs' {K : KW} {F : Hp} : ∀ (ns : List Str) (vs : List V), IsL K F vs (ns.map D.str) → vs = ns.map V.str ∧ ∀ z ∈ ns, z.length ≤ sizeLine
  | [], _, e => ⟨e, fun _ h => nomatch h⟩
  | n :: ns, _, ⟨v, r, e, q, t⟩ => by
    obtain ⟨h1, h2⟩ := IsL.strs' ns r t
    subst e
    exact ⟨by rw [show v = .str n from q.1, h1]; rfl, fun z hz => (List.mem_cons.mp hz).elim (fun e => e ▸ q.2) (h2 z)⟩
theorem IsL.strs {K : KW} {F : Hp} : ∀ ns : List Str, (∀ z ∈ ns, z.length ≤ sizeLine) → IsL K F (ns.map V.str) (ns.map D.str)
  | [], _ => rfl
  | n :: ns, h => ⟨.str n, ns.map V.str, rfl, ⟨rfl, h n List.mem_cons_self⟩, IsL.strs ns fun z hz => h z (List.mem_cons_of_mem _ hz)⟩

def srt (ns : List Int) : List Int := ns.mergeSort (fun a b => decide (a ≤ b))
theorem srt_perm (ns : List Int) : (srt ns).Perm ns := List.mergeSort_perm ns _
theorem srt_pw (ns : List Int) : (srt ns).Pairwise (· ≤ ·) := by
  have h := List.pairwise_mergeSort (le := fun a b : Int => decide (a ≤ b)) (fun a b c h1 h2 => by simp only [decide_eq_true_eq] at *; omega) (fun a b => by simp only [Bool.or_eq_true, decide_eq_true_eq]; omega) ns
  exact h.imp fun {a b} q => of_decide_eq_true q
theorem srt_of {ns ms : List Int} (h1 : ms.Perm ns) (h2 : ms.Pairwise (· ≤ ·)) : ms = srt ns := PySem.W.ksm_same (h1.trans (srt_perm ns).symm) h2 (srt_pw ns)

def fLen : List D → Option R
  | [.str s] => some (.fz (.int s.length))
  | [.tup xs] => some (.fz (.int xs.length))
  | [.lst xs] => some (.fz (.int xs.length))
  | [.scr xs] => some (.fz (.int xs.length))
  | _ => none
def fTuple : List D → Option R
  | [.lst xs] => some (.fz (.tup xs))
  | [.tup xs] => some (.fz (.tup xs))
  | _ => none
def fList : List D → Option R
  | [.lst xs] => some (.ow (.ls xs))
  | [.tup xs] => some (.ow (.ls xs))
  | [.scr xs] => some (.ow (.ls (xs.map D.int)))
  | _ => none
def fSorted : List D → Option R
  | [.lst xs] => (intsOf xs).map fun ns => .ow (.ls ((srt ns).map D.int))
  | _ => none
def fSum : List D → Option R
  | [.lst xs] => (intsOf xs).map fun ns => .fz (.int ns.sum)
  | _ => none
def fAll : List D → Option R
  | [.lst xs] => (bolsOf xs).map fun ns => .fz (.bl (ns.all id))
  | _ => none
def fAny : List D → Option R
  | [.lst xs] => (bolsOf xs).map fun ns => .fz (.bl (ns.any id))
  | _ => none
def fInt : List D → Option R
  | [.int i] => some (.fz (.int i))
  | [.bl b] => some (.fz (.int (if b then 1 else 0)))
  | [.str s] => if s.length ≤ 640 then (PySem.intText? s).map fun n => .fz (.int n) else none
  | _ => none
def fStr : List D → Option R
  | [.int i] => if i.natAbs.log2 < 1920 ∧ (toString i : Str).length ≤ sizeLine then some (.fz (.str (toString i))) else none
  | [.str s] => some (.fz (.str s))
  | _ => none
def fAbs : List D → Option R
  | [.int i] => some (.fz (.int (if i < 0 then -i else i)))
  | _ => none
def fMax2 : List D → Option R
  | [.int i, .int j] => some (.fz (.int (if j > i then j else i)))
  | _ => none
def fMin2 : List D → Option R
  | [.int i, .int j] => some (.fz (.int (if j < i then j else i)))
  | _ => none
def okRepr (d : D) : Bool := d.flat && d.py.showable && decide (d.py.depth ≤ 64) && decide (d.py.shown.length ≤ sizeLine)
def fRepr : List D → Option R
  | [d] => if okRepr d = true then some (.fz (.str d.py.shown)) else none
  | _ => none

mutual
theorem flat_noDict : ∀ d : D, d.flat = true → d.py.hasDict = false
  | .non, _ => rfl
  | .bl _, _ => rfl
  | .int _, _ => rfl
  | .str _, _ => rfl
  | .tup ds, h => flatL_noDict ds h
  | .lst ds, h => flatL_noDict ds h
  | .dk _, h => nomatch h
  | .dt _, h => nomatch h
  | .scr _, h => nomatch h
  | .exc _, h => nomatch h
  | .lk _, h => nomatch h
  | .ld _, h => nomatch h
  | .tux _, h => nomatch h
theorem flatL_noDict : ∀ ds : List D, flatL ds = true → PyData.hasDictAll (pyL ds) = false
  | [], _ => rfl
  | d :: ds, h => by
    rw [flatL, Bool.and_eq_true] at h
    rw [pyL, PyData.hasDictAll, flat_noDict d h.1, flatL_noDict ds h.2]; rfl
end

section
variable {X : Cx}
theorem cd_len : CallD X (.builtin "len") fLen := by
  intro pins s σ H xs us Q I r ⟨F, ds, r', sm, hc, ho, hr⟩
  unfold fLen at ho
  split at ho
  · cases ho
    obtain ⟨v, rfl, q⟩ := hc.one
    obtain ⟨rfl, hz⟩ := q.str
    exact call_len pins s σ H _ us Q I r ⟨_, _, rfl, ⟨hz, rfl⟩, hr.now sm rfl⟩
  · cases ho
    obtain ⟨v, rfl, q⟩ := hc.one
    obtain ⟨p, vs, rfl, h1, h2, h3⟩ := q.tup
    exact call_len pins s σ H _ us Q I r ⟨_, _, rfl, .inr ⟨vs, sqT_mono sm h1, h3.length.symm⟩, hr.now sm rfl⟩
  · cases ho
    obtain ⟨v, rfl, q⟩ := hc.one
    obtain ⟨p, vs, rfl, h1, h2, h3⟩ := q.lst sm
    exact call_len pins s σ H _ us Q I r ⟨_, _, rfl, .inl ⟨vs, SqL.of h1, h3.length.symm⟩, hr.now sm rfl⟩
  · cases ho
    obtain ⟨v, rfl, q⟩ := hc.one
    obtain ⟨p, rfl, h1, h2⟩ := q.scr
    exact call_len pins s σ H _ us Q I r ⟨_, _, rfl, .inl ⟨_, sm.seq h1, (List.length_map ..).symm⟩, hr.now sm rfl⟩
  · cases ho
theorem cd_tuple : CallD X (.type "tuple") fTuple := by
  intro pins s σ H xs us Q I r ⟨F, ds, r', sm, hc, ho, hr⟩
  unfold fTuple at ho
  split at ho
  · cases ho
    obtain ⟨v, rfl, q⟩ := hc.one
    obtain ⟨p, vs, rfl, h1, h2, h3⟩ := q.lst sm
    exact call_tuple_of pins s σ H _ us Q I r ⟨_, _, rfl, .inl ⟨SqL.of h1, fun l hl => hr.tup sm h3 h2 hl⟩⟩
  · cases ho
    obtain ⟨v, rfl, q⟩ := hc.one
    obtain ⟨p, vs, rfl, h1, h2, h3⟩ := q.tup
    exact call_tuple_of pins s σ H _ us Q I r ⟨_, _, rfl, .inr ⟨sqT_mono sm h1, hr.now sm ⟨p, vs, rfl, h1, h2, h3⟩⟩⟩
  · cases ho
theorem lst_one {K : KW} {F H : Hp} {xs : List V} {ds : List D} (sm : Same F H) (hc : CVs K F H xs [.lst ds]) : ∃ p vs, xs = [.ref p] ∧ SqL K H p vs ∧ ds.length ≤ sizeLine ∧ IsL K F vs ds := by
  obtain ⟨v, rfl, q⟩ := hc.one
  obtain ⟨p, vs, rfl, h1, h2, h3⟩ := q.lst sm
  exact ⟨p, vs, rfl, SqL.of h1, h2, h3⟩
theorem cd_sorted : CallD X (.builtin "sorted") fSorted := by
  intro pins s σ H xs us Q I r ⟨F, ds, r', sm, hc, ho, hr⟩
  unfold fSorted at ho
  split at ho
  · rename_i ds
    cases e : intsOf ds with
    | none => rw [e] at ho; cases ho
    | some ns =>
      rw [e] at ho; cases ho
      obtain ⟨p, vs, rfl, h1, h2, h3⟩ := lst_one sm hc
      have e' := intsOf_eq e
      subst e'
      rw [h3.ints'] at h1
      refine cr_sortedI pins s σ H _ us Q I r ⟨p, ns, rfl, h1, fun ms l q1 q2 hl => ?_⟩
      rw [srt_of q1 q2]
      exact hr.ls sm (IsL.ints _) (by rw [List.length_map, (srt_perm ns).length_eq]; rw [List.length_map] at h2; exact h2) hl
  · cases ho
theorem cd_all (hcm : X.calm = true) : CallD X (.builtin "all") fAll := by
  intro pins s σ H xs us Q I r ⟨F, ds, r', sm, hc, ho, hr⟩
  unfold fAll at ho
  split at ho
  · rename_i ds
    cases e : bolsOf ds with
    | none => rw [e] at ho; cases ho
    | some ns =>
      rw [e] at ho; cases ho
      obtain ⟨p, vs, rfl, h1, h2, h3⟩ := lst_one sm hc
      have e' := bolsOf_eq e
      subst e'
      rw [h3.bols'] at h1
      exact cr_all hcm pins s σ H _ us Q I r ⟨p, ns, rfl, h1, hr.now sm rfl⟩
  · cases ho
theorem cd_repr (hg : X.A.guards = some []) (hu : X.A.units + 128 < cLine) : CallD X (.builtin "repr") fRepr := by
  intro pins s σ H xs us Q I r ⟨F, ds, r', sm, hc, ho, hr⟩
  unfold fRepr at ho
  split at ho
  · split at ho
    · rename_i d hz
      cases ho
      unfold okRepr at hz
      rw [Bool.and_eq_true, Bool.and_eq_true, Bool.and_eq_true] at hz
      obtain ⟨⟨⟨hf, hs⟩, hd⟩, hl⟩ := hz
      have hd := of_decide_eq_true hd
      have hl := of_decide_eq_true hl
      obtain ⟨v, rfl, q⟩ := hc.one
      obtain ⟨u, rfl, ru⟩ := vals1 r
      have dp := q.dp sm hf
      have q' : Q (.str d.py.shown) H := hr.now sm ⟨rfl, hl⟩
      have nd := flat_noDict d hf
      clear hr hc q hf
      generalize d.py = e at *
      obtain ⟨as, rd⟩ := Dp.reads I e v u dp ru
      cases u with
      | none => cases rd; exact P.repr_of_none ⟨.str _, H, I.tok _, ⟨_, rfl⟩, q'⟩
      | bool b => cases rd; exact P.repr_of_bool ⟨.str _, H, I.tok _, ⟨_, rfl⟩, q'⟩
      | int i t => cases rd; exact P.repr_of_int (of_decide_eq_true hs) ⟨.str _, H, I.tok _, ⟨_, rfl⟩, q'⟩
      | str x t => cases rd; exact P.repr_of_str ⟨.str _, H, I.tok _, ⟨_, rfl⟩, q'⟩ hl
      | ref a => exact repr_of_reads' rd hs (fun h => by rw [nd] at h; cases h) hg (by omega) (fun _ _ z => z) (fun h' w tk hk => ⟨.str e.shown, H, I.kept hk, ⟨w, rfl⟩, q'⟩) hl
      | _ => cases rd
    · cases ho
  · cases ho
end
end DL

namespace DL
open PySem PySem.Spec L2

/-! ### subscripts, slices -/
def ixD : D → D → Option R
  | .lst xs, .int i => (atI xs i).map .fz
  | .tup xs, .int i => (atI xs i).map .fz
  | .str z, .int i => (atI z.cps.toList i).map fun c => .fz (.str ⟨#[c]⟩)
  | .scr ns, .int i => (atI ns i).map fun n => .fz (.int n)
  | _, _ => none
def cutL {α : Type} (xs : List α) (lo hi : Option Int) : List α := (xs.drop (HT.sIx xs.length 0 lo)).take (HT.sIx xs.length xs.length hi - HT.sIx xs.length 0 lo)
theorem cutL_length {α : Type} (xs : List α) (lo hi : Option Int) : (cutL xs lo hi).length ≤ xs.length := by
  unfold cutL; rw [List.length_take, List.length_drop]; omega
def slD (lo hi : Option Int) : D → Option R
  | .lst xs => some (.ow (.ls (cutL xs lo hi)))
  | .tup xs => some (.fz (.tup (cutL xs lo hi)))
  | .str z => some (.fz (.str (cutS z lo hi)))
  | _ => none
theorem atI_eq {α β : Type} {xs : List α} {ys : List β} {i : Int} {j : Nat} (h : ixN xs.length i = some j) (hl : ys.length = xs.length) {y : β} (hy : ys[j]? = some y) : atI ys i = some y := by
  unfold atI; rw [hl, h]; exact hy
theorem atI_ix {α : Type} {xs : List α} {i : Int} {x : α} (h : atI xs i = some x) : ∃ j, ixN xs.length i = some j ∧ xs[j]? = some x := by
  unfold atI at h
  cases e : ixN xs.length i with
  | none => rw [e] at h; cases h
  | some j => rw [e] at h; exact ⟨j, rfl, h⟩
theorem IsL.atI {K : KW} {F : Hp} {ds : List D} {vs : List V} {i : Int} {d : D} (q : IsL K F vs ds) (h : L2.atI ds i = some d) : ∃ v, L2.atI vs i = some v ∧ Is K F v d := by
  obtain ⟨j, h1, h2⟩ := atI_ix h
  obtain ⟨v, h3, h4⟩ := q.get h2
  exact ⟨v, atI_eq h1 q.length h3, h4⟩
def IxD (X : Cx) (op : D → D → Option R) : Prop :=
  IxR X fun x y H Q => ∃ F a b r, Same F H ∧ CV X.kw F H x a ∧ CV X.kw F H y b ∧ op a b = some r ∧ RP X.kw F H Q r
/-- a part of a slice -/
def toI (x : R) : M (Option Int) := fun g => match x with
  | .fz (.int i) => .ok (some i) g
  | _ => .bad
def ePart (f : M R) : M (Option Int) := mb f toI
def eNoPart : M (Option Int) := mp none
def opSl (x : R) (lo hi : Option Int) : M R := fun g => match cont g x with
  | some d => done (slD lo hi d) g
  | none => .bad
def eSl (f : M R) (l h : M (Option Int)) : M R := mb (pk f) fun x => mb l fun lo => mb h fun hi => opSl x lo hi
def tO (K : KW) (Y : Ent) (W : WX) (f : M (Option Int)) : TO := fun σ H Q => ∃ g F, Rel K Y σ H g F ∧ Post K Y W σ F (fun o _ H' _ => Q o H') (f g)
def DO (X : Cx) (Y : Ent) (W : WX) (e : Option Expr) (f : M (Option Int)) : Prop := PO X e (tO X.kw Y W f)
def slRevD : D → Option R
  | .lst xs => some (.ow (.ls xs.reverse))
  | _ => none
def opRev (x : R) : M R := fun g => match cont g x with
  | some d => done (slRevD d) g
  | none => .bad
def eRev (f : M R) : M R := mb (pk f) opRev
section
variable {X : Cx} {Y : Ent} {W : WX} {pos p2 : Pos} {a b e : Expr}
theorem id_ix : IxD X ixD := by
  intro value slice pins s σ H x y v u Q I rx ry ⟨F, a, b, r, sm, ha, hb, ho, hr⟩ hs
  unfold ixD at ho
  split at ho
  · rename_i xs i
    cases e : L2.atI xs i with
    | none => rw [e] at ho; cases ho
    | some d =>
      rw [e] at ho; cases ho
      obtain ⟨p, vs, rfl, h1, h2, h3⟩ := ha.lst sm
      obtain ⟨w, h4, h5⟩ := h3.atI e
      exact ix_list value slice pins s σ H _ y v u Q I rx ry ⟨p, vs, i, w, rfl, hb.int, SqL.of h1, h4, hr.now sm h5⟩ hs
  · rename_i xs i
    cases e : L2.atI xs i with
    | none => rw [e] at ho; cases ho
    | some d =>
      rw [e] at ho; cases ho
      obtain ⟨p, vs, rfl, h1, h2, h3⟩ := ha.tup
      obtain ⟨w, h4, h5⟩ := h3.atI e
      exact ix_tup value slice pins s σ H _ y v u Q I rx ry ⟨p, vs, i, w, rfl, hb.int, sqT_mono sm h1, h4, hr.now sm h5⟩ hs
  · rename_i z i
    cases e : L2.atI z.cps.toList i with
    | none => rw [e] at ho; cases ho
    | some c =>
      rw [e] at ho; cases ho
      exact ix_str value slice pins s σ H x y v u Q I rx ry ⟨z, i, c, ha.str.1, hb.int, ha.str.2, e, hr.now sm ⟨rfl, by show (1 : Nat) ≤ sizeLine; decide⟩⟩ hs
  · rename_i ns i
    cases e : L2.atI ns i with
    | none => rw [e] at ho; cases ho
    | some n =>
      rw [e] at ho; cases ho
      obtain ⟨p, rfl, h1, h2⟩ := ha.scr
      obtain ⟨j, k1, k2⟩ := atI_ix e
      exact ix_list value slice pins s σ H _ y v u Q I rx ry ⟨p, _, i, .int n, rfl, hb.int, sm.seq h1, atI_eq k1 (List.length_map ..) (by rw [List.getElem?_map, k2]; rfl), hr.now sm rfl⟩ hs
  · cases ho
theorem de_ix {f k : M R} (ha : DE X Y W a f) (hb : DE X Y W b k) (hs : PlainIx b := by exact fun _ _ => rfl) : DE X Y W (.Subscript a b pos) (eB ixD f k) :=
  pe_mono (pe_ix id_ix (de_pk ha) (de_pk hb) hs) fun σ H Q h => two_args ha hb h
theorem do_none : DO X Y W none eNoPart := ⟨fun pins s σ H Q I ⟨g, F, r, p⟩ => po_none.run pins s σ H Q I (p H F r (Same.refl _))⟩
theorem do_some {f : M R} (h : DE X Y W e f) : DO X Y W (some e) (ePart f) :=
  ⟨fun pins s σ H Q I ⟨g, F, r, p⟩ => (po_some h).run pins s σ H Q I ⟨g, F, r, (p.bind).imp fun x g1 H1 F1 r1 s1 q v hv => by
    unfold toI at q
    split at q
    · exact ⟨_, hv, q H1 F1 r1 (Same.refl _)⟩
    · exact q.elim⟩⟩
theorem sd_sl : SlR X (fun x lo hi H Q => ∃ F a r, Same F H ∧ CV X.kw F H x a ∧ slD lo hi a = some r ∧ RP X.kw F H Q r) := by
  intro pins s σ H x v vl vu lo hi sl Q I rx hs pl pu ⟨F, a, r, sm, ha, ho, hr⟩
  unfold slD at ho
  split at ho
  · cases ho
    rename_i xs
    obtain ⟨p, vs, rfl, h1, h2, h3⟩ := ha.lst sm
    refine sl_list pins s σ H _ v vl vu lo hi sl Q I rx hs pl pu ⟨p, vs, rfl, SqL.of h1, fun l hl => ?_⟩
    have e : IsL X.kw F (cutV vs lo hi) (cutL xs lo hi) := by
      unfold cutV cutL
      rw [h3.length]
      exact (h3.drop _).take _
    exact hr.ls sm e (Nat.le_trans (cutL_length ..) h2) hl
  · cases ho
    rename_i xs
    obtain ⟨p, vs, rfl, h1, h2, h3⟩ := ha.tup
    have e : IsL X.kw F (cutV vs lo hi) (cutL xs lo hi) := by
      unfold cutV cutL
      rw [h3.length]
      exact (h3.drop _).take _
    refine sl_tupA pins s σ H _ v vl vu lo hi sl Q I rx hs pl pu ⟨p, vs, rfl, sqT_mono sm h1, fun hw => ?_, fun hw l hl => hr.tup sm e (Nat.le_trans (cutL_length ..) h2) hl⟩
    have e2 : cutL xs lo hi = xs := by
      unfold cutL
      rw [h3.length] at hw
      rw [hw.1, hw.2, List.drop_zero, Nat.sub_zero, List.take_length]
    rw [e2] at hr
    exact hr.now sm ⟨p, vs, rfl, h1, h2, h3⟩
  · cases ho
    exact sl_str pins s σ H _ v vl vu lo hi sl Q I rx hs pl pu ⟨_, ha.str.1, ha.str.2, hr.now sm ⟨rfl, Nat.le_trans (cutS_length ..) ha.str.2⟩⟩
  · cases ho
theorem de_sl {f : M R} {l h : M (Option Int)} {lo hi : Option Expr} (he : DE X Y W e f) (hl : DO X Y W lo l) (hu : DO X Y W hi h) : DE X Y W (.Subscript e (.Slice lo hi none p2) pos) (eSl f l h) :=
  pe_mono (pe_slice sd_sl (de_pk he) hl hu) fun σ H Q ⟨g, F, r, p⟩ => ⟨g, F, r, (p.bind).imp fun x g1 H1 F1 r1 s1 q v hv => ⟨g1, F1, r1, (q.bind).imp fun lo g2 H2 F2 r2 s2 q2 => ⟨g2, F2, r2, (q2.bind).imp fun hi g3 H3 F3 r3 s3 q3 => by
    unfold opSl at q3
    split at q3
    · rename_i d e
      obtain ⟨r', k1, k2⟩ := Post.done q3 r3
      exact ⟨F3, d, r', r3.sub, r3.cv (hv.keep (s2.trans s3) (cont_ne e)) e, k1, k2⟩
    · exact q3.elim⟩⟩⟩
end

/-! ### methods of texts -/
def mJoin : D → List D → Option R
  | .str a, [.lst xs] => (strsOf xs).bind fun ys => if (ys.map (·.length)).sum + ys.length * a.length ≤ 16777216 then some (.fz (.str (Txt.join a ys))) else none
  | .str a, [.tup xs] => (strsOf xs).bind fun ys => if (ys.map (·.length)).sum + ys.length * a.length ≤ 16777216 then some (.fz (.str (Txt.join a ys))) else none
  | _, _ => none
def mSplit : D → List D → Option R
  | .str a, [.str b] => if (b.length == 0) = false ∧ a.length + 2 ≤ sizeLine ∧ (Txt.split a b).length ≤ sizeLine ∧ (Txt.split a b).all (fun z => decide (z.length ≤ sizeLine)) = true then some (.ow (.ls ((Txt.split a b).map .str))) else none
  | _, _ => none
def mFind : D → List D → Option R
  | .str a, [.str b] => some (.fz (.int (Txt.find a b)))
  | _, _ => none
def mCount : D → List D → Option R
  | .str a, [.str b] => some (.fz (.int (Txt.count a b)))
  | _, _ => none
def mIndex : D → List D → Option R
  | .str a, [.str b] => match Builtin.Str.occurrences a b 0 a.length 1 with
    | i :: _ => some (.fz (.int (i : Nat)))
    | [] => none
  | _, _ => none
def mStarts : D → List D → Option R
  | .str a, [.str b] => some (.fz (.bl (Txt.startswith a b)))
  | _, _ => none
def mEnds : D → List D → Option R
  | .str a, [.str b] => some (.fz (.bl (Txt.endswith a b)))
  | _, _ => none
section
variable {X : Cx}
/-! ### lists that are changed -/
def uAppend : O → List D → Option (O × D)
  | .ls xs, [d] => if xs.length < sizeLine then some (.ls (xs ++ [d]), .non) else none
  | _, _ => none
def uExtend : O → List D → Option (O × D)
  | .ls xs, [.lst ys] => if xs.length + ys.length ≤ sizeLine then some (.ls (xs ++ ys), .non) else none
  | _, _ => none
def uPop : O → List D → Option (O × D)
  | .ls xs, [] => xs.getLast?.map fun d => (.ls xs.dropLast, d)
  | _, _ => none
def uPopAt : O → List D → Option (O × D)
  | .ls xs, [.int i] => if -(2 ^ 63) ≤ i ∧ i < 2 ^ 63 then (ixN xs.length i).bind fun k => xs[k]?.map fun d => (.ls (xs.eraseIdx k), d) else none
  | _, _ => none
def uReverse : O → List D → Option (O × D)
  | .ls xs, [] => some (.ls xs.reverse, .non)
  | _, _ => none
theorem leaf_ls {ls : Bool} {op : O → List D → Option (O × D)} (h : ∀ o ds o' d, op o ds = some (o', d) → (∃ xs, o = .ls xs) ∧ ∃ xs, o' = .ls xs) : LeafOp op := ⟨fun o ds o' d e => by
  obtain ⟨⟨xs, rfl⟩, ys, rfl⟩ := h o ds o' d e; exact ⟨rfl, rfl⟩⟩
instance : LeafOp uAppend := leaf_ls (ls := true) fun o ds o' d e => by
  unfold uAppend at e
  split at e
  · split at e
    · cases e; exact ⟨⟨_, rfl⟩, _, rfl⟩
    · cases e
  · cases e
instance : LeafOp uExtend := leaf_ls (ls := true) fun o ds o' d e => by
  unfold uExtend at e
  split at e
  · split at e
    · cases e; exact ⟨⟨_, rfl⟩, _, rfl⟩
    · cases e
  · cases e
instance : LeafOp uPop := leaf_ls (ls := true) fun o ds o' d e => by
  unfold uPop at e
  split at e
  · obtain ⟨x, _, e⟩ := Option.map_eq_some_iff.mp e; cases e; exact ⟨⟨_, rfl⟩, _, rfl⟩
  · cases e
instance : LeafOp uPopAt := leaf_ls (ls := true) fun o ds o' d e => by
  unfold uPopAt at e
  split at e
  · split at e
    · obtain ⟨k, _, e⟩ := Option.bind_eq_some_iff.mp e
      obtain ⟨x, _, e⟩ := Option.map_eq_some_iff.mp e
      cases e; exact ⟨⟨_, rfl⟩, _, rfl⟩
    · cases e
  · cases e
instance : LeafOp uReverse := leaf_ls (ls := true) fun o ds o' d e => by
  unfold uReverse at e
  split at e
  · cases e; exact ⟨⟨_, rfl⟩, _, rfl⟩
  · cases e
theorem ud_append : MutD X "list.append" uAppend := by
  intro pins s σ H x xs v us Q I rx rs h0
  obtain ⟨F, a, o, ds, o', d, rfl, q1, q2, sm, q3, ho, q⟩ := h0
  unfold uAppend at ho
  split at ho
  · split at ho
    · rename_i ys e hz
      cases ho
      obtain ⟨vs, h1, h2, h3⟩ := q1
      obtain ⟨w, r, rfl, k1, k2⟩ := q3
      rw [show r = [] from k2] at rs
      have hz' : vs.length < sizeLine := by rw [h3.length]; exact hz
      exact mt_append pins s σ H _ _ v us Q I rx rs ⟨a, vs, w, rfl, rfl, h1, hz', q _ _ ⟨_, upd_same, by rw [List.length_append]; exact hz, h3.append (.one k1)⟩ rfl⟩
    · cases ho
  · cases ho
theorem IsL.dropLast {K : KW} {F : Hp} {ds : List D} {vs : List V} (q : IsL K F vs ds) : IsL K F vs.dropLast ds.dropLast := by
  rw [List.dropLast_eq_take, List.dropLast_eq_take, q.length]
  exact q.take _
theorem IsL.erase {K : KW} {F : Hp} : ∀ {ds : List D} {vs : List V} (k : Nat), IsL K F vs ds → IsL K F (vs.eraseIdx k) (ds.eraseIdx k)
  | [], _, _, e => by rw [show _ = [] from e]; exact rfl
  | d :: ds, _, 0, ⟨v, r, e, q, t⟩ => by subst e; exact t
  | d :: ds, _, k + 1, ⟨v, r, e, q, t⟩ => by subst e; exact ⟨v, r.eraseIdx k, rfl, q, IsL.erase k t⟩
end
end DL

namespace DL
open PySem PySem.Spec L2

/-! ### statements -/
def PostS (K : KW) (Y : Ent) (W : WX) (F : Hp) (D : Ends) : Rs Fl → Prop
  | .bad => False
  | .ok fl g => ∀ σ' H' F', Rel K Y σ' H' g F' → Same F F' → match fl with
    | .nx => D.nx σ' H'
    | .bk => D.bk σ' H'
    | .ct => D.ct σ' H'
    | .rt r => ∀ v, RV K Y σ' F' H' g v r → D.rt v H'
  | .ex e g => ∀ d σ' H' F', Rel K Y σ' H' g F' → Same F F' → XD K F' H' d e.p → W (Y.cls e.c) d σ' H'
def tS (K : KW) (Y : Ent) (W : WX) (f : M Fl) : TS := fun D σ H => ∃ g F, Rel K Y σ H g F ∧ PostS K Y W F D (f g)
def DS (X : Cx) (Y : Ent) (W : WX) (st : Stmt) (f : M Fl) : Prop := PS X st (tS X.kw Y W f)
def DSs (X : Cx) (Y : Ent) (W : WX) (st : List Stmt) (f : M Fl) : Prop := PSs X st (tS X.kw Y W f)
theorem PostS.weak {K : KW} {Y : Ent} {W : WX} {F F1 : Hp} {D : Ends} {x : Rs Fl} (s : Same F F1) (h : PostS K Y W F D x) : PostS K Y W F1 D x := by
  cases x with
  | bad => exact h
  | ok fl g => exact fun σ' H' F' r s' => h σ' H' F' r (s.trans s')
  | ex e g => exact fun d σ' H' F' r s' => h d σ' H' F' r (s.trans s')
/-- an expression first -/
theorem PostS.bind {α : Type} {K : KW} {Y : Ent} {W : WX} {σ : St} {F : Hp} {D : Ends} {x : Rs α} {k : α → G → Rs Fl} (h : PostS K Y W F D (x.andThen k)) :
    Post K Y W σ F (fun a g _ F' => PostS K Y W F' D (k a g)) x := by
  cases x with
  | bad => exact h
  | ex e g => exact fun d H' F' r s q => h d σ H' F' r s q
  | ok a g => exact fun H1 F1 r s => PostS.weak s h
def sSeq (a b : M Fl) : M Fl := fun g => match a g with
  | .ok .nx g' => b g'
  | r => r
def sNil : M Fl := mp .nx
def sExpr (f : M R) : M Fl := mb f fun _ => mp .nx
def sPass : M Fl := mp .nx
def sBrk : M Fl := mp .bk
def sCont : M Fl := mp .ct
def retR (r : R) : M Fl := fun g => match r with
  | .fz d => .ok (.rt (.fz d)) g
  | .ow o => .ok (.rt (.ow o)) g
  | .at i => match g[i]? with
    | some (some (.ow false o)) => .ok (.rt (.ow o)) (g.set i none)
    | some (some (.fz d)) => .ok (.rt (.fz d)) g
    | _ => .bad
  | .sub _ _ => .bad
def sRet (f : M R) : M Fl := mb f retR
def sRetN : M Fl := mp (.rt (.fz .non))
def sIf (c : M Bool) (a b : M Fl) : M Fl := mb c fun t => if t = true then a else b
section
variable {X : Cx} {Y : Ent} {W : WX} {pos : Pos} {e : Expr} {st : Stmt} {rest : List Stmt}
theorem PostS.seq {K : KW} {F : Hp} {D : Ends} {a b : M Fl} {g : G} (h : PostS K Y W F D (sSeq a b g)) : PostS K Y W F { D with nx := tS K Y W b D } (a g) := by
  have h' : PostS K Y W F D (match a g with | .ok .nx g' => b g' | r => r) := h
  revert h'
  cases a g with
  | bad => exact id
  | ex e g => exact id
  | ok fl g' =>
    cases fl with
    | nx => exact fun h' σ' H' F' r s => ⟨g', F', r, PostS.weak s h'⟩
    | bk => exact id
    | ct => exact id
    | rt r => exact id
theorem ds_nil : DSs X Y W [] sNil := pss_mono pss_nil fun D σ H ⟨g, F, r, p⟩ => p σ H F r (Same.refl _)
theorem ds_cons {f k : M Fl} (h1 : DS X Y W st f) (h2 : DSs X Y W rest k) : DSs X Y W (st :: rest) (sSeq f k) :=
  pss_mono (pss_cons h1 h2) fun D σ H ⟨g, F, r, p⟩ => ⟨g, F, r, p.seq⟩
theorem ds_one {f : M Fl} (h1 : DS X Y W st f) : DSs X Y W [st] f := pss_one h1
theorem ds_expr {f : M R} (he : DE X Y W e f) (hs : swapsWith e none pos.line X.env = pure false := by rfl) : DS X Y W (.Expr e pos) (sExpr f) :=
  ps_mono (ps_expr he hs) fun D σ H ⟨g, F, r, p⟩ => ⟨g, F, r, (p.bind).imp fun x g1 H1 F1 r1 s1 q v hv => q σ H1 F1 r1 (Same.refl _)⟩
theorem ds_break : DS X Y W (.Break pos) sBrk := ps_mono ps_break fun D σ H ⟨g, F, r, p⟩ => p σ H F r (Same.refl _)
theorem Rel.drop {K : KW} {σ : St} {H F : Hp} {g : G} (r : Rel K Y σ H g F) (i : Nat) : Rel K Y σ H (g.set i none) F :=
  r.mask (r.len.trans (List.length_set ..).symm) fun j s e => by
    rcases get_set e with ⟨_, e'⟩ | ⟨_, e'⟩
    · cases e'
    · exact ⟨e', rfl⟩
theorem PostS.ret {K : KW} {σ : St} {H F : Hp} {D : Ends} {r : R} {g : G} {v : V} (h : PostS K Y W F D (retR r g)) (rl : Rel K Y σ H g F) (hv : RV K Y σ F H g v r) : D.rt v H := by
  cases r with
  | fz d => exact h σ H F rl (Same.refl _) v hv
  | ow o => exact h σ H F rl (Same.refl _) v hv
  | sub i f => exact h.elim
  | «at» i =>
    unfold retR at h
    simp only at h
    split at h
    · rename_i o e
      obtain ⟨a, rfl, h2, nd, n, _⟩ := rl.at_ e hv
      refine h σ H F (rl.drop i) (Same.refl _) (.ref a) ⟨a, rfl, h2, nd, fun b hb => ⟨(n b hb).1, (n b hb).2.1, (n b hb).2.2.1 rfl, fun j t u ej hj => ?_⟩⟩
      rcases get_set ej with ⟨_, e'⟩ | ⟨nj, e'⟩
      · cases e'
      · exact rl.inj i j _ _ _ _ (Ne.symm nj) e e' hv hj b hb
    · rename_i d e
      obtain ⟨u, h1, h2⟩ := rl.fz i d e
      rw [show σ[i]? = some (some v) from hv] at h1
      cases h1
      exact h σ H F rl (Same.refl _) v h2
    · exact h.elim
theorem ds_ret {f : M R} (he : DE X Y W e f) : DS X Y W (.Return (some e) pos) (sRet f) :=
  ps_mono (ps_ret he) fun D σ H ⟨g, F, r, p⟩ => ⟨g, F, r, (p.bind).imp fun x g1 H1 F1 r1 s1 q v hv => q.ret r1 hv⟩
theorem ds_if {c : Expr} {a b : List Stmt} {t : M Bool} {f k : M Fl} (hc : DT X Y W c t) (ha : DSs X Y W a f) (hb : DSs X Y W b k) : DS X Y W (.If c a b pos) (sIf t f k) :=
  ps_mono (ps_if hc ha hb) fun D σ H ⟨g, F, r, p⟩ => ⟨g, F, r, (p.bind).imp fun x g1 H1 F1 r1 s1 q => by
    cases x with
    | true => exact ⟨g1, F1, r1, q⟩
    | false => exact ⟨g1, F1, r1, q⟩⟩
end

/-! ### targets -/
/-- a slot takes a result -/
def setSl (i : Nat) (r : R) : M Unit := fun g => match r with
  | .fz d => .ok () (g.set i (some (.fz d)))
  | .ow o => .ok () (g.set i (some (.ow false o)))
  | .at _ => .bad
  | .sub _ _ => .bad
def PostG (K : KW) (Y : Ent) (σ : St) (F : Hp) (ts : List Nat) (Q : St → Hp → Prop) : Rs Unit → Prop
  | .ok _ g => ∀ σ' H' F', Rel K Y σ' H' g F' → Same F F' → σ'.length = σ.length → (∀ j, j ∉ ts → σ'[j]? = σ[j]?) → Q σ' H'
  | _ => False
def tG (K : KW) (Y : Ent) (ts : List Nat) (t : R → M Unit) : TG := fun v σ H Q => ∃ g F r, Rel K Y σ H g F ∧ RV K Y σ F H g v r ∧ PostG K Y σ F ts Q (t r g)
def tGs (K : KW) (Y : Ent) (ts : List Nat) (t : List D → M Unit) : TGs := fun vs σ H Q => ∃ g F ds, Rel K Y σ H g F ∧ IsL K F vs ds ∧ PostG K Y σ F ts Q (t ds g)
def DG (X : Cx) (Y : Ent) (tg : Expr) (ts : List Nat) (t : R → M Unit) : Prop := PG X tg (tG X.kw Y ts t)
def DGs (X : Cx) (Y : Ent) (tgs : List Expr) (ts : List Nat) (t : List D → M Unit) : Prop := PGs X tgs (tGs X.kw Y ts t)
theorem Rel.put {K : KW} {Y : Ent} {σ : St} {H F : Hp} {g g' : G} {i : Nat} {v : V} {r : R} (rl : Rel K Y σ H g F) (hv : RV K Y σ F H g v r) (e : setSl i r g = .ok () g') : Rel K Y (σ.set i (some v)) H g' F := by
  cases r with
  | fz d => cases e; exact rl.putS (s := .fz d) hv fun b hb => by rw [sf_fz] at hb; cases hb
  | ow o =>
    cases e
    obtain ⟨a, rfl, k1, nd, n⟩ := hv
    exact rl.putS (s := .ow false o) ⟨a, rfl, k1, nd, fun b hb => ⟨(n b hb).1, (n b hb).2.1, fun _ => (n b hb).2.2.1, .inl (n b hb).2.2.1⟩, fun z => nomatch z⟩ fun b hb j t u _ ej hu => (n b hb).2.2.2 j t u ej hu
  | «at» j => cases e
  | sub j f => cases e
def gsNil : List D → M Unit := fun ds g => match ds with
  | [] => .ok () g
  | _ => .bad
def gsCons (t : R → M Unit) (u : List D → M Unit) : List D → M Unit := fun ds g => match ds with
  | d :: r => (t (.fz d) g).andThen fun _ => u r
  | [] => .bad
/-- names from a tuple or a list of so many items -/
def gUn (n : Nat) (t : List D → M Unit) : R → M Unit := fun r g => match r with
  | .fz (.tup ds) => if ds.length = n then t ds g else .bad
  | .fz (.lst ds) => if ds.length = n then t ds g else .bad
  | .ow (.ls ds) => if ds.length = n then t ds g else .bad
  | _ => .bad
section
variable {X : Cx} {Y : Ent} {W : WX} {pos : Pos} {e : Expr} {es : List Expr}
theorem dg_name {i : Nat} {x : Str} (hN : X.N.Nodup) (hi : X.N[i]? = some x := by rfl) (hx : Loc X.env.scope x := by first | exact Or.inl rfl | exact Or.inr rfl) (hf : X.fn x = true ∨ X.env.scope.names.lookup x = some .local := by first | exact .inl rfl | exact .inr rfl | assumption) :
    DG X Y (.Name x pos) [i] (setSl i) :=
  pg_mono (pg_name hN hi hx hf) fun v σ H Q ⟨g, F, r, rl, hv, p⟩ => by
    cases e : setSl i r g with
    | bad => rw [e] at p; exact p.elim
    | ex _ _ => rw [e] at p; exact p.elim
    | ok u g' =>
      rw [e] at p
      exact p _ H F (rl.put hv e) (Same.refl _) (List.length_set ..) fun j hj => List.getElem?_set_ne (fun z => hj (by simp [z]))
theorem dgs_nil : DGs X Y [] [] gsNil := ⟨fun pins s σ H vs us Q I r ⟨g, F, ds, rl, hl, p⟩ => pgs_nil.run pins s σ H vs us Q I r (by
  unfold gsNil at p
  split at p
  · exact ⟨hl, p σ H F rl (Same.refl _) rfl fun _ _ => rfl⟩
  · exact p.elim)⟩
theorem dgs_cons {ts us : List Nat} {t : R → M Unit} {u : List D → M Unit} (h1 : DG X Y e ts t) (h2 : DGs X Y es us u) (hs : (assignEach (e :: es) X.env).map (·.2) = assign e X.env :: (assignEach es X.env).map (·.2) := by rfl) : DGs X Y (e :: es) (ts ++ us) (gsCons t u) :=
  ⟨fun pins s σ H vs ws Q I r ⟨g, F, ds, rl, hl, p⟩ => (pgs_cons h1 h2 hs).run pins s σ H vs ws Q I r (by
    unfold gsCons at p
    cases ds with
    | nil => exact p.elim
    | cons d ds =>
      obtain ⟨v, vs', rfl, q, hl'⟩ := hl
      refine ⟨v, vs', rfl, g, F, .fz d, rl, q, ?_⟩
      have p' : PostG X.kw Y σ F (ts ++ us) Q ((t (.fz d) g).andThen fun _ => u ds) := p
      revert p'
      cases t (.fz d) g with
      | bad => exact fun p' => p'
      | ex _ _ => exact fun p' => p'
      | ok _ g1 =>
        intro p' σ1 H1 F1 r1 s1 l1 k1
        refine ⟨g1, F1, ds, r1, IsL.mono s1 _ _ hl', ?_⟩
        have p2 : PostG X.kw Y σ F (ts ++ us) Q (u ds g1) := p'
        revert p2
        cases u ds g1 with
        | bad => exact fun p2 => p2
        | ex _ _ => exact fun p2 => p2
        | ok _ g2 => exact fun p2 σ2 H2 F2 r2 s2 l2 k2 => p2 σ2 H2 F2 r2 (s1.trans s2) (l2.trans l1) fun j hj => (k2 j fun z => hj (List.mem_append_right _ z)).trans (k1 j fun z => hj (List.mem_append_left _ z)))⟩
theorem pg_or {tg : Expr} {t t' : TG} (h : PG X tg t) (h' : PG X tg t') : PG X tg (fun v σ H Q => t v σ H Q ∨ t' v σ H Q) :=
  ⟨fun pins s σ H v u Q I r q => q.elim (h.run pins s σ H v u Q I r) (h'.run pins s σ H v u Q I r)⟩
theorem dg_un {k n : Nat} {ts : List Nat} {t : List D → M Unit} (hc : X.calm = true) (h : DGs X Y es ts t) (hn : (assignEach es X.env).length = n := by rfl) (hst : (assignEach es X.env).findIdx? (·.1) = none := by rfl) : DG X Y (.Tuple es k pos) ts (gUn n t) :=
  pg_mono (pg_or (pg_tup hc h hn hst) (pg_lst hc h hn hst)) fun v σ H Q ⟨g, F, r, rl, hv, p⟩ => by
    unfold gUn at p
    split at p
    · split at p
      · rename_i hz
        obtain ⟨a, vs, rfl, k1, k2, k3⟩ := hv
        exact .inl ⟨a, vs, rfl, sqT_mono rl.sub k1, by rw [k3.length]; exact hz, g, F, _, rl, k3, p⟩
      · exact p.elim
    · split at p
      · rename_i hz
        obtain ⟨a, vs, rfl, k1, k2, k3⟩ := hv
        exact .inr ⟨a, vs, rfl, SqL.of (rl.sub _ _ k1), by rw [k3.length]; exact hz, g, F, _, rl, k3, p⟩
      · exact p.elim
    · split at p
      · rename_i hz
        obtain ⟨a, rfl, ⟨vs, k1, k2, k3⟩, _⟩ := hv
        exact .inr ⟨a, vs, rfl, SqL.of k1, by rw [k3.length]; exact hz, g, F, _, rl, k3, p⟩
      · exact p.elim
    · exact p.elim

/-! ### assignments -/
/-- a slot's own object that gets a second name is frozen -/
def escA (r : R) : M R := fun g => match r with
  | .at i => escR (.at i) g
  | r => .ok r g
def eA (f : M R) : M R := mb f escA
theorem de_A {f : M R} (h : DE X Y W e f) : DE X Y W e (eA f) :=
  pe_mono h fun σ H Q ⟨g, F, r, p⟩ => ⟨g, F, r, p.bind.imp fun x g' H' F' r' s' q v hv => by
    cases x with
    | fz d => exact q H' F' r' (Same.refl _) v hv
    | ow o => exact q H' F' r' (Same.refl _) v hv
    | sub i f => exact q H' F' r' (Same.refl _) v hv
    | «at» i => exact Post.escR (show Post X.kw Y W σ F' (JV X.kw Y σ Q) (escR (.at i) g') from q) r' hv⟩
def noEx {α : Type} : Rs α → Rs α
  | .ex _ _ => .bad
  | r => r
def sAsg (f : M R) (t : R → M Unit) : M Fl := mb (eA f) fun r g => (noEx (t r g)).andThen fun _ => mp .nx
theorem PostS.asg {K : KW} {σ : St} {F : Hp} {D : Ends} {ts : List Nat} {x : Rs Unit} (h : PostS K Y W F D ((noEx x).andThen fun _ => mp .nx)) : PostG K Y σ F ts D.nx x := by
  cases x with
  | bad => exact h
  | ex _ _ => exact h
  | ok _ g => exact fun σ' H' F' r s _ _ => h σ' H' F' r s
theorem ds_asg {tg : Expr} {ts : List Nat} {f : M R} {t : R → M Unit} (he : DE X Y W e f) (hg : DG X Y tg ts t) (hs : swapsWithSole [tg] e pos.line X.env = pure false := by rfl) (hw : swappedStores [tg] e X.env = pure none := by rfl)
    (h1 : (assignEach [tg] X.env).map (·.2) = [assign tg X.env] := by rfl) : DS X Y W (.Assign [tg] e pos) (sAsg f t) :=
  ps_mono (ps_asg (de_A he) hg hs hw h1) fun D σ H ⟨g, F, r, p⟩ => ⟨g, F, r, (p.bind).imp fun x g1 H1 F1 r1 s1 q v hv => ⟨g1, F1, x, r1, hv, q.asg⟩⟩
/-- a, b = x, y -/
def sPar (i j : Nat) (k : M (List R)) : M Fl := mb k fun rs g => match rs with
  | [.fz a, .fz b] => .ok .nx ((g.set i (some (.fz a))).set j (some (.fz b)))
  | _ => .bad
/-- x op= e, of frozen things -/
def opAug (i : Nat) (op : D → D → Option R) (y : R) : M Fl := fun g => match g[i]?, cont g y with
  | some (some (.fz a)), some b => match op a b with
    | some (.fz d) => .ok .nx (g.set i (some (.fz d)))
    | _ => .bad
  | _, _ => .bad
/-- the slot holds a frozen thing ahead -/
def chkFz (i : Nat) : M D := fun g => match g[i]? with
  | some (some (.fz a)) => .ok a g
  | _ => .bad
def sAug (i : Nat) (op : D → D → Option R) (f : M R) : M Fl := mb (chkFz i) fun a => mb (pk f) fun y g => match cont g y with
  | some b => match op a b with
    | some (.fz d) => .ok .nx (g.set i (some (.fz d)))
    | _ => .bad
  | none => .bad
def IpD (X : Cx) (op : Operator) (bop : D → D → Option R) : Prop :=
  PIp X op fun x y H Q => ∃ F a b r, Same F H ∧ CV X.kw F H x a ∧ CV X.kw F H y b ∧ bop a b = some r ∧ RP X.kw F H Q r
theorem ds_aug {i : Nat} {x : Str} {op : Operator} {bop : D → D → Option R} {f : M R} {pos' : Pos} (hN : X.N.Nodup) (ho : IpD X op bop) (he : DE X Y W e f) (hi : X.N[i]? = some x := by rfl) (hx : Loc X.env.scope x := by first | exact Or.inl rfl | exact Or.inr rfl)
    (hf : X.fn x = true ∨ X.env.scope.names.lookup x = some .local := by first | exact .inl rfl | exact .inr rfl | assumption) : DS X Y W (.AugAssign (.Name x pos') op e pos) (sAug i bop f) :=
  ps_mono (ps_aug hN hi hx (de_pk he) ho hf) fun D σ H ⟨g, F, r, p⟩ => by
    have p' : PostS X.kw Y W F D ((chkFz i g).andThen fun a => mb (pk f) fun y g => match cont g y with
      | some b => match bop a b with
        | some (.fz d) => .ok .nx (g.set i (some (.fz d)))
        | _ => .bad
      | none => .bad) := p
    unfold chkFz at p'
    cases ei : g[i]? with
    | none => rw [ei] at p'; exact p'.elim
    | some o =>
      cases o with
      | none => rw [ei] at p'; exact p'.elim
      | some sl =>
        cases sl with
        | ow l o => rw [ei] at p'; exact p'.elim
        | op c fs => rw [ei] at p'; exact p'.elim
        | fz a =>
          rw [ei] at p'
          obtain ⟨v, h1, h2⟩ := r.fz i a ei
          have p2 : PostS X.kw Y W F D ((pk f g).andThen fun y g => match cont g y with
            | some b => match bop a b with
              | some (.fz d) => .ok .nx (g.set i (some (.fz d)))
              | _ => .bad
            | none => .bad) := p'
          refine ⟨v, h1, g, F, r, (PostS.bind p2).imp fun y g1 H1 F1 r1 s1 q u hu => ?_⟩
          cases ec : cont g1 y with
          | none => rw [ec] at q; exact q.elim
          | some b =>
            rw [ec] at q
            cases eb : bop a b with
            | none => simp only [eb] at q; exact q.elim
            | some z =>
              cases z with
              | ow _ => simp only [eb] at q; exact q.elim
              | «at» _ => simp only [eb] at q; exact q.elim
              | sub _ _ => simp only [eb] at q; exact q.elim
              | fz d =>
                simp only [eb] at q
                refine ⟨F1, a, b, .fz d, r1.sub, .inl (h2.mono s1), r1.cv hu ec, eb, fun w H2 F2 x2 hw => ?_⟩
                have r2 := r1.ext x2
                exact q _ H2 F2 (r2.put (r := .fz d) (g' := g1.set i (some (.fz d))) hw rfl) x2.ff
def bAddS : D → D → Option R
  | .int i, .int j => some (.fz (.int (i + j)))
  | .str a, .str b => if a.length + b.length ≤ sizeLine then some (.fz (.str (a ++ b))) else none
  | _, _ => none
def bMulI : D → D → Option R
  | .int i, .int j => if (-(2 ^ 64) < i ∧ i < 2 ^ 64) ∨ (-(2 ^ 64) < j ∧ j < 2 ^ 64) then some (.fz (.int (i * j))) else none
  | _, _ => none
theorem ipd_add : IpD X .Add bAddS := by
  intro pins s σ H x y v u Q I rx ry ⟨F, a, b, r, sm, ha, hb, ho, hr⟩
  unfold bAddS at ho
  split at ho
  · cases ho; exact iop_add pins s σ H x y v u Q I rx ry ⟨_, _, ha.int, hb.int, hr.now sm rfl⟩
  · split at ho
    · rename_i i j hz
      cases ho
      exact iop_add_str pins s σ H x y v u Q I rx ry ⟨_, _, ha.str.1, hb.str.1, hz, hr.now sm ⟨rfl, by rw [str_add_length]; exact hz⟩⟩
    · cases ho
  · cases ho
/-! ### what is walked -/
def Srv (K : KW) (F0 : Hp) (J : It) (ds : List D) : Prop :=
  ∀ H F, Same F0 F → Same F H → (∀ i d, ds[i]? = some d → J.go i H ∧ ∀ x H', J.yld i H x H' → ∃ F', Ext F H F' H' ∧ Is K F' x d) ∧ J.stop ds.length H
def tI (K : KW) (Y : Ent) (W : WX) (f : M (List D)) : TI := fun σ H R => ∃ g F, Rel K Y σ H g F ∧ Post K Y W σ F (fun ds g' H' F' => ∀ J H2 F2, Rel K Y σ H2 g' F2 → Same F' F2 → Srv K F2 J ds → R J H2) (f g)
def DI (X : Cx) (Y : Ent) (W : WX) (tg it : Expr) (f : M (List D)) : Prop := PI X tg it (tI X.kw Y W f)
def Str.signs (z : Str) : List D := z.cps.toList.map fun c => .str ⟨#[c]⟩
def itemsD : D → Option (List D)
  | .lst ds => some ds
  | .tup ds => some ds
  | .scr ns => some (ns.map D.int)
  | .str z => some (Str.signs z)
  | _ => none
def toIt (r : R) : M (List D) := fun g => match r with
  | .fz d => match itemsD d with
    | some ds => .ok ds g
    | none => .bad
  | _ => .bad
def iSeq (f : M R) : M (List D) := mb (esc f) toIt
def rngI (lo : Int) (n : Nat) : List D := (List.range n).map fun i => .int (lo + (i : Nat))
def toRng1 : List R → M (List D) := fun rs g => match rs with
  | [.fz (.int n)] => if -(2 ^ 62) ≤ n ∧ n < 2 ^ 62 then .ok (rngI 0 n.toNat) g else .bad
  | _ => .bad
def toRng2 : List R → M (List D) := fun rs g => match rs with
  | [.fz (.int a), .fz (.int b)] => if -(2 ^ 62) ≤ a ∧ a < 2 ^ 62 ∧ -(2 ^ 62) ≤ b ∧ b < 2 ^ 62 then .ok (rngI a (b - a).toNat) g else .bad
  | _ => .bad
def iRng1 (k : M (List R)) : M (List D) := mb k toRng1
def iRng2 (k : M (List R)) : M (List D) := mb k toRng2
theorem pi_or {tg it : Expr} {w1 w2 : TI} (h1 : PI X tg it w1) (h2 : PI X tg it w2) : PI X tg it (fun σ H R => w1 σ H R ∨ w2 σ H R) :=
  ⟨fun pins s σ H R I q => q.elim (h1.run pins s σ H R I) (h2.run pins s σ H R I)⟩
theorem pi_mono {tg it : Expr} {w1 w2 : TI} (h1 : PI X tg it w1) (i : ∀ σ H R, w2 σ H R → w1 σ H R) : PI X tg it w2 :=
  ⟨fun pins s σ H R I q => h1.run pins s σ H R I (i σ H R q)⟩
theorem len_of_get {α : Type} {xs : List α} {i : Nat} {x : α} (h : xs[i]? = some x) : i < xs.length := (List.getElem?_eq_some_iff.mp h).1
theorem srv_seq {K : KW} {F0 : Hp} {J : It} {n : Nat} {ds : List D} {vs : List V} {Gd : Hp → Prop} (hl : IsL K F0 vs ds) (hn : n = vs.length) (w : Walk J n Gd (YAt vs)) (hg : ∀ H F, Same F0 F → Same F H → Gd H) : Srv K F0 J ds := by
  subst hn
  refine fun H F s0 s1 => ⟨fun i d e => ?_, ?_⟩
  · have hi := len_of_get e
    rw [← hl.length] at hi
    refine ⟨w.goes i H hi (hg H F s0 s1), fun x H' hy => ?_⟩
    obtain ⟨rfl, hx⟩ := w.yields i H x H' hi (hg H F s0 s1) hy
    obtain ⟨v, h1, h2⟩ := hl.get e
    rw [hx] at h1
    cases h1
    exact ⟨F, Ext.refl s1, h2.mono s0⟩
  · rw [← hl.length]; exact w.stops H (hg H F s0 s1)
theorem srv_rng {K : KW} {F0 : Hp} {lo : Int} {n : Nat} : Srv K F0 (Itr lo n) (rngI lo n) := by
  have ln : (rngI lo n).length = n := by unfold rngI; rw [List.length_map, List.length_range]
  refine fun H F s0 s1 => ⟨fun i d e => ?_, ?_⟩
  · have hi := len_of_get e
    rw [ln] at hi
    refine ⟨hi, fun x H' ⟨h1, h2⟩ => ?_⟩
    subst h1 h2
    unfold rngI at e
    rw [List.getElem?_map, List.getElem?_range hi] at e
    cases e
    exact ⟨F, Ext.refl s1, rfl⟩
  · rw [ln]; exact Nat.le_refl n
theorem srv_str {K : KW} {F0 : Hp} {z : Str} : Srv K F0 (Its z) (Str.signs z) := by
  have ln : (Str.signs z).length = z.cps.size := by unfold Str.signs; rw [List.length_map, Array.length_toList]
  refine fun H F s0 s1 => ⟨fun i d e => ?_, ?_⟩
  · have hi := len_of_get e
    rw [ln] at hi
    refine ⟨hi, fun x H' ⟨h1, c, h2, h3⟩ => ?_⟩
    subst h1 h3
    unfold Str.signs at e
    rw [List.getElem?_map] at e
    have e2 : z.cps.toList[i]? = some c := by rw [Array.getElem?_toList]; exact h2
    rw [e2] at e
    cases e
    exact ⟨F, Ext.refl s1, rfl, by show (1 : Nat) ≤ sizeLine; decide⟩
  · rw [ln]; exact Nat.le_refl _
theorem di_seq {tg : Expr} {f : M R} (he : DE X Y W e f) : DI X Y W tg e (iSeq f) := by
  refine pi_mono (pi_or (pi_list (tg := tg) (de_esc he)) (pi_or (pi_tup (tg := tg) (de_esc he)) (pi_str (tg := tg) (de_esc he)))) fun σ H R ⟨g, F, r, p⟩ => ?_
  have p' : Post X.kw Y W σ F _ ((esc f g).andThen toIt) := p
  cases ef : esc f g with
  | bad => rw [ef] at p'; exact p'.elim
  | ex e g1 =>
    rw [ef] at p'
    refine .inl ⟨g, F, r, ?_⟩
    rw [ef]
    exact p'
  | ok x g1 =>
    rw [ef] at p'
    have p2 : Post X.kw Y W σ F _ (toIt x g1) := p'
    unfold toIt at p2
    cases x with
    | ow _ => exact p2.elim
    | «at» _ => exact p2.elim
    | sub _ _ => exact p2.elim
    | fz d =>
      simp only at p2
      cases d with
      | lst ds =>
        refine .inl ⟨g, F, r, ?_⟩
        rw [ef]
        intro H1 F1 r1 s1 v ⟨a, vs, e1, k1, k2, k3⟩
        refine ⟨a, e1, ⟨vs, SqL.of (r1.sub _ _ k1)⟩, p2 H1 F1 r1 s1 _ H1 F1 r1 (Same.refl _) ?_⟩
        exact srv_seq k3 rfl walk_list fun H F s0 s1 => SqL.of (s1 _ _ (s0 _ _ k1))
      | scr ns =>
        refine .inl ⟨g, F, r, ?_⟩
        rw [ef]
        intro H1 F1 r1 s1 v ⟨a, e1, k1, k2⟩
        refine ⟨a, e1, ⟨_, r1.sub.seq k1⟩, p2 H1 F1 r1 s1 _ H1 F1 r1 (Same.refl _) ?_⟩
        exact srv_seq (IsL.ints ns) rfl walk_list fun H F s0 s1 => s1.seq (s0.seq k1)
      | tup ds =>
        refine .inr (.inl ⟨g, F, r, ?_⟩)
        rw [ef]
        intro H1 F1 r1 s1 v ⟨a, vs, e1, k1, k2, k3⟩
        refine ⟨a, e1, ⟨vs, sqT_mono r1.sub k1⟩, p2 H1 F1 r1 s1 _ H1 F1 r1 (Same.refl _) ?_⟩
        exact srv_seq k3 rfl walk_tup fun H F s0 s1 => sqT_mono s1 (sqT_mono s0 k1)
      | str z =>
        refine .inr (.inr ⟨g, F, r, ?_⟩)
        rw [ef]
        intro H1 F1 r1 s1 v ⟨e1, k1⟩
        exact ⟨z, e1, p2 H1 F1 r1 s1 _ H1 F1 r1 (Same.refl _) srv_str⟩
      | non => exact p2.elim
      | bl _ => exact p2.elim
      | int _ => exact p2.elim
      | dk _ => exact p2.elim
      | dt _ => exact p2.elim
      | dd _ => exact p2.elim
      | obj _ _ => exact p2.elim
      | exc _ => exact p2.elim
      | lk _ => exact p2.elim
      | ld _ => exact p2.elim
      | tux _ => exact p2.elim
theorem di_rng1 {tg a : Expr} {p : Pos} {k : M (List R)} (hg : Gl X "range") (hm : X.mg "range" = none) (ha : DA X Y W [a] k) (hs : starEach [a] X.env = [(false, eval a X.env)] := by rfl) : DI X Y W tg (.Call (.Name "range" p) [a] [] pos) (iRng1 k) :=
  pi_mono (pi_range1 hg hm ha hs) fun σ H Q ⟨g, F, r, p⟩ => ⟨g, F, r, (p.bind).imp fun rs g1 H1 F1 r1 s1 q vs hv => by
    unfold toRng1 at q
    split at q
    · rename_i n
      obtain ⟨v, us, e1, h1, e2⟩ := hv
      subst e1
      rw [show us = [] from e2, show v = .int n from h1]
      split at q
      · rename_i hz
        exact ⟨n, rfl, hz.1, hz.2, q H1 F1 r1 (Same.refl _) _ H1 F1 r1 (Same.refl _) srv_rng⟩
      · exact q.elim
    · exact q.elim⟩
/-! ### for, while -/
def forL (t : R → M Unit) (body : M Fl) : List D → M Fl
  | [] => fun g => .ok .nx g
  | d :: ds => fun g => (noEx (t (.fz d) g)).andThen fun _ g1 => match body g1 with
    | .ok .nx g2 => forL t body ds g2
    | .ok .ct g2 => forL t body ds g2
    | .ok .bk g2 => .ok .nx g2
    | r => r
def sFor (it : M (List D)) (t : R → M Unit) (body : M Fl) : M Fl := mb it fun ds => forL t body ds
theorem PostS.asgG {K : KW} {σ : St} {F : Hp} {D : Ends} {ts : List Nat} {x : Rs Unit} {k : G → Rs Fl} (h : PostS K Y W F D ((noEx x).andThen fun _ g => k g)) :
    PostG K Y σ F ts (fun σ' H' => ∃ g F', Rel K Y σ' H' g F' ∧ Same F F' ∧ PostS K Y W F' D (k g)) x := by
  cases x with
  | bad => exact h
  | ex _ _ => exact h
  | ok _ g => exact fun σ' H' F' r s _ _ => ⟨g, F', r, s, PostS.weak s h⟩
theorem ds_for {tg it : Expr} {body : List Stmt} {ts : List Nat} {w : M (List D)} {t : R → M Unit} {b : M Fl} (hp : PassesOwn (model X.prog X.w) X.A X.env X.xe) (hc : X.calm = true) (hi : DI X Y W tg it w) (hg : DG X Y tg ts t) (hb : DSs X Y W body b)
    (hs : ∀ x, foldedSetIterable it X.env x = pure x := by intro _; rfl) : DS X Y W (.For tg it body [] pos) (sFor w t b) :=
  ps_mono (ps_for hp hc hi hg hb hs) fun D σ H ⟨g, F, r, p⟩ => ⟨g, F, r, (PostS.bind (σ := σ) p).imp fun ds g1 H1 F1 r1 s1 q J H2 F2 r2 s2 srv => by
    refine ⟨fun i m σ' H' => i ≤ ds.length ∧ m = ds.length - i ∧ ∃ gi Fi, Rel X.kw Y σ' H' gi Fi ∧ Same F2 Fi ∧ PostS X.kw Y W Fi D (forL t b (ds.drop i) gi),
      ⟨ds.length, Nat.zero_le _, rfl, g1, F2, r2, Same.refl _, PostS.weak s2 q⟩, fun i m σ' H' ⟨hi, hm, gi, Fi, ri, si, qi⟩ => ?_⟩
    obtain ⟨hgo, hst⟩ := srv H' Fi si ri.sub
    by_cases hl : i < ds.length
    · right
      have ed : ds.drop i = ds[i] :: ds.drop (i + 1) := (List.drop_eq_getElem_cons hl)
      obtain ⟨g1', hy⟩ := hgo i ds[i] (List.getElem?_eq_getElem hl)
      refine ⟨g1', fun σ'' H'' => i + 1 ≤ ds.length ∧ ∃ gi Fi, Rel X.kw Y σ'' H'' gi Fi ∧ Same F2 Fi ∧ PostS X.kw Y W Fi D (forL t b (ds.drop (i + 1)) gi), fun σ'' H'' ⟨h1, h2⟩ => ⟨m - 1, by omega, h1, by omega, h2⟩, fun x H'' hx => ?_⟩
      obtain ⟨F', ex, qx⟩ := hy x H'' hx
      have r3 := ri.ext ex
      rw [ed] at qi
      have qi' : PostS X.kw Y W Fi D ((noEx (t (.fz ds[i]) gi)).andThen fun _ g1 => match b g1 with
        | .ok .nx g2 => forL t b (ds.drop (i + 1)) g2
        | .ok .ct g2 => forL t b (ds.drop (i + 1)) g2
        | .ok .bk g2 => .ok .nx g2
        | r => r) := qi
      have pg := PostS.asgG (σ := σ') (ts := ts) (PostS.weak ex.ff qi')
      refine ⟨gi, F', .fz ds[i], r3, qx, ?_⟩
      revert pg
      cases t (.fz ds[i]) gi with
      | bad => exact id
      | ex _ _ => exact id
      | ok _ ga =>
        intro pg σ2 H3 F3 r4 s4 l4 k4
        obtain ⟨gb, F4, r5, s5, pb⟩ := pg σ2 H3 F3 r4 s4 l4 k4
        refine ⟨gb, F4, r5, ?_⟩
        have sF : Same F2 F4 := si.trans (ex.ff.trans s5)
        revert pb
        cases b gb with
        | bad => exact id
        | ex e g' => exact id
        | ok fl g' =>
          cases fl with
          | nx => exact fun pb σ3 H5 F5 r6 s6 => ⟨hl, g', F5, r6, sF.trans s6, PostS.weak s6 pb⟩
          | ct => exact fun pb σ3 H5 F5 r6 s6 => ⟨hl, g', F5, r6, sF.trans s6, PostS.weak s6 pb⟩
          | bk => exact id
          | rt r => exact id
    · have ei : i = ds.length := by omega
      subst ei
      rw [List.drop_length] at qi
      exact .inl ⟨hst, qi σ' H' Fi ri (Same.refl _)⟩⟩
/-- at most n turns -/
def whileL (c : M Bool) (body : M Fl) : Nat → M Fl
  | 0 => fun _ => .bad
  | n + 1 => fun g => (c g).andThen fun t g1 => if t = true then match body g1 with
      | .ok .nx g2 => whileL c body n g2
      | .ok .ct g2 => whileL c body n g2
      | .ok .bk g2 => .ok .nx g2
      | r => r
    else .ok .nx g1
/-- the bound of all while loops -/
def fuel : Nat := 100000000
def sWhile (c : M Bool) (body : M Fl) : M Fl := whileL c body fuel
theorem ds_whileN {c : Expr} {body : List Stmt} {t : M Bool} {b : M Fl} (n : Nat) (hp : PassesOwn (model X.prog X.w) X.A X.env X.xe) (hc : DT X Y W c t) (hb : DSs X Y W body b) : DS X Y W (.While c body [] pos) (whileL t b n) :=
  ps_mono (ps_while hp hc hb) fun D σ H ⟨g, F, r, p⟩ => by
    refine ⟨fun m σ' H' => ∃ gi Fi, Rel X.kw Y σ' H' gi Fi ∧ PostS X.kw Y W Fi D (whileL t b m gi), ⟨n, g, F, r, p⟩, fun m σ' H' ⟨gi, Fi, ri, qi⟩ => ?_⟩
    cases m with
    | zero => exact qi.elim
    | succ m =>
      have qi' : PostS X.kw Y W Fi D ((t gi).andThen fun tt g1 => if tt = true then match b g1 with
          | .ok .nx g2 => whileL t b m g2
          | .ok .ct g2 => whileL t b m g2
          | .ok .bk g2 => .ok .nx g2
          | r => r
        else .ok .nx g1) := qi
      refine ⟨gi, Fi, ri, (PostS.bind (σ := σ') qi').imp fun tt g1 H1 F1 r1 s1 q => ?_⟩
      cases tt with
      | false => exact q σ' H1 F1 r1 (Same.refl _)
      | true =>
        rw [if_pos rfl] at q
        refine (show (∃ N : St → Hp → Prop, (∀ σ'' H'', N σ'' H'' → ∃ m', m' < m + 1 ∧ ∃ gi Fi, Rel X.kw Y σ'' H'' gi Fi ∧ PostS X.kw Y W Fi D (whileL t b m' gi)) ∧ tS X.kw Y W b { D with nx := N, ct := N, bk := D.nx } σ' H1) from ?_)
        refine ⟨fun σ'' H'' => ∃ gi Fi, Rel X.kw Y σ'' H'' gi Fi ∧ PostS X.kw Y W Fi D (whileL t b m gi), fun σ'' H'' h => ⟨m, Nat.lt_succ_self m, h⟩, g1, F1, r1, ?_⟩
        revert q
        cases b g1 with
        | bad => exact id
        | ex e g' => exact id
        | ok fl g' =>
          cases fl with
          | nx => exact fun pb σ3 H5 F5 r6 s6 => ⟨g', F5, r6, PostS.weak s6 pb⟩
          | ct => exact fun pb σ3 H5 F5 r6 s6 => ⟨g', F5, r6, PostS.weak s6 pb⟩
          | bk => exact id
          | rt r => exact id
theorem ds_while {c : Expr} {body : List Stmt} {t : M Bool} {b : M Fl} (hp : PassesOwn (model X.prog X.w) X.A X.env X.xe) (hc : DT X Y W c t) (hb : DSs X Y W body b) : DS X Y W (.While c body [] pos) (sWhile t b) := ds_whileN fuel hp hc hb
end
end DL

namespace DL
open PySem PySem.Spec L2

/-! ### list comprehensions -/
def wipeG (g : G) : List Nat → G
  | [] => g
  | v :: vs => (wipeG g vs).set v none
def keepFz : Option (Option Sl) → Option Sl
  | some (some (.fz d)) => some (.fz d)
  | _ => none
/-- behind a block: the outer meaning of its own names -/
def backG (g0 g : G) : List Nat → G
  | [] => g
  | v :: vs => (backG g0 g vs).set v (keepFz g0[v]?)
def lcL (t : R → M Unit) (c : M Bool) (e : M R) (vs : List Nat) : List D → List D → M (List D)
  | [], acc => fun g => .ok acc g
  | d :: ds, acc => fun g => (noEx (t (.fz d) (wipeG g vs))).andThen fun _ g1 => (noEx (c g1)).andThen fun b g2 =>
      if b = true then (noEx (esc e g2)).andThen fun x g3 => match x with
        | .fz y => lcL t c e vs ds (acc ++ [y]) g3
        | _ => .bad
      else lcL t c e vs ds acc g2
def eLc (it : M (List D)) (t : R → M Unit) (c : M Bool) (e : M R) (vs : List Nat) : M R := mb it fun ds g => if ds.length ≤ sizeLine then (lcL t c e vs ds [] g).andThen fun acc g2 => .ok (.ow (.ls acc)) (backG g g2 vs) else .bad
theorem wipeG_len (g : G) : ∀ vs : List Nat, (wipeG g vs).length = g.length
  | [] => rfl
  | v :: vs => by unfold wipeG; rw [List.length_set, wipeG_len g vs]
theorem wipeG_get {g : G} {j : Nat} {s : Sl} : ∀ {vs : List Nat}, (wipeG g vs)[j]? = some (some s) → g[j]? = some (some s) ∧ j ∉ vs
  | [], h => ⟨h, by simp⟩
  | v :: vs, h => by
    unfold wipeG at h
    rcases get_set h with ⟨_, e⟩ | ⟨n, e⟩
    · cases e
    · obtain ⟨h1, h2⟩ := wipeG_get e
      exact ⟨h1, by simp [n, h2]⟩
theorem wipe_get {σ : St} {j : Nat} : ∀ {vs : List Nat}, j ∉ vs → (wipe σ vs)[j]? = σ[j]?
  | [], _ => rfl
  | v :: vs, h => by
    unfold wipe
    rw [List.getElem?_set_ne (fun z => h (by simp [z])), wipe_get (fun z => h (List.mem_cons_of_mem _ z))]
theorem wipe_same {σ σ2 : St} {ts : List Nat} (hl : σ2.length = σ.length) (h : ∀ j, j ∉ ts → σ2[j]? = σ[j]?) {vs : List Nat} (hs : ∀ j ∈ ts, j ∈ vs) : wipe σ2 vs = wipe σ vs := by
  apply List.ext_getElem?
  intro j
  by_cases hj : j ∈ vs
  · have key : ∀ (σ : St) (vs : List Nat), j ∈ vs → (wipe σ vs)[j]? = if j < σ.length then some none else none := by
      intro σ vs
      induction vs with
      | nil => intro h; cases h
      | cons v vs ih =>
        intro h
        unfold wipe
        by_cases e : v = j
        · subst e
          by_cases l : v < σ.length
          · rw [List.getElem?_set_self (by rw [wipe_length]; exact l), if_pos l]
          · rw [List.getElem?_eq_none (by rw [List.length_set, wipe_length]; omega), if_neg l]
        · rw [List.getElem?_set_ne e]
          exact ih (by simpa [Ne.symm e] using h)
    rw [key σ2 vs hj, key σ vs hj, hl]
  · rw [wipe_get hj, wipe_get hj]
    exact h j fun z => hj (hs j z)
section
variable {K : KW} {Y : Ent} {σ σ0 : St} {H H' F F' : Hp} {g g0 : G}
theorem Rel.wipe (r : Rel K Y σ H g F) (vs : List Nat) : Rel K Y (wipe σ vs) H (wipeG g vs) F :=
  r.mask (by rw [wipe_length, wipeG_len]; exact r.len) fun j s e => by
    obtain ⟨h1, h2⟩ := wipeG_get e
    exact ⟨h1, wipe_get h2⟩
theorem backG_len (g0 g : G) : ∀ vs : List Nat, (backG g0 g vs).length = g.length
  | [] => rfl
  | v :: vs => by unfold backG; rw [List.length_set, backG_len g0 g vs]
theorem backG_get {j : Nat} {s : Sl} : ∀ {vs : List Nat}, (backG g0 g vs)[j]? = some (some s) → (j ∈ vs ∧ ∃ d, s = .fz d ∧ g0[j]? = some (some (.fz d))) ∨ (j ∉ vs ∧ g[j]? = some (some s))
  | [], h => .inr ⟨by simp, h⟩
  | v :: vs, h => by
    unfold backG at h
    rcases get_set h with ⟨rfl, e⟩ | ⟨n, e⟩
    · left
      refine ⟨by simp, ?_⟩
      unfold keepFz at e
      split at e
      · rename_i d e2
        cases e; exact ⟨d, rfl, e2⟩
      · cases e
    · rcases backG_get e with ⟨h1, h2⟩ | ⟨h1, h2⟩
      · exact .inl ⟨by simp [h1], h2⟩
      · exact .inr ⟨by simp [n, h1], h2⟩
/-- the block is left -/
theorem Rel.back {vs : List Nat} (r0 : Rel K Y σ H g0 F) (r : Rel K Y (L2.wipe σ vs) H' (wipeG g vs) F') (s_ : Same F F') : Rel K Y σ H' (backG g0 g vs) F' := by
  have get : ∀ {j : Nat} {x : Sl}, j ∉ vs → g[j]? = some (some x) → (wipeG g vs)[j]? = some (some x) := by
    intro j x hj e
    have key : ∀ vs : List Nat, j ∉ vs → (wipeG g vs)[j]? = g[j]? := by
      intro vs
      induction vs with
      | nil => intro _; rfl
      | cons v vs ih =>
        intro h
        unfold wipeG
        rw [List.getElem?_set_ne (fun z => h (by simp [z])), ih (fun z => h (List.mem_cons_of_mem _ z))]
    rw [key vs hj]; exact e
  have cs : ∀ (i : Nat) (s : Sl) (v : V), (backG g0 g vs)[i]? = some (some s) → σ[i]? = some (some v) → SlAt K Y F' H' v s ∧ (∀ b ∈ sf F' H' v s, i ∉ vs) := fun i s v e hv => by
    rcases backG_get e with ⟨_, d', ed, e0⟩ | ⟨hj, e'⟩
    · subst ed
      exact ⟨Is.mono s_ _ _ (r0.at_ e0 hv), fun b hb => by rw [sf_fz] at hb; cases hb⟩
    · exact ⟨r.at_ (get hj e') (by rw [wipe_get hj]; exact hv), fun _ _ => hj⟩
  refine ⟨r.sub, r.base, r.keep, r.dom, r.fr, r.lad, ?_, fun i s e => ?_, fun i j s s' v v' n e1 e2 h1 h2 b hb => ?_⟩
  · have := r.len
    rw [wipe_length, wipeG_len] at this
    rw [backG_len]; exact this
  · have : ∃ v, σ[i]? = some (some v) := by
      rcases backG_get e with ⟨_, d', ed, e0⟩ | ⟨hj, e'⟩
      · obtain ⟨v, h, _⟩ := r0.sl i _ e0; exact ⟨v, h⟩
      · obtain ⟨v, h, _⟩ := r.sl i _ (get hj e')
        rw [wipe_get hj] at h; exact ⟨v, h⟩
    obtain ⟨v, hv⟩ := this
    exact ⟨v, hv, (cs i s v e hv).1⟩
  · intro hb'
    have hi := (cs i s v e1 h1).2 b hb
    have hj := (cs j s' v' e2 h2).2 b hb'
    rcases backG_get e1 with ⟨z, _⟩ | ⟨_, e1'⟩
    · exact hi z
    · rcases backG_get e2 with ⟨z, _⟩ | ⟨_, e2'⟩
      · exact hj z
      · exact r.inj i j s s' v v' n (get hi e1') (get hj e2') (by rw [wipe_get hi]; exact h1) (by rw [wipe_get hj]; exact h2) b hb hb'
/-- a list of ours at q that is on its way -/
def Ent.gd (Y : Ent) (q : Addr) (u : HO) : Ent := { Y with B := upd Y.B q u, H0 := upd Y.H0 q u }
/-- slots whose cells are not touched -/
theorem Rel.around {Y' : Ent} (r : Rel K Y σ H g F) (sub : Same F H') (base : Same Y'.F0 F) (keep : Same Y'.B H') (dom : ∀ a, Y'.H0 a ≠ none → H' a ≠ none) (fr : ∀ a, F a ≠ none → Y'.F0 a ≠ none ∨ Y'.H0 a = none ∨ a ∈ Y'.la)
    (lad : ∀ a ∈ Y'.la, Y'.H0 a ≠ none) (lr : Y'.lr = Y.lr) (la : Y'.la = Y.la)
    (st : ∀ b, F b = none → Y.B b = none → H b ≠ none → H' b = H b ∧ Y'.B b = none ∧ (Y.H0 b = none → Y'.H0 b = none)) : Rel K Y' σ H' g F := by
  have key : ∀ (i : Nat) (s : Sl) (v : V), SlAt K Y F H v s → SlAt K Y' F H' v s ∧ sf F H' v s = sf F H v s := fun i s v q => by
    have cl : ∀ b ∈ sf F H v s, H' b = H b ∧ Y'.B b = none ∧ (Y.H0 b = none → Y'.H0 b = none) := fun b hb => st b (q.cells b hb).1 (q.cells b hb).2.1 (q.cl hb)
    obtain ⟨q1, q2⟩ := q.mono (Same.refl F) fun b hb => ⟨(cl b hb).1, (q.cells b hb).1⟩
    refine ⟨?_, q2⟩
    rw [← q2] at cl
    cases s with
    | fz d => exact q1
    | ow l o =>
      obtain ⟨a, rfl, h1, h2, h3, h4⟩ := q1
      exact ⟨a, rfl, h1, h2, fun b hb => ⟨(h3 b hb).1, (cl b hb).2.1, fun z => (cl b hb).2.2 ((h3 b hb).2.2.1 z), (h3 b hb).2.2.2.imp (cl b hb).2.2 (fun z => by rw [la]; exact z)⟩, fun z => by rw [lr]; exact h4 z⟩
    | op c fs =>
      obtain ⟨a, C, dx, vs, rfl, h1, h2, h3, h4, h5, h6⟩ := q1
      have ec : sf F H' (.ref a) (.op c fs) = a :: footF F vs fs := by unfold sf; simp only; rw [h1]
      rw [ec] at cl
      exact ⟨a, C, dx, vs, rfl, h1, h2, h3, h4, fun b hb => ⟨(h5 b hb).1, (cl b hb).2.1, (h5 b hb).2.2.imp (cl b hb).2.2 (fun z => by rw [la]; exact z)⟩, by rw [lr]; exact h6⟩
  refine ⟨sub, base, keep, dom, fr, lad, r.len, fun i s e => ?_, fun i j s s' v v' n e1 e2 h1 h2 b hb => ?_⟩
  · obtain ⟨v, h1, h2⟩ := r.sl i s e
    exact ⟨v, h1, (key i s v h2).1⟩
  · rw [(key i s v (r.at_ e1 h1)).2] at hb
    rw [(key j s' v' (r.at_ e2 h2)).2]
    exact r.inj i j s s' v v' n e1 e2 h1 h2 b hb
theorem Rel.guard {q : Addr} {u : HO} (r : Rel K Y σ H g F) (hq : H q = none) : Rel K (Y.gd q u) σ (upd H q u) g F := by
  refine r.around (fun b x e => ?_) r.base (fun b x e => ?_) (fun b hb => ?_) (fun b hb => ?_) (fun b hb => ?_) rfl rfl fun b h1 h2 h3 => ?_
  · rw [upd_ne (fun z => by subst z; rw [r.sub _ _ e] at hq; cases hq)]; exact r.sub _ _ e
  · by_cases z : b = q
    · subst z
      have e' : upd Y.B b u b = some x := e
      rw [upd_same] at e' ⊢; exact e'
    · have e' : upd Y.B q u b = some x := e
      rw [upd_ne z] at e' ⊢; exact r.keep _ _ e'
  · by_cases z : b = q
    · subst z; rw [upd_same]; simp
    · have hb' : upd Y.H0 q u b ≠ none := hb
      rw [upd_ne z] at hb' ⊢; exact r.dom b hb'
  · refine (r.fr b hb).imp id fun h => h.imp (fun h => ?_) id
    have z : b ≠ q := fun z => by
      subst z
      cases e : F b with
      | none => exact hb e
      | some x => rw [r.sub _ _ e] at hq; cases hq
    show upd Y.H0 q u b = none
    rw [upd_ne z]; exact h
  · by_cases z : b = q
    · subst z; show upd Y.H0 b u b ≠ none; rw [upd_same]; simp
    · show upd Y.H0 q u b ≠ none; rw [upd_ne z]; exact r.lad b hb
  · have z : b ≠ q := fun z => by subst z; exact h3 hq
    exact ⟨upd_ne z, (upd_ne z).trans h2, fun h => (upd_ne z).trans h⟩
theorem Rel.gdAt {q : Addr} {u : HO} (r : Rel K (Y.gd q u) σ H g F) : H q = some u := r.keep q u (show upd Y.B q u q = some u from upd_same)
theorem Rel.gdF {q : Addr} {u : HO} (r : Rel K (Y.gd q u) σ H g F) (h0 : Y.F0 q = none) (hl : q ∉ Y.la) : F q = none := by
  cases e : F q with
  | none => rfl
  | some x =>
    rcases r.fr q (by rw [e]; simp) with h | h | h
    · exact absurd h0 h
    · have h' : upd Y.H0 q u q = none := h
      rw [upd_same] at h'; cases h'
    · exact absurd h hl
/-- its content changes -/
theorem Rel.bump {q : Addr} {u u' : HO} (r : Rel K (Y.gd q u) σ H g F) (h0 : Y.F0 q = none) (hl : q ∉ Y.la) : Rel K (Y.gd q u') σ (upd H q u') g F := by
  refine r.around (fun b x e => ?_) r.base (fun b x e => ?_) (fun b hb => ?_) (fun b hb => ?_) (fun b hb => ?_) rfl rfl fun b h1 h2 h3 => ?_
  · rw [upd_ne (fun z => by subst z; rw [r.gdF h0 hl] at e; cases e)]; exact r.sub _ _ e
  · have e' : upd Y.B q u' b = some x := e
    by_cases z : b = q
    · subst z; rw [upd_same] at e' ⊢; exact e'
    · rw [upd_ne z] at e' ⊢; exact r.keep b x (show upd Y.B q u b = some x by rw [upd_ne z]; exact e')
  · by_cases z : b = q
    · subst z; rw [upd_same]; simp
    · rw [upd_ne z]
      have hb' : upd Y.H0 q u' b ≠ none := hb
      rw [upd_ne z] at hb'
      exact r.dom b (show upd Y.H0 q u b ≠ none by rw [upd_ne z]; exact hb')
  · have z : b ≠ q := fun z => by subst z; exact hb (r.gdF h0 hl)
    refine (r.fr b hb).imp id fun h => h.imp (fun h => ?_) id
    have h' : upd Y.H0 q u b = none := h
    rw [upd_ne z] at h'
    show upd Y.H0 q u' b = none
    rw [upd_ne z]; exact h'
  · have z : b ≠ q := fun z => hl (z ▸ hb)
    have h' : upd Y.H0 q u b ≠ none := r.lad b hb
    rw [upd_ne z] at h'
    show upd Y.H0 q u' b ≠ none
    rw [upd_ne z]; exact h'
  · have h2' : upd Y.B q u b = none := h2
    obtain ⟨z, h2''⟩ := upd_none h2'
    refine ⟨upd_ne z, (upd_ne z).trans h2'', fun h => ?_⟩
    have h' : upd Y.H0 q u b = none := h
    exact (upd_ne z).trans (upd_none h').2
/-- it is done -/
theorem Rel.ungd {q : Addr} {u : HO} (r : Rel K (Y.gd q u) σ H g F) (hb : Y.B q = none) (hh : Y.H0 q = none) (hl : q ∉ Y.la) : Rel K Y σ H g F := by
  refine r.around r.sub r.base (fun b x e => ?_) (fun b h => ?_) (fun b h => ?_) (fun b h => ?_) rfl rfl fun b h1 h2 h3 => ?_
  · exact r.keep b x (show upd Y.B q u b = some x by rw [upd_ne (fun z => by subst z; rw [hb] at e; cases e)]; exact e)
  · exact r.dom b (show upd Y.H0 q u b ≠ none by rw [upd_ne (fun z => h (by rw [z]; exact hh))]; exact h)
  · refine (r.fr b h).imp id fun h' => h'.imp (fun h' => ?_) id
    have h' : upd Y.H0 q u b = none := h'
    exact (upd_none h').2
  · have z : b ≠ q := fun z => hl (z ▸ h)
    have h' : upd Y.H0 q u b ≠ none := r.lad b h
    rw [upd_ne z] at h'; exact h'
  · have h2' : upd Y.B q u b = none := h2
    obtain ⟨z, h2''⟩ := upd_none h2'
    refine ⟨rfl, h2'', fun h => ?_⟩
    have h' : upd Y.H0 q u b = none := h
    exact (upd_none h').2
end
theorem then_inv {α β : Type} {x : Rs α} {k : α → G → Rs β} {b : β} {g : G} (h : (noEx x).andThen k = .ok b g) : ∃ a g1, x = .ok a g1 ∧ k a g1 = .ok b g := by
  cases x with
  | bad => cases h
  | ok a g1 => exact ⟨a, g1, rfl, h⟩
  | ex _ _ => cases h
/-- no exception leaves a block -/
abbrev W0 : WX := fun _ _ _ _ => False
def tTs (K : KW) (Y : Ent) (f : M Bool) : TT := tT K Y W0 f
def cYes : M Bool := mp true
theorem blk_step {K : KW} {Z : Ent} {σ : St} {F : Hp} {α : Type} {x : Rs α} {a : α} {g : G} {J : α → G → Hp → Hp → Prop} (e : x = .ok a g) (h : ∀ H' F', Rel K Z σ H' g F' → Same F F' → J a g H' F') : Post K Z W0 σ F J x := by
  rw [e]; exact h
section
variable {X : Cx} {Y : Ent} {W : WX}
theorem lc_sem {f : M (List D)} {t : R → M Unit} {c : M Bool} {e : M R} {vs ts : List Nat} {gt : TG} {tt : TT} {te : TE} (hts : ∀ j ∈ ts, j ∈ vs)
    (ht : ∀ (Z : Ent), Z.cls = Y.cls → ∀ v σ H Q, tG X.kw Z ts t v σ H Q → gt v σ H Q) (hc : ∀ (Z : Ent), Z.cls = Y.cls → ∀ σ H Q, tT X.kw Z W0 c σ H Q → tt σ H Q) (he : ∀ (Z : Ent), Z.cls = Y.cls → ∀ σ H Q, tD X.kw Z W0 (esc e) σ H Q → te σ H Q)
    {σ : St} {H : Hp} {Q : VK} (h : tD X.kw Y W (eLc f t c e vs) σ H Q) : tLc (tI X.kw Y W f) gt tt te vs σ H Q := by
  obtain ⟨g, F, r, p⟩ := h
  refine ⟨g, F, r, (p.bind).imp fun ds g1 H1' F1' r1' s1 q J H1 F1 r1 s11 srv q' hq' => ?_⟩
  split at q
  rotate_left
  · exact q.elim
  rename_i hsz
  have hF0 : Y.F0 q' = none := by
    cases e0 : Y.F0 q' with
    | none => rfl
    | some x => rw [r1.sub _ _ (r1.base _ _ e0)] at hq'; cases hq'
  have hB : Y.B q' = none := by
    cases e0 : Y.B q' with
    | none => rfl
    | some x => rw [r1.keep _ _ e0] at hq'; cases hq'
  have hH0 : Y.H0 q' = none := by
    cases e0 : Y.H0 q' with
    | none => rfl
    | some x => exact absurd hq' (r1.dom q' (by rw [e0]; simp))
  have hLa : q' ∉ Y.la := fun z => r1.lad q' z hH0
  have noex : ∀ (ds acc : List D) (g : G) x g', lcL t c e vs ds acc g ≠ .ex x g' := by
    intro ds
    induction ds with
    | nil => intro acc g x g' h; cases h
    | cons d ds ih =>
      intro acc g x g' h
      have h' : ((noEx (t (.fz d) (wipeG g vs))).andThen fun _ g1 => (noEx (c g1)).andThen fun b g2 =>
        if b = true then (noEx (esc e g2)).andThen fun x g3 => match x with
          | .fz y => lcL t c e vs ds (acc ++ [y]) g3
          | _ => .bad
        else lcL t c e vs ds acc g2) = .ex x g' := h
      revert h'
      cases t (.fz d) (wipeG g vs) with
      | bad => intro h; cases h
      | ex _ _ => intro h; cases h
      | ok _ ga =>
        simp only [noEx, then_ok]
        cases c ga with
        | bad => intro h; cases h
        | ex _ _ => intro h; cases h
        | ok b gb =>
          simp only [then_ok]
          cases b with
          | false => intro h; exact ih _ _ _ _ h
          | true =>
            simp only [if_true]
            cases esc e gb with
            | bad => intro h; cases h
            | ex _ _ => intro h; cases h
            | ok y gc =>
              simp only [then_ok]
              cases y with
              | fz y => intro h; exact ih _ _ _ _ h
              | ow _ => intro h; cases h
              | sub _ _ => intro h; cases h
              | «at» _ => intro h; cases h
  obtain ⟨accF, g2, eF, fin⟩ : ∃ accF g2, lcL t c e vs ds [] g1 = .ok accF g2 ∧ ∀ H' F', Rel X.kw Y σ H' (backG g1 g2 vs) F' → Same F1' F' → ∀ v, RV X.kw Y σ F' H' (backG g1 g2 vs) v (.ow (.ls accF)) → Q v H' := by
    cases ex : lcL t c e vs ds [] g1 with
    | bad => rw [ex] at q; exact q.elim
    | ex x g' => exact absurd ex (noex _ _ _ _ _)
    | ok accF g2 => rw [ex] at q; exact ⟨accF, g2, rfl, q⟩
  refine ⟨fun i m Hi => i ≤ ds.length ∧ m = ds.length - i ∧ ∃ gi Fi acc accV, lcL t c e vs (ds.drop i) acc gi = .ok accF g2 ∧ Rel X.kw (Y.gd q' (.lst accV)) (wipe σ vs) Hi (wipeG gi vs) Fi ∧ Same F1 Fi ∧ IsL X.kw Fi accV acc ∧ acc.length ≤ i,
    ⟨ds.length, Nat.zero_le _, rfl, g1, F1, [], [], eF, (r1.wipe vs).guard hq', Same.refl _, rfl, Nat.le_refl _⟩, fun i m Hi ⟨hi, hm, gi, Fi, acc, accV, ei, ri, si, li, lei⟩ => ?_⟩
  obtain ⟨hgo, hst⟩ := srv Hi Fi si ri.sub
  by_cases hl : i < ds.length
  · right
    have ed : ds.drop i = ds[i] :: ds.drop (i + 1) := List.drop_eq_getElem_cons hl
    obtain ⟨g1', hy⟩ := hgo i ds[i] (List.getElem?_eq_getElem hl)
    refine ⟨g1', fun Hn => i + 1 ≤ ds.length ∧ ∃ gi Fi acc accV, lcL t c e vs (ds.drop (i + 1)) acc gi = .ok accF g2 ∧ Rel X.kw (Y.gd q' (.lst accV)) (wipe σ vs) Hn (wipeG gi vs) Fi ∧ Same F1 Fi ∧ IsL X.kw Fi accV acc ∧ acc.length ≤ i + 1, fun H'' ⟨h1, h2⟩ => ⟨m - 1, by omega, h1, by omega, h2⟩, fun x H'' hx => ?_⟩
    obtain ⟨F', ex, qx⟩ := hy x H'' hx
    have r3 := ri.ext ex
    rw [ed] at ei
    have ei' : ((noEx (t (.fz ds[i]) (wipeG gi vs))).andThen fun _ g1 => (noEx (c g1)).andThen fun b g2 =>
        if b = true then (noEx (esc e g2)).andThen fun x g3 => match x with
          | .fz y => lcL t c e vs (ds.drop (i + 1)) (acc ++ [y]) g3
          | _ => .bad
        else lcL t c e vs (ds.drop (i + 1)) acc g2) = .ok accF g2 := ei
    obtain ⟨_, ga, e1, ei1⟩ := then_inv ei'
    obtain ⟨b, gb, e2, ei2⟩ := then_inv ei1
    refine ht (Y.gd q' (.lst accV)) rfl _ _ _ _ ⟨_, F', .fz ds[i], r3, qx, ?_⟩
    rw [e1]
    intro σ2 H3 F3 r4 s4 l4 k4
    have hw : wipe σ2 vs = wipe σ vs := by
      have w1 : wipe σ2 vs = wipe (wipe σ vs) vs := wipe_same l4 k4 hts
      have w2 : wipe (wipe σ vs) vs = wipe σ vs := wipe_same (ts := vs) (wipe_length σ vs) (fun j hj => wipe_get hj) (fun j hj => hj)
      rw [w1, w2]
    refine ⟨hw, hc (Y.gd q' (.lst accV)) rfl _ _ _ ⟨ga, F3, r4, blk_step e2 fun H4 F4 r5 s5 => ?_⟩⟩
    have sF : Same F1 F4 := si.trans (ex.ff.trans (s4.trans s5))
    cases b with
    | false =>
      rw [if_neg Bool.false_ne_true] at ei2
      refine (show _ ∧ _ from ⟨hl, gb, F4, acc, accV, ei2, ?_, sF, IsL.mono (ex.ff.trans (s4.trans s5)) _ _ li, by omega⟩)
      have := r5.wipe vs
      rw [hw] at this
      exact this
    | true =>
      rw [if_pos rfl] at ei2
      obtain ⟨x3, gc, e3, ei3⟩ := then_inv ei2
      refine (show te σ2 H4 _ from he (Y.gd q' (.lst accV)) rfl _ _ _ ⟨gb, F4, r5, blk_step e3 fun H5 F5 r6 s6 w hw5 => ?_⟩)
      cases x3 with
      | ow _ => cases ei3
      | sub _ _ => cases ei3
      | «at» _ => cases ei3
      | fz y =>
        have li5 : IsL X.kw F5 accV acc := IsL.mono (ex.ff.trans (s4.trans (s5.trans s6))) _ _ li
        have hlen : accV.length < sizeLine := by rw [li.length]; omega
        refine ⟨accV, r6.gdAt, hlen, hl, gc, F5, acc ++ [y], accV ++ [w], ei3, ?_, sF.trans s6, li5.append (.one hw5), by rw [List.length_append]; simp; omega⟩
        have := r6.wipe vs
        rw [hw] at this
        exact this.bump hF0 hLa
  · have eq : i = ds.length := by omega
    subst eq
    rw [List.drop_length] at ei
    cases ei
    refine .inl ⟨hst, ?_⟩
    have r2 : Rel X.kw (Y.gd q' (.lst accV)) (wipe σ vs) Hi (wipeG g2 vs) Fi := ri
    have r3 := r2.ungd hB hH0 hLa
    have r4 := r1.back r3 si
    refine fin Hi Fi r4 (s11.trans si) (.ref q') ⟨q', rfl, ⟨accV, r2.gdAt, by omega, li⟩, by rw [foot_ls]; simp, fun b hb => ?_⟩
    rw [foot_ls, List.mem_singleton] at hb
    subst hb
    refine ⟨r2.gdF hF0 hLa, hB, hH0, fun j t u ej hj z => ?_⟩
    rcases backG_get ej with ⟨_, d', ed, _⟩ | ⟨nj, ej'⟩
    · subst ed; rw [sf_fz] at z; cases z
    · have e5 : (wipeG g2 vs)[j]? = some (some t) := by
        have key : ∀ vs : List Nat, j ∉ vs → (wipeG g2 vs)[j]? = g2[j]? := by
          intro vs
          induction vs with
          | nil => intro _; rfl
          | cons v vs ih =>
            intro h
            unfold wipeG
            rw [List.getElem?_set_ne (fun z => h (by simp [z])), ih (fun z => h (List.mem_cons_of_mem _ z))]
        rw [key vs nj]; exact ej'
      have k4 : upd Y.B b (.lst accV) b = none := ((r2.at_ e5 (by rw [wipe_get nj]; exact hj)).cells b z).2.1
      rw [upd_same] at k4
      cases k4
end

section
variable {X : Cx} {Y : Ent} {W : WX} {pos : Pos}
def DTs (X : Cx) (Y : Ent) (W : WX) (ifs : List Expr) (c : M Bool) : Prop := PTs X ifs (tT X.kw Y W c)
theorem dts_nil : DTs X Y W [] cYes := ⟨fun pins s σ H Q I ⟨g, F, r, p⟩ => (pts_nil (X := X)).run pins s σ H Q I (p H F r (Same.refl _))⟩
theorem td_A {K : KW} {f : M R} {σ : St} {H : Hp} {Q : VK} (h : tD K Y W (eA f) σ H Q) : tD K Y W f σ H Q := by
  obtain ⟨g, F, r, p⟩ := h
  refine ⟨g, F, r, p.bind.imp fun x g' H' F' r' s' q v hv => ?_⟩
  cases x with
  | fz d => exact q H' F' r' (Same.refl _) v hv
  | ow o => exact q H' F' r' (Same.refl _) v hv
  | sub i f => exact q H' F' r' (Same.refl _) v hv
  | «at» i => exact Post.escR (show Post K Y W σ F' (JV K Y σ Q) (escR (.at i) g') from q) r' hv
theorem asg_name {K : KW} {f : M R} {i : Nat} {D : Ends} {σ : St} {H : Hp} (h : tS K Y W (sAsg f (setSl i)) D σ H) : tD K Y W f σ H (fun x H1 => D.nx (σ.set i (some x)) H1) := by
  obtain ⟨g, F, r, p⟩ := h
  refine td_A ⟨g, F, r, (PostS.bind (σ := σ) p).imp fun x g1 H1 F1 r1 s1 q v hv => ?_⟩
  cases e : setSl i x g1 with
  | bad => rw [e] at q; exact q.elim
  | ex _ _ => rw [e] at q; exact q.elim
  | ok u g' =>
    rw [e] at q
    exact q _ H1 F1 (r1.put hv e) (Same.refl _)
def tZG (K : KW) (Y : Ent) (ts : List Nat) (t : R → M Unit) : TG := fun v σ H Q => ∃ Z : Ent, Z.cls = Y.cls ∧ tG K Z ts t v σ H Q
def tZT (K : KW) (Y : Ent) (c : M Bool) : TT := fun σ H Q => ∃ Z : Ent, Z.cls = Y.cls ∧ tT K Z W0 c σ H Q
def tZD (K : KW) (Y : Ent) (e : M R) : TE := fun σ H Q => ∃ Z : Ent, Z.cls = Y.cls ∧ tD K Z W0 e σ H Q
abbrev AllBlk (X : Cx) (Y : Ent) (scope : Scope) (p : Cx → Ent → Prop) : Prop :=
  ∀ (Z : Ent), Z.cls = Y.cls → ∀ (s : Shared) (H : Hp) (C : Addr) (cl : List (Str × Addr)) (fp : List Addr), p (X.blk s H scope (compEnvC scope cl C X.env) fp) Z
theorem de_lc {elt tg iter : Expr} {ifs : List Expr} {scope : Scope} (own : List (Str × Nat)) {f : M (List D)} {ts : List Nat} {t : R → M Unit} {c : M Bool} {e : M R} (hc : X.calm = true) (hN : X.N.Nodup) (ok : BlkOk X.N X.env.scope scope own)
    (hi : DI X Y W tg iter f) (hg : AllBlk X Y scope fun X Z => DG X Z tg ts t) (ht : AllBlk X Y scope fun X Z => DTs X Z W0 ifs c) (he : AllBlk X Y scope fun X Z => DE X Z W0 elt e)
    (hts : ∀ j ∈ ts, j ∈ own.map (·.2) := by decide) (hs : ∀ x, foldedSetIterable iter X.env x = pure x := by intro _; rfl) : DE X Y W (.ListComp elt [⟨tg, iter, ifs, 0⟩] scope pos) (eLc f t c e (own.map (·.2))) :=
  pe_mono (pe_lc (g := tZG X.kw Y ts t) (tt := tZT X.kw Y c) (te := tZD X.kw Y (esc e)) hc hN hi ok
    (fun s H C cl fp => ⟨fun pins s' σ H' v u Q I r ⟨Z, hZ, q⟩ => (hg Z hZ s H C cl fp).run pins s' σ H' v u Q I r q⟩)
    (fun s H C cl fp => ⟨fun pins s' σ H' Q I ⟨Z, hZ, q⟩ => (ht Z hZ s H C cl fp).run pins s' σ H' Q I q⟩)
    (fun s H C cl fp => ⟨fun pins s' σ H' Q I ⟨Z, hZ, q⟩ => (de_esc (he Z hZ s H C cl fp)).run pins s' σ H' Q I q⟩) hs)
    fun σ H Q h => lc_sem hts (fun Z hZ _ _ _ _ q => ⟨Z, hZ, q⟩) (fun Z hZ _ _ _ q => ⟨Z, hZ, q⟩) (fun Z hZ _ _ _ q => ⟨Z, hZ, q⟩) h
end
end DL

namespace DL
open PySem PySem.Spec L2
open PyProof.Rows (envOfC)

/-! ### defs: a promise that knows that no repr is under way -/
structure FnG (P : Program) (w : World) (K : PySem.W.Frag) (mg : Str → Option Value) (base : Heap) (k : Nat) (f : Addr) (fd : FuncData) (ps : List Str) (sp : Sp) : Prop where
  len : ∀ vs H Q E, sp vs H Q E → vs.length = ps.length
  run : ∀ (A : Around) (outer : List Env) (s : Shared) (H : Hp) (args : Args) (us : List Value) (vs : List V) (Q : VK) (E : XK),
    Room k A → A.guards = some [] → Env0 P w K mg base A outer s H → BindsTo s fd args (ps.zip us) → Vals vs us → sp vs H Q E →
      codeAny (model P w) A (.call (.ref f) args) (CR (L2.CX P w) outer P w H s Q E) s
section
variable {P : Program} {w : World} {K : PySem.W.Frag} {mg : Str → Option Value} {base : Heap}
theorem FnG.mono {j k : Nat} {f : Addr} {fd : FuncData} {ps : List Str} {sp : Sp} (G : FnG P w K mg base j f fd ps sp) (h : j ≤ k) : FnG P w K mg base k f fd ps sp :=
  ⟨G.len, fun A o s H args us vs Q E r => G.run A o s H args us vs Q E (r.mono h)⟩
/-- a def by its body, walked with the knowledge of the guards -/
theorem fnG_ok {x qual : Str} {st : Stmt} {f : Addr} {fd : FuncData} {N ps : List Str} {k : Nat} {sp : Sp} (F : Fun K x qual st f fd) (S : FnScope N ps (defScope st)) (len : ∀ vs H Q E, sp vs H Q E → vs.length = ps.length)
    (body : ∀ (cdv : Value) (A : Around) (outer : List Env) (s : Shared) (H : Hp) (vs : List V) (Q : VK) (E : XK), Room k (A.deeper (envOfC qual (defScope st) s.heap.objs.size f cdv)) → A.guards = some [] → sp vs H Q E →
      ∃ t, PSs (cxOf (L2.CX P w) P w K mg base N qual (defScope st) f cdv A outer s H E) (defBody st) t ∧ t { nx := fun _ H' => Q .non H', rt := Q } (start N vs) H) : FnG P w K mg base (k + 1) f fd ps sp := by
  obtain ⟨oc, od, kV, doc, pm, an, cdv, ct, osl, rfl, lk, hcd⟩ := F.ex
  constructor
  · exact len
  intro A outer s H args us vs Q E room gd e0 bd rv want
  have inK : K.In s.heap := W.Frag.In.keeps e0.mod.kin fun b o e => (e0.bs b o e).1
  have noLim : s.heap.NoLimit := Heap.NoLimit.keeps e0.mod.nolimit fun b o e => (e0.bs b o e).1
  have kinds : ∀ y ∈ ps.zip us, (defScope st).names.lookup y.1 = some .local ∨
      ((defScope st).names.lookup y.1 = some .cell ∧ ((cellsFrom (s.heap.objs.size + 1) (defScope st).names []).lookup y.1).isSome = true) := by
    intro y hy
    obtain ⟨n, v⟩ := y
    exact (S.par n (List.of_mem_zip hy).1).elim .inl fun q => .inr ⟨q, PySem.W.cellsFrom_some _ _ _ (.inl q)⟩
  apply codeAny_call_function room.depth (inK _ _ lk) rfl S.co S.gen rfl (PySem.W.codeRec_of inK hcd)
  apply bd
  apply wpAny_newFunctionEnv_cells S.kind kinds
  intro env he s1 x1
  subst he
  refine ⟨Heap.NoLimit.keeps noLim x1.toInCall.keep, codeAny_func ?_⟩
  obtain ⟨t, ht, hq⟩ := body cdv A outer s H vs Q E (room.deeper _) gd want
  have I := inv_start (CX := L2.CX P w) (mg := mg) (E := E) S room.hd e0 (len _ _ _ _ want) rv x1
  refine wpAny_mono (ht.run [] s1 (start N vs) H _ I hq) ?_ fun _ _ z => z
  intro fl s' hs
  cases fl with
  | ret u => obtain ⟨v, σ', H', J, r, q⟩ := hs; exact ⟨v, H', J.os, J.bare, J.base, J.hok, r, q⟩
  | next => obtain ⟨σ', H', J, q⟩ := hs; exact ⟨V.non, H', J.os, J.bare, J.base, J.hok, rfl, q⟩
  | brk => exact hs.elim fun _ z => z.elim fun _ z => z.2.elim
  | cont => exact hs.elim fun _ z => z.elim fun _ z => z.2.elim
end
/-- how a call's errors are taken at the caller's slots -/
theorem takes_at {X : Cx} {W : WX} (tk : Takes X W) (pins : List (Addr × Obj)) (σ : St) (H : Hp) (s : Shared) (e : Value) (s' : Shared) (I : Inv X pins σ H s) (c : L2.CX X.prog X.w X.stack H s (fun c d H' => W c d σ H') e s') : X.xe e s' :=
  tk e s' (XE.of_call I (fun _ _ _ z => z) c)
section
variable {X : Cx} {k : Nat} {f : Addr} {fd : FuncData} {ps : List Str} {sp : Sp} {dvs : List V} {ds : List Value} {x : Str} {p pos : Pos} {e : Expr} {es : List Expr} {t : TA} {W : WX}
def tCallG (sp : Sp) (dvs : List V) (W : WX) (t : TA) : TE := fun σ H Q => t σ H fun vs H1 => sp (vs ++ dvs) H1 Q fun c d H' => W c d σ H'
theorem run_fnG {pins : List (Addr × Obj)} {σ : St} {H : Hp} {s : Shared} {Q : VK} {us : List Value} {vs : List V} (G : FnG X.prog X.w X.kw X.mg X.base k f fd ps sp) (hr : Room k X.A) (gd : X.A.guards = some []) (hb : Binds X.kw fd ps ds) (hd : Vals dvs ds) (tk : Takes X W)
    (I : Inv X pins σ H s) (r : Vals vs us) (h : sp (vs ++ dvs) H Q fun c d H' => W c d σ H') : wpAny (model X.prog X.w) X.A (call (.ref f) us) (EP X pins σ Q) X.xe s := by
  have r2 := r.append hd
  have n2 : (us ++ ds).length = ps.length := r2.length.symm.trans (G.len _ _ _ _ h)
  apply wpAny_call
  refine codeAny_mono (G.run X.A X.stack s H ⟨us, []⟩ (us ++ ds) (vs ++ dvs) Q _ hr gd I.env0 (hb s us I.kIn n2) r2 h) ?_
  intro res s' hq
  cases res with
  | error e => exact takes_at tk pins σ H s e s' I hq
  | ok fl =>
    cases fl with
    | ret u => exact I.after hq
    | next => cases hq
    | brk => cases hq
    | cont => cases hq
theorem pe_callG (G : FnG X.prog X.w X.kw X.mg X.base k f fd ps sp) (hr : Room k X.A) (gd : X.A.guards = some []) (hg : Gl X x) (hm : X.mg x = some (.ref f)) (hk : PySem.W.keepIn X.kw (.ref f) = true) (hb : Binds X.kw fd ps ds) (hd : Vals dvs ds) (tk : Takes X W)
    (ha : PA X (e :: es) t) (hdb : (x == ("__debug__" : Str)) = false := by decide) (he : starEach (e :: es) X.env = (false, eval e X.env) :: starEach es X.env := by rfl) (hpl : (backTo pos (starEach es X.env)).any (·.1) = false := by rfl) :
    PE X (.Call (.Name x p) (e :: es) [] pos) (tCallG sp dvs W t) := by
  constructor
  intro pins s σ H Q I h
  apply wpAny_Call_Name_kw
  refine ld_glob I hg hm ?_ hdb
  apply PySem.W.callWith_K (h₀ := X.base) I.ok.mod.kin hk (thn (ha.run pos pins s σ H _ I h) ?_) he hpl
  rintro us s1 ⟨vs, H1, I1, r, q⟩
  exact ⟨I1.kIn, run_fnG G hr gd hb hd tk I1 r q⟩
end

/-! ### a def's meaning: a Lean function of data -/
inductive Res where
  | ok (r : R) (lo : Option O) | ex (e : Ex) (lo : Option O) | bad
/-- from the lent object and the other arguments -/
abbrev FSem := Option O → List D → Res
def ArgOk (K : KW) (F H : Hp) (lp : Option Nat) (lr : Option Addr) (la : List Addr) (vs : List V) (lo : Option O) (ds : List D) : Prop :=
  match lp with
  | none => lr = none ∧ la = [] ∧ lo = none ∧ IsL K F vs ds
  | some j => ∃ a us o, lr = some a ∧ la = foot F a o ∧ lo = some o ∧ vs = us.take j ++ V.ref a :: us.drop j ∧ j ≤ us.length ∧ IsL K F us ds ∧ OwAt K F H a o ∧ (foot F a o).Nodup ∧ ∀ b ∈ foot F a o, F b = none
structure ExtL (K : KW) (lr : Option Addr) (la : List Addr) (lo : Option O) (F H F' H' : Hp) : Prop where
  hh : ∀ b x, b ∉ la → H b = some x → H' b = some x
  ff : Same F F'
  fh : Same F' H'
  nw : ∀ a, F' a ≠ none → F a ≠ none ∨ H a = none ∨ a ∈ la
  dm : ∀ b, H b ≠ none → H' b ≠ none
  lo : match lr, lo with
    | none, none => True
    | some a, some o => OwAt K F' H' a o ∧ (foot F' a o).Nodup ∧ ∀ b ∈ foot F' a o, F' b = none ∧ (b ∈ la ∨ H b = none)
    | _, _ => False
/-- the lent object's cells at the end -/
def lcells (F : Hp) (lr : Option Addr) (lo : Option O) : List Addr := match lr, lo with
  | some a, some o => foot F a o
  | _, _ => []
def RVr (K : KW) (H F' H' : Hp) (L : List Addr) (v : V) : R → Prop
  | .fz d => Is K F' v d
  | .ow o => ∃ a, v = .ref a ∧ OwAt K F' H' a o ∧ (foot F' a o).Nodup ∧ ∀ b ∈ foot F' a o, F' b = none ∧ H b = none ∧ b ∉ L
  | .at _ => False
  | .sub _ _ => False
def PostF (K : KW) (cls : Str → Value) (lr : Option Addr) (la : List Addr) (F H : Hp) (Q : VK) (E : XK) : Res → Prop
  | .bad => False
  | .ok r lo => ∀ v H' F', ExtL K lr la lo F H F' H' → RVr K H F' H' (lcells F' lr lo) v r → Q v H'
  | .ex e _ => ∀ d H' F', ExtL K none la none F H F' H' → XD K F' H' d e.p → E (cls e.c) d H'
def spD (K : KW) (cls : Str → Value) (lp : Option Nat) (n : Nat) (sem : FSem) : Sp := fun vs H Q E =>
  ∃ F lr la lo ds, vs.length = n ∧ Same F H ∧ ArgOk K F H lp lr la vs lo ds ∧ PostF K cls lr la F H Q E (sem lo ds)
def fill (n : Nat) (g : G) : G := g ++ List.replicate (n - g.length) none
def mkG (n : Nat) (lp : Option Nat) (lo : Option O) (ds : List D) : Option G :=
  match lp, lo with
  | none, none => some (fill n (ds.map fun d => some (.fz d)))
  | some j, some o => some (fill n ((ds.take j).map (fun d => some (.fz d)) ++ some (.ow true o) :: (ds.drop j).map fun d => some (.fz d)))
  | _, _ => none
def outG (lp : Option Nat) (g : G) : Option (Option O) :=
  match lp with
  | none => some none
  | some j => match g[j]? with
    | some (some (.ow true o)) => some (some o)
    | _ => none
def bodyF (n : Nat) (lp : Option Nat) (b : M Fl) : FSem := fun lo ds => match mkG n lp lo ds with
  | none => .bad
  | some g0 => match b g0 with
    | .ok (.rt r) g => match r, outG lp g with
      | .fz d, some lo' => .ok (.fz d) lo'
      | .ow o, some lo' => .ok (.ow o) lo'
      | _, _ => .bad
    | .ok .nx g => match outG lp g with
      | some lo' => .ok (.fz .non) lo'
      | none => .bad
    | .ex e _ => .ex e none
    | _ => .bad
section
variable {K : KW} {cls : Str → Value} {H F : Hp}
def entOf (cls : Str → Value) (lr : Option Addr) (la : List Addr) (F H : Hp) : Ent := { B := fun b => if b ∈ la then none else H b, F0 := F, H0 := H, cls := cls, lr := lr, la := la }
theorem start_get {N : List Str} {vs : List V} {i : Nat} (h : i < vs.length) : (start N vs)[i]? = (vs[i]?).map some := by
  unfold L2.start
  rw [List.getElem?_append_left (by rw [List.length_map]; exact h), List.getElem?_map]
theorem fill_get {n i : Nat} {g : G} {s : Sl} (h : (fill n g)[i]? = some (some s)) : g[i]? = some (some s) := by
  unfold fill at h
  by_cases l : i < g.length
  · rw [List.getElem?_append_left l] at h; exact h
  · rw [List.getElem?_append_right (by omega)] at h
    have := List.mem_of_getElem? h
    rw [List.mem_replicate] at this
    exact absurd this.2 (by simp)
/-- a def's slots at its start -/
theorem rel_begin {N : List Str} {lr : Option Addr} {la : List Addr} {vs : List V} {g1 : G} (sm : Same F H) (hn : vs.length ≤ N.length) (l1 : g1.length = vs.length) (hla : ∀ b ∈ la, H b ≠ none)
    (hs : ∀ (i : Nat) (s : Sl), g1[i]? = some (some s) → ∃ v, vs[i]? = some v ∧ SlAt K (entOf cls lr la F H) F H v s)
    (hi : ∀ (i j : Nat) (s s' : Sl) (v v' : V), i ≠ j → g1[i]? = some (some s) → g1[j]? = some (some s') → vs[i]? = some v → vs[j]? = some v' → ∀ b ∈ sf F H v s, b ∉ sf F H v' s') : Rel K (entOf cls lr la F H) (start N vs) H (fill N.length g1) F := by
  have slen : (start N vs).length = N.length := by
    unfold L2.start; rw [List.length_append, List.length_map, List.length_replicate]; omega
  have inr : ∀ {i : Nat} {s : Sl}, g1[i]? = some (some s) → i < vs.length := fun h => by rw [← l1]; exact (List.getElem?_eq_some_iff.mp h).1
  have val : ∀ {i : Nat} {s : Sl} {v : V}, g1[i]? = some (some s) → (start N vs)[i]? = some (some v) → vs[i]? = some v := fun {i s v} h e => by
    rw [start_get (inr h)] at e
    cases ev : vs[i]? with
    | none => rw [ev] at e; cases e
    | some u => rw [ev] at e; cases e; rfl
  refine ⟨sm, Same.refl _, fun b x hb => ?_, fun a h => h, fun a h => .inl h, hla, ?_, fun i s h => ?_, fun i j s s' v v' nij h1 h2 e1 e2 => ?_⟩
  · have hb' : (if b ∈ la then none else H b) = some x := hb
    split at hb'
    · cases hb'
    · exact hb'
  · rw [slen]; unfold fill; rw [List.length_append, List.length_replicate]; omega
  · have h' := fill_get h
    obtain ⟨v, h1, h2⟩ := hs i s h'
    exact ⟨v, by rw [start_get (inr h'), h1]; rfl, h2⟩
  · exact hi i j s s' v v' nij (fill_get h1) (fill_get h2) (val (fill_get h1) e1) (val (fill_get h2) e2)
theorem rel_start {N : List Str} {lp : Option Nat} {lr : Option Addr} {la : List Addr} {vs : List V} {lo : Option O} {ds : List D} {g0 : G} (sm : Same F H) (ha : ArgOk K F H lp lr la vs lo ds) (hn : vs.length ≤ N.length) (eg : mkG N.length lp lo ds = some g0) :
    Rel K (entOf cls lr la F H) (start N vs) H g0 F := by
  have fzs : ∀ {ds : List D} {us : List V} {i : Nat} {s : Sl}, IsL K F us ds → (ds.map fun d => some (Sl.fz d))[i]? = some (some s) → ∃ v, us[i]? = some v ∧ SlAt K (entOf cls lr la F H) F H v s ∧ ∃ d, s = .fz d := fun {ds us i s} hl h => by
    rw [List.getElem?_map] at h
    cases e : ds[i]? with
    | none => rw [e] at h; cases h
    | some d' =>
      rw [e] at h; cases h
      obtain ⟨v, h1, h2⟩ := hl.get e
      exact ⟨v, h1, h2, _, rfl⟩
  unfold mkG at eg
  cases lp with
  | none =>
    obtain ⟨rfl, rfl, rfl, hl⟩ := ha
    cases eg
    refine rel_begin sm hn (by rw [List.length_map, hl.length]) (fun b hb => by cases hb) (fun i s h => ?_) (fun i j s s' v v' n h1 h2 e1 e2 b hb => ?_)
    · obtain ⟨v, k1, k2, _⟩ := fzs hl h; exact ⟨v, k1, k2⟩
    · obtain ⟨_, _, _, d, rfl⟩ := fzs hl h1
      rw [sf_fz] at hb; cases hb
  | some j =>
    obtain ⟨a, us, o, rfl, rfl, rfl, rfl, hj, hl, ho, nd, hf⟩ := ha
    cases eg
    have ll := hl.length
    have hjd : j ≤ ds.length := by omega
    have cls' : ∀ (i : Nat) (s : Sl), (((ds.take j).map (fun d => some (Sl.fz d)) ++ some (.ow true o) :: (ds.drop j).map fun d => some (.fz d)) : G)[i]? = some (some s) →
        ∃ v, (us.take j ++ V.ref a :: us.drop j)[i]? = some v ∧ SlAt K (entOf cls (some a) (foot F a o) F H) F H v s ∧ ((∃ d, s = .fz d) ∨ i = j) := fun i s h => by
      by_cases c1 : i < j
      · rw [List.getElem?_append_left (by rw [List.length_map, List.length_take]; omega)] at h
        obtain ⟨v, h1, h2, h3⟩ := fzs (hl.take j) h
        exact ⟨v, by rw [List.getElem?_append_left (by rw [List.length_take]; omega)]; exact h1, h2, .inl h3⟩
      · rw [List.getElem?_append_right (by rw [List.length_map, List.length_take]; omega)] at h
        rw [List.length_map, List.length_take, Nat.min_eq_left hjd] at h
        cases c2 : i - j with
        | zero =>
          rw [c2, List.getElem?_cons_zero] at h
          cases h
          have : i = j := by omega
          subst this
          refine ⟨.ref a, ?_, ⟨a, rfl, ho, nd, fun b hb => ⟨hf b hb, ?_, (fun z => nomatch z), .inr hb⟩, fun _ => rfl⟩, .inr rfl⟩
          · rw [List.getElem?_append_right (by rw [List.length_take]; omega), List.length_take, Nat.min_eq_left hj, Nat.sub_self]; rfl
          · show (if b ∈ foot F a o then none else H b) = none
            rw [if_pos hb]
        | succ m =>
          rw [c2, List.getElem?_cons_succ] at h
          obtain ⟨v, h1, h2, h3⟩ := fzs (hl.drop j) h
          refine ⟨v, ?_, h2, .inl h3⟩
          rw [List.getElem?_append_right (by rw [List.length_take]; omega), List.length_take, Nat.min_eq_left hj, c2, List.getElem?_cons_succ]
          exact h1
    refine rel_begin sm hn ?_ (fun b hb => ?_) (fun i s h => ?_) (fun i k s s' v v' n h1 h2 e1 e2 b hb => ?_)
    · simp only [List.length_append, List.length_map, List.length_cons, List.length_take, List.length_drop]; omega
    · obtain ⟨u, hu, _⟩ := foot_mut o a ho b hb; rw [hu]; simp
    · obtain ⟨v, k1, k2, _⟩ := cls' i s h; exact ⟨v, k1, k2⟩
    · obtain ⟨_, _, _, z1⟩ := cls' i s h1
      obtain ⟨_, _, _, z2⟩ := cls' k s' h2
      rcases z1 with ⟨d, rfl⟩ | rfl
      · rw [sf_fz] at hb; cases hb
      · rcases z2 with ⟨d, rfl⟩ | rfl
        · rw [sf_fz]; simp
        · exact absurd rfl n
theorem rel_end {lp : Option Nat} {lr : Option Addr} {la : List Addr} {lo : Option O} {ds : List D} {vs : List V} {σ : St} {H' F' : Hp} {g : G} {lo' : Option O} (ha : ArgOk K F H lp lr la vs lo ds) (r : Rel K (entOf cls lr la F H) σ H' g F') (eo : outG lp g = some lo') :
    ExtL K lr la lo' F H F' H' ∧ ∀ b ∈ lcells F' lr lo', ∃ (i : Nat) (s : Sl) (u : V), g[i]? = some (some s) ∧ σ[i]? = some (some u) ∧ b ∈ sf F' H' u s := by
  have hh : ∀ b x, b ∉ la → H b = some x → H' b = some x := fun b x hb hx => r.keep b x (show (if b ∈ la then none else H b) = some x by rw [if_neg hb]; exact hx)
  unfold outG at eo
  cases lp with
  | none =>
    obtain ⟨rfl, _⟩ := ha
    cases eo
    exact ⟨⟨hh, r.base, r.sub, fun a h => r.fr a h, fun b h => r.dom b h, trivial⟩, fun b hb => by cases hb⟩
  | some j =>
    obtain ⟨a, us, o, rfl, _⟩ := ha
    simp only at eo
    split at eo
    · rename_i o' e
      cases eo
      obtain ⟨v, hv, b, rfl, h2, nd, n, h6⟩ := r.sl j _ e
      have : b = a := (Option.some.inj (h6 rfl)).symm
      subst this
      exact ⟨⟨hh, r.base, r.sub, fun a h => r.fr a h, fun b h => r.dom b h, h2, nd, fun x hx => ⟨(n x hx).1, (n x hx).2.2.2.symm⟩⟩, fun x hx => ⟨j, _, _, e, hv, hx⟩⟩
    · cases eo
theorem rel_endX {lr : Option Addr} {la : List Addr} {σ : St} {H' F' : Hp} {g : G} (r : Rel K (entOf cls lr la F H) σ H' g F') : ExtL K none la none F H F' H' :=
  ⟨fun b x hb hx => r.keep b x (show (if b ∈ la then none else H b) = some x by rw [if_neg hb]; exact hx), r.base, r.sub, fun a h => r.fr a h, fun b h => r.dom b h, trivial⟩
theorem RVr.of {σ : St} {H' F' : Hp} {g : G} {v : V} {rr : R} {lr : Option Addr} {la L : List Addr} (h : RV K (entOf cls lr la F H) σ F' H' g v rr) (hL : ∀ b ∈ L, ∃ (i : Nat) (s : Sl) (u : V), g[i]? = some (some s) ∧ σ[i]? = some (some u) ∧ b ∈ sf F' H' u s)
    (ne : (match rr with | .at _ => False | .sub _ _ => False | _ => True)) : RVr K H F' H' L v rr := by
  cases rr with
  | fz d => exact h
  | «at» i => exact ne.elim
  | sub i f => exact ne.elim
  | ow o =>
    obtain ⟨a, h1, h2, nd, n⟩ := h
    refine ⟨a, h1, h2, nd, fun b hb => ⟨(n b hb).1, (n b hb).2.2.1, fun z => ?_⟩⟩
    obtain ⟨i, s, u, e1, e2, e3⟩ := hL b z
    exact (n b hb).2.2.2 i s u e1 e2 e3
end
section
variable {P : Program} {w : World} {K : PySem.W.Frag} {mg : Str → Option Value} {base : Heap} {cls : Str → Value}
/-- a def's promise, by what its body computes -/
theorem fn_D {x qual : Str} {st : Stmt} {f : Addr} {fd : FuncData} {N ps : List Str} {k : Nat} (lp : Option Nat) {b : M Fl} (F : Fun K x qual st f fd) (S : FnScope N ps (defScope st)) (hps : ps.length ≤ N.length)
    (body : ∀ (cdv : Value) (A : Around) (outer : List Env) (s : Shared) (H : Hp) (E : XK), Room k (A.deeper (envOfC qual (defScope st) s.heap.objs.size f cdv)) → (A.deeper (envOfC qual (defScope st) s.heap.objs.size f cdv)).guards = some [] → ∀ Y : Ent, Y.cls = cls →
      DSs (cxOf (L2.CX P w) P w K mg base N qual (defScope st) f cdv A outer s H E) Y (fun c d _ H => E c d H) (defBody st) b) : FnG P w K mg base (k + 1) f fd ps (spD ⟨K, w⟩ cls lp ps.length (bodyF N.length lp b)) := by
  refine fnG_ok F S (fun vs H Q E h => ?_) fun cdv A outer s H vs Q E hr gd h => ?_
  · obtain ⟨_, _, _, _, _, e, _⟩ := h; exact e
  · obtain ⟨F0, lr, la, lo, ds, hl, sm, ha, hp⟩ := h
    refine ⟨_, body cdv A outer s H E hr gd (entOf cls lr la F0 H) rfl, ?_⟩
    unfold bodyF at hp
    cases eg : mkG N.length lp lo ds with
    | none => rw [eg] at hp; exact hp.elim
    | some g0 =>
      rw [eg] at hp
      have rl : Rel ⟨K, w⟩ (entOf cls lr la F0 H) (start N vs) H g0 F0 := rel_start sm ha (by rw [hl]; exact hps) eg
      refine ⟨g0, F0, rl, ?_⟩
      simp only at hp
      cases eb : b g0 with
      | bad => rw [eb] at hp; exact hp.elim
      | ex e g =>
        rw [eb] at hp
        exact fun d σ' H' F' r s xd => hp d H' F' (rel_endX r) xd
      | ok fl g =>
        rw [eb] at hp
        cases fl with
        | bk => exact hp.elim
        | ct => exact hp.elim
        | nx =>
          simp only at hp
          cases eo : outG lp g with
          | none => rw [eo] at hp; exact hp.elim
          | some lo' =>
            rw [eo] at hp
            exact fun σ' H' F' r s => hp .non H' F' (rel_end ha r eo).1 rfl
        | rt rr =>
          simp only at hp
          cases eo : outG lp g with
          | none => rw [eo] at hp; cases rr <;> exact hp.elim
          | some lo' =>
            rw [eo] at hp
            cases rr with
            | fz d => exact fun σ' H' F' r s v hv => hp v H' F' (rel_end ha r eo).1 (RVr.of hv (rel_end ha r eo).2 trivial)
            | ow o => exact fun σ' H' F' r s v hv => hp v H' F' (rel_end ha r eo).1 (RVr.of hv (rel_end ha r eo).2 trivial)
            | «at» i => exact hp.elim
            | sub i f => exact hp.elim
end
/-- a call's meaning at the caller -/
def opCall (lp : Option Nat) (sem : FSem) (rs : List R) : M R := fun g => match lp with
  | none => match allFz rs with
    | some ds => match sem none ds with
      | .ok (.fz d) none => .ok (.fz d) g
      | .ok (.ow o) none => .ok (.ow o) g
      | .ex e none => .ex e g
      | _ => .bad
    | none => .bad
  | some j => match rs[j]?, allFz (rs.eraseIdx j) with
    | some (.at i), some ds => match g[i]? with
      | some (some (.ow l o)) => match sem (some o) ds with
        | .ok (.fz d) (some o') => .ok (.fz d) (g.set i (some (.ow l o')))
        | .ok (.ow o2) (some o') => .ok (.ow o2) (g.set i (some (.ow l o')))
        | .ex e none => .ex e (g.set i none)
        | _ => .bad
      | _ => .bad
    | some (.sub i f), some ds => match g[i]? with
      | some (some (.ow l (.ob c fs))) => match fs.get f with
        | some (.inr o) => match sem (some o) ds with
          | .ok (.fz d) (some o') => .ok (.fz d) (g.set i (some (.ow l (.ob c (fs.put f o')))))
          | .ok (.ow o2) (some o') => .ok (.ow o2) (g.set i (some (.ow l (.ob c (fs.put f o')))))
          | .ex e none => .ex e (g.set i none)
          | _ => .bad
        | _ => .bad
      | _ => .bad
    | _, _ => .bad
def eCall (lp : Option Nat) (sem : FSem) (k : M (List R)) : M R := mb k (opCall lp sem)
section
variable {K : KW} {Y : Ent} {W : WX} {σ : St} {H F H' F' : Hp} {g : G}
theorem ExtL.ext (x : ExtL K none [] none F H F' H') : Ext F H F' H' := ⟨fun b y h => x.hh b y (fun z => by cases z) h, x.ff, x.fh, fun a h => (x.nw a h).imp id fun z => z.elim id (fun z => by cases z)⟩
theorem Rel.extN (r : Rel K Y σ H g F) (x : ExtL K none [] none F H F' H') : Rel K Y σ H' g F' := r.ext x.ext
/-- new or lent cells at the caller -/
theorem Rel.newB (r : Rel K Y σ H g F) {b : Addr} (h : H b = none) : Y.B b = none ∧ Y.H0 b = none := by
  refine ⟨?_, none_of_dom r.dom h⟩
  cases e : Y.B b with
  | none => rfl
  | some y => rw [r.keep _ _ e] at h; cases h
theorem Rel.extL {i : Nat} {l : Bool} {o o' : O} {a : Addr} (r : Rel K Y σ H g F) (x : ExtL K (some a) (foot F a o) (some o') F H F' H') (e : g[i]? = some (some (.ow l o))) (hv : σ[i]? = some (some (.ref a))) : Rel K Y σ H' (g.set i (some (.ow l o'))) F' := by
  obtain ⟨a', ea, q0, nd0, n, lr⟩ := r.at_ e hv
  cases ea
  obtain ⟨q, nd, nf⟩ := x.lo
  refine r.chg e hv x.hh x.ff x.fh x.nw x.dm ⟨a, rfl, q, nd, fun b hb => ?_, lr⟩ fun b hb => (nf b hb).2
  obtain ⟨m1, m2⟩ := nf b hb
  rcases m2 with z | z
  · exact ⟨m1, (n b z).2⟩
  · exact ⟨m1, (r.newB z).1, fun _ => (r.newB z).2, .inl (r.newB z).2⟩
theorem Rel.extS {i : Nat} {l : Bool} {c f : Str} {fs : Fs} {o o' : O} {b : Addr} (r : Rel K Y σ H g F) (x : ExtL K (some b) (foot F b o) (some o') F H F' H') (e : g[i]? = some (some (.ow l (.ob c fs)))) (hv : RV K Y σ F H g (.ref b) (.sub i f)) (eo : fs.get f = some (.inr o)) :
    Rel K Y σ H' (g.set i (some (.ow l (.ob c (fs.put f o'))))) F' := by
  obtain ⟨q, nd, nf⟩ := x.lo
  exact r.putSub e hv eo x.ff x.fh x.hh x.nw x.dm q nd nf
/-- an error leaves a def to which a slot's object was lent: the slot is given up -/
theorem Rel.dropL {i : Nat} {s : Sl} {v : V} {la : List Addr} (r : Rel K Y σ H g F) (x : ExtL K none la none F H F' H') (e : g[i]? = some (some s)) (hv : σ[i]? = some (some v)) (sub : ∀ b ∈ la, b ∈ sf F H v s) : Rel K Y σ H' (g.set i none) F' := by
  have st := r.other e hv (F' := F') (H' := H') (fun b y hb hy => x.hh b y (fun z => hb (sub b z)) hy) x.ff fun b hb => (x.nw b hb).imp id fun z => z.imp id (sub b)
  have un : ∀ {j : Nat} {t : Sl}, (g.set i none)[j]? = some (some t) → j ≠ i ∧ g[j]? = some (some t) := fun {j t} h => by
    rcases get_set h with ⟨_, e'⟩ | z
    · cases e'
    · exact z
  have own := r.at_ e hv
  refine ⟨x.fh, r.base.trans x.ff, fun b y hb => x.hh b y (fun z => ?_) (r.keep _ _ hb), fun a h => x.dm a (r.dom a h), fun a h => ?_, r.lad, r.len.trans (List.length_set ..).symm, fun j t ej => ?_, fun j k t t' u u' n e1 e2 h1 h2 b hb => ?_⟩
  · rw [(own.cells b (sub b z)).2.1] at hb; cases hb
  · rcases x.nw a h with z | z | z
    · exact r.fr a z
    · exact .inr (.inl (none_of_dom r.dom z))
    · exact .inr (own.cells a (sub a z)).2.2.1
  · obtain ⟨n, e'⟩ := un ej
    obtain ⟨u, h1, _⟩ := r.sl j t e'
    exact ⟨u, h1, (st j t u n e' h1).1⟩
  · obtain ⟨n1, y1⟩ := un e1
    obtain ⟨n2, y2⟩ := un e2
    rw [(st j t u n1 y1 h1).2] at hb
    rw [(st k t' u' n2 y2 h2).2]
    exact r.inj j k t t' u u' n y1 y2 h1 h2 b hb
/-- what a def hands back, at its caller -/
theorem RVr.rv {v : V} {rr : R} {g' : G} {L : List Addr} (rl : Rel K Y σ H g F) (hc : ∀ (i : Nat) (s : Sl) (u : V), g'[i]? = some (some s) → σ[i]? = some (some u) → ∀ b ∈ sf F' H' u s, H b ≠ none ∨ b ∈ L) (h : RVr K H F' H' L v rr) : RV K Y σ F' H' g' v rr := by
  cases rr with
  | fz d => exact h
  | «at» i => exact h.elim
  | sub i f => exact h.elim
  | ow o =>
    obtain ⟨a, h1, h2, nd, n⟩ := h
    refine ⟨a, h1, h2, nd, fun b hb => ?_⟩
    obtain ⟨n1, n2, n3⟩ := n b hb
    exact ⟨n1, (rl.newB n2).1, (rl.newB n2).2, fun i s u e hu z => (hc i s u e hu b z).elim (fun k => k n2) n3⟩
theorem Rel.cells_ext (r : Rel K Y σ H g F) (x : Ext F H F' H') (i : Nat) (s : Sl) (u : V) (e : g[i]? = some (some s)) (hu : σ[i]? = some (some u)) (b : Addr) (hb : b ∈ sf F' H' u s) : H b ≠ none := by
  have q := r.at_ e hu
  rw [(q.mono x.ff fun b hb => ⟨Same.eq x.hh (q.cl hb), x.none (q.cl hb) (q.cells b hb).1⟩).2] at hb
  exact q.cl hb
theorem Rel.cells_L {i : Nat} {l : Bool} {o o' : O} {a : Addr} (r : Rel K Y σ H g F) (x : ExtL K (some a) (foot F a o) (some o') F H F' H') (e : g[i]? = some (some (.ow l o))) (hv : σ[i]? = some (some (.ref a))) (j : Nat) (s : Sl) (u : V)
    (ej : (g.set i (some (.ow l o')))[j]? = some (some s)) (hu : σ[j]? = some (some u)) (b : Addr) (hb : b ∈ sf F' H' u s) : H b ≠ none ∨ b ∈ lcells F' (some a) (some o') := by
  rcases get_set ej with ⟨rfl, e'⟩ | ⟨n, e'⟩
  · have := Option.some.inj e'; subst this
    rw [hv] at hu; cases hu
    exact .inr hb
  · have q := r.at_ e' hu
    rw [(r.other e hv x.hh x.ff x.nw j s u n e' hu).2] at hb
    exact .inl (q.cl hb)
theorem Rel.cells_S {i : Nat} {l : Bool} {c f : Str} {fs : Fs} {o o' : O} {a : Addr} (r : Rel K Y σ H g F) (x : ExtL K (some a) (foot F a o) (some o') F H F' H') (e : g[i]? = some (some (.ow l (.ob c fs)))) (hv : RV K Y σ F H g (.ref a) (.sub i f)) (eo : fs.get f = some (.inr o)) (j : Nat) (s : Sl) (u : V)
    (ej : (g.set i (some (.ow l (.ob c (fs.put f o')))))[j]? = some (some s)) (hu : σ[j]? = some (some u)) (b : Addr) (hb : b ∈ sf F' H' u s) : H b ≠ none ∨ b ∈ lcells F' (some a) (some o') := by
  obtain ⟨a1, C, dx, vs, b', k1, eb, k2, k3, k4, k5, t, ef⟩ := r.subAt e hv eo
  cases eb
  have own := r.at_ e k1
  rcases get_set ej with ⟨rfl, e'⟩ | ⟨n, e'⟩
  · have := Option.some.inj e'; subst this
    rw [k1] at hu; cases hu
    have ef' : foot F' a1 (.ob c (fs.put f o')) = footF F' vs (fs.put f o') := by unfold foot; rw [x.ff _ _ k2]
    have hb : b ∈ foot F' a1 (.ob c (fs.put f o')) := hb
    rw [ef'] at hb
    obtain ⟨q, nd, nf⟩ := x.lo
    obtain ⟨a', ea, _, nd0, _⟩ := own
    cases ea
    rw [ef] at nd0
    obtain ⟨_, _, p3⟩ := t.put (H' := H') x.ff q nd (fun x hx => (nf x hx).2) nd0 eo k3 (fun y hy hn => by
      obtain ⟨u, hu, _⟩ := footF_mut fs vs t y hy
      rw [hu]; exact x.hh y u hn hu)
    rcases p3 b hb with ⟨w, _⟩ | w
    · obtain ⟨u, hu, _⟩ := footF_mut fs vs t b w
      rw [hu]; exact .inl (by simp)
    · exact .inr w
  · have q := r.at_ e' hu
    have es : sf F H (.ref a1) (.ow l (.ob c fs)) = footF F vs fs := ef
    rw [(r.other e k1 (fun y z hy hz => x.hh y z (fun h => hy (by rw [es]; exact k5 y h)) hz) x.ff (fun y hy => (x.nw y hy).imp id fun h => h.imp id fun h => by rw [es]; exact k5 y h) j s u n e' hu).2] at hb
    exact .inl (q.cl hb)
theorem RVs.erase : ∀ {rs : List R} {vs : List V} (j : Nat) {r : R}, RVs K Y σ F H g vs rs → rs[j]? = some r → ∃ v us, vs = us.take j ++ v :: us.drop j ∧ j ≤ us.length ∧ RV K Y σ F H g v r ∧ RVs K Y σ F H g us (rs.eraseIdx j)
  | [], _, _, _, _, h => by simp at h
  | r :: rs, _, 0, r', ⟨v, us, rfl, h, t⟩, e => by
    have : r = r' := by simpa using e
    subst this
    exact ⟨v, us, rfl, Nat.zero_le _, h, t⟩
  | r :: rs, _, j + 1, r', ⟨v, us, rfl, h, t⟩, e => by
    obtain ⟨v', us', e1, hj, h1, h2⟩ := RVs.erase j t (by simpa using e)
    subst e1
    exact ⟨v', v :: us', by simp, by simp; exact hj, h1, v, us', rfl, h, h2⟩
theorem RVs.len : ∀ {rs : List R} {vs : List V}, RVs K Y σ F H g vs rs → vs.length = rs.length
  | [], _, e => by rw [show _ = [] from e]; rfl
  | r :: rs, _, ⟨v, us, e, _, t⟩ => by rw [e, List.length_cons, List.length_cons, RVs.len t]
theorem opCall_of {n : Nat} {lp : Option Nat} {sem : FSem} {rs : List R} {vs : List V} {Q : VK} (h : Post K Y W σ F (JV K Y σ Q) (opCall lp sem rs g)) (r : Rel K Y σ H g F) (hv : RVs K Y σ F H g vs rs) (hn : rs.length = n) :
    spD K Y.cls lp n sem vs H Q (fun c d H' => W c d σ H') := by
  unfold opCall at h
  cases lp with
  | none =>
    simp only at h
    split at h
    · rename_i ds e
      refine ⟨F, none, [], none, ds, hv.len.trans hn, r.sub, ⟨rfl, rfl, rfl, hv.fz e⟩, ?_⟩
      split at h
      · rename_i d es
        rw [es]
        exact fun v H' F' x q => h H' F' (r.extN x) x.ff v q
      · rename_i o es
        rw [es]
        exact fun v H' F' x q => h H' F' (r.extN x) x.ff v (RVr.rv r (fun i s u e hu b hb => .inl (r.cells_ext x.ext i s u e hu b hb)) q)
      · rename_i e es
        rw [es]
        exact fun d H' F' x xd => h d H' F' (r.extN x) x.ff xd
      · exact h.elim
    · exact h.elim
  | some j =>
    simp only at h
    split at h
    · rename_i i ds e1 e2
      split at h
      · rename_i l o e3
        obtain ⟨v, us, rfl, hj, k1, k2⟩ := hv.erase j e1
        obtain ⟨a, rfl, k3, nd, k4, k5⟩ := r.at_ e3 k1
        refine ⟨F, some a, foot F a o, some o, ds, hv.len.trans hn, r.sub, ⟨a, us, o, rfl, rfl, rfl, rfl, hj, k2.fz e2, k3, nd, fun b hb => (k4 b hb).1⟩, ?_⟩
        split at h
        · rename_i d o' es
          rw [es]
          exact fun v H' F' x q => h H' F' (r.extL x e3 k1) x.ff v q
        · rename_i o2 o' es
          rw [es]
          exact fun v H' F' x q => h H' F' (r.extL x e3 k1) x.ff v (RVr.rv r (r.cells_L x e3 k1) q)
        · rename_i e es
          rw [es]
          exact fun d H' F' x xd => h d H' F' (r.dropL x (s := .ow l o) e3 k1 fun b hb => hb) x.ff xd
        · exact h.elim
      · exact h.elim
    · rename_i i f ds e1 e2
      split at h
      · rename_i l c fs e3
        split at h
        · rename_i o eo
          obtain ⟨v, us, rfl, hj, k1, k2⟩ := hv.erase j e1
          obtain ⟨a1, C, dx, ws, a, m1, rfl, m2, m3, k3, m5, t, ef⟩ := r.subAt e3 k1 eo
          obtain ⟨a', ea, _, nd0, n0, _⟩ := r.at_ e3 m1
          cases ea
          have nd : (foot F a o).Nodup := FsAt.nodup t (by rw [← ef]; exact nd0) eo m3
          refine ⟨F, some a, foot F a o, some o, ds, hv.len.trans hn, r.sub, ⟨a, us, o, rfl, rfl, rfl, rfl, hj, k2.fz e2, k3, nd, fun b hb => (n0 b (by rw [ef]; exact m5 b hb)).1⟩, ?_⟩
          split at h
          · rename_i d o' es
            rw [es]
            exact fun v H' F' x q => h H' F' (r.extS x e3 k1 eo) x.ff v q
          · rename_i o2 o' es
            rw [es]
            exact fun v H' F' x q => h H' F' (r.extS x e3 k1 eo) x.ff v (RVr.rv r (r.cells_S x e3 k1 eo) q)
          · rename_i e es
            rw [es]
            exact fun d H' F' x xd => h d H' F' (r.dropL x e3 m1 fun b hb => (show b ∈ foot F a1 (.ob c fs) by rw [ef]; exact m5 b hb)) x.ff xd
          · exact h.elim
        · exact h.elim
      · exact h.elim
    · exact h.elim
end
section
variable {X : Cx} {Y : Ent} {W : WX} {k : Nat} {f : Addr} {fd : FuncData} {ps : List Str} {cls : Str → Value} {lp : Option Nat} {sem : FSem} {x : Str} {p pos : Pos} {e : Expr} {es : List Expr} {a : M (List R)}
def chkN (n : Nat) (a : M (List R)) : M (List R) := mb a fun rs g => if rs.length = n then .ok rs g else .bad
theorem de_call {n : Nat} (G : FnG X.prog X.w X.kw X.mg X.base k f fd ps (spD X.kw cls lp n sem)) (hr : Room k X.A) (gd : X.A.guards = some []) (hg : Gl X x) (hm : X.mg x = some (.ref f)) (hk : PySem.W.keepIn X.kw (.ref f) = true) (hb : Binds X.kw fd ps []) (tk : Takes X W) (hc : Y.cls = cls)
    (ha : DA X Y W (e :: es) a) (hdb : (x == ("__debug__" : Str)) = false := by decide) (he : starEach (e :: es) X.env = (false, eval e X.env) :: starEach es X.env := by rfl) (hpl : (backTo pos (starEach es X.env)).any (·.1) = false := by rfl) :
    DE X Y W (.Call (.Name x p) (e :: es) [] pos) (eCall lp sem (chkN n a)) :=
  pe_mono (pe_callG (W := W) (dvs := []) G hr gd hg hm hk hb .nil tk ha hdb he hpl) fun σ H Q ⟨g, F, r, q⟩ => by
    have q' : Post X.kw Y W σ F (JV X.kw Y σ Q) ((a g).andThen fun rs g => (if rs.length = n then Rs.ok rs g else .bad : Rs (List R)).andThen (opCall lp sem)) := by
      have : (eCall lp sem (chkN n a)) g = (a g).andThen fun rs g => (if rs.length = n then Rs.ok rs g else .bad : Rs (List R)).andThen (opCall lp sem) := by
        unfold eCall chkN mb
        cases a g <;> rfl
      rw [← this]; exact q
    refine ⟨g, F, r, (Post.bind q').imp fun rs g1 H1 F1 r1 s1 q1 vs hv => ?_⟩
    split at q1
    · rename_i hn
      rw [List.append_nil, ← hc]
      exact opCall_of q1 r1 hv hn
    · exact q1.elim
/-! ### errors -/
def sRaise (c : Str) : M Fl := fun g => .ex ⟨c, []⟩ g
theorem ds_raise {C : Addr} {bmB : List Value} {B newId initId : String} {m : Str} {j : Nat} {p2 p3 : Pos} (hc : X.calm = true) (tk : Takes X W) (F : ExcBaseFacts B newId initId bmB) (q : PySem.W.excIn X.kw C bmB newId = true) (gC : X.mg x = some (.ref C)) (kC : PySem.W.keepIn X.kw (.ref C) = true)
    (h1 : PySem.W.subIn X.kw (.ref C) (.type "BaseException") = some true) (h2 : PySem.W.typeIn X.kw (.ref C) = some (.type "type")) (hcl : Y.cls x = .ref C) (hg : Gl X x := by rfl) (hdb : (x == ("__debug__" : Str)) = false := by decide) :
    DS X Y W (.Raise (some (.Call (.Name x p) [.Constant (.str m) j p2] [] p3)) none pos) (sRaise x) :=
  ps_mono (ps_raise hc tk (pmk_own F q gC kC (raises_own h1 h2) hg hdb)) fun D σ H ⟨g, F, r, pp⟩ => by
    have := pp none σ H F r (Same.refl _) rfl
    rw [← hcl]; exact this
/-- the classes of errors that a clause takes -/
def subE (c h : Str) : Bool := c == h || h == ("LeafError" : Str)
def handle : List (Str × M Fl) → Ex → M Fl
  | [], e => fun g => .ex e g
  | (h, f) :: r, e => fun g => if subE e.c h = true then noEx (f g) else handle r e g
def sTry (ns : List Str) (b : M Fl) (hs : List (Str × M Fl)) : M Fl := fun g => match b g with
  | .ex e g' => if e.c ∈ ns then handle hs e g' else .bad
  | r => r
/-- the clauses -/
inductive Hds (X : Cx) (Y : Ent) : List ExceptHandler → List (Str × M Fl) → Prop
  | nil : Hds X Y [] []
  | cons {x : Str} {b₀ : Stmt} {suite : List Stmt} {np pos' : Pos} {hds : List ExceptHandler} {l : List (Str × M Fl)} {f : M Fl} (hc : Names X x (Y.cls x))
      (hsu : ∀ (a : Addr) (oe : Obj) (pn : List (Addr × Obj)), DSs (X.suite a ((a, oe) :: pn)) Y W0 (b₀ :: suite) f) (r : Hds X Y hds l) : Hds X Y (.ExceptHandler (some (.Name x np)) none (b₀ :: suite) pos' :: hds) ((x, f) :: l)
theorem Hds.ok : ∀ {hds : List ExceptHandler} {l : List (Str × M Fl)}, Hds X Y hds l → HdsOk X hds (l.map fun hf => (Y.cls hf.1, fun _ _ _ => tS X.kw Y W0 hf.2))
  | _, _, .nil => .nil
  | _, _, .cons hc hsu r => .cons hc (fun a oe cls d pn _ _ => hsu a oe pn) (Hds.ok r)
theorem ds_try {body : List Stmt} {h₀ : ExceptHandler} {hds : List ExceptHandler} {b : M Fl} {l : List (Str × M Fl)} (ns : List Str) (hs : X.stack = X.env :: X.outer) (hf : X.env.frame = some X.env.locals) (tk : Takes X W)
    (hx : ∀ c ∈ ns, ∀ h ∈ l.map (·.1), PySem.W.exmOne X.kw (Y.cls c) (Y.cls h) = some (subE c h))
    (hb : ∀ (W' : WX) (pn : List (Addr × Obj)) (xe : Value → Shared → Prop), Takes (X.tr pn xe) W' → PassesOwn (model X.prog X.w) X.A X.env xe → DSs (X.tr pn xe) Y W' body b)
    (hh : Hds X Y (h₀ :: hds) l) : DS X Y W (.Try body (h₀ :: hds) [] [] pos) (sTry ns b l) :=
  ps_mono (ps_try_many (tb := fun W' => tS X.kw Y W' b) hs hf tk hb hh.ok) fun D σ H ⟨g, F, r, p⟩ => by
    refine ⟨g, F, r, ?_⟩
    have p' : PostS X.kw Y W F D (match b g with
      | .ex e g' => if e.c ∈ ns then handle l e g' else .bad
      | r => r) := p
    revert p'
    cases b g with
    | bad => exact id
    | ok fl g' => exact id
    | ex e g' =>
      simp only
      split
      · rename_i hn
        intro p' d σ' H' F' r' s' xd
        have go : ∀ l' : List (Str × M Fl), (∀ hf ∈ l', hf ∈ l) → PostS X.kw Y W F D (handle l' e g') → wMany X.kw W D (l'.map fun hf => (Y.cls hf.1, fun _ _ _ => tS X.kw Y W0 hf.2)) (Y.cls e.c) d σ' H' := by
          intro l'
          induction l' with
          | nil => exact fun _ q => q d σ' H' F' r' s' xd
          | cons hf l' ih =>
            obtain ⟨h, f⟩ := hf
            intro sub q
            have q' : PostS X.kw Y W F D (if subE e.c h = true then noEx (f g') else handle l' e g') := q
            refine ⟨subE e.c h, hx e.c hn h (List.mem_map.mpr ⟨(h, f), sub _ List.mem_cons_self, rfl⟩), fun hb a _ => ?_, fun hb => ?_⟩
            · rw [if_pos hb] at q'
              refine ⟨g', F', r', ?_⟩
              have q2 := PostS.weak s' q'
              show PostS X.kw Y W0 F' _ (f g')
              revert q2
              cases f g' with
              | bad => exact fun z => z
              | ex _ _ => exact fun z => z.elim
              | ok _ _ => exact fun z => z
            · rw [if_neg (by rw [hb]; simp)] at q'
              exact ih (fun hf hm => sub hf (List.mem_cons_of_mem _ hm)) q'
        exact go l (fun _ h => h) p'
      · exact fun p' => p'.elim
end
end DL

namespace DL
open PySem PySem.Spec L2
open PyProof.Rows hiding St

/-! ### the end of a law -/
/-- a def's promise at the heap behind the top, no repr under way -/
theorem law_at {P : Program} {w : World} {K : PySem.W.Frag} {mg mb : Str → Option Value} {k : Nat} {fa a : Addr} {fd : FuncData} {x : Str} {cls : Str → Value} {sem : FSem} {t : Shared} {us : List Value} {ns : List Int}
    (inK : K.In t.heap) (gl : t.heap.Ns mainGlobals mg) (bl : t.heap.Ns builtinsNs mb) (boot : ∀ y : Str, y ≠ "__name__" → mb y = bootBuiltins y) (lim : t.heap.NoLimit) (ng : t.gens = #[])
    (obj : t.heap.get? a = some { cls := .type "list", data := .seq us.toArray }) (hin : IntsAre us ns) (few : ns.length ≤ sizeLine) (room : Room k callerA)
    (G : ∀ base : Heap, K.In base → base.Ns mainGlobals mg → FnG P w K mg base k fa fd [x] (spD ⟨K, w⟩ cls none 1 sem)) (bd : ∀ (s : Shared) (u : Value), BindsTo s fd ⟨[u], []⟩ [(x, u)])
    (good : sem none [.scr ns] = .ok (.fz (.bl true)) none) :
    codeAny (model P w) callerA (.call (.ref fa) ⟨[.ref a], []⟩) (fun r s' => r = .ok (.ret (.bool true)) ∧ OldK t.heap s'.heap ∧ s'.os = t.os ∧ AllBare s'.gens) t := by
  have vs := vals_ints hin
  -- the abstract heap: the script alone, if the module does not hold it
  let o : Obj := { cls := .type "list", data := .seq us.toArray }
  let H : Hp := fun b => if b = a ∧ K.lookup a = none then some (.frz o (.lst (ns.map V.int))) else none
  have hH : ∀ b u, H b = some u → b = a ∧ K.lookup a = none ∧ u = .frz o (.lst (ns.map V.int)) := by
    intro b u e
    have e' : (if b = a ∧ K.lookup a = none then some (HO.frz o (.lst (ns.map V.int))) else none) = some u := e
    split at e'
    · rename_i c; cases e'; exact ⟨c.1, c.2, rfl⟩
    · cases e'
  have tracked : HOk P w H t.heap := by
    intro b u e
    obtain ⟨rfl, _, rfl⟩ := hH b u e
    exact ⟨obj, by rw [List.length_map]; exact few, us, _, vs, obj⟩
  have script : SqL K H a (ns.map V.int) := by
    cases e : K.lookup a with
    | none => exact .inl (.inr ⟨o, by show (if a = a ∧ K.lookup a = none then _ else none) = _; rw [if_pos ⟨rfl, e⟩]⟩)
    | some o' =>
      have e2 := inK a o' e
      rw [obj] at e2
      cases e2
      exact .inr ⟨_, us.toArray, _, e, rfl, rfl, rfl, by rw [List.size_toArray, hin.length]; exact few, by simpa using vs⟩
  have free : ∀ {b : Addr} {ob : Obj}, t.heap.get? b = some ob → (b = a → K.lookup a ≠ none ∨ ∃ es ep, ob.data = .dict es ep) → H b = none := by
    intro b ob e c
    cases q : H b with
    | none => rfl
    | some u =>
      obtain ⟨rfl, hk, _⟩ := hH b u q
      rcases c rfl with z | ⟨es, ep, d⟩
      · exact absurd hk z
      · rw [obj] at e; cases e; cases d
  have ns' : ∀ {b : Addr} {m : Str → Option Value}, t.heap.Ns b m → (hidT t.heap H).Ns b m := by
    rintro b m ⟨ob, es, ep, e, d, r⟩
    exact ⟨ob, es, ep, hidT_get e (free e fun _ => .inr ⟨es, ep, d⟩), d, r⟩
  have inB : K.In (hidT t.heap H) := fun b ob e => hidT_get (inK b ob e) (free (inK b ob e) fun z => .inl (by rw [← z, e]; simp))
  obtain ⟨mc, l1, l2⟩ := lim
  have md : Mod K mg (hidT t.heap H) := ⟨inB, ns' gl, ⟨mb, ns' bl, boot⟩, ⟨mc, ns' l1, l2⟩⟩
  have e0 : Env0 P w K mg (hidT t.heap H) callerA [] t H := ⟨rfl, md, fun b ob e => of_hidT e, Nat.le_of_eq (hidT_size _ _), trivial, fun b hb => (List.not_mem_nil hb).elim, tracked, .of_eq ng⟩
  have want : spD ⟨K, w⟩ cls none 1 sem [.ref a] H (fun v _ => v = .bl true) (fun _ _ _ => False) := by
    refine ⟨H, none, [], none, [.scr ns], rfl, Same.refl _, ⟨rfl, rfl, rfl, .one ⟨a, rfl, script, few⟩⟩, ?_⟩
    rw [good]
    exact fun v H' F' _ q => q
  refine codeAny_mono ((G _ inB (ns' gl)).run callerA [] t H ⟨[.ref a], []⟩ [.ref a] [.ref a] _ _ room rfl e0 (bd t (.ref a)) (.cons rfl .nil) want) ?_
  intro r s' h
  cases r with
  | error e =>
    obtain ⟨_, _, _, _, _, _, _, _, _, _, _, _, z⟩ := h
    exact z.elim
  | ok fl =>
    cases fl with
    | next => cases h
    | brk => cases h
    | cont => cases h
    | ret u =>
      obtain ⟨v, H', os, bare, un, ok', rv, rfl⟩ := h
      cases (show u = Value.bool true from rv)
      refine ⟨rfl, OldK.of_keep fun b ob e => ?_, os, bare⟩
      cases q : H b with
      | none => exact un.keep b ob e q (fun z => List.not_mem_nil z) (fun z => List.not_mem_nil z)
      | some u =>
        obtain ⟨_, _, rfl⟩ := hH b u q
        obtain ⟨e1, _⟩ := tracked b _ q
        obtain ⟨e2, _⟩ := ok' b _ (un.frzs b _ _ q)
        rw [e] at e1; cases e1
        exact e2
/-- the goal of a law, from what its def computes -/
theorem walk_law {l : PySem.W.OpenLaw} {k : Nat} {q : Program} {loose : List Str} {XP : (Str → Option Value) → Heap → Prop} {YP : World → Heap → Prop} {d : DefRec} {K : Params → PySem.W.Frag} {sem : FSem} {x : Str}
    (hn : l.most = some 63) (hdf : d.params.defaults = []) (room : Room k callerA) (hY : ∀ (w : World) (h : Heap), YP w h → (K w.params).In h)
    (good : ∀ ns : List Int, ns.length ≤ 63 → sem none [.scr ns] = .ok (.fz (.bl true)) none)
    (G : ∀ (w : World) (mg : Str → Option Value) (fa : Addr) (h : Heap), (K w.params).In h → h.Ns mainGlobals mg → mg d.name = some (.ref fa) →
      ∃ (fd : FuncData) (cls : Str → Value), (∀ (s : Shared) (u : Value), BindsTo s fd ⟨[u], []⟩ [(x, u)]) ∧ ∀ base : Heap, (K w.params).In base → base.Ns mainGlobals mg → FnG l.prog w (K w.params) mg base k fa fd [x] (spD ⟨K w.params, w⟩ cls none 1 sem)) :
    PySem.W.WalkO q loose XP YP l.row.toRowW d [] (fun f vs => PySem.call f vs) := by
  refine Att.attach_call hn hdf fun w s₀ t mg mb fa o pm cd doc a us ns Gr Yp ho hd hcd hmg obj hin few ng => ?_
  obtain ⟨fd, cls, bd, hG⟩ := G w mg fa _ (hY w _ Yp) Gr.T.g hmg
  exact law_at (hY w _ Yp) Gr.T.g Gr.T.b Gr.T.builtins Gr.T.nolimit ng obj hin (Nat.le_trans few (by decide)) room hG bd (good ns few)
end DL

namespace DL
open PySem PySem.Spec L2

/-! ### more operators -/
def op1 (op : D → Option R) (x : R) : M R := fun g => match cont g x with
  | some d => done (op d) g
  | none => .bad
def eU (op : D → Option R) (f : M R) : M R := mb (pk f) (op1 op)
def bNeg : D → Option R
  | .int i => some (.fz (.int (-i)))
  | _ => none
def cIs (neg : Bool) : D → D → Option R
  | .bl a, .bl b => some (.fz (.bl (if neg then !decide (a = b) else decide (a = b))))
  | a, .non => some (.fz (.bl (if neg then !isNon a else isNon a)))
  | _, _ => none
def kindT : D → Option String
  | .non => some "NoneType" | .bl _ => some "bool" | .int _ => some "int" | .str _ => some "str" | .tup _ => some "tuple" | .lst _ => some "list" | .dk _ => some "dict" | .dt _ => some "dict" | .scr _ => none | .exc _ => none | .lk _ => none | .ld _ => none | .tux _ => none | .dd _ => none | .obj _ _ => none
def bIsi (T : String) (d : D) : Option R := (kindT d).bind fun k => (kitB k T).map fun b => .fz (.bl b)
section
variable {X : Cx} {Y : Ent} {W : WX} {pos : Pos} {a b e : Expr}
theorem Post.op1 {K : KW} {σ : St} {H F : Hp} {Q : VK} {g : G} {op : D → Option R} {x : R} (h : Post K Y W σ F (JV K Y σ Q) (op1 op x g)) (rl : Rel K Y σ H g F) : ∃ a r, cont g x = some a ∧ op a = some r ∧ RP K F H Q r := by
  unfold DL.op1 at h
  split at h
  · rename_i d e
    obtain ⟨r, h1, h2⟩ := Post.done h rl
    exact ⟨d, r, e, h1, h2⟩
  · exact h.elim
theorem de_neg {f : M R} (ha : DE X Y W a f) : DE X Y W (.UnaryOp .USub a pos) (eU bNeg f) :=
  pe_mono (pe_un un_neg (de_pk ha)) fun σ H Q ⟨g, F, r, p⟩ => ⟨g, F, r, (p.bind).imp fun x g1 H1 F1 r1 s1 q v hv => by
    obtain ⟨d, r', h1, h2, h3⟩ := Post.op1 q r1
    unfold bNeg at h2
    split at h2
    · cases h2
      exact ⟨_, (r1.cv hv h1).int, h3.now r1.sub rfl⟩
    · cases h2⟩
theorem od_notin : OpD X (compareOp .NotIn) (cIn true) := od_in true
/-- list(range(n)) -/
def lrng (a b : Int) : List D := (List.range (b - a).toNat).map fun i => .int (a + (i : Nat))
def okRg (a b : Int) : Prop := -(2 ^ 62) ≤ a ∧ a < 2 ^ 62 ∧ -(2 ^ 62) ≤ b ∧ b < 2 ^ 62 ∧ (b - a).toNat ≤ 2 ^ 24
instance (a b : Int) : Decidable (okRg a b) := by unfold okRg; infer_instance
def bLrg1 : D → Option R
  | .int n => if okRg 0 n then some (.ow (.ls (lrng 0 n))) else none
  | _ => none
def bLrg2 : D → D → Option R
  | .int a, .int b => if okRg a b then some (.ow (.ls (lrng a b))) else none
  | _, _ => none
theorem IsL.rg {K : KW} {F : Hp} (a b : Int) : IsL K F (rgV a b) (lrng a b) := by
  have e : lrng a b = ((List.range (b - a).toNat).map fun i => a + ((i : Nat) : Int)).map D.int := by unfold lrng; rw [List.map_map]; rfl
  have e2 : rgV a b = ((List.range (b - a).toNat).map fun i => a + ((i : Nat) : Int)).map V.int := by unfold rgV; rw [List.map_map]; rfl
  rw [e, e2]; exact IsL.ints _
theorem lrng_len (a b : Int) : (lrng a b).length = (b - a).toNat := by unfold lrng; rw [List.length_map, List.length_range]
theorem de_lrg1 {f : M R} {p p2 pos2 : Pos} (hc : X.calm = true) (hg : Gl X "list") (hm : X.mg "list" = none) (hg2 : Gl X "range") (hm2 : X.mg "range" = none) (ha : DE X Y W a f)
    (na : starEach [a] X.env = (false, eval a X.env) :: starEach [] X.env := by rfl) (nb : starEach [.Call (.Name "range" p2) [a] [] pos2] X.env = (false, eval (.Call (.Name "range" p2) [a] [] pos2) X.env) :: starEach [] X.env := by rfl) :
    DE X Y W (.Call (.Name "list" p) [.Call (.Name "range" p2) [a] [] pos2] [] pos) (eU bLrg1 f) :=
  pe_mono (pe_listRg hc hg hm (prg_1 hg2 hm2 (de_pk ha) na) nb) fun σ H Q ⟨g, F, r, p⟩ => ⟨g, F, r, (p.bind).imp fun x g1 H1 F1 r1 s1 q v hv => by
    obtain ⟨d, r', k1, k2, k3⟩ := Post.op1 q r1
    unfold bLrg1 at k2
    split at k2
    · rename_i n
      split at k2
      · rename_i hz
        cases k2
        exact ⟨n, (r1.cv hv k1).int, hz, fun l hl => k3.ls r1.sub (IsL.rg 0 n) (by rw [lrng_len]; exact Nat.le_trans hz.2.2.2.2 (by decide)) hl⟩
      · cases k2
    · cases k2⟩
theorem de_lrg2 {f k : M R} {p p2 pos2 : Pos} (hc : X.calm = true) (hg : Gl X "list") (hm : X.mg "list" = none) (hg2 : Gl X "range") (hm2 : X.mg "range" = none) (ha : DE X Y W a f) (hb : DE X Y W b k)
    (na : starEach [a, b] X.env = (false, eval a X.env) :: starEach [b] X.env := by rfl) (nb : starEach [b] X.env = (false, eval b X.env) :: starEach [] X.env := by rfl) (hp : (backTo pos2 (starEach [b] X.env)).any (·.1) = false := by rfl)
    (nc : starEach [.Call (.Name "range" p2) [a, b] [] pos2] X.env = (false, eval (.Call (.Name "range" p2) [a, b] [] pos2) X.env) :: starEach [] X.env := by rfl) :
    DE X Y W (.Call (.Name "list" p) [.Call (.Name "range" p2) [a, b] [] pos2] [] pos) (eB bLrg2 f k) :=
  pe_mono (pe_listRg hc hg hm (prg_2 hg2 hm2 (de_pk ha) (de_pk hb) na nb hp) nc) fun σ H Q ⟨g, F, r, p⟩ => ⟨g, F, r, (p.bind).imp fun x g1 H1 F1 r1 s1 q v hv => ⟨g1, F1, r1, (q.bind).imp fun y g2 H2 F2 r2 s2 q2 u hu => by
    obtain ⟨da, db, r', e1, e2, k2, k3⟩ := Post.op2 q2 r2
    unfold bLrg2 at k2
    split at k2
    · rename_i a b
      split at k2
      · rename_i hz
        cases k2
        exact ⟨a, b, (r2.cv (hv.keep s2 (cont_ne e1)) e1).int, (r2.cv hu e2).int, hz, fun l hl => k3.ls r2.sub (IsL.rg a b) (by rw [lrng_len]; exact Nat.le_trans hz.2.2.2.2 (by decide)) hl⟩
      · cases k2
    · cases k2⟩⟩
/-- for all of a written list -/
def AllE {α : Type} : List α → (α → Prop) → Prop
  | [], _ => True
  | a :: r, p => p a ∧ AllE r p
theorem AllE.mem {α : Type} {p : α → Prop} : ∀ {l : List α}, AllE l p → ∀ a ∈ l, p a
  | b :: r, ⟨h, t⟩, a, hm => (List.mem_cons.mp hm).elim (fun e => e ▸ h) (AllE.mem t a)
end

section
variable {X : Cx} {Y : Ent} {W : WX} {pos : Pos} {x : Str}
theorem de_gI {i : Int} {t : Tok} (hm : X.mg x = some (.int i t)) (hg : Gl X x := by rfl) (hd : (x == ("__debug__" : Str)) = false := by decide) : DE X Y W (.Name x pos) (eC (.int i)) :=
  de_glob (v := .int i) hg hm ⟨t, rfl⟩ (fun _ => rfl) hd
end
end DL

namespace DL
open PySem PySem.Spec L2

/-! ### sorted, of ints or texts -/
def leS (a b : Str) : Bool := !ltCps b.cps.toList a.cps.toList
def srtS (ns : List Str) : List Str := ns.mergeSort leS
theorem ltCps_iff : ∀ (a b : List Nat), ltCps a b = true ↔ a < b := by
  intro a b
  first
    | exact decide_eq_true_iff
    | (induction a generalizing b with
      | nil => cases b <;> simp [ltCps]
      | cons x r ih => cases b with
        | nil => simp [ltCps]
        | cons y t => simp [ltCps, ih, List.cons_lt_cons_iff])
theorem leS_iff {a b : Str} : leS a b = true ↔ a.cps.toList ≤ b.cps.toList := by
  unfold leS
  rw [Bool.not_eq_true', ← Bool.not_eq_true, ltCps_iff, List.not_lt]
theorem leS_trans (a b c : Str) (h1 : leS a b = true) (h2 : leS b c = true) : leS a c = true := leS_iff.mpr (List.le_trans (leS_iff.mp h1) (leS_iff.mp h2))
theorem leS_total (a b : Str) : (leS a b || leS b a) = true := by
  rw [Bool.or_eq_true, leS_iff, leS_iff]; exact List.le_total _ _
theorem leS_anti (a b : Str) (h1 : leS a b = true) (h2 : leS b a = true) : a = b := by
  have := List.le_antisymm (leS_iff.mp h1) (leS_iff.mp h2)
  cases a; cases b; congr 1; exact Array.toList_inj.mp this
theorem srtS_perm (ns : List Str) : (srtS ns).Perm ns := List.mergeSort_perm ns _
theorem srtS_pw (ns : List Str) : (srtS ns).Pairwise (fun a b => leS a b = true) := List.pairwise_mergeSort leS_trans leS_total ns
theorem risingS_pw : ∀ (r : List Str) (x : Str), PyProof.Rows.risingS x r = true → (x :: r).Pairwise (fun a b => leS a b = true)
  | [], x, _ => List.pairwise_singleton _ _
  | y :: r, x, h => by
    have h' : (!ltCps y.cps.toList x.cps.toList && PyProof.Rows.risingS y r) = true := h
    rw [Bool.and_eq_true] at h'
    have ih := risingS_pw r y h'.2
    have hxy : leS x y = true := h'.1
    refine List.pairwise_cons.mpr ⟨fun z hz => ?_, ih⟩
    rcases List.mem_cons.mp hz with rfl | hz
    · exact hxy
    · exact leS_trans _ _ _ hxy ((List.pairwise_cons.mp ih).1 z hz)
theorem srtS_of {ns ms : List Str} (h1 : ms.Perm ns) (h2 : PyProof.Rows.sortedS ms = true) : ms = srtS ns := by
  refine List.Perm.eq_of_pairwise (fun a b _ _ => leS_anti a b) ?_ (srtS_pw ns) (h1.trans (srtS_perm ns).symm)
  cases ms with
  | nil => exact List.Pairwise.nil
  | cons x r => exact risingS_pw r x h2
section
variable {X : Cx}
def rSortedSA (K : KW) : List V → Hp → VK → Prop := fun vs H Q => ∃ (a : Addr) (xs : List Str), vs = [V.ref a] ∧ SqL K H a (xs.map V.str) ∧
  ∀ (p : Addr), H p = none → Q (.ref p) (upd H p (.lst ((srtS xs).map V.str)))
theorem cr_sortedSA : CallR X (.builtin "sorted") (rSortedSA X.kw) := by
  intro pins s σ H vs us Q I r h
  obtain ⟨a, xs, rfl, hs, q⟩ := h
  obtain ⟨its, rv, hl, hz⟩ := I.list hs
  rw [Vals.ref1 r]
  refine PyProof.Rows.sorted_strsAny hl.isList rv.strs (by rw [← rv.length]; exact hz) fun out ys h1 h2 h3 => ?_
  obtain ⟨ep, he'⟩ := PyProof.Rows.sortedAll_at s.heap its out
  have e := srtS_of h2 h3
  have hlen : (ys.map V.str).length ≤ sizeLine := by rw [List.length_map, h2.length_eq]; rw [List.length_map] at hz; exact hz
  subst e
  exact ⟨.ref _, upd H (s.heap.objs.size + 1) (.lst ((srtS xs).map V.str)), I.laid (t' := s.toks) (fun _ _ => PyProof.Rows.sortedAll_old) (Nat.le_succ _) ⟨hlen, out.toList, ep, vals_of_strs h1, he'⟩, rfl, q _ (I.hok.fresh (Nat.le_succ _))⟩
def fSort : List D → Option R
  | [.lst xs] => match intsOf xs with
    | some ns => some (.ow (.ls ((srt ns).map D.int)))
    | none => (strsOf xs).map fun ns => .ow (.ls ((srtS ns).map D.str))
  | _ => none
theorem cd_sort : CallD X (.builtin "sorted") fSort := by
  intro pins s σ H xs us Q I r ⟨F, ds, r', sm, hc, ho, hr⟩
  unfold fSort at ho
  split at ho
  · rename_i ds
    split at ho
    · rename_i ns e
      cases ho
      exact cd_sorted pins s σ H xs us Q I r ⟨F, [.lst ds], _, sm, hc, by show (intsOf ds).map _ = _; rw [e]; rfl, hr⟩
    · cases e : strsOf ds with
      | none => rw [e] at ho; cases ho
      | some ns =>
        rw [e] at ho; cases ho
        obtain ⟨p, vs, rfl, h1, h2, h3⟩ := lst_one sm hc
        have e' := strsOf_eq e
        subst e'
        obtain ⟨e1, e2⟩ := h3.strs' 
        subst e1
        refine cr_sortedSA pins s σ H _ us Q I r ⟨p, ns, rfl, h1, fun l hl => ?_⟩
        exact hr.ls sm (IsL.strs _ fun z hz => e2 z ((srtS_perm ns).mem_iff.mp hz)) (by rw [List.length_map, (srtS_perm ns).length_eq]; rw [List.length_map] at h2; exact h2) hl
  · cases ho
end

/-! ### xs[i] = v -/
def StD (X : Cx) (op : O → D → D → Option O) : Prop :=
  PSet X fun o i v H Q => ∃ F a ob ob' di dv, o = .ref a ∧ OwAt X.kw F H a ob ∧ F a = none ∧ Same F H ∧ CV X.kw F H i di ∧ Is X.kw F v dv ∧ op ob di dv = some ob' ∧ ∀ u, OwAt X.kw F (upd H a u) a ob' → Q (upd H a u)
def stL : O → D → D → Option O
  | .ls xs, .int k, d => (ixN xs.length k).map fun j => .ls (xs.set j d)
  | _, _, _ => none
/-- an operation on leaves -/
class LeafSt (op : O → D → D → Option O) : Prop where
  h : ∀ o i v o', op o i v = some o' → o.leaf = true ∧ o'.leaf = true
instance : LeafSt stL := ⟨fun o i v o' e => by
  unfold stL at e
  split at e
  · obtain ⟨j, _, e⟩ := Option.map_eq_some_iff.mp e; cases e; exact ⟨rfl, rfl⟩
  · cases e⟩
def opSet (op : O → D → D → Option O) (v o i : R) : M Unit := fun g => match v, o with
  | .fz dv, .at j => match g[j]?, cont g i with
    | some (some (.ow l ob)), some di => match op ob di dv with
      | some ob' => .ok () (g.set j (some (.ow l ob')))
      | none => .bad
    | _, _ => .bad
  | .fz dv, .sub j f => match g[j]?, cont g i with
    | some (some (.ow l (.ob c fs))), some di => match fs.get f with
      | some (.inr ob) => match op ob di dv with
        | some ob' => .ok () (g.set j (some (.ow l (.ob c (fs.put f ob')))))
        | none => .bad
      | _ => .bad
    | _, _ => .bad
  | _, _ => .bad
def sSet (op : O → D → D → Option O) (o i v : M R) : M Fl := mb (esc v) fun rv => mb o fun ro => mb (pk i) fun ri => mb (opSet op rv ro ri) fun _ => mp .nx
section
variable {X : Cx} {Y : Ent} {W : WX} {pos pos' : Pos} {o i v : Expr}
theorem sd_list : StD X stL := by
  intro pins s σ H ov iv vv o i v Q I ro ri rv h
  obtain ⟨F, a, ob, ob', di, dv, rfl, q1, q2, sm, qi, qv, ho, q⟩ := h
  cases ob with
  | dk _ => cases ho
  | dt _ => cases ho
  | dd _ => cases ho
  | ob _ _ => cases ho
  | ls xs =>
    cases di with
    | int k =>
      have ho' : (ixN xs.length k).map (fun j => O.ls (xs.set j dv)) = some ob' := ho
      cases e : ixN xs.length k with
      | none => rw [e] at ho'; cases ho'
      | some j =>
        rw [e] at ho'; cases ho'
        obtain ⟨vs, h1, h2, h3⟩ := q1
        have := qi.int
        subst this
        exact set_list pins s σ H _ _ _ _ _ _ Q I ro ri rv ⟨a, vs, k, j, rfl, rfl, h1, by rw [h3.length]; exact e, q _ ⟨_, upd_same, by rw [List.length_set]; exact h2, h3.set j qv⟩⟩
    | _ => cases ho
theorem Post.opSet {K : KW} {σ : St} {F H : Hp} {N : Ends} {g : G} {op : O → D → D → Option O} [lo : LeafSt op] {rv ro ri : R} {v o i : V} (h : PostS K Y W F N ((opSet op rv ro ri g).andThen fun _ => mp .nx)) (r : Rel K Y σ H g F)
    (hv : RV K Y σ F H g v rv) (ho : RV K Y σ F H g o ro) (hi : RV K Y σ F H g i ri) :
    ∃ F a ob ob' di dv, o = .ref a ∧ OwAt K F H a ob ∧ F a = none ∧ Same F H ∧ CV K F H i di ∧ Is K F v dv ∧ op ob di dv = some ob' ∧ ∀ u, OwAt K F (upd H a u) a ob' → N.nx σ (upd H a u) := by
  cases rv with
  | ow _ => exact h.elim
  | «at» _ => exact h.elim
  | sub _ _ => exact h.elim
  | fz dv =>
    cases ro with
    | ow _ => exact h.elim
    | fz _ => exact h.elim
    | «at» j =>
      unfold DL.opSet at h
      simp only at h
      split at h
      · rename_i l ob di eg ec
        split at h
        · rename_i ob' e3
          obtain ⟨l1, l2⟩ := lo.h _ _ _ _ e3
          obtain ⟨a, rfl, k1, _, k2, _⟩ := r.at_ eg ho
          exact ⟨F, a, ob, ob', di, dv, rfl, k1, (k2 a (by rw [foot_leaf l1]; simp)).1, r.sub, r.cv hi ec, hv, e3, fun u q1 => h _ _ F (r.mut eg ho l1 l2 q1) (Same.refl _)⟩
        · exact h.elim
      · exact h.elim
    | sub j f =>
      unfold DL.opSet at h
      simp only at h
      split at h
      · rename_i l c fs di eg ec
        split at h
        · rename_i ob eo
          split at h
          · rename_i ob' e3
            obtain ⟨l1, l2⟩ := lo.h _ _ _ _ e3
            obtain ⟨a, C, dx, vs, b, k1, rfl, k2, k3, k4, k5, t, ef⟩ := r.subAt eg ho eo
            have n1 : F b = none := ((r.at_ eg k1).cells b (show b ∈ foot F a (.ob c fs) by rw [ef]; exact k5 b (by rw [foot_leaf l1]; simp))).1
            exact ⟨F, b, ob, ob', di, dv, rfl, k4, n1, r.sub, r.cv hi ec, hv, e3, fun u q1 => h _ _ F (r.mutSub eg ho eo l1 l2 q1) (Same.refl _)⟩
          · exact h.elim
        · exact h.elim
      · exact h.elim
theorem ds_set {op : O → D → D → Option O} [LeafSt op] {f k j : M R} (hop : StD X op) (ho : DE X Y W o f) (hi : DE X Y W i k) (hv : DE X Y W v j)
    (hs : swapsWithSole [.Subscript o i pos'] v pos.line X.env = pure false := by rfl) (hw : swappedStores [.Subscript o i pos'] v X.env = pure none := by rfl)
    (h1 : (assignEach [.Subscript o i pos'] X.env).map (·.2) = [assign (.Subscript o i pos') X.env] := by rfl)
    (ha : ∀ v, assign (.Subscript o i pos') X.env v = (do
      let ov ← holding [v] (eval o X.env)
      let iv ← holding [v, ov] (eval i X.env)
      standAt pos'
      holding [v, ov, iv] (setItem ov iv v)
      release [v, ov, iv] []) := by intro _; rfl) : DS X Y W (.Assign [.Subscript o i pos'] v pos) (sSet op f k j) :=
  ps_mono (ps_asg (de_esc hv) (pg_sub ho (de_pk hi) hop ha) hs hw h1) fun N σ H ⟨g, F, r, p⟩ => ⟨g, F, r, (p.bind).imp fun rv g1 H1 F1 r1 s1 q v hv => ⟨g1, F1, r1, (q.bind).imp fun ro g2 H2 F2 r2 s2 q2 o ho =>
    ⟨g2, F2, r2, (q2.bind).imp fun ri g3 H3 F3 r3 s3 q3 i hi => by
      have n1 : ∀ o, rv ≠ .ow o := fun o e => by subst e; exact (show PostS X.kw Y W F3 N Rs.bad from q3).elim
      have n2 : ∀ o, ro ≠ .ow o := fun o e => by
        subst e
        cases rv <;> exact (show PostS X.kw Y W F3 N Rs.bad from q3).elim
      exact Post.opSet q3 r3 ((hv.keep (H' := H2) (g' := g2) s2 n1).keep s3 n1) (ho.keep s3 n2) hi⟩⟩⟩
end
end DL

namespace DL
open PySem PySem.Spec L2

/-! ### dicts with ints and texts as keys -/
def keyD : D → Option Key
  | .int i => some (.inl i)
  | .str s => some (.inr s)
  | _ => none
def valD (kvs : List (Key × D)) (k : Key) : Option D := (kvs.find? fun kv => decide (kv.1 = k)).map (·.2)
def putD (kvs : List (Key × D)) (k : Key) (d : D) : List (Key × D) :=
  if (kvs.any fun kv => decide (kv.1 = k)) = true then kvs.map (fun kv => if kv.1 = k then (kv.1, d) else kv) else kvs ++ [(k, d)]
def eNewK : M R := mp (.ow (.dk []))
def stK : O → D → D → Option O
  | .dk kvs, i, d => (keyD i).bind fun k => if kvs.length < sizeLine then some (.dk (putD kvs k d)) else none
  | _, _, _ => none
instance : LeafSt stK := ⟨fun o i v o' e => by
  unfold stK at e
  split at e
  · obtain ⟨k, _, e⟩ := Option.bind_eq_some_iff.mp e
    split at e
    · cases e; exact ⟨rfl, rfl⟩
    · cases e
  · cases e⟩
def ixK : D → D → Option R
  | .dk kvs, i => (keyD i).bind fun k => (valD kvs k).map .fz
  | .lk kvs, i => (keyD i).bind fun k => (valD kvs k).map .fz
  | _, _ => none
section
variable {K : KW} {F H : Hp}
theorem CV.dk {v : V} {kvs : List (Key × D)} (s : Same F H) (h : CV K F H v (.dk kvs)) : ∃ a ks, v = .ref a ∧ H a = some (.dK ks) ∧ kvs.length ≤ sizeLine ∧ IsK K F ks kvs := by
  rcases h with h | ⟨a, o, e, q, eo⟩
  · obtain ⟨a, ks, e, h1, h2, h3⟩ := h
    exact ⟨a, ks, e, s _ _ h1, h2, h3⟩
  · cases o with
    | ls _ => cases eo
    | dt _ => cases eo
    | dd _ => cases eo
    | ob _ _ => cases eo
    | dk kvs' => cases eo; obtain ⟨ks, h1, h2, h3⟩ := q; exact ⟨a, ks, e, h1, h2, h3⟩
theorem keyD_V {v : V} {d : D} {k : Key} (h : keyD d = some k) (q : CV K F H v d) : v = kV k := by
  cases d with
  | int i => cases h; exact q.int
  | str s => cases h; exact q.str.1
  | _ => cases h
/-- a dict that may be locked -/
theorem CV.dkl {v : V} {d : D} {kvs : List (Key × D)} (s : Same F H) (e : d = .dk kvs ∨ d = .lk kvs) (h : CV K F H v d) : ∃ a ks, v = .ref a ∧ Rd H a (.dK ks) ∧ kvs.length ≤ sizeLine ∧ IsK K F ks kvs := by
  rcases e with rfl | rfl
  · obtain ⟨a, ks, e, h1, h2, h3⟩ := h.dk s
    exact ⟨a, ks, e, .inl h1, h2, h3⟩
  · rcases h with h | ⟨a, o, e, q, eo⟩
    · obtain ⟨a, ob, ks, e, h1, h2, h3⟩ := h
      exact ⟨a, ks, e, .inr ⟨ob, s _ _ h1⟩, h2, h3⟩
    · cases o <;> cases eo
theorem IsK.len : ∀ {ks : List (Key × V)} {kvs : List (Key × D)}, IsK K F ks kvs → ks.length = kvs.length
  | _, [], h => by rw [show _ = [] from h]; rfl
  | _, (k, d) :: r, ⟨v, s, e, _, t⟩ => by rw [e, List.length_cons, List.length_cons, IsK.len t]
theorem IsK.any (k : Key) : ∀ {ks : List (Key × V)} {kvs : List (Key × D)}, IsK K F ks kvs → (ks.any fun kv => decide (kv.1 = k)) = (kvs.any fun kv => decide (kv.1 = k))
  | _, [], h => by rw [show _ = [] from h]; rfl
  | _, (k', d) :: r, ⟨v, s, e, _, t⟩ => by rw [e, List.any_cons, List.any_cons, IsK.any k t]
theorem IsK.val (k : Key) : ∀ {ks : List (Key × V)} {kvs : List (Key × D)} {d : D}, IsK K F ks kvs → valD kvs k = some d → ∃ v, valV ks k = some v ∧ Is K F v d
  | _, [], d, h, e => by cases e
  | _, (k', d') :: r, d, ⟨v, s, e, q, t⟩, h => by
    subst e
    by_cases ek : k' = k
    · have : valD ((k', d') :: r) k = some d' := by simp [valD, List.find?_cons, ek]
      rw [this] at h; cases h
      exact ⟨v, by simp [valV, List.find?_cons, ek], q⟩
    · have e1 : valD ((k', d') :: r) k = valD r k := by simp [valD, List.find?_cons, ek]
      rw [e1] at h
      obtain ⟨w, h1, h2⟩ := IsK.val k t h
      exact ⟨w, by rw [← h1]; simp [valV, List.find?_cons, ek], h2⟩
theorem IsK.map_put (k : Key) {v : V} {d : D} (q : Is K F v d) : ∀ {ks : List (Key × V)} {kvs : List (Key × D)}, IsK K F ks kvs → IsK K F (ks.map fun kv => if kv.1 = k then (kv.1, v) else kv) (kvs.map fun kv => if kv.1 = k then (kv.1, d) else kv)
  | _, [], h => by rw [show _ = [] from h]; rfl
  | _, (k', d') :: r, ⟨w, s, e, q', t⟩ => by
    subst e
    rw [List.map_cons, List.map_cons]
    by_cases ek : k' = k
    · rw [if_pos ek, if_pos ek]; exact ⟨v, _, rfl, q, IsK.map_put k q t⟩
    · rw [if_neg ek, if_neg ek]; exact ⟨w, _, rfl, q', IsK.map_put k q t⟩
theorem IsK.snoc {k : Key} {v : V} {d : D} (q : Is K F v d) : ∀ {ks : List (Key × V)} {kvs : List (Key × D)}, IsK K F ks kvs → IsK K F (ks ++ [(k, v)]) (kvs ++ [(k, d)])
  | _, [], h => by rw [show _ = [] from h]; exact ⟨v, [], rfl, q, rfl⟩
  | _, (k', d') :: r, ⟨w, s, e, q', t⟩ => by subst e; exact ⟨w, _, rfl, q', IsK.snoc q t⟩
theorem IsK.put (k : Key) {v : V} {d : D} (q : Is K F v d) {ks : List (Key × V)} {kvs : List (Key × D)} (h : IsK K F ks kvs) : IsK K F (putK ks k v) (putD kvs k d) := by
  unfold putK putD
  rw [IsK.any k h]
  split
  · exact h.map_put k q
  · exact h.snoc q
theorem putD_len (kvs : List (Key × D)) (k : Key) (d : D) : (putD kvs k d).length ≤ kvs.length + 1 := by
  unfold putD
  split
  · rw [List.length_map]; omega
  · rw [List.length_append]; exact Nat.le_refl _
end
section
variable {X : Cx} {Y : Ent} {W : WX} {pos : Pos}
theorem de_newK : DE X Y W (.Dict [] [] pos) eNewK :=
  pe_mono pe_dnewK fun σ H Q ⟨g, F, r, p⟩ q hq => by
    have hp : RP X.kw F H Q (.ow (.dk [])) := Post.rp (r := .ow (.dk [])) trivial r p
    exact hp q _ _ (ext_own r.sub hq) ⟨[], upd_same, Nat.zero_le _, rfl⟩ (by rw [foot_dk]; simp) (fun b hb => by rw [foot_dk, List.mem_singleton] at hb; subst hb; exact ⟨none_of_same r.sub hq, hq⟩)
theorem sd_dk (hu : X.A.units + 1 < cLine) : StD X stK := by
  intro pins s σ H ov iv vv o i v Q I ro ri rv h
  obtain ⟨F, a, ob, ob', di, dv, rfl, q1, q2, sm, qi, qv, ho, q⟩ := h
  cases ob with
  | ls _ => cases ho
  | dt _ => cases ho
  | dd _ => cases ho
  | ob _ _ => cases ho
  | dk kvs =>
    have ho' : ((keyD di).bind fun k => if kvs.length < sizeLine then some (O.dk (putD kvs k dv)) else none) = some ob' := ho
    cases ek : keyD di with
    | none => rw [ek] at ho'; cases ho'
    | some k =>
      rw [ek] at ho'
      have ho2 : (if kvs.length < sizeLine then some (O.dk (putD kvs k dv)) else none) = some ob' := ho'
      split at ho2
      · rename_i hz
        cases ho2
        obtain ⟨ks, h1, h2, h3⟩ := q1
        have e := keyD_V ek qi
        subst e
        cases (show o = Value.ref a from ro)
        exact d_setItem hu I (DPut.k h1 (by rw [h3.len]; exact hz)) ri rv fun s' I' => ⟨_, I', q _ ⟨_, upd_same, Nat.le_trans (putD_len kvs k dv) hz, h3.put k qv⟩⟩
      · cases ho2
theorem de_dget {o i : Expr} {f k : M R} (hu : X.A.units + 1 < cLine) (ho : DE X Y W o f) (hi : DE X Y W i k) (hs : NoSl i) : DE X Y W (.Subscript o i pos) (eB ixK f k) :=
  pe_mono (pe_dget hu (de_pk ho) (de_pk hi) hs) fun σ H Q h => by
    obtain ⟨g, F, r, p⟩ := two_args ho hi h
    refine ⟨g, F, r, p.imp fun x g1 H1 F1 r1 s1 q v hv => ?_⟩
    obtain ⟨g2, F2, r2, p2⟩ := q v hv
    refine ⟨g2, F2, r2, p2.imp fun y g3 H3 F3 r3 s3 q3 w hw => ?_⟩
    obtain ⟨F4, da, db, rr, sm, ha, hb, hop, hr⟩ := q3 w hw
    have key : ∀ kvs, (da = .dk kvs ∨ da = .lk kvs) → ((keyD db).bind fun k => (valD kvs k).map R.fz) = some rr → ∃ (a : Addr) (v2 : V), v = V.ref a ∧ DGet H3 a w (some v2) ∧ Q v2 H3 := fun kvs ed hop' => by
      cases ek : keyD db with
      | none => rw [ek] at hop'; cases hop'
      | some kk =>
        rw [ek] at hop'
        cases ev : valD kvs kk with
        | none => have := hop'.symm.trans (show (valD kvs kk).map R.fz = none by rw [ev]; rfl); cases this
        | some d =>
          have := hop'.symm.trans (show (valD kvs kk).map R.fz = some (.fz d) by rw [ev]; rfl)
          cases this
          obtain ⟨a, ks, rfl, h1, h2, h3⟩ := ha.dkl sm ed
          have e := keyD_V ek hb
          subst e
          obtain ⟨v2, h4, h5⟩ := h3.val kk ev
          exact ⟨a, v2, rfl, by rw [← h4]; exact .inl ⟨ks, kk, h1, rfl, rfl⟩, hr.now sm h5⟩
    cases da with
    | dk kvs => exact key kvs (.inl rfl) hop
    | lk kvs => exact key kvs (.inr rfl) hop
    | _ => cases hop
end
end DL

namespace DL
open PySem PySem.Spec L2
open PySem.AutoSeq1 (wpAny_loadPart')

/-! ### enumerate of a tuple -/
theorem meets_enumerate_newT (l : Addr) (items : Array Value) (n : Nat) (dct : Option Addr) (sl : Array (Option Value)) :
    Meets (Builtin.«enumerate.__new__» ⟨[.type "enumerate", .ref l], []⟩) (fun _ R s => s.heap.get? l = some { cls := .type "tuple", dict := dct, data := .seq items n, slots := sl } ∧
      R (.ok (.ret (.ref (s.heap.push { cls := .type "tuple_iterator", data := .fields #[.ref l, .int 0 0] }).objs.size)))
        { s with heap := (s.heap.push { cls := .type "tuple_iterator", data := .fields #[.ref l, .int 0 0] }).push { cls := .type "enumerate", data := .fields #[.none, .bool false, .ref s.heap.objs.size, rawInt 0, .none, .none] } }) :=
  .of_wp fun prog w A R s h => by
    obtain ⟨hp, g, d, tk, os⟩ := s; obtain ⟨hl, h⟩ := h
    have hsub := sub_enumerate
    have hL : Heap.IsTuple (Shared.heap ⟨hp, g, d, tk, os⟩) l items := ⟨_, hl, rfl, n, rfl⟩
    wp_walk using wpAny_loadPart' hl
    refine wpAny_stack_any fun st => wpAny_pure ?_
    split
    · rename_i c _ _ _ _ _
      cases (c == Value.type "enumerate")
      · wp_walk using wpAny_loadPart' hl, wpAny_pyIter_tuple hL
        exact ⟨_, rfl, h⟩
      · wp_walk using wpAny_loadPart' hl, wpAny_pyIter_tuple hL
        exact ⟨_, rfl, h⟩
    · wp_walk using wpAny_loadPart' hl, wpAny_pyIter_tuple hL
      exact ⟨_, rfl, h⟩
section
variable {prog : Program} {w : World} {A : Around} {E : Value → Shared → Prop} {s : Shared}
theorem call_enumerate_tuple {l : Addr} {items : Array Value} {Q : Value → Shared → Prop} (hL : s.heap.IsTuple l items)
    (h : ∀ h', IsEnum h' (s.heap.objs.size + 1) s.heap.objs.size 0 .none → h'.IsTupleIter s.heap.objs.size l 0 → h'.objs.size = s.heap.objs.size + 2 →
      (∀ b o, s.heap.get? b = some o → h'.get? b = some o) → Q (.ref (s.heap.objs.size + 1)) { s with heap := h' }) :
    wpAny (model prog w) A (call (.type "enumerate") [.ref l]) Q E s := by
  obtain ⟨⟨c, dct, dt, sl⟩, hl, hc, n, hd⟩ := hL
  replace hc : c = .type "tuple" := hc
  replace hd : dt = .seq items n := hd
  subst hc hd
  refine callType_new F.called_enumerate (by decide) (F.typeCall_enumerate_1 _) (F.newCall_enumerate_1 _) (fun obj => F.args_object_init_2 obj _) F.entry_enumerate_new
    (meets_enumerate_newT l items n dct sl) ⟨hl, ?_⟩
  have hz : (s.heap.push { cls := .type "tuple_iterator", data := .fields #[.ref l, .int 0 0] }).objs.size = s.heap.objs.size + 1 := Heap.size_push ..
  show _ ∧ _
  rw [hz]
  have he : IsEnum ((s.heap.push { cls := .type "tuple_iterator", data := .fields #[.ref l, .int 0 0] }).push
      { cls := .type "enumerate", data := .fields #[.none, .bool false, .ref s.heap.objs.size, rawInt 0, .none, .none] }) (s.heap.objs.size + 1) s.heap.objs.size 0 .none := by
    have := Heap.get?_push_size (s.heap.push { cls := .type "tuple_iterator", data := .fields #[.ref l, .int 0 0] })
      (o := { cls := .type "enumerate", data := .fields #[.none, .bool false, .ref s.heap.objs.size, rawInt 0, .none, .none] }) rfl
    rw [hz] at this; exact this
  refine ⟨⟨_, he, rfl⟩, h _ he ⟨_, Heap.get?_push_of_some _ (Heap.get?_push_size _ rfl), rfl, rfl⟩ (by rw [Heap.size_push, hz]) fun b o x => Heap.get?_push_of_some _ (Heap.get?_push_of_some _ x)⟩
end
/-- nothing is left to be drawn -/
theorem end_draws {prog : Program} {w : World} {A : Around} (hh : A.handled = none) (it t : Addr) (i : Nat) (items : Array Value) (hi : items.size ≤ i) :
    Draws prog w A it [it, t] i (fun _ _ => False) (fun j h => j = i ∧ h.IsTupleIter it t i ∧ h.IsTuple t items) where
  live := fun _ _ st => by obtain ⟨_, ⟨o, ho, _⟩, _⟩ := st; exact ⟨o, ho⟩
  frame := fun _ _ _ st hk => ⟨st.1, st.2.1.at fun o e => hk it (by simp) o e, st.2.2.at fun o e => hk t (by simp) o e⟩
  item := fun j s Q E hj st => absurd st.1 (by omega)
  done := fun s Q E st hE => wpAny_nextOf_tuple_end hh st.2.1 st.2.2 (by simp; omega) hE
/-- the tuple at a as it stands at each turn, each item in a new pair -/
def Itn (K : PySem.W.Frag) (a : Addr) : It :=
  ⟨fun i H => ∃ (xs : List V) (x : V), SqT K H a xs ∧ xs[i]? = some x, fun i H v H' => ∃ T x y, v = .ref T ∧ H T = none ∧ y = x ∧ H' = upd H T (.tup [.int (i : Nat), x]) ∧ ∀ xs, SqT K H a xs → xs[i]? = some x, fun i H => ∃ xs : List V, SqT K H a xs ∧ xs.length ≤ i⟩
theorem turn_enumT {P : Program} {w : World} {K : PySem.W.Frag} {elts : List Expr} {kk : Nat} {tpos : Pos} (a e it : Addr) :
    Turn P w K (.Tuple elts kk tpos) (Itn K a) [e, it] e (fun i h => (∃ old, IsEnum h e it ((i : Nat) : Int) old) ∧ h.IsTupleIter it a i ∧ e ≠ it ∧ e ≠ a ∧ a ≠ it) where
  mem := by simp
  obj := fun i h st b hb => by
    obtain ⟨⟨old, he⟩, ⟨o, ho, hc, hd⟩, _⟩ := st
    have e' : b = e ∨ b = it := by simpa using hb
    rcases e' with z | z
    · rw [z]; exact ⟨_, he, fun v q => nomatch q⟩
    · rw [z]; exact ⟨o, ho, fun v q => by rw [hd] at q; cases q⟩
  keep := fun i h h' st k => let ⟨⟨old, he⟩, hi, hne⟩ := st; ⟨⟨old, k e (by simp) _ he⟩, hi.at fun o q => k it (by simp) o q, hne⟩
  item := by
    intro X hP hw hK hc i pins s σ H E I hf st hg
    subst hP hw hK
    obtain ⟨⟨old, he⟩, hit, hne, hea, hai⟩ := st
    obtain ⟨xs, x, hq, hx⟩ := hg
    obtain ⟨its, rv, p, hz⟩ := I.tuple hq
    obtain ⟨u, hu, ru⟩ := rv.get hx
    have hel : e < s.heap.objs.size := Heap.lt_size he
    have hil : it < s.heap.objs.size := by obtain ⟨_, q, _⟩ := hit; exact Heap.lt_size q
    have hlt : i < its.toArray.size := by
      have := (List.getElem?_eq_some_iff.mp hu).1
      simpa using this
    refine wpAny_pyNext_enum_itemC (Draws.tuple (A := X.A.in1) (I.ok.hd hc) it a hai its.toArray) he ⟨hit, p⟩ hlt hne (by simp [hne, hea]) fun y h' tk hy ho st' hT hsz hk => ?_
    have hyu : y = u := by
      have : its.toArray[i]? = some u := by simpa using hu
      exact Option.some.inj (hy.symm.trans this)
    subst hyu
    obtain ⟨hit', p'⟩ := st'
    refine ⟨_, rfl, wpAny_letOwnedTupleGo_enum (s := { s with heap := h', toks := tk + 1 }) ho fun h'' he' sb => ?_⟩
    have hT2 : h''.get? s.heap.objs.size = some { cls := .type "tuple", data := .seq #[.int i tk, y] } := (sb.2 _ (Nat.ne_of_gt hel)).trans hT
    have new : ObjOk X.prog X.w (upd H s.heap.objs.size (.tup [.int (i : Nat), x])) h'' s.heap.objs.size (.tup [.int (i : Nat), x]) :=
      ⟨by show 2 ≤ sizeLine; decide, [.int i tk, y], .cons ⟨_, rfl⟩ (.cons ru .nil), ⟨_, hT2, rfl, _, rfl⟩⟩
    have I1 : Inv X pins σ (upd H s.heap.objs.size (.tup [.int (i : Nat), x])) { s with heap := h'', toks := tk + 1 } :=
      I.turnedNew (ch := [e, it]) (fun b ob hb q => (sb.2 b (fun z => hb (by simp [z]))).trans (hk b ob (fun z => hb (by simp [z])) (fun z => hb (by simp [z])) q)) hf (Nat.le_refl _) new
    refine ⟨.ref s.heap.objs.size, _, I1, rfl, ⟨_, x, x, rfl, I.hok.fresh (Nat.le_refl _), rfl, rfl, fun ys hy => by rw [I.tuple_inj hy hq]; exact hx⟩, ⟨⟨y, ?_⟩, hit'.at fun o q => (sb.2 it (Ne.symm hne)).trans q, hne, hea, hai⟩, fun b hb => ?_⟩
    · have e1 : ((i + 1 : Nat) : Int) = (i : Int) + 1 := by omega
      rw [e1]; exact he'
    · have hb' : b < s.heap.objs.size := by
        have e' : b = e ∨ b = it := by simpa using hb
        rcases e' with z | z
        · rw [z]; exact hel
        · rw [z]; exact hil
      rw [upd_ne (Nat.ne_of_lt hb')]
      exact (hf b hb).1
  done := by
    intro X hP hw hK hc i pins s σ H E I hf st hg
    subst hP hw hK
    obtain ⟨⟨old, he⟩, hit, hne, hea, hai⟩ := st
    obtain ⟨xs, hq, hx⟩ := hg
    obtain ⟨its, rv, p, hz⟩ := I.tuple hq
    obtain ⟨f0, f1, f2, f3, f4, f5⟩ := hf it (by simp)
    have hl := rv.length
    refine wpAny_pyNext_enum_endD (end_draws (A := X.A.in1) (I.ok.hd hc) it a i its.toArray (by simp; omega)) he ⟨rfl, hit, p⟩ fun h' eb => ⟨rfl, ?_⟩
    exact I.turned (t' := s.toks) (fun b o hb q => eb b o hb q) f0 f1 f3 f4 f5
  self := fun A i s Q E st h => let ⟨⟨_, he⟩, _⟩ := st; wpAny_pyIter_enum he h
def iEnumT (K : PySem.W.Frag) (ta : TA) : TI := fun σ H R => ta σ H fun vs H1 => ∃ a xs, vs = [.ref a] ∧ SqT K H1 a xs ∧ R (Itn K a) H1
theorem pi_enumT {X : Cx} {e : Expr} {ta : TA} {p pos tpos : Pos} {elts : List Expr} {kk : Nat} (hg : Gl X "enumerate") (hm : X.mg "enumerate" = none) (ha : PA X [e] ta) (hs : starEach [e] X.env = [(false, eval e X.env)] := by rfl) :
    PI X (.Tuple elts kk tpos) (.Call (.Name "enumerate" p) [e] [] pos) (iEnumT X.K ta) := by
  refine ⟨fun pins s σ H R I h => PyProof.Rows.Call_ (ld_blt I hg hm PyProof.Rows.boot_enumerate (PyProof.Rows.callWith_type1 (thn (ha.run pos pins s σ H _ I h) fun us s1 ⟨vs, H1, I1, r1, q1⟩ => ?_) hs rfl))⟩
  obtain ⟨a, xs, rfl, hq, q⟩ := q1
  cases r1 with
  | cons r rr =>
    cases rr
    cases r
    obtain ⟨its, rv, p', hz⟩ := I1.tuple hq
    have hsz0 : a < s1.heap.objs.size := by obtain ⟨_, e, _⟩ := p'; exact Heap.lt_size e
    refine call_enumerate_tuple p' fun h' he hit hsz hk => wpAny_pyIter_enum he ?_
    have I2 : Inv X pins σ H1 { s1 with heap := h' } := I1.kept (t' := s1.toks) hk
    refine ⟨s1.heap.objs.size + 1, [s1.heap.objs.size + 1, s1.heap.objs.size], _, _, H1, rfl, I2, turn_enumT a (s1.heap.objs.size + 1) s1.heap.objs.size, ⟨⟨.none, he⟩, hit, Nat.succ_ne_self _, Nat.ne_of_gt (Nat.lt_succ_of_lt hsz0), Nat.ne_of_lt hsz0⟩, fun b hb => ?_, q⟩
    have hle : s1.heap.objs.size ≤ b := by
      rcases (show b = s1.heap.objs.size + 1 ∨ b = s1.heap.objs.size by simpa using hb) with z | z
      · exact z ▸ Nat.le_succ _
      · exact z ▸ Nat.le_refl _
    exact I1.fpOk hle (I1.hok.fresh hle)
end DL

namespace DL
open PySem PySem.Spec L2

/-! ### a name's own object is frozen between statements -/
def frz (i : Nat) (g : G) : G := match g[i]? with
  | some (some (.ow false o)) => g.set i (some (.fz o.d))
  | _ => g
def frzS (i : Nat) : M Fl := fun g => .ok .nx (frz i g)
section
variable {X : Cx} {Y : Ent} {W : WX}
theorem Rel.frz {K : KW} {σ : St} {H F : Hp} {g : G} (r : Rel K Y σ H g F) (i : Nat) : ∃ F', Rel K Y σ H (DL.frz i g) F' ∧ Same F F' := by
  unfold DL.frz
  split
  · rename_i o e
    obtain ⟨a, h1, _⟩ := r.ow i _ _ e
    obtain ⟨F', r', s', _⟩ := r.freezeSlot e h1
    exact ⟨F', r', s'⟩
  · exact ⟨F, r, Same.refl _⟩
theorem sSeq_frz (f : M Fl) (i : Nat) (g : G) : sSeq f (frzS i) g = match f g with
    | .ok .nx g' => .ok .nx (DL.frz i g')
    | r => r := rfl
theorem PostS.frz {K : KW} {F : Hp} {D : Ends} {i : Nat} {x : Rs Fl} (h : PostS K Y W F D (match x with
    | .ok .nx g' => .ok .nx (DL.frz i g')
    | r => r)) : PostS K Y W F D x := by
  cases x with
  | bad => exact h
  | ex e g => exact h
  | ok fl g =>
    cases fl with
    | rt r => exact h
    | bk => exact h
    | ct => exact h
    | nx =>
      intro σ' H' F' r s
      obtain ⟨F2, r2, s2⟩ := r.frz i
      exact h σ' H' F2 r2 (s.trans s2)
theorem ds_aft {st : Stmt} {f : M Fl} (i : Nat) (h : DS X Y W st f) : DS X Y W st (sSeq f (frzS i)) :=
  ps_mono h fun D σ H ⟨g, F, r, p⟩ => ⟨g, F, r, PostS.frz (i := i) (by rw [sSeq_frz] at p; exact p)⟩
end
end DL

namespace DL
open PySem PySem.Spec L2

/-! # the plain side: what the functions of data compute -/
variable {α β : Type}
@[simp] theorem ev_mb (m : M α) (k : α → M β) (g : G) : mb m k g = (m g).andThen k := rfl
@[simp] theorem ev_mp (a : α) (g : G) : mp a g = .ok a g := rfl
@[simp] theorem ev_c (d : D) (g : G) : eC d g = .ok (.fz d) g := rfl
@[simp] theorem ev_var (i : Nat) (g : G) : eVar i g = match g[i]? with
  | some (some (.fz d)) => .ok (.fz d) g
  | some (some (.ow _ _)) => .ok (.at i) g
  | some (some (.op _ _)) => .ok (.at i) g
  | _ => .bad := rfl
@[simp] theorem ct_fz (g : G) (d : D) : cont g (.fz d) = some d := rfl
@[simp] theorem ct_at (g : G) (i : Nat) : cont g (.at i) = match g[i]? with
    | some (some (.ow _ o)) => some o.d
    | some (some (.fz d)) => some d
    | _ => none := rfl
@[simp] theorem ev_done_fz (d : D) (g : G) : done (some (.fz d)) g = .ok (.fz d) g := rfl
@[simp] theorem ev_done_ow (o : O) (g : G) : done (some (.ow o)) g = .ok (.ow o) g := rfl
@[simp] theorem od_ls (xs : List D) : O.d (.ls xs) = .lst xs := rfl
@[simp] theorem od_dk (xs : List (Key × D)) : O.d (.dk xs) = .dk xs := rfl
@[simp] theorem od_dt (xs : List (List Key × D)) : O.d (.dt xs) = .dt xs := rfl
@[simp] theorem then_ite (c : Prop) [Decidable c] (a b : Rs α) (k : α → G → Rs β) : (if c then a else b).andThen k = if c then a.andThen k else b.andThen k := by split <;> rfl
@[simp] theorem ev_op2 (op : D → D → Option R) (x y : R) (g : G) : op2 op x y g = match cont g x, cont g y with
  | some a, some b => done (op a b) g
  | _, _ => .bad := rfl
@[simp] theorem ev_eB (op : D → D → Option R) (f k : M R) (g : G) : eB op f k g = (pk f g).andThen fun x g1 => (pk k g1).andThen fun y => op2 op x y := rfl
@[simp] theorem ev_toB (b : Bool) (g : G) : toB (.fz (.bl b)) g = .ok b g := rfl
@[simp] theorem ev_test (f : M R) (g : G) : eTest f g = (f g).andThen toB := rfl
@[simp] theorem ev_tAnd (f k : M Bool) (g : G) : tAndM f k g = (f g).andThen fun c => if c = true then k else mp false := rfl
@[simp] theorem ev_tOr (f k : M Bool) (g : G) : tOrM f k g = (f g).andThen fun c => if c = true then mp true else k := rfl
@[simp] theorem ev_tNot (f : M Bool) (g : G) : tNotM f g = (f g).andThen fun c => mp (!c) := rfl
@[simp] theorem ev_vAnd (f k : M R) (g : G) : vAnd f k g = (f g).andThen fun x g1 => (toB x g1).andThen fun c => if c = true then k else eC (.bl false) := rfl
@[simp] theorem ev_vOr (f k : M R) (g : G) : vOr f k g = (f g).andThen fun x g1 => (toB x g1).andThen fun c => if c = true then eC (.bl true) else k := rfl
@[simp] theorem ev_vNot (f : M R) (g : G) : vNot f g = (f g).andThen fun x g1 => (toB x g1).andThen fun c => eC (.bl (!c)) := rfl
@[simp] theorem ev_if (c : M Bool) (f k : M R) (g : G) : eIf c f k g = (c g).andThen fun b => if b = true then f else k := rfl
@[simp] theorem ev_ite {γ : Type} (c : Prop) [Decidable c] (a b : M γ) (g : G) : (if c then a else b) g = if c then a g else b g := by split <;> rfl
@[simp] theorem ev_tru (f : M R) (g : G) : eTru f g = (pk f g).andThen toTru := rfl
@[simp] theorem ev_toTru (x : R) (g : G) : toTru x g = match (cont g x).bind truD with
  | some b => .ok b g
  | none => .bad := rfl
@[simp] theorem ev_pk (f : M R) (g : G) : pk f g = (f g).andThen pkR := rfl
@[simp] theorem ev_pkR_fz (d : D) (g : G) : pkR (.fz d) g = .ok (.fz d) g := rfl
@[simp] theorem ev_pkR_at (i : Nat) (g : G) : pkR (.at i) g = .ok (.at i) g := rfl
@[simp] theorem ev_pkR_ow (o : O) (g : G) : pkR (.ow o) g = .ok (.fz o.d) g := rfl
@[simp] theorem ev_esc (f : M R) (g : G) : esc f g = (f g).andThen escR := rfl
@[simp] theorem ev_escR_fz (d : D) (g : G) : escR (.fz d) g = .ok (.fz d) g := rfl
@[simp] theorem ev_escR_ow (o : O) (g : G) : escR (.ow o) g = .ok (.fz o.d) g := rfl
@[simp] theorem ev_escR_at (i : Nat) (g : G) : escR (.at i) g = match g[i]? with
  | some (some (.ow false o)) => .ok (.fz o.d) (g.set i (some (.fz o.d)))
  | some (some (.fz d)) => .ok (.fz d) g
  | _ => .bad := rfl
@[simp] theorem ev_aNil (g : G) : aNil g = .ok [] g := rfl
@[simp] theorem ev_aCons (f : M R) (k : M (List R)) (g : G) : aCons f k g = (f g).andThen fun x g1 => (k g1).andThen fun xs => aPush x xs := rfl
@[simp] theorem ev_aPush_fz (d : D) (xs : List R) (g : G) : aPush (.fz d) xs g = .ok (.fz d :: xs) g := rfl
@[simp] theorem ev_aPush_at (i : Nat) (xs : List R) (g : G) : aPush (.at i) xs g = .ok (.at i :: xs) g := rfl
@[simp] theorem ct_nil (g : G) : conts g [] = some [] := rfl
@[simp] theorem ct_cons (g : G) (r : R) (rs : List R) : conts g (r :: rs) = match cont g r, conts g rs with
    | some d, some ds => some (d :: ds)
    | _, _ => none := rfl
@[simp] theorem af_nil : allFz [] = some [] := rfl
@[simp] theorem af_cons (d : D) (r : List R) : allFz (.fz d :: r) = (allFz r).map (d :: ·) := rfl
@[simp] theorem ev_opN (op : List D → Option R) (rs : List R) (g : G) : opN op rs g = match conts g rs with
  | some ds => done (op ds) g
  | none => .bad := rfl
@[simp] theorem ev_callB (op : List D → Option R) (k : M (List R)) (g : G) : eCallB op k g = (k g).andThen (opN op) := rfl
@[simp] theorem ev_chkT (T : String) (x : R) (g : G) : chkT T x g = match cont g x with
  | some d => if kindD d = T then .ok () g else .bad
  | none => .bad := rfl
@[simp] theorem ev_opM (op : D → List D → Option R) (x : R) (ys : List R) (g : G) : opM op x ys g = match cont g x, conts g ys with
  | some d, some ds => done (op d ds) g
  | _, _ => .bad := rfl
@[simp] theorem ev_meth (T : String) (op : D → List D → Option R) (f : M R) (k : M (List R)) (g : G) : eMeth T op f k g = (pk f g).andThen fun x g1 => (chkT T x g1).andThen fun _ g2 => (k g2).andThen fun ys => opM op x ys := rfl
@[simp] theorem ev_opMut (op : O → List D → Option (O × D)) (i : Nat) (ys : List R) (g : G) : opMut op (.at i) ys g = match g[i]?, allFz ys with
    | some (some (.ow l o)), some ds => match op o ds with
      | some (o', d) => .ok (.fz d) (g.set i (some (.ow l o')))
      | none => .bad
    | _, _ => .bad := rfl
@[simp] theorem ev_mut (T : String) (op : O → List D → Option (O × D)) (f : M R) (k : M (List R)) (g : G) : eMut T op f k g = (f g).andThen fun x g1 => (chkT T x g1).andThen fun _ g2 => (k g2).andThen fun ys => opMut op x ys := rfl
@[simp] theorem ev_mkTup (rs : List R) (g : G) : mkTup rs g = match allFz rs with
  | some ds => if ds.length ≤ 1000 then .ok (.fz (.tup ds)) g else .bad
  | none => .bad := rfl
@[simp] theorem ev_mkLst (rs : List R) (g : G) : mkLst rs g = match allFz rs with
  | some ds => if ds.length ≤ 1000 then .ok (.ow (.ls ds)) g else .bad
  | none => .bad := rfl
@[simp] theorem ev_eTup (k : M (List R)) (g : G) : eTup k g = (k g).andThen mkTup := rfl
@[simp] theorem ev_eLst (k : M (List R)) (g : G) : eLst k g = (k g).andThen mkLst := rfl
@[simp] theorem kd_str (s : Str) : kindD (.str s) = "str" := rfl
@[simp] theorem kd_lst (s : List D) : kindD (.lst s) = "list" := rfl
@[simp] theorem kd_dk (s : List (Key × D)) : kindD (.dk s) = "dict" := rfl
@[simp] theorem kd_dt (s : List (List Key × D)) : kindD (.dt s) = "dict" := rfl
@[simp] theorem tr_bl (b : Bool) : truD (.bl b) = some b := rfl
@[simp] theorem tr_non : truD .non = some false := rfl
@[simp] theorem tr_int (i : Int) : truD (.int i) = some (i != 0) := rfl
@[simp] theorem tr_str (s : Str) : truD (.str s) = some ((s.length : Int) != 0) := rfl
@[simp] theorem tr_lst (s : List D) : truD (.lst s) = some (!s.isEmpty) := rfl
@[simp] theorem tr_tup (s : List D) : truD (.tup s) = some (!s.isEmpty) := rfl

/-! operators -/
@[simp] theorem bn_add (i j : Int) : bAdd (.int i) (.int j) = some (.fz (.int (i + j))) := rfl
@[simp] theorem bn_adds (a b : Str) : bAdd (.str a) (.str b) = if a.length + b.length ≤ sizeLine then some (.fz (.str (a ++ b))) else none := rfl
@[simp] theorem bn_addl (xs ys : List D) : bAdd (.lst xs) (.lst ys) = if xs.length + ys.length ≤ sizeLine then some (.ow (.ls (xs ++ ys))) else none := rfl
@[simp] theorem bn_addt (xs ys : List D) : bAdd (.tup xs) (.tup ys) = if xs.length + ys.length ≤ sizeLine then some (.fz (.tup (xs ++ ys))) else none := rfl
@[simp] theorem bn_sub (i j : Int) : bSub (.int i) (.int j) = some (.fz (.int (i - j))) := rfl
theorem bn_mul (i j : Int) : bMul (.int i) (.int j) = if (-(2 ^ 64) < i ∧ i < 2 ^ 64) ∨ (-(2 ^ 64) < j ∧ j < 2 ^ 64) then some (.fz (.int (i * j))) else none := rfl
theorem two64 : (2 : Int) ^ 64 = 18446744073709551616 := by decide
@[simp] theorem bn_mulR (i j : Int) (h1 : -18446744073709551616 < j) (h2 : j < 18446744073709551616) : bMul (.int i) (.int j) = some (.fz (.int (i * j))) := by
  rw [bn_mul, two64, if_pos (.inr ⟨h1, h2⟩)]
theorem bn_mulL (i j : Int) (h1 : -18446744073709551616 < i) (h2 : i < 18446744073709551616) : bMul (.int i) (.int j) = some (.fz (.int (i * j))) := by
  rw [bn_mul, two64, if_pos (.inl ⟨h1, h2⟩)]
@[simp] theorem bn_fdiv (i j : Int) : bFdiv (.int i) (.int j) = if 0 < j ∧ j < 1073741824 then some (.fz (.int (i / j))) else none := rfl
@[simp] theorem bn_mod (i j : Int) : bMod (.int i) (.int j) = if 0 < j then some (.fz (.int (i % j))) else none := rfl
@[simp] theorem bn_pow (i j : Int) : bPow (.int i) (.int j) = if 0 ≤ j ∧ j ≤ 1000000 ∧ i.natAbs < 2 ^ 64 then some (.fz (.int (i ^ j.toNat))) else none := rfl
@[simp] theorem cn_eqi (i j : Int) : cEq (.int i) (.int j) = some (.fz (.bl (i == j))) := rfl
@[simp] theorem cn_eqs (i j : Str) : cEq (.str i) (.str j) = some (.fz (.bl (i == j))) := rfl
@[simp] theorem cn_eqb (i j : Bool) : cEq (.bl i) (.bl j) = some (.fz (.bl (i == j))) := rfl
@[simp] theorem cn_nei (i j : Int) : cNe (.int i) (.int j) = some (.fz (.bl (!(i == j)))) := rfl
@[simp] theorem cn_nes (i j : Str) : cNe (.str i) (.str j) = some (.fz (.bl (!(i == j)))) := rfl
@[simp] theorem cn_neb (i j : Bool) : cNe (.bl i) (.bl j) = some (.fz (.bl (!(i == j)))) := rfl
@[simp] theorem cn_lt (i j : Int) : cLt (.int i) (.int j) = some (.fz (.bl (decide (i < j)))) := rfl
@[simp] theorem cn_le (i j : Int) : cLe (.int i) (.int j) = some (.fz (.bl (decide (i ≤ j)))) := rfl
@[simp] theorem cn_gt (i j : Int) : cGt (.int i) (.int j) = some (.fz (.bl (decide (j < i)))) := rfl
@[simp] theorem cn_ge (i j : Int) : cGe (.int i) (.int j) = some (.fz (.bl (decide (j ≤ i)))) := rfl
@[simp] theorem cn_ins (neg : Bool) (i j : Str) : cIn neg (.str i) (.str j) = some (.fz (.bl (if neg then !subS i j else subS i j))) := rfl
@[simp] theorem cn_inl (neg : Bool) (x : D) (xs : List D) (h : ∀ s, x = .str s → True) : cIn neg x (.lst xs) = if flatI x && xs.all flatI then some (.fz (.bl (if neg then !memD x xs else memD x xs))) else none := by cases x <;> rfl
@[simp] theorem cn_int (neg : Bool) (x : D) (xs : List D) : cIn neg x (.tup xs) = if flatI x && xs.all flatI then some (.fz (.bl (if neg then !memD x xs else memD x xs))) else none := by cases x <;> rfl
@[simp] theorem sub_sign (c : Nat) (z : Str) : subS ⟨#[c]⟩ z = decide (c ∈ z.cps.toList) := StrLaws.found_one z c
@[simp] theorem ix_lst (xs : List D) (i : Int) : ixD (.lst xs) (.int i) = (atI xs i).map .fz := rfl
@[simp] theorem ix_tup (xs : List D) (i : Int) : ixD (.tup xs) (.int i) = (atI xs i).map .fz := rfl
@[simp] theorem ix_str (z : Str) (i : Int) : ixD (.str z) (.int i) = (atI z.cps.toList i).map fun c => .fz (.str ⟨#[c]⟩) := rfl
@[simp] theorem ix_scr (z : List Int) (i : Int) : ixD (.scr z) (.int i) = (atI z i).map fun n => .fz (.int n) := rfl
@[simp] theorem ln_str (s : Str) : fLen [.str s] = some (.fz (.int s.length)) := rfl
@[simp] theorem ln_tup (s : List D) : fLen [.tup s] = some (.fz (.int s.length)) := rfl
@[simp] theorem ln_lst (s : List D) : fLen [.lst s] = some (.fz (.int s.length)) := rfl
@[simp] theorem ln_scr (s : List Int) : fLen [.scr s] = some (.fz (.int s.length)) := rfl
@[simp] theorem fn_int (i : Int) : fInt [.int i] = some (.fz (.int i)) := rfl
@[simp] theorem fn_all (xs : List D) : fAll [.lst xs] = (bolsOf xs).map fun ns => .fz (.bl (ns.all id)) := rfl
@[simp] theorem fn_any (xs : List D) : fAny [.lst xs] = (bolsOf xs).map fun ns => .fz (.bl (ns.any id)) := rfl
@[simp] theorem fn_tuple (xs : List D) : fTuple [.lst xs] = some (.fz (.tup xs)) := rfl
@[simp] theorem fn_tuple' (xs : List D) : fTuple [.tup xs] = some (.fz (.tup xs)) := rfl
@[simp] theorem fn_sum (xs : List D) : fSum [.lst xs] = (intsOf xs).map fun ns => .fz (.int ns.sum) := rfl
@[simp] theorem fn_repr (d : D) : fRepr [d] = if okRepr d = true then some (.fz (.str d.py.shown)) else none := rfl
@[simp] theorem ua_app (xs : List D) (d : D) : uAppend (.ls xs) [d] = if xs.length < sizeLine then some (.ls (xs ++ [d]), .non) else none := rfl

/-! statements -/
def seqK (x : Rs Fl) (b : M Fl) : Rs Fl := match x with
  | .ok .nx g' => b g'
  | r => r
@[simp] theorem ev_seq (a b : M Fl) (g : G) : sSeq a b g = seqK (a g) b := rfl
@[simp] theorem sk_nx (g : G) (b : M Fl) : seqK (.ok .nx g) b = b g := rfl
@[simp] theorem sk_rt (r : R) (g : G) (b : M Fl) : seqK (.ok (.rt r) g) b = .ok (.rt r) g := rfl
@[simp] theorem sk_bk (g : G) (b : M Fl) : seqK (.ok .bk g) b = .ok .bk g := rfl
@[simp] theorem sk_ct (g : G) (b : M Fl) : seqK (.ok .ct g) b = .ok .ct g := rfl
@[simp] theorem sk_ex (e : Ex) (g : G) (b : M Fl) : seqK (.ex e g) b = .ex e g := rfl
@[simp] theorem sk_bad (b : M Fl) : seqK .bad b = .bad := rfl
@[simp] theorem sk_ite (c : Prop) [Decidable c] (x y : Rs Fl) (b : M Fl) : seqK (if c then x else y) b = if c then seqK x b else seqK y b := by split <;> rfl
@[simp] theorem ev_nil (g : G) : sNil g = .ok .nx g := rfl
@[simp] theorem ev_pass (g : G) : sPass g = .ok .nx g := rfl
@[simp] theorem ev_brk (g : G) : sBrk g = .ok .bk g := rfl
@[simp] theorem ev_cont (g : G) : sCont g = .ok .ct g := rfl
@[simp] theorem ev_retN (g : G) : sRetN g = .ok (.rt (.fz .non)) g := rfl
@[simp] theorem ev_expr (f : M R) (g : G) : sExpr f g = (f g).andThen fun _ => mp .nx := rfl
@[simp] theorem ev_ret (f : M R) (g : G) : sRet f g = (f g).andThen retR := rfl
@[simp] theorem ev_retR_fz (d : D) (g : G) : retR (.fz d) g = .ok (.rt (.fz d)) g := rfl
@[simp] theorem ev_retR_ow (d : O) (g : G) : retR (.ow d) g = .ok (.rt (.ow d)) g := rfl
@[simp] theorem ev_retR_at (i : Nat) (g : G) : retR (.at i) g = match g[i]? with
    | some (some (.ow false o)) => .ok (.rt (.ow o)) (g.set i none)
    | some (some (.fz d)) => .ok (.rt (.fz d)) g
    | _ => .bad := rfl
@[simp] theorem ev_sIf (c : M Bool) (a b : M Fl) (g : G) : sIf c a b g = (c g).andThen fun t => if t = true then a else b := rfl
@[simp] theorem ev_set_fz (i : Nat) (d : D) (g : G) : setSl i (.fz d) g = .ok () (g.set i (some (.fz d))) := rfl
@[simp] theorem ev_set_ow (i : Nat) (d : O) (g : G) : setSl i (.ow d) g = .ok () (g.set i (some (.ow false d))) := rfl
@[simp] theorem ev_asg (f : M R) (t : R → M Unit) (g : G) : sAsg f t g = (eA f g).andThen fun r g => (noEx (t r g)).andThen fun _ => mp .nx := rfl
@[simp] theorem ev_eA (f : M R) (g : G) : eA f g = (f g).andThen escA := rfl
@[simp] theorem ev_escA_fz (d : D) (g : G) : escA (.fz d) g = .ok (.fz d) g := rfl
@[simp] theorem ev_escA_ow (d : O) (g : G) : escA (.ow d) g = .ok (.ow d) g := rfl
@[simp] theorem ev_escA_at (i : Nat) (g : G) : escA (.at i) g = escR (.at i) g := rfl
@[simp] theorem ne_ok (a : α) (g : G) : noEx (.ok a g) = .ok a g := rfl
@[simp] theorem ev_chkN (n : Nat) (a : M (List R)) (g : G) : chkN n a g = (a g).andThen fun rs g => if rs.length = n then .ok rs g else .bad := rfl
/-- what a call's end gives -/
def callK (x : Res) (g : G) : Rs R := match x with
      | .ok (.fz d) none => .ok (.fz d) g
      | .ok (.ow o) none => .ok (.ow o) g
      | .ex e none => .ex e g
      | _ => .bad
@[simp] theorem ck_fz (d : D) (g : G) : callK (.ok (.fz d) none) g = .ok (.fz d) g := rfl
@[simp] theorem ck_ow (d : O) (g : G) : callK (.ok (.ow d) none) g = .ok (.ow d) g := rfl
@[simp] theorem ck_ex (e : Ex) (g : G) : callK (.ex e none) g = .ex e g := rfl
@[simp] theorem ck_ite (c : Prop) [Decidable c] (x y : Res) (g : G) : callK (if c then x else y) g = if c then callK x g else callK y g := by split <;> rfl
@[simp] theorem ev_opCall (sem : FSem) (rs : List R) (g : G) : opCall none sem rs g = match allFz rs with
    | some ds => callK (sem none ds) g
    | none => .bad := rfl
@[simp] theorem ev_call (lp : Option Nat) (sem : FSem) (k : M (List R)) (g : G) : eCall lp sem k g = (k g).andThen (opCall lp sem) := rfl
/-- the end of a def without a lent list -/
def endF (x : Rs Fl) : Res := match x with
    | .ok (.rt (.fz d)) g => .ok (.fz d) none
    | .ok (.rt (.ow o)) g => .ok (.ow o) none
    | .ok .nx g => .ok (.fz .non) none
    | .ex e g => .ex e none
    | _ => .bad
theorem bodyF_none (n : Nat) (b : M Fl) (ds : List D) : bodyF n none b none ds = endF (b (fill n (ds.map fun d => some (.fz d)))) := by
  unfold bodyF endF
  show (match b (fill n (ds.map fun d => some (.fz d))) with | _ => _) = _
  cases b (fill n (ds.map fun d => some (.fz d))) with
  | bad => rfl
  | ex e g => rfl
  | ok f g => cases f with
    | rt r => cases r <;> rfl
    | nx => rfl
    | bk => rfl
    | ct => rfl
@[simp] theorem ef_fz (d : D) (g : G) : endF (.ok (.rt (.fz d)) g) = .ok (.fz d) none := rfl
@[simp] theorem ef_ow (d : O) (g : G) : endF (.ok (.rt (.ow d)) g) = .ok (.ow d) none := rfl
@[simp] theorem ef_nx (g : G) : endF (.ok .nx g) = .ok (.fz .non) none := rfl
@[simp] theorem ef_ex (e : Ex) (g : G) : endF (.ex e g) = .ex e none := rfl
@[simp] theorem ef_ite (c : Prop) [Decidable c] (x y : Rs Fl) : endF (if c then x else y) = if c then endF x else endF y := by split <;> rfl

/-! iterators, loops -/
@[simp] theorem ev_iSeq (f : M R) (g : G) : iSeq f g = (esc f g).andThen toIt := rfl
@[simp] theorem ev_toIt (d : D) (g : G) : toIt (.fz d) g = match itemsD d with
    | some ds => .ok ds g
    | none => .bad := rfl
@[simp] theorem it_lst (ds : List D) : itemsD (.lst ds) = some ds := rfl
@[simp] theorem it_tup (ds : List D) : itemsD (.tup ds) = some ds := rfl
@[simp] theorem it_str (z : Str) : itemsD (.str z) = some (Str.signs z) := rfl
@[simp] theorem it_scr (ns : List Int) : itemsD (.scr ns) = some (ns.map D.int) := rfl
@[simp] theorem ev_iRng1 (k : M (List R)) (g : G) : iRng1 k g = (k g).andThen toRng1 := rfl
@[simp] theorem ev_toRng1 (n : Int) (g : G) : toRng1 [.fz (.int n)] g = if -(2 ^ 62) ≤ n ∧ n < 2 ^ 62 then .ok (rngI 0 n.toNat) g else .bad := rfl
@[simp] theorem ev_iRng2 (k : M (List R)) (g : G) : iRng2 k g = (k g).andThen toRng2 := rfl
@[simp] theorem ev_toRng2 (a b : Int) (g : G) : toRng2 [.fz (.int a), .fz (.int b)] g = if -(2 ^ 62) ≤ a ∧ a < 2 ^ 62 ∧ -(2 ^ 62) ≤ b ∧ b < 2 ^ 62 then .ok (rngI a (b - a).toNat) g else .bad := rfl
@[simp] theorem ev_for (it : M (List D)) (t : R → M Unit) (body : M Fl) (g : G) : sFor it t body g = (it g).andThen fun ds => forL t body ds := rfl
@[simp] theorem ev_yes (g : G) : cYes g = .ok true g := rfl
@[simp] theorem for_nil (t : R → M Unit) (body : M Fl) (g : G) : forL t body [] g = .ok .nx g := rfl
/-- one turn -/
def turn (t : R → M Unit) (body : M Fl) (d : D) (g : G) : Rs Fl := (noEx (t (.fz d) g)).andThen fun _ g1 => body g1
theorem for_cons (t : R → M Unit) (body : M Fl) (d : D) (ds : List D) (g : G) : forL t body (d :: ds) g = match turn t body d g with
    | .ok .nx g2 => forL t body ds g2
    | .ok .ct g2 => forL t body ds g2
    | .ok .bk g2 => .ok .nx g2
    | r => r := by
  show ((noEx (t (.fz d) g)).andThen fun _ g1 => match body g1 with
    | .ok .nx g2 => forL t body ds g2
    | .ok .ct g2 => forL t body ds g2
    | .ok .bk g2 => .ok .nx g2
    | r => r) = _
  unfold turn
  cases noEx (t (.fz d) g) <;> rfl
/-! comprehensions -/
/-- one turn of a comprehension -/
def lcStep (t : R → M Unit) (c : M Bool) (e : M R) (d : D) (g : G) : Rs (Option D) :=
  (noEx (t (.fz d) g)).andThen fun _ g1 => (noEx (c g1)).andThen fun b g2 =>
      if b = true then (noEx (esc e g2)).andThen fun x g3 => match x with
        | .fz y => .ok (some y) g3
        | _ => .bad
      else .ok none g2
theorem lcL_cons (t : R → M Unit) (c : M Bool) (e : M R) (vs : List Nat) (d : D) (ds acc : List D) (g : G) :
    lcL t c e vs (d :: ds) acc g = (lcStep t c e d (wipeG g vs)).andThen fun y g3 => match y with
      | some y => lcL t c e vs ds (acc ++ [y]) g3
      | none => lcL t c e vs ds acc g3 := by
  show ((noEx (t (.fz d) (wipeG g vs))).andThen fun _ g1 => (noEx (c g1)).andThen fun b g2 =>
      if b = true then (noEx (esc e g2)).andThen fun x g3 => match x with
        | .fz y => lcL t c e vs ds (acc ++ [y]) g3
        | _ => .bad
      else lcL t c e vs ds acc g2) = _
  unfold lcStep
  cases noEx (t (.fz d) (wipeG g vs)) with
  | bad => rfl
  | ex _ _ => rfl
  | ok _ g1 =>
    show (noEx (c g1)).andThen _ = ((noEx (c g1)).andThen _).andThen _
    cases noEx (c g1) with
    | bad => rfl
    | ex _ _ => rfl
    | ok b g2 =>
      cases b with
      | false => rfl
      | true =>
        show (noEx (esc e g2)).andThen _ = ((noEx (esc e g2)).andThen _).andThen _
        cases noEx (esc e g2) with
        | bad => rfl
        | ex _ _ => rfl
        | ok x g3 => cases x <;> rfl
theorem wipeG_at (g : G) (i : Nat) : ∀ vs : List Nat, (wipeG g vs)[i]? = if i ∈ vs ∧ i < g.length then some none else g[i]?
  | [] => by simp [wipeG]
  | v :: vs => by
    have ih := wipeG_at g i vs
    unfold wipeG
    rw [List.getElem?_set, ih, wipeG_len]
    by_cases e : v = i
    · subst e
      by_cases l : v < g.length
      · simp [l]
      · simp [l, List.getElem?_eq_none (Nat.le_of_not_lt l)]
    · simp [e, Ne.symm e, List.mem_cons, show (i = v) = False from eq_false fun z => e z.symm]
theorem backG_leng (g0 g : G) : ∀ vs : List Nat, (backG g0 g vs).length = g.length
  | [] => rfl
  | v :: vs => by unfold backG; rw [List.length_set, backG_leng g0 g vs]
theorem backG_at (g0 g : G) (i : Nat) : ∀ vs : List Nat, (backG g0 g vs)[i]? = if i ∈ vs ∧ i < g.length then some (keepFz g0[i]?) else g[i]?
  | [] => by simp [backG]
  | v :: vs => by
    have ih := backG_at g0 g i vs
    unfold backG
    rw [List.getElem?_set, ih, backG_leng]
    by_cases e : v = i
    · subst e
      by_cases l : v < g.length
      · simp [l]
      · simp [l, List.getElem?_eq_none (Nat.le_of_not_lt l)]
    · simp [e, Ne.symm e, List.mem_cons, show (i = v) = False from eq_false fun z => e z.symm]
/-! drawn numbers -/
def cellI (ns : List Int) (k : Int) : Int := if k < ns.length then (atI ns k).getD 0 else 0
def Dr (m : Int) (xs : List Int) : Prop := ∀ x ∈ xs, 0 ≤ x ∧ x < m
theorem Dr.snoc {m : Int} {xs : List Int} (h : Dr m xs) (hm : 0 < m) (x : Int) : Dr m (xs ++ [x % m]) := by
  intro y hy
  rcases List.mem_append.mp hy with q | q
  · exact h y q
  · rw [List.mem_singleton.mp q]; exact ⟨Int.emod_nonneg _ (by omega), Int.emod_lt_of_pos _ hm⟩
/-! texts -/
theorem Str.ext {a b : Str} (h : a.cps.toList = b.cps.toList) : a = b := by
  cases a; cases b; congr 1; exact Array.toList_inj.mp h
/-! signs of a text -/
def inS (S : Str) : D → D
  | .str z => .bl (subS z S)
  | _ => .non
def inB (S z : Str) : List Bool := z.cps.toList.map fun c => decide (c ∈ S.cps.toList)
/-- all signs of z are in S -/
def okC (S z : Str) : Bool := (inB S z).all id
@[simp high] theorem fn_all_in (S z : Str) : fAll [.lst ((inB S z).map D.bl)] = some (.fz (.bl (okC S z))) := by rw [fn_all, bolsOf_map]; rfl
@[simp] theorem ev_eCh (op op' : D → D → Option R) (f k j : M R) (g : G) : eCh op op' f k j g = (pk f g).andThen fun x g1 => (pk k g1).andThen fun y g2 => (op2 op x y g2).andThen fun z g3 => (toB z g3).andThen fun t => if t = true then mb (pk j) fun w => op2 op' y w else eC (.bl false) := rfl
/-- the text of single signs -/
def oneS (f : Int → Nat) (xs : List Int) : Str := Txt.join "" (xs.map fun x => (⟨#[f x]⟩ : Str))
@[simp] theorem kf_none : keepFz (some none) = none := rfl
@[simp] theorem kf_fz (d : D) : keepFz (some (some (.fz d))) = some (.fz d) := rfl
end DL

namespace DL
open PySem PySem.Spec L2

/-! # more plain side: comparisons of lists, ranges, slices -/
/-! ranges -/
def rngZ (n : Int) : List Int := (List.range n.toNat).map fun (i : Nat) => (0 : Int) + (i : Int)
@[simp] theorem ev_op1 (op : D → Option R) (x : R) (g : G) : op1 op x g = match cont g x with
  | some d => done (op d) g
  | none => .bad := rfl
@[simp] theorem ev_eU (op : D → Option R) (f : M R) (g : G) : eU op f g = (pk f g).andThen (op1 op) := rfl
@[simp] theorem ev_neg (i : Int) : bNeg (.int i) = some (.fz (.int (-i))) := rfl
/-! slices -/
@[simp] theorem ev_eSl (f : M R) (l h : M (Option Int)) (g : G) : eSl f l h g = (pk f g).andThen fun x g1 => (l g1).andThen fun lo g2 => (h g2).andThen fun hi => opSl x lo hi := rfl
@[simp] theorem ev_ePart (f : M R) (g : G) : ePart f g = (f g).andThen toI := rfl
@[simp] theorem ev_toI (i : Int) (g : G) : toI (.fz (.int i)) g = .ok (some i) g := rfl
@[simp] theorem ev_noPart (g : G) : eNoPart g = .ok none g := rfl
@[simp] theorem ev_opSl (x : R) (lo hi : Option Int) (g : G) : opSl x lo hi g = match cont g x with
  | some d => done (slD lo hi d) g
  | none => .bad := rfl
@[simp] theorem sl_lst (lo hi : Option Int) (xs : List D) : slD lo hi (.lst xs) = some (.ow (.ls (cutL xs lo hi))) := rfl
@[simp] theorem sl_tup (lo hi : Option Int) (xs : List D) : slD lo hi (.tup xs) = some (.fz (.tup (cutL xs lo hi))) := rfl
@[simp] theorem sl_str (lo hi : Option Int) (xs : Str) : slD lo hi (.str xs) = some (.fz (.str (cutS xs lo hi))) := rfl
theorem sIx_pos {n d : Nat} {j : Int} (h : 0 ≤ j) : HT.sIx n d (some j) = min j.toNat n := by
  show (if j < 0 then _ else _) = _
  rw [if_neg (by omega)]
theorem sIx_no {n d : Nat} : HT.sIx n d none = d := rfl
theorem cutL_to {α : Type} (xs : List α) (j : Int) (h : 0 ≤ j) : cutL xs none (some j) = xs.take j.toNat := by
  unfold cutL
  rw [sIx_pos h, sIx_no]
  simp only [List.drop_zero, Nat.sub_zero]
  rw [List.take_eq_take_iff]; omega
theorem cutL_from {α : Type} (xs : List α) (j : Int) (h : 0 ≤ j) : cutL xs (some j) none = xs.drop j.toNat := by
  unfold cutL
  rw [sIx_pos h, sIx_no]
  by_cases q : j.toNat ≤ xs.length
  · rw [Nat.min_eq_left q, List.take_of_length_le (by rw [List.length_drop]; omega)]
  · rw [Nat.min_eq_right (by omega), List.drop_length, List.drop_eq_nil_of_le (by omega)]; simp
theorem cutL_map {α β : Type} (f : α → β) (xs : List α) (lo hi : Option Int) : cutL (xs.map f) lo hi = (cutL xs lo hi).map f := by
  unfold cutL
  rw [List.length_map, List.map_take, List.map_drop]
theorem atI_map {α β : Type} (f : α → β) (xs : List α) (i : Int) : atI (xs.map f) i = (atI xs i).map f := by
  unfold atI
  rw [List.length_map]
  cases ixN xs.length i with
  | none => rfl
  | some j => exact List.getElem?_map
/-! unpacking -/
@[simp] theorem ev_gUn (n : Nat) (t : List D → M Unit) (ds : List D) (g : G) : gUn n t (.fz (.tup ds)) g = if ds.length = n then t ds g else .bad := rfl
@[simp] theorem ev_gsNil (g : G) : gsNil [] g = .ok () g := rfl
@[simp] theorem ev_gsCons (t : R → M Unit) (u : List D → M Unit) (d : D) (ds : List D) (g : G) : gsCons t u (d :: ds) g = (t (.fz d) g).andThen fun _ => u ds := rfl

end DL

namespace DL
open PySem PySem.Spec L2

/-! ### enumerate -/
def enD (ds : List D) : List D := (List.range ds.length).map fun i => .tup [.int (i : Nat), ds.getD i .non]
def toEn : List R → M (List D) := fun rs g => match rs with
  | [.fz (.lst ds)] => .ok (enD ds) g
  | [.fz (.tup ds)] => .ok (enD ds) g
  | _ => .bad
def iEn (k : M (List R)) : M (List D) := mb k toEn
section
variable {X : Cx} {Y : Ent} {W : WX} {pos : Pos}
theorem enD_get {ds : List D} {i : Nat} {d : D} (h : (enD ds)[i]? = some d) : ∃ x, ds[i]? = some x ∧ d = .tup [.int (i : Nat), x] := by
  unfold enD at h
  rw [List.getElem?_map] at h
  rcases Nat.lt_or_ge i ds.length with k | k
  · rw [List.getElem?_range k] at h
    cases h
    exact ⟨ds[i], List.getElem?_eq_getElem k, by simp [List.getD_eq_getElem?_getD, k]⟩
  · rw [List.getElem?_eq_none (by rw [List.length_range]; exact k)] at h; cases h
theorem enD_len (ds : List D) : (enD ds).length = ds.length := by unfold enD; rw [List.length_map, List.length_range]
theorem srv_pair {K : KW} {F0 : Hp} {J : It} {ds : List D} {vs : List V} (hl : IsL K F0 vs ds) (go : ∀ i H, (∃ x, vs[i]? = some x) → (∀ F, Same F0 F → Same F H → J.go i H)) (yl : ∀ i H F x H', Same F0 F → Same F H → J.yld i H x H' → ∃ T y, x = .ref T ∧ H T = none ∧ H' = upd H T (.tup [.int (i : Nat), y]) ∧ vs[i]? = some y)
    (st : ∀ H F, Same F0 F → Same F H → J.stop vs.length H) : Srv K F0 J (enD ds) := by
  refine fun H F s0 s1 => ⟨fun i d e => ?_, ?_⟩
  · obtain ⟨x, hx, rfl⟩ := enD_get e
    obtain ⟨v, h1, h2⟩ := hl.get hx
    refine ⟨go i H ⟨v, h1⟩ F s0 s1, fun z H' hy => ?_⟩
    obtain ⟨T, y, rfl, hT, rfl, hy2⟩ := yl i H F z H' s0 s1 hy
    rw [h1] at hy2; cases hy2
    have hv : IsL K F [.int (i : Nat), v] [.int (i : Nat), x] := ⟨_, _, rfl, rfl, ⟨_, _, rfl, h2.mono s0, rfl⟩⟩
    exact ⟨_, ext_tup s1 hT, T, _, rfl, .inl (.inl upd_same), by show (2 : Nat) ≤ sizeLine; decide, IsL.mono (ext_tup s1 hT).ff _ _ hv⟩
  · rw [enD_len, ← hl.length]; exact st H F s0 s1
theorem di_en {e : Expr} {p tpos : Pos} {elts : List Expr} {kk : Nat} {k : M (List R)} (hg : Gl X "enumerate") (hm : X.mg "enumerate" = none) (ha : DA X Y W [e] k) (hs : starEach [e] X.env = [(false, eval e X.env)] := by rfl) :
    DI X Y W (.Tuple elts kk tpos) (.Call (.Name "enumerate" p) [e] [] pos) (iEn k) := by
  refine pi_mono (pi_or (pi_enum hg hm ha hs) (pi_enumT hg hm ha hs)) fun σ H R ⟨g, F, r, p⟩ => ?_
  have p' : Post X.kw Y W σ F _ ((k g).andThen toEn) := p
  cases ek : k g with
  | bad => rw [ek] at p'; exact p'.elim
  | ex e g1 =>
    rw [ek] at p'
    refine .inl ⟨g, F, r, ?_⟩
    rw [ek]
    exact p'
  | ok rs g1 =>
    rw [ek] at p'
    have p2 : Post X.kw Y W σ F _ (toEn rs g1) := p'
    unfold toEn at p2
    split at p2
    · rename_i ds
      refine .inl ⟨g, F, r, ?_⟩
      rw [ek]
      intro H1 F1 r1 s1 vs ⟨v, us, e1, ⟨a, xs, e2, k1, k2, k3⟩, e3⟩
      subst e1 e2
      have e3 : us = [] := e3
      subst e3
      refine ⟨a, xs, rfl, SqL.of (r1.sub _ _ k1), p2 H1 F1 r1 s1 _ H1 F1 r1 (Same.refl _) ?_⟩
      have gd : ∀ H F, Same F1 F → Same F H → SqL X.kw H a xs := fun H F s0 s1 => SqL.of (s1 _ _ (s0 _ _ k1))
      exact srv_pair k3 (fun i H ⟨x, hx⟩ F s0 s1 => ⟨xs, x, gd H F s0 s1, hx⟩) (fun i H F x H' s0 s1 ⟨T, y, h1, h2, h3, h4⟩ => ⟨T, y, h1, h2, h3, h4 xs (gd H F s0 s1)⟩) (fun H F s0 s1 => ⟨xs, gd H F s0 s1, Nat.le_refl _⟩)
    · rename_i ds
      refine .inr ⟨g, F, r, ?_⟩
      rw [ek]
      intro H1 F1 r1 s1 vs ⟨v, us, e1, ⟨a, xs, e2, k1, k2, k3⟩, e3⟩
      subst e1 e2
      have e3 : us = [] := e3
      subst e3
      refine ⟨a, xs, rfl, sqT_mono r1.sub k1, p2 H1 F1 r1 s1 _ H1 F1 r1 (Same.refl _) ?_⟩
      have gd : ∀ H F, Same F1 F → Same F H → SqT X.kw H a xs := fun H F s0 s1 => sqT_mono s1 (sqT_mono s0 k1)
      exact srv_pair k3 (fun i H ⟨x, hx⟩ F s0 s1 => ⟨xs, x, gd H F s0 s1, hx⟩) (fun i H F x H' s0 s1 ⟨T, y, z, h1, h2, e, h3, h4⟩ => ⟨T, z, h1, h2, e ▸ h3, e ▸ h4 xs (gd H F s0 s1)⟩) (fun H F s0 s1 => ⟨xs, gd H F s0 s1, Nat.le_refl _⟩)
    · exact p2.elim
end
end DL

namespace DL
open PySem PySem.Spec L2
open PyProof.Rows (envOfC)

/-! ### defs that raise nothing may be called within an except suite -/
structure FnQ (P : Program) (w : World) (K : PySem.W.Frag) (mg : Str → Option Value) (base : Heap) (k : Nat) (f : Addr) (fd : FuncData) (ps : List Str) (sp : Sp) : Prop where
  len : ∀ vs H Q E, sp vs H Q E → vs.length = ps.length
  run : ∀ (A : Around) (outer : List Env) (s : Shared) (H : Hp) (args : Args) (us : List Value) (vs : List V) (Q : VK) (E : XK),
    L2H.RoomH k A → A.guards = some [] → Env0 P w K mg base A outer s H → BindsTo s fd args (ps.zip us) → Vals vs us → sp vs H Q E →
      codeAny (model P w) A (.call (.ref f) args) (CR (L2.CX P w) outer P w H s Q E) s
theorem FnQ.g {P : Program} {w : World} {K : PySem.W.Frag} {mg : Str → Option Value} {base : Heap} {k : Nat} {f : Addr} {fd : FuncData} {ps : List Str} {sp : Sp} (G : FnQ P w K mg base k f fd ps sp) : FnG P w K mg base k f fd ps sp :=
  ⟨G.len, fun A o s H args us vs Q E r => G.run A o s H args us vs Q E (L2H.roomH_of r)⟩
def cxQ (P : Program) (w : World) (K : PySem.W.Frag) (mg : Str → Option Value) (base : Heap) (N : List Str) (qual : Str) (scope : Scope) (f : Addr) (cd : Value) (A : Around) (outer : List Env) (s : Shared) (H : Hp) (E : XK) : Cx :=
  { cxOf (L2.CX P w) P w K mg base N qual scope f cd A outer s H E with calm := false }
section
variable {P : Program} {w : World} {K : PySem.W.Frag} {mg : Str → Option Value} {base : Heap} {cls : Str → Value}
end
theorem _root_.L2H.RoomH.units {k : Nat} {A : Around} (r : L2H.RoomH k A) : A.units + 64 < cLine := by have := r.un; omega
section
variable {X : Cx} {Y : Ent} {W : WX} {k : Nat} {f : Addr} {fd : FuncData} {ps : List Str} {sp : Sp} {dvs : List V} {ds : List Value} {x : Str} {p pos : Pos} {e : Expr} {es : List Expr} {t : TA}
end

/-! ### a caught error is tracked -/
section
variable {X : Cx} {pins : List (Addr × Obj)} {σ : St} {H : Hp} {s : Shared}
end
def dropD (i : Nat) (D : Ends) : Ends := { nx := fun σ' H' => D.nx (σ'.set i none) H', rt := D.rt, bk := fun σ' H' => D.bk (σ'.set i none) H', ct := fun σ' H' => D.ct (σ'.set i none) H' }
/-- clauses: without a name; with the name of slot i -/
inductive Cl where
  | u (c : Value) (t : TS) | n (c : Value) (i : Nat) (t : TS)
def wAll (K : KW) (Wout : WX) (D : Ends) : List Cl → WX
  | [] => Wout
  | .u c t :: r => fun cls d σ H => ∃ b, PySem.W.exmOne K cls c = some b ∧ (b = true → t D σ H) ∧ (b = false → wAll K Wout D r cls d σ H)
  | .n c i t :: r => fun cls d σ H => ∃ b, PySem.W.exmOne K cls c = some b ∧ (b = true → d = none ∧ ∀ a, H a = none → t (dropD i D) (σ.set i (some (.ref a))) (upd H a (ExA cls a))) ∧ (b = false → wAll K Wout D r cls d σ H)
inductive ClsOk (X : Cx) : List ExceptHandler → List Cl → Prop
  | nil : ClsOk X [] []
  | u {x : Str} {c : Value} {t : TS} {b₀ : Stmt} {suite : List Stmt} {np pos' : Pos} {hds : List ExceptHandler} {l : List Cl} (hc : Names X x c)
      (hsu : ∀ (a : Addr) (pn : List (Addr × Obj)), PSs (X.suite a pn) (b₀ :: suite) t) (r : ClsOk X hds l) : ClsOk X (.ExceptHandler (some (.Name x np)) none (b₀ :: suite) pos' :: hds) (.u c t :: l)
  | n {x nm : Str} {i : Nat} {c : Value} {t : TS} {b₀ : Stmt} {suite : List Stmt} {np pos' : Pos} {hds : List ExceptHandler} {l : List Cl} (hc : Names X x c) (hi : X.N[i]? = some nm) (hl : X.env.kindOf nm = some .local)
      (hsu : ∀ (a : Addr) (pn : List (Addr × Obj)), PSs (X.suite a pn) (b₀ :: suite) t) (r : ClsOk X hds l) : ClsOk X (.ExceptHandler (some (.Name x np)) (some nm) (b₀ :: suite) pos' :: hds) (.n c i t :: l)
section
variable {X : Cx} {body : List Stmt} {h₀ : ExceptHandler} {hds : List ExceptHandler} {l : List Cl} {pos : Pos} {tb : WX → TS} {Wout : WX}
end

/-! ### try with named clauses, over plain data -/
def dropS (i : Nat) : Rs Fl → Rs Fl
  | .ok (.rt r) g => .ok (.rt r) g
  | .ok fl g => .ok fl (g.set i none)
  | r => r
def handleA : List (Str × Option Nat × M Fl) → Ex → M Fl
  | [], e => fun g => .ex e g
  | (h, none, f) :: r, e => fun g => if subE e.c h = true then noEx (f g) else handleA r e g
  | (h, some i, f) :: r, e => fun g => if subE e.c h = true then (match e.p with | [] => dropS i (noEx (f (g.set i (some (.fz (.exc e.c)))))) | _ => .bad) else handleA r e g
def sTryA (ns : List Str) (b : M Fl) (hs : List (Str × Option Nat × M Fl)) : M Fl := fun g => match b g with
  | .ex e g' => if e.c ∈ ns then handleA hs e g' else .bad
  | r => r
theorem rel_gone {K : KW} {Y : Ent} {σ : St} {H F : Hp} {g : G} (r : Rel K Y σ H g F) (i : Nat) : Rel K Y (σ.set i none) H (g.set i none) F := by
  have ne : ∀ {j : Nat} {x : Sl}, (g.set i none)[j]? = some (some x) → j ≠ i ∧ g[j]? = some (some x) := fun {j x} e => by
    rcases get_set e with ⟨_, e'⟩ | z
    · cases e'
    · exact z
  have ss : ∀ {j : Nat}, j ≠ i → (σ.set i none)[j]? = σ[j]? := fun n => List.getElem?_set_ne (Ne.symm n)
  exact r.mask (by rw [List.length_set, List.length_set]; exact r.len) fun j s e => ⟨(ne e).2, ss (ne e).1⟩
theorem ext_any {F H : Hp} {p : Addr} {u : HO} (s : Same F H) (hp : H p = none) : Ext F H (upd F p u) (upd H p u) :=
  ⟨same_new hp, same_new (none_of_same s hp), fun b o e => by
    by_cases q : b = p
    · subst q; rw [upd_same] at e ⊢; exact e
    · rw [upd_ne q] at e ⊢; exact s _ _ e, fun a h => by
    by_cases q : a = p
    · subst q; exact .inr hp
    · rw [upd_ne q] at h; exact .inl h⟩
theorem PostS.noEx {K : KW} {Y : Ent} {W W' : WX} {F : Hp} {D : Ends} {x : Rs Fl} (h : PostS K Y W F D (noEx x)) : PostS K Y W' F D x := by
  cases x with
  | bad => exact h
  | ex e g => exact h.elim
  | ok fl g => exact h
theorem PostS.dropS {K : KW} {Y : Ent} {W : WX} {F : Hp} {D : Ends} {x : Rs Fl} {i : Nat} (h : PostS K Y W F D (dropS i x)) : PostS K Y W F (dropD i D) x := by
  cases x with
  | bad => exact h
  | ex e g => exact h
  | ok fl g =>
    cases fl with
    | rt r => exact h
    | nx => exact fun σ' H' F' r s => h (σ'.set i none) H' F' (rel_gone r i) s
    | bk => exact fun σ' H' F' r s => h (σ'.set i none) H' F' (rel_gone r i) s
    | ct => exact fun σ' H' F' r s => h (σ'.set i none) H' F' (rel_gone r i) s
inductive HdsA (X : Cx) (Y : Ent) : List ExceptHandler → List (Str × Option Nat × M Fl) → Prop
  | nil : HdsA X Y [] []
  | u {x : Str} {b₀ : Stmt} {suite : List Stmt} {np pos' : Pos} {hds : List ExceptHandler} {l : List (Str × Option Nat × M Fl)} {f : M Fl} (hc : Names X x (Y.cls x))
      (hsu : ∀ (a : Addr) (pn : List (Addr × Obj)), DSs (X.suite a pn) Y W0 (b₀ :: suite) f) (r : HdsA X Y hds l) : HdsA X Y (.ExceptHandler (some (.Name x np)) none (b₀ :: suite) pos' :: hds) ((x, none, f) :: l)
  | n {x nm : Str} {i : Nat} {b₀ : Stmt} {suite : List Stmt} {np pos' : Pos} {hds : List ExceptHandler} {l : List (Str × Option Nat × M Fl)} {f : M Fl} (hc : Names X x (Y.cls x)) (hi : X.N[i]? = some nm) (hl : X.env.kindOf nm = some .local)
      (hsu : ∀ (a : Addr) (pn : List (Addr × Obj)), DSs (X.suite a pn) Y W0 (b₀ :: suite) f) (r : HdsA X Y hds l) : HdsA X Y (.ExceptHandler (some (.Name x np)) (some nm) (b₀ :: suite) pos' :: hds) ((x, some i, f) :: l)
def clOf (K : KW) (Y : Ent) : Str × Option Nat × M Fl → Cl
  | (h, none, f) => .u (Y.cls h) (tS K Y W0 f)
  | (h, some i, f) => .n (Y.cls h) i (tS K Y W0 f)
theorem HdsA.ok {X : Cx} {Y : Ent} : ∀ {hds : List ExceptHandler} {l : List (Str × Option Nat × M Fl)}, HdsA X Y hds l → ClsOk X hds (l.map (clOf X.kw Y))
  | _, _, .nil => .nil
  | _, _, .u hc hsu r => .u hc hsu (HdsA.ok r)
  | _, _, .n hc hi hl hsu r => .n hc hi hl hsu (HdsA.ok r)
section
variable {X : Cx} {Y : Ent} {W : WX} {pos : Pos}
/-- isinstance of a caught error -/
def bIsE (ns : List Str) (h : Str) : D → Option R
  | .exc c => if c ∈ ns then some (.fz (.bl (subE c h))) else none
  | _ => none
theorem CV.exc {K : KW} {F H : Hp} {v : V} {c : Str} (h : CV K F H v (.exc c)) : ∃ a cls, v = .ref a ∧ F a = some (ExA cls a) ∧ PySem.W.nsIn K mainGlobals c = some (some cls) := by
  rcases h with h | ⟨a, o, _, _, e⟩
  · exact h
  · cases o <;> cases e
end
end DL

namespace DL
open PySem PySem.Spec L2

/-! ### a < b of data that are alike -/
def isSq : D → Bool
  | .tup _ => true
  | .lst _ => true
  | _ => false
def okLt (a b : D) : Bool := isSq a && a.flat && b.flat && PySem.W.alike a.py b.py && decide (a.py.depth ≤ 60)
def cLtD (a b : D) : Option R := if okLt a b = true then some (.fz (.bl (PySem.W.dataLt a.py b.py))) else none
def cLtG (a b : D) : Option R := match cLt a b with
  | some r => some r
  | none => cLtD a b
section
variable {X : Cx}
theorem od_ltG (hu : X.A.units + 64 < cLine) : OpD X (compareOp .Lt) cLtG := by
  intro pins s σ H x y v u Q I rx ry ⟨F, a, b, r, sm, ha, hb, ho, hr⟩
  unfold cLtG at ho
  cases e : cLt a b with
  | some r' =>
    rw [e] at ho
    cases ho
    exact od_lt pins s σ H x y v u Q I rx ry ⟨F, a, b, r, sm, ha, hb, e, hr⟩
  | none =>
    rw [e] at ho
    have ho' : cLtD a b = some r := ho
    unfold cLtD at ho'
    split at ho'
    · rename_i hz
      cases ho'
      unfold okLt at hz
      simp only [Bool.and_eq_true, decide_eq_true_eq] at hz
      obtain ⟨⟨⟨⟨h0, h1⟩, h2⟩, h3⟩, h4⟩ := hz
      obtain ⟨as, ra⟩ := Dp.reads I _ _ _ (ha.dp sm h1) rx
      obtain ⟨bs, rb⟩ := Dp.reads I _ _ _ (hb.dp sm h2) ry
      have hn : a.py ≠ .none := by
        cases a with
        | tup _ => exact fun z => nomatch z
        | lst _ => exact fun z => nomatch z
        | _ => cases h0
      have R := PySem.W.rcLt_alike a.py b.py X.A s v u as bs ra rb h3 hn (by omega)
      have z : wpAny (model X.prog X.w) X.A (compareOp .Lt v u) (EP X pins σ Q) X.xe s := R X.prog X.w X.xe (EP X pins σ Q) ⟨.bl _, H, I, rfl, hr.now sm rfl⟩
      exact z
    · cases ho'
end
end DL

namespace DL
open PySem PySem.Spec L2 PyProof.Rows
open Builtin.Str

/-! ### s[::-1] of texts and lists -/
section
variable {X : Cx} {Y : Ent} {W : WX} {pos : Pos}
def slRevG : D → Option R
  | .lst xs => some (.ow (.ls xs.reverse))
  | .str z => some (.fz (.str ⟨z.cps.toList.reverse.toArray⟩))
  | _ => none
def opRevG (x : R) : M R := fun g => match cont g x with
  | some d => done (slRevG d) g
  | none => .bad
def eRevG (f : M R) : M R := mb (pk f) opRevG
end
end DL

namespace DL
open PySem PySem.Spec L2

/-! ### tuple(range(..)) -/
def bTrg1 : D → Option R
  | .int n => if okRg 0 n then some (.fz (.tup (lrng 0 n))) else none
  | _ => none
def bTrg2 : D → D → Option R
  | .int a, .int b => if okRg a b then some (.fz (.tup (lrng a b))) else none
  | _, _ => none
section
variable {X : Cx} {Y : Ent} {W : WX} {pos : Pos} {a b e : Expr}
/-! ### s.lower() -/
def mLower : D → List D → Option R
  | .str a, [] => if a.length ≤ 5592405 ∧ (Txt.lower a).length ≤ sizeLine then some (.fz (.str (Txt.lower a))) else none
  | _, _ => none
/-! ### for .. in range(a, b, c) -/
def rngC (lo c : Int) (n : Nat) : List D := (List.range n).map fun i => .int (lo + (i : Nat) * c)
def okRg3 (i j c : Int) : Prop := c ≠ 0 ∧ c.natAbs < 1073741824 ∧ Builtin.Range.small i j c = true ∧ Builtin.Range.rangeSize i j c = ((Builtin.Range.rangeSize i j c).toNat : Int)
instance (i j c : Int) : Decidable (okRg3 i j c) := by unfold okRg3; infer_instance
def toRng3 : List R → M (List D) := fun rs g => match rs with
  | [.fz (.int i), .fz (.int j), .fz (.int c)] => if okRg3 i j c then .ok (rngC i c (Builtin.Range.rangeSize i j c).toNat) g else .bad
  | _ => .bad
def iRn3 (k : M (List R)) : M (List D) := mb k toRng3
/-! ### xs.index(x) of flat things -/
def mIndexL : D → List D → Option R
  | .lst xs, [d] => if (flatI d && xs.all flatI) = true then ((xs.map toV).findIdx? fun z => eqV z (toV d)).map fun j => .fz (.int (j : Nat)) else none
  | _, _ => none
theorem md_indexL : MtD X "list.index" mIndexL := by
  intro pins s σ H x xs v us Q I rx rs ⟨F, d, ds, r, sm, hd, hc, ho, hr⟩
  unfold mIndexL at ho
  split at ho
  · rename_i ys y
    split at ho
    · rename_i hz
      rw [Bool.and_eq_true] at hz
      cases e : (ys.map toV).findIdx? fun z => eqV z (toV y) with
      | none => rw [e] at ho; cases ho
      | some j =>
        rw [e] at ho
        cases ho
        obtain ⟨p, vs, rfl, h1, h2, h3⟩ := hd.lst sm
        obtain ⟨w, rfl, hw⟩ := hc.one
        obtain ⟨e1, f1⟩ := flatI_V hz.1 hw
        obtain ⟨e2, f2⟩ := flatI_L (H := H) hz.2 h3
        obtain ⟨hj, k1, k2⟩ := List.findIdx?_eq_some_iff_getElem.mp e
        subst e1 e2
        refine mt_index pins s σ H _ _ v us Q I rx rs ⟨p, ys.map toV, toV y, j, (ys.map toV)[j], rfl, rfl, SqL.of h1, f1, f2, List.getElem?_eq_getElem hj, k1, fun m z' hm hz' => ?_, hr.now sm rfl⟩
        obtain ⟨hl, hg⟩ := List.getElem?_eq_some_iff.mp hz'
        have := k2 m hm
        rw [hg] at this
        exact Bool.eq_false_iff.mpr this
    · cases ho
  · cases ho
end
end DL

namespace DL
open PySem PySem.Spec L2
open PyProof.Rows (envOfC)

/-! # instances of the program's own classes -/
/-! ### fields -/
def opFld (c f : Str) (r : R) : M R := fun g => match r with
  | .fz (.obj c' fs) => if c' = c then (match fs.lookup f with
    | some d => .ok (.fz d) g
    | none => .bad) else .bad
  | .at i => (match g[i]? with
    | some (some (.ow _ (.ob c' fs))) => if c' = c then (match fs.get f with
      | some (.inl d) => .ok (.fz d) g
      | some (.inr _) => .ok (.sub i f) g
      | none => .bad) else .bad
    | some (some (.op c' fs)) => if c' = c then (match fs.get f with
      | some (.inl d) => .ok (.fz d) g
      | _ => .bad) else .bad
    | _ => .bad)
  | .sub i f0 => (match g[i]? with
    | some (some (.ow _ (.ob _ fs))) => (match fs.get f0 with
      | some (.inr (.ob c' fs')) => if c' = c then (match fs'.get f with
        | some (.inl d) => .ok (.fz d) g
        | _ => .bad) else .bad
      | _ => .bad)
    | _ => .bad)
  | _ => .bad
def eFld (c f : Str) (k : M R) : M R := mb k (opFld c f)
section
variable {K : KW} {Y : Ent} {W : WX} {σ : St} {H F H' F' : Hp} {g : G}
theorem IsF.look {f : Str} {d : D} : ∀ {fs : List (Str × D)} {vs : List (Str × V)}, IsF K F vs fs → fs.lookup f = some d → ∃ v, vs.lookup f = some v ∧ Is K F v d
  | [], _, _, e => by cases e
  | (k, d') :: r, _, ⟨v, us, e1, q, t⟩, e => by
    subst e1
    rw [List.lookup_cons] at e ⊢
    cases h : f == k with
    | true => rw [h] at e; cases e; exact ⟨v, rfl, q⟩
    | false => rw [h] at e; exact t.look e
end
section
variable {X : Cx} {Y : Ent} {W : WX} {pos pos' : Pos} {e o value : Expr} {c f : Str} {C : Addr}
end

/-! ### an instance under way gets a field -/
def Fs.add : Fs → Str → (D ⊕ O) → Fs
  | .nil, f, .inl d => .fz f d .nil
  | .nil, f, .inr o => .ow f o .nil
  | .fz g d r, f, x => .fz g d (r.add f x)
  | .ow g o r, f, x => .ow g o (r.add f x)
def Fs.len : Fs → Nat
  | .nil => 0
  | .fz _ _ r => r.len + 1
  | .ow _ _ r => r.len + 1
def opPut (i : Nat) (c f : Str) (r : R) : M Fl := fun g => match g[i]? with
  | some (some (.op c' fs)) => if c' = c ∧ fs.get f = none ∧ fs.len < 1000 then (match r with
    | .fz d => .ok .nx (g.set i (some (.op c (fs.add f (.inl d)))))
    | .ow o => .ok .nx (g.set i (some (.op c (fs.add f (.inr o)))))
    | _ => .bad) else .bad
  | _ => .bad
def sFldD (i : Nat) (c f : Str) (k : M R) : M Fl := mb (eA k) (opPut i c f)
section
variable {K : KW} {Y : Ent} {W : WX} {σ : St} {H F H' F' : Hp} {g : G}
theorem FsAt.len : ∀ {fs : Fs} {vs : List (Str × V)}, FsAt K F H vs fs → vs.length = fs.len
  | .nil, _, q => by unfold FsAt at q; rw [q]; rfl
  | .fz k d r, vs, q => by unfold FsAt at q; obtain ⟨v, us, rfl, _, t⟩ := q; show us.length + 1 = _; rw [t.len]; rfl
  | .ow k o r, vs, q => by unfold FsAt at q; obtain ⟨v, us, rfl, _, t⟩ := q; show us.length + 1 = _; rw [t.len]; rfl
theorem FsAt.addO {f : Str} {o : O} {a : Addr} (qo : OwAt K F H a o) : ∀ {fs : Fs} {vs : List (Str × V)}, FsAt K F H vs fs → FsAt K F H (vs ++ [(f, .ref a)]) (fs.add f (.inr o)) ∧ footF F (vs ++ [(f, .ref a)]) (fs.add f (.inr o)) = footF F vs fs ++ foot F a o
  | .nil, _, q => by
    unfold FsAt at q; subst q
    refine ⟨?_, ?_⟩
    · show FsAt K F H [(f, .ref a)] (.ow f o .nil)
      unfold FsAt; exact ⟨a, [], rfl, qo, by unfold FsAt; rfl⟩
    · show footF F ((f, V.ref a) :: []) (.ow f o .nil) = _
      rw [footF_ow, show footF F [] Fs.nil = [] from rfl, List.append_nil]; rfl
  | .fz k d' r, vs, q => by
    unfold FsAt at q
    obtain ⟨v, us, rfl, q, t⟩ := q
    obtain ⟨h1, h2⟩ := FsAt.addO qo t
    refine ⟨?_, ?_⟩
    · show FsAt K F H ((k, v) :: (us ++ [(f, .ref a)])) (.fz k d' (r.add f (.inr o)))
      unfold FsAt; exact ⟨v, _, rfl, q, h1⟩
    · show footF F (us ++ [(f, .ref a)]) (r.add f (.inr o)) = footF F us r ++ _
      exact h2
  | .ow k o' r, vs, q => by
    unfold FsAt at q
    obtain ⟨b, us, rfl, q, t⟩ := q
    obtain ⟨h1, h2⟩ := FsAt.addO qo t
    refine ⟨?_, ?_⟩
    · show FsAt K F H ((k, .ref b) :: (us ++ [(f, .ref a)])) (.ow k o' (r.add f (.inr o)))
      unfold FsAt; exact ⟨b, _, rfl, q, h1⟩
    · show foot F b o' ++ footF F (us ++ [(f, .ref a)]) (r.add f (.inr o)) = (foot F b o' ++ footF F us r) ++ _
      rw [h2, List.append_assoc]
/-- no more fields: from now on the instance is as it is -/
def seal_ (i : Nat) (g : G) : G := match g[i]? with
  | some (some (.op c fs)) => g.set i (some (.ow true (.ob c fs)))
  | _ => g
def sSeal (i : Nat) : M Fl := fun g => .ok .nx (seal_ i g)
end
section
variable {X : Cx} {Y : Ent} {W : WX} {pos pos' px : Pos} {e o value : Expr} {c f x : Str} {C : Addr} {st : Stmt}
end
end DL

namespace DL
open PySem PySem.Spec L2
open PyProof.Rows (envOfC)

/-! ### __init__ -/
/-- what a class's __init__ makes, from its other arguments -/
abbrev ISem := List D → Res
def PostI (K : KW) (cls : Str → Value) (a : Addr) (F H : Hp) (Q : VK) (E : XK) : Res → Prop
  | .ok (.fz .non) (some o) => ∀ H' F', ExtL K (some a) [a] (some o) F H F' H' → Q .non H'
  | .ex e none => ∀ d H' F', ExtL K none [a] none F H F' H' → XD K F' H' d e.p → E (cls e.c) d H'
  | _ => False
def spI (K : KW) (cls : Str → Value) (c : Str) (n : Nat) (sem : ISem) : Sp := fun vs H Q E =>
  ∃ F a C dx us ds, vs = V.ref a :: us ∧ vs.length = n ∧ Same F H ∧ H a = some (.ins C dx []) ∧ F a = none ∧ PySem.W.nsIn K.K mainGlobals c = some (some (.ref C)) ∧ IsL K F us ds ∧ PostI K cls a F H Q E (sem ds)
def self0 (g : G) : Res := match g[(0 : Nat)]? with
  | some (some (.ow true o)) => .ok (.fz .non) (some o)
  | _ => .bad
def endI (r : Rs Fl) : Res := match r with
  | .ok .nx g => self0 g
  | .ok (.rt (.fz .non)) g => self0 g
  | .ex e _ => .ex e none
  | _ => .bad
def bodyI (n : Nat) (c : Str) (b : M Fl) : ISem := fun ds => endI (b (fill n (some (.op c .nil) :: ds.map fun d => some (.fz d))))
section
variable {K : KW} {cls : Str → Value} {H F : Hp}
end
section
variable {P : Program} {w : World} {K : PySem.W.Frag} {mg : Str → Option Value} {base : Heap} {cls : Str → Value}
end

/-! ### C(..) -/
def opMake (sem : ISem) (rs : List R) : M R := fun g => match allFz rs with
  | some ds => (match sem ds with
    | .ok (.fz .non) (some o) => .ok (.ow o) g
    | .ex e none => .ex e g
    | _ => .bad)
  | none => .bad
def eMake (sem : ISem) (k : M (List R)) : M R := mb k (opMake sem)
section
variable {X : Cx} {Y : Ent} {W : WX} {k n : Nat} {f C : Addr} {fd : FuncData} {ps : List Str} {sp : Sp} {x m c : Str} {p pos apos : Pos} {e o : Expr} {es : List Expr} {cls : Str → Value} {sem : ISem}
/-! ### o.m(..) -/
def chkRecv (c m : Str) (r : R) : DL.M Unit := fun g => match r with
  | .fz (.obj c' fs) => if c' = c ∧ fs.lookup m = none then .ok () g else .bad
  | .at i => (match g[i]? with
    | some (some (.ow _ (.ob c' fs))) => if c' = c ∧ fs.get m = none then .ok () g else .bad
    | _ => .bad)
  | .sub i f0 => (match g[i]? with
    | some (some (.ow _ (.ob _ fs))) => (match fs.get f0 with
      | some (.inr (.ob c' fs')) => if c' = c ∧ fs'.get m = none then .ok () g else .bad
      | _ => .bad)
    | _ => .bad)
  | _ => .bad
def eSelf (c m : Str) (lp : Option Nat) (sem : FSem) (o : DL.M R) (k : DL.M (List R)) : DL.M R := mb (pk o) fun r => mb (chkRecv c m r) fun _ => mb k fun rs => opCall lp sem (r :: rs)
/-- the reading of a method's call -/
def tSelfG (C : Addr) (m : Str) (sp : Sp) (W : WX) (ta : TE) (t : TA) : TE := fun σ H Q => ta σ H fun x H1 => ∃ a dx fs, x = .ref a ∧ H1 a = some (.ins C dx fs) ∧ fs.lookup m = none ∧ t σ H1 fun vs H2 => sp (x :: vs) H2 Q fun c d H' => W c d σ H'
end
end DL

/-! # sorted of a tuple of ints -/
namespace DLS
open PySem PyProof.Rows
variable {prog : Program} {w : World} {A : Around} {E : Value → Shared → Prop} {s : Shared}
/-- a tuple's items, as sorted takes them -/
theorem takeT {a : Addr} {us : List Value} {Q : List Value → Shared → Prop} (ht : IsTup s.heap a us.toArray) (few : us.length ≤ sizeLine)
    (k : Q us { s with heap := (s.heap.push (seqObj "list" #[] 0)).update s.heap.objs.size (Obj.mapSeq fun z => z ++ us.toArray) }) : wpAny (model prog w) A (collect (.ref a)) Q E s := by
  obtain ⟨ob, hget, hcls, n, hseq⟩ := ht
  have hget' : (s.heap.push (seqObj "list" #[] 0)).get? a = some ob := Heap.get?_push_of_some _ hget
  have own : (s.heap.push (seqObj "list" #[] 0)).get? s.heap.objs.size = some (seqObj "list" #[] 0) := Heap.get?_push_size _ rfl
  unfold collect
  refine wpAny_bind (wpAny_runValue (codeAny_builtin entry_proto_collect' ?_))
  refine wpAny_bind (wpAny_newList (wpAny_pure ⟨Code.quiet_builtin _ (by decide +kernel), codeAny_builtin entry_list_iadd' ?_⟩))
  unfold Builtin.«list.__iadd__»
  show wpAny (model prog w) _ (Builtin.List.listExtendWith _ (.ref a) _) _ _ _
  unfold Builtin.List.listExtendWith
  refine wpAny_bind (wpAny_typeOf (T := "tuple") ⟨ob, hget', hcls⟩ ?_)
  have isT : (Value.type "tuple" == Value.type "tuple") = true := by rfl
  rw [if_pos (by rw [isT]; simp)]
  refine wpAny_bind (listItems_at hget' hseq ?_)
  refine wpAny_bind (listItems_at (n := 0) (xs := #[]) own rfl ?_)
  rw [if_neg (by simp)]
  have room : ((#[] : Array Value) ++ us.toArray).size ≤ sizeLine + 1 := by simp; omega
  refine wpAny_bind (listUpdate_at (n := 0) (xs := #[]) own rfl (wpAny_pure ?_) (Nat.zero_le _) room)
  refine wpAny_bind (wpAny_load (get?_update_seq own _) ?_)
  refine wpAny_pure ?_
  have e : ((#[] : Array Value) ++ us.toArray).toList = us := by simp
  show Q ((#[] : Array Value) ++ us.toArray).toList _
  rw [e]; exact k
theorem sortT {a : Addr} {us : List Value} {ns : List Int} {Q : Value → Shared → Prop} (ht : IsTup s.heap a us.toArray) (hI : IntsAre us ns) (few : us.length ≤ sizeLine)
    (k : ∀ (out : Array Value) (ms : List Int), IntsAre out.toList ms → ms.Perm ns → ms.Pairwise (· ≤ ·) → Q (.ref (s.heap.objs.size + 1)) { s with heap := sortedAll s.heap us out }) : wpAny (model prog w) A (call (.builtin "sorted") [.ref a]) Q E s := by
  have two : ((s.heap.push (seqObj "list" #[] 0)).update s.heap.objs.size (Obj.mapSeq fun z => z ++ us.toArray)).objs.size = s.heap.objs.size + 1 := (Heap.size_update ..).trans (size_push' ..)
  have there : (((s.heap.push (seqObj "list" #[] 0)).update s.heap.objs.size (Obj.mapSeq fun z => z ++ us.toArray)).push (seqObj "list" us.toArray 0)).get? (s.heap.objs.size + 1) = some (seqObj "list" us.toArray 0) :=
    two ▸ Heap.get?_push_size _ rfl
  apply Calls.call_function_entry kind_sorted plain_sorted entry_sorted (args_sorted1 _)
  unfold Builtin.«sorted»
  apply wpAny_bind (m := checkCount "sorted" 1 1 _)
  apply wpAny_pure
  apply wpAny_bind
  apply takeT ht few
  apply wpAny_bind
  refine wpAny_newList ?_ (hsz := few)
  show wpAny (model prog w) _ _ _ _ { s with heap := ((s.heap.push (seqObj "list" #[] 0)).update s.heap.objs.size (Obj.mapSeq fun z => z ++ us.toArray)).push (seqObj "list" us.toArray 0) }
  rw [two]
  apply wpAny_bind
  apply wpAny_holding
  refine wpAny_call_entry slot_list_sort ⟨_, there, rfl⟩ entry_list_sort (list_sort_treeAny there hI few fun out ms h1 h2 h3 => ?_) (args_list_sort _)
  exact ⟨_, rfl, wpAny_pure ⟨_, rfl, k out ms h1 h2 h3⟩⟩
end DLS
namespace DL
open PySem PySem.Spec L2
section
variable {X : Cx}
theorem call_sortT : CallR X (.builtin "sorted") (fun vs H Q => ∃ (a : Addr) (ns : List Int), vs = [V.ref a] ∧ SqT X.K H a (ns.map V.int) ∧ ns.length ≤ sizeLine ∧ ∀ (p : Addr), H p = none → Q (.ref p) (upd H p (.lst ((srt ns).map V.int)))) := by
  intro pins s σ H vs us Q I r ⟨a, ns, e, hs, few, q⟩
  subst e
  rw [Vals.ref1 r]
  obtain ⟨its, rv, ht, _⟩ := I.tuple hs
  have hI := rv.ints
  have few' : its.length ≤ sizeLine := by have := rv.length; rw [List.length_map] at this; omega
  refine DLS.sortT ht hI few' fun out ms h1 h2 h3 => ?_
  obtain ⟨ep, he⟩ := PyProof.Rows.sortedAll_at s.heap its out
  have e : ms = srt ns := srt_of h2 h3
  subst e
  exact ⟨.ref _, upd H (s.heap.objs.size + 1) (.lst ((srt ns).map V.int)), I.laid (t' := s.toks) (fun _ _ => PyProof.Rows.sortedAll_old) (Nat.le_succ _) ⟨by rw [List.length_map, h2.length_eq]; exact few, out.toList, ep, vals_ints h1, he⟩, rfl, q _ (I.hok.fresh (Nat.le_succ _))⟩
def fSortG : List D → Option R
  | [.tup xs] => (intsOf xs).map fun ns => .ow (.ls ((srt ns).map D.int))
  | ds => fSort ds
theorem cd_sortG : CallD X (.builtin "sorted") fSortG := by
  intro pins s σ H xs us Q I r ⟨F, ds, r', sm, hc, ho, hr⟩
  unfold fSortG at ho
  split at ho
  · rename_i ds
    cases e : intsOf ds with
    | none => rw [e] at ho; cases ho
    | some ns =>
      rw [e] at ho; cases ho
      obtain ⟨v, rfl, q⟩ := hc.one
      obtain ⟨a, vs, rfl, h1, h2, h3⟩ := q.tup
      have e' := intsOf_eq e
      subst e'
      have e2 := h3.ints'
      subst e2
      rw [List.length_map] at h2
      exact call_sortT pins s σ H _ us Q I r ⟨a, ns, rfl, sqT_mono sm h1, h2, fun p hp => hr.ls sm (IsL.ints _) (by rw [List.length_map, (srt_perm ns).length_eq]; exact h2) hp⟩
  · exact cd_sort pins s σ H xs us Q I r ⟨F, ds, r', sm, hc, ho, hr⟩
end
end DL

namespace DL
open PySem PySem.Spec L2
/-! # dicts: displays, in, comprehensions, methods; comprehensions with two fors -/
section
variable {K : KW} {Y : Ent} {W : WX} {σ : St} {H F : Hp} {g : G}
theorem Rel.fresh {q : Addr} (r : Rel K Y σ H g F) (h : H q = none) : Y.F0 q = none ∧ Y.B q = none ∧ Y.H0 q = none ∧ q ∉ Y.la := by
  have hH0 : Y.H0 q = none := by
    cases e0 : Y.H0 q with
    | none => rfl
    | some x => exact absurd h (r.dom q (by rw [e0]; simp))
  refine ⟨?_, ?_, hH0, fun z => r.lad q z hH0⟩
  · cases e0 : Y.F0 q with
    | none => rfl
    | some x => rw [r.sub _ _ (r.base _ _ e0)] at h; cases h
  · cases e0 : Y.B q with
    | none => rfl
    | some x => rw [r.keep _ _ e0] at h; cases h
/-- a new object of ours, made under guard -/
theorem Rel.gdOw {q : Addr} {u : HO} {o : O} (r : Rel K (Y.gd q u) σ H g F) (h0 : Y.F0 q = none) (hB : Y.B q = none) (hH : Y.H0 q = none) (hl : q ∉ Y.la) (lf : o.leaf = true) (ho : OwAt K F H q o) : RV K Y σ F H g (.ref q) (.ow o) := by
  refine ⟨q, rfl, ho, by rw [foot_leaf lf]; simp, fun b hb => ?_⟩
  rw [foot_leaf lf, List.mem_singleton] at hb
  subst hb
  refine ⟨r.gdF h0 hl, hB, hH, fun j t v ej hj z => ?_⟩
  have k4 : upd Y.B b u b = none := ((r.at_ ej hj).cells b z).2.1
  rw [upd_same] at k4
  cases k4
end
/-! ### {k: v} -/
def mkD1 (x y : R) : M R := fun g => match x, y with
  | .fz kd, .fz d => match keyD kd with
    | some k => .ok (.ow (.dk [(k, d)])) g
    | none => .bad
  | _, _ => .bad
def eDict1 (f k : M R) : M R := mb (pk f) fun x => mb (esc k) fun y => mkD1 x y
def tZW (K : KW) (Y : Ent) (W : WX) (e : M R) : TE := fun σ H Q => ∃ Z : Ent, Z.cls = Y.cls ∧ tD K Z W e σ H Q
section
variable {X : Cx} {Y : Ent} {W : WX} {pos : Pos}
theorem post_ungd {K : KW} {σ : St} {F : Hp} {q : Addr} {u : HO} {J : R → G → Hp → Hp → Prop} {x : Rs R} (hB : Y.B q = none) (hH : Y.H0 q = none) (hl : q ∉ Y.la)
    (h : Post K Y W σ F (fun a g H' F' => Rel K (Y.gd q u) σ H' g F' → J a g H' F') x) : Post K (Y.gd q u) W σ F J x := by
  cases x with
  | bad => exact h
  | ex e g => exact fun d H' F' r s xd => h d H' F' (r.ungd hB hH hl) s xd
  | ok a g => exact fun H' F' r s => h H' F' (r.ungd hB hH hl) s r
theorem de_dict1 {a b : Expr} {f k : M R} (ha : ∀ Z : Ent, Z.cls = Y.cls → DE X Z W a f) (hb : ∀ Z : Ent, Z.cls = Y.cls → DE X Z W b k) : DE X Y W (.Dict [some a] [b] pos) (eDict1 f k) := by
  have h1 : PE X a (tZW X.kw Y W (pk f)) := ⟨fun pins s σ H Q I ⟨Z, hZ, q⟩ => (de_pk (ha Z hZ)).run pins s σ H Q I q⟩
  have h2 : PE X b (tZW X.kw Y W (esc k)) := ⟨fun pins s σ H Q I ⟨Z, hZ, q⟩ => (de_esc (hb Z hZ)).run pins s σ H Q I q⟩
  refine pe_mono (pe_disp (pps_cons h1 h2 pps_nil) rfl rfl (by simp) (by show 1 ≤ 15; decide)) fun σ H Q ⟨g, F, r, p⟩ q hq => ?_
  obtain ⟨hF, hB, hH, hl⟩ := r.fresh hq
  refine ⟨Y.gd q (.dK []), rfl, g, F, r.guard hq, post_ungd hB hH hl ((p.bind).imp fun x g1 H1 F1 r1 s1 p1 rz v hv => ?_)⟩
  have p1' := p1.bind
  refine ⟨Y.gd q (.dK []), rfl, g1, F1, rz, post_ungd hB hH hl (p1'.imp fun y g2 H2 F2 r2 s2 p2 rz2 w hw => ?_)⟩
  refine ⟨rz2.gdAt, ?_⟩
  cases x with
  | ow _ => exact (show Post X.kw Y W σ F2 (JV X.kw Y σ Q) Rs.bad from p2).elim
  | «at» _ => exact (show Post X.kw Y W σ F2 (JV X.kw Y σ Q) Rs.bad from p2).elim
  | sub _ _ => exact (show Post X.kw Y W σ F2 (JV X.kw Y σ Q) Rs.bad from p2).elim
  | fz kd =>
    cases y with
    | ow _ => exact (show Post X.kw Y W σ F2 (JV X.kw Y σ Q) Rs.bad from p2).elim
    | «at» _ => exact (show Post X.kw Y W σ F2 (JV X.kw Y σ Q) Rs.bad from p2).elim
    | sub _ _ => exact (show Post X.kw Y W σ F2 (JV X.kw Y σ Q) Rs.bad from p2).elim
    | fz d =>
      unfold mkD1 at p2
      simp only at p2
      split at p2
      · rename_i kk ek
        have ev := keyD_V ek (.inl (Is.mono s2 _ _ hv) : CV X.kw F2 H2 v kd)
        refine ⟨[(kk, w)], by rw [ev]; rfl, by show 1 ≤ 15; decide, ?_⟩
        have r3 := rz2.bump (u' := .dK [(kk, w)]) hF hl
        exact p2 _ F2 (r3.ungd hB hH hl) (Same.refl _) _ (r3.gdOw hF hB hH hl rfl ⟨[(kk, w)], upd_same, by show 1 ≤ sizeLine; rw [sizeLine_eq]; decide, w, [], rfl, hw, rfl⟩)
      · exact p2.elim
end
/-! ### k in d -/
def cDin (ng : Bool) : D → D → Option R
  | k, .dk kvs => (keyD k).map fun k => .fz (.bl (xor ng (valD kvs k).isSome))
  | k, .lk kvs => (keyD k).map fun k => .fz (.bl (xor ng (valD kvs k).isSome))
  | _, _ => none
section
variable {X : Cx} {Y : Ent} {W : WX} {pos : Pos} {K : KW} {F H : Hp}
theorem IsK.valN (k : Key) : ∀ {ks : List (Key × V)} {kvs : List (Key × D)}, IsK K F ks kvs → (valV ks k).isSome = (valD kvs k).isSome
  | _, [], h => by rw [show _ = [] from h]; rfl
  | _, (k', d') :: r, ⟨v, s, e, q, t⟩ => by
    subst e
    by_cases ek : k' = k
    · simp [valV, valD, List.find?_cons, ek]
    · have := IsK.valN k t
      simpa [valV, valD, List.find?_cons, ek] using this
theorem din_of {ng : Bool} {x y : V} {a b : D} {r : R} {Q : VK} (sm : Same F H) (hx : CV K F H x a) (hy : CV K F H y b) (ho : cDin ng a b = some r) (hr : RP K F H Q r) : ∃ p o, y = .ref p ∧ DGet H p x o ∧ Q (.bl (xor ng o.isSome)) H := by
  have key : ∀ kvs, (b = .dk kvs ∨ b = .lk kvs) → (keyD a).map (fun k => R.fz (.bl (xor ng (valD kvs k).isSome))) = some r → ∃ p o, y = .ref p ∧ DGet H p x o ∧ Q (.bl (xor ng o.isSome)) H := fun kvs ed ho => by
    obtain ⟨k, ek, e⟩ := Option.map_eq_some_iff.mp ho
    subst e
    have e := keyD_V ek hx
    subst e
    obtain ⟨p, ks, rfl, h1, h2, h3⟩ := hy.dkl sm ed
    exact ⟨p, _, rfl, .inl ⟨ks, k, h1, rfl, rfl⟩, by rw [h3.valN k]; exact hr.now sm rfl⟩
  cases b with
  | dk kvs => exact key kvs (.inl rfl) ho
  | lk kvs => exact key kvs (.inr rfl) ho
  | _ => cases a <;> cases ho
theorem dt_dnin {a b : Expr} {f k : M R} (hu : X.A.units + 1 < cLine) (ha : DE X Y W a f) (hb : DE X Y W b k) (hm : behindInMarks .NotIn b = false := by with_unfolding_all rfl) : DT X Y W (.Compare a [.NotIn] [b] pos) (eTest (eB (cDin true) f k)) :=
  pt_mono (pt_cmp (pc_dnotin hu (de_pk ha) (de_pk hb)) hm) fun σ H Q h => by
    obtain ⟨g, F, r, p⟩ := two_args ha hb (test_of h)
    refine ⟨g, F, r, p.imp fun x g1 H1 F1 r1 s1 q v hv => ?_⟩
    obtain ⟨g2, F2, r2, p2⟩ := q v hv
    refine ⟨g2, F2, r2, p2.imp fun y g3 H3 F3 r3 s3 q3 w hw => ?_⟩
    obtain ⟨F4, da, db, rr, sm, h1, h2, hop, hr⟩ := q3 w hw
    obtain ⟨p, o, e1, e2, e3⟩ := din_of sm h1 h2 hop hr
    exact ⟨p, o, e1, e2, by simpa using e3⟩
/-! ### len(d), d.get -/
def fLenK : List D → Option R
  | [.dk kvs] => some (.fz (.int kvs.length))
  | [.lk kvs] => some (.fz (.int kvs.length))
  | _ => none
def mGetK : D → List D → Option R
  | .dk kvs, [k] => (keyD k).map fun k => .fz ((valD kvs k).getD .non)
  | .dk kvs, [k, d] => (keyD k).map fun k => .fz ((valD kvs k).getD d)
  | .lk kvs, [k] => (keyD k).map fun k => .fz ((valD kvs k).getD .non)
  | .lk kvs, [k, d] => (keyD k).map fun k => .fz ((valD kvs k).getD d)
  | _, _ => none
theorem IsK.getD (k : Key) {v0 : V} {d0 : D} {ks : List (Key × V)} {kvs : List (Key × D)} (h : IsK K F ks kvs) (q : Is K F v0 d0) : Is K F ((valV ks k).getD v0) ((valD kvs k).getD d0) := by
  cases e : valD kvs k with
  | none =>
    have := h.valN k
    rw [e] at this
    cases e2 : valV ks k with
    | none => exact q
    | some v => rw [e2] at this; cases this
  | some d =>
    obtain ⟨v, h1, h2⟩ := h.val k e
    rw [h1]; exact h2
/-- what is never an object of ours -/
def D.plain : D → Bool
  | .non | .bl _ | .int _ | .str _ | .tup _ => true
  | _ => false
theorem CV.plain {v : V} {d : D} (h : CV K F H v d) (p : d.plain = true) : Is K F v d := by
  cases d with
  | non => rw [h.non]; exact rfl
  | bl b => rw [h.bl]; exact rfl
  | int i => rw [h.int]; exact rfl
  | str z => obtain ⟨e, q⟩ := h.str; rw [e]; exact ⟨rfl, q⟩
  | tup ds => exact h.tup
  | _ => cases p
def mGetP : D → List D → Option R
  | d, [k] => mGetK d [k]
  | d, [k, x] => if x.plain = true then mGetK d [k, x] else none
  | _, _ => none
/-! ### setdefault, pop -/
def uSetd : O → List D → Option (O × D)
  | .dk kvs, [k, d] => (keyD k).bind fun k => if kvs.length < sizeLine then (match valD kvs k with
    | some x => some (.dk kvs, x)
    | none => some (.dk (putD kvs k d), d)) else none
  | _, _ => none
def dropKD (kvs : List (Key × D)) (k : Key) : List (Key × D) := kvs.filter fun kv => decide (kv.1 ≠ k)
def uPopK : O → List D → Option (O × D)
  | .dk kvs, [k, d] => (keyD k).map fun k => match valD kvs k with
    | some x => (.dk (dropKD kvs k), x)
    | none => (.dk kvs, d)
  | _, _ => none
theorem IsK.drop (k : Key) : ∀ {ks : List (Key × V)} {kvs : List (Key × D)}, IsK K F ks kvs → IsK K F (dropK ks k) (dropKD kvs k)
  | _, [], h => by rw [show _ = [] from h]; rfl
  | _, (k', d) :: r, ⟨v, s, e, q, t⟩ => by
    subst e
    unfold dropK dropKD
    by_cases ek : k' = k
    · rw [List.filter_cons_of_neg (by simp [ek]), List.filter_cons_of_neg (by simp [ek])]; exact IsK.drop k t
    · rw [List.filter_cons_of_pos (by simp [ek]), List.filter_cons_of_pos (by simp [ek])]; exact ⟨v, _, rfl, q, IsK.drop k t⟩
instance : LeafOp uSetd := ⟨fun o ds o' d e => by
  unfold uSetd at e
  split at e
  · obtain ⟨k, _, e⟩ := Option.bind_eq_some_iff.mp e
    split at e
    · split at e <;> (cases e; exact ⟨rfl, rfl⟩)
    · cases e
  · cases e⟩
instance : LeafOp uPopK := ⟨fun o ds o' d e => by
  unfold uPopK at e
  split at e
  · obtain ⟨k, _, e⟩ := Option.map_eq_some_iff.mp e
    split at e <;> (cases e; exact ⟨rfl, rfl⟩)
  · cases e⟩
end
end DL

namespace DL
open PySem PySem.Spec L2
/-! # dict comprehensions, comprehensions with two fors -/
def dcL (t : R → M Unit) (c : M Bool) (k e : M R) (vs : List Nat) : List D → List (Key × D) → M (List (Key × D))
  | [], acc => fun g => .ok acc g
  | d :: ds, acc => fun g => (noEx (t (.fz d) (wipeG g vs))).andThen fun _ g1 => (noEx (c g1)).andThen fun b g2 =>
      if b = true then (noEx (pk k g2)).andThen fun x g3 => (noEx (esc e g3)).andThen fun y g4 => match x, y with
        | .fz kd, .fz y => (match keyD kd with
          | some kk => dcL t c k e vs ds (putD acc kk y) g4
          | none => .bad)
        | _, _ => .bad
      else dcL t c k e vs ds acc g2
def eDc (it : M (List D)) (t : R → M Unit) (c : M Bool) (k e : M R) (vs : List Nat) : M R := mb it fun ds g => if ds.length ≤ sizeLine then (dcL t c k e vs ds [] g).andThen fun acc g2 => .ok (.ow (.dk acc)) (backG g g2 vs) else .bad
theorem noEx_then {α β : Type} {x : Rs α} {k : α → G → Rs β} (h : ∀ a g e g', k a g ≠ .ex e g') : ∀ e g', (noEx x).andThen k ≠ .ex e g' := by
  intro e g' q
  cases x with
  | bad => cases q
  | ex _ _ => cases q
  | ok a g => exact h a g e g' q
theorem wipeG_not {g : G} {j : Nat} : ∀ {vs : List Nat}, j ∉ vs → (wipeG g vs)[j]? = g[j]?
  | [], _ => rfl
  | v :: vs, h => by
    unfold wipeG
    rw [List.getElem?_set_ne (fun z => h (by simp [z])), wipeG_not (fun z => h (List.mem_cons_of_mem _ z))]
theorem wipe_tg {σ σ2 : St} {ts vs : List Nat} (hts : ∀ j ∈ ts, j ∈ vs) (l4 : σ2.length = (wipe σ vs).length) (k4 : ∀ j, j ∉ ts → σ2[j]? = (wipe σ vs)[j]?) : wipe σ2 vs = wipe σ vs := by
  have w1 : wipe σ2 vs = wipe (wipe σ vs) vs := wipe_same l4 k4 hts
  have w2 : wipe (wipe σ vs) vs = wipe σ vs := wipe_same (ts := vs) (wipe_length σ vs) (fun j hj => wipe_get hj) (fun j hj => hj)
  rw [w1, w2]
section
variable {K : KW} {Y : Ent} {σ : St} {H F F1 : Hp} {g1 g2 : G}
/-- the block is left: the object made under guard is a new one -/
theorem Rel.outOf {q : Addr} {u : HO} {o : O} {vs : List Nat} {Hi Fi : Hp} (r1 : Rel K Y σ H g1 F1) (ri : Rel K (Y.gd q u) (L2.wipe σ vs) Hi (wipeG g2 vs) Fi) (h0 : Y.F0 q = none) (hB : Y.B q = none) (hH : Y.H0 q = none) (hl : q ∉ Y.la) (si : Same F1 Fi) (lf : o.leaf = true) (ho : OwAt K Fi Hi q o) :
    Rel K Y σ Hi (backG g1 g2 vs) Fi ∧ RV K Y σ Fi Hi (backG g1 g2 vs) (.ref q) (.ow o) := by
  refine ⟨r1.back (ri.ungd hB hH hl) si, q, rfl, ho, by rw [foot_leaf lf]; simp, fun b hb => ?_⟩
  rw [foot_leaf lf, List.mem_singleton] at hb
  subst hb
  refine ⟨ri.gdF h0 hl, hB, hH, fun j t v ej hj z => ?_⟩
  rcases backG_get ej with ⟨_, d', ed, _⟩ | ⟨nj, ej'⟩
  · subst ed; rw [sf_fz] at z; cases z
  · have k4 : upd Y.B b u b = none := ((ri.at_ (by rw [wipeG_not nj]; exact ej') (by rw [wipe_get nj]; exact hj)).cells b z).2.1
    rw [upd_same] at k4
    cases k4
end
section
variable {X : Cx} {Y : Ent} {W : WX}
end
section
variable {X : Cx} {Y : Ent} {W : WX} {pos : Pos}
end
end DL

namespace DL
open PySem PySem.Spec L2
/-! # comprehensions with two fors -/
def lc2L (t : R → M Unit) (c : M Bool) (fi : M (List D)) (t1 : R → M Unit) (c1 : M Bool) (e : M R) (vs vs1 : List Nat) : List D → List D → M (List D)
  | [], acc => fun g => .ok acc g
  | d :: ds, acc => fun g => (noEx (t (.fz d) (wipeG g vs))).andThen fun _ g1 => (noEx (c g1)).andThen fun b g2 =>
      if b = true then (noEx (fi g2)).andThen fun ds1 g3 =>
        if acc.length + ds1.length ≤ sizeLine then (noEx (lcL t1 c1 e vs1 ds1 acc g3)).andThen fun acc2 g4 => lc2L t c fi t1 c1 e vs vs1 ds acc2 (wipeG g4 vs1) else .bad
      else lc2L t c fi t1 c1 e vs vs1 ds acc g2
def eLc2 (it : M (List D)) (t : R → M Unit) (c : M Bool) (fi : M (List D)) (t1 : R → M Unit) (c1 : M Bool) (e : M R) (vs vs1 : List Nat) : M R :=
  mb it fun ds g => if ds.length ≤ sizeLine then (lc2L t c fi t1 c1 e vs vs1 ds [] g).andThen fun acc g2 => .ok (.ow (.ls acc)) (backG g g2 vs) else .bad
theorem lc2L_noex {t : R → M Unit} {c : M Bool} {fi : M (List D)} {t1 : R → M Unit} {c1 : M Bool} {e : M R} {vs vs1 : List Nat} : ∀ (ds acc : List D) (g : G) x g', lc2L t c fi t1 c1 e vs vs1 ds acc g ≠ .ex x g'
  | [], acc, g, x, g' => fun h => by cases h
  | d :: ds, acc, g, x, g' => by
    unfold lc2L
    refine noEx_then (fun _ g1 => noEx_then fun b g2 => ?_) x g'
    intro e1 g1'
    split
    · refine noEx_then (fun x1 g3 => ?_) e1 g1'
      intro e2 g2'
      split
      · exact noEx_then (fun acc2 g4 => lc2L_noex ds acc2 _) e2 g2'
      · intro h; cases h
    · exact lc2L_noex ds acc g2 e1 g1'
section
variable {X : Cx} {Y : Ent} {W : WX}
theorem lc2_sem {f : M (List D)} {t : R → M Unit} {c : M Bool} {fi : M (List D)} {t1 : R → M Unit} {c1 : M Bool} {e : M R} {vs vs1 ts ts1 : List Nat} {gt gt1 : TG} {tt tt1 : TT} {te : TE} {wi1 : TI} (hts : ∀ j ∈ ts, j ∈ vs) (hts1 : ∀ j ∈ ts1, j ∈ vs1) (hv : ∀ j ∈ vs1, j ∈ vs)
    (ht : ∀ (Z : Ent), Z.cls = Y.cls → ∀ v σ H Q, tG X.kw Z ts t v σ H Q → gt v σ H Q) (hc : ∀ (Z : Ent), Z.cls = Y.cls → ∀ σ H Q, tT X.kw Z W0 c σ H Q → tt σ H Q)
    (hi : ∀ (Z : Ent), Z.cls = Y.cls → ∀ σ H R, tI X.kw Z W0 fi σ H R → wi1 σ H R)
    (ht1 : ∀ (Z : Ent), Z.cls = Y.cls → ∀ v σ H Q, tG X.kw Z ts1 t1 v σ H Q → gt1 v σ H Q) (hc1 : ∀ (Z : Ent), Z.cls = Y.cls → ∀ σ H Q, tT X.kw Z W0 c1 σ H Q → tt1 σ H Q)
    (he : ∀ (Z : Ent), Z.cls = Y.cls → ∀ σ H Q, tD X.kw Z W0 (esc e) σ H Q → te σ H Q)
    {σ : St} {H : Hp} {Q : VK} (h : tD X.kw Y W (eLc2 f t c fi t1 c1 e vs vs1) σ H Q) : tLc2 (tI X.kw Y W f) gt tt wi1 gt1 tt1 te vs vs1 σ H Q := by
  obtain ⟨g, F, r, p⟩ := h
  refine ⟨g, F, r, (p.bind).imp fun ds g1 H1' F1' r1' s1 q J H1 F1 r1 s11 srv q' hq' => ?_⟩
  split at q
  rotate_left
  · exact q.elim
  rename_i hsz
  obtain ⟨hF0, hB, hH0, hLa⟩ := r1.fresh hq'
  obtain ⟨accF, g2, eF, fin⟩ : ∃ accF g2, lc2L t c fi t1 c1 e vs vs1 ds [] g1 = .ok accF g2 ∧ ∀ H' F', Rel X.kw Y σ H' (backG g1 g2 vs) F' → Same F1' F' → ∀ v, RV X.kw Y σ F' H' (backG g1 g2 vs) v (.ow (.ls accF)) → Q v H' := by
    cases ex : lc2L t c fi t1 c1 e vs vs1 ds [] g1 with
    | bad => rw [ex] at q; exact q.elim
    | ex x g' => exact absurd ex (lc2L_noex _ _ _ _ _)
    | ok accF g2 => rw [ex] at q; exact ⟨accF, g2, rfl, q⟩
  refine ⟨fun i m Hi => i ≤ ds.length ∧ m = ds.length - i ∧ ∃ gi Fi acc accV, lc2L t c fi t1 c1 e vs vs1 (ds.drop i) acc gi = .ok accF g2 ∧ Rel X.kw (Y.gd q' (.lst accV)) (wipe σ vs) Hi (wipeG gi vs) Fi ∧ Same F1 Fi ∧ IsL X.kw Fi accV acc ∧ acc.length ≤ sizeLine,
    ⟨ds.length, Nat.zero_le _, rfl, g1, F1, [], [], eF, (r1.wipe vs).guard hq', Same.refl _, rfl, Nat.zero_le _⟩, fun i m Hi ⟨hi', hm, gi, Fi, acc, accV, ei, ri, si, li, lei⟩ => ?_⟩
  obtain ⟨hgo, hst⟩ := srv Hi Fi si ri.sub
  by_cases hl : i < ds.length
  · right
    have ed : ds.drop i = ds[i] :: ds.drop (i + 1) := List.drop_eq_getElem_cons hl
    obtain ⟨g1', hy⟩ := hgo i ds[i] (List.getElem?_eq_getElem hl)
    refine ⟨g1', fun Hn => i + 1 ≤ ds.length ∧ ∃ gi Fi acc accV, lc2L t c fi t1 c1 e vs vs1 (ds.drop (i + 1)) acc gi = .ok accF g2 ∧ Rel X.kw (Y.gd q' (.lst accV)) (wipe σ vs) Hn (wipeG gi vs) Fi ∧ Same F1 Fi ∧ IsL X.kw Fi accV acc ∧ acc.length ≤ sizeLine, fun H'' ⟨h1, h2⟩ => ⟨m - 1, by omega, h1, by omega, h2⟩, fun x H'' hx => ?_⟩
    obtain ⟨F', ex, qx⟩ := hy x H'' hx
    have r3 := ri.ext ex
    rw [ed] at ei
    unfold lc2L at ei
    obtain ⟨_, ga, e1, ei1⟩ := then_inv ei
    obtain ⟨b, gb, e2, ei2⟩ := then_inv ei1
    refine ht (Y.gd q' (.lst accV)) rfl _ _ _ _ ⟨_, F', .fz ds[i], r3, qx, ?_⟩
    rw [e1]
    intro σ2 H3 F3 r4 s4 l4 k4
    have hw := wipe_tg hts l4 k4
    refine ⟨hw, hc (Y.gd q' (.lst accV)) rfl _ _ _ ⟨ga, F3, r4, blk_step e2 fun H4 F4 r5 s5 => ?_⟩⟩
    have sF : Same Fi F4 := ex.ff.trans (s4.trans s5)
    cases b with
    | false =>
      rw [if_neg Bool.false_ne_true] at ei2
      refine (show _ ∧ _ from ⟨hl, gb, F4, acc, accV, ei2, ?_, si.trans sF, IsL.mono sF _ _ li, lei⟩)
      have := r5.wipe vs
      rw [hw] at this
      exact this
    | true =>
      rw [if_pos rfl] at ei2
      obtain ⟨ds1, gc, e3, ei3⟩ := then_inv ei2
      split at ei3
      rotate_left
      · cases ei3
      rename_i hsz1
      obtain ⟨acc2, gd, e4, ei4⟩ := then_inv ei3
      refine (show wi1 σ2 H4 _ from hi (Y.gd q' (.lst accV)) rfl _ _ _ ⟨gb, F4, r5, blk_step e3 fun H5 F5 r6 s6 J1 H6 F6 r7 s7 srv1 => ?_⟩)
      have li6 : IsL X.kw F6 accV acc := IsL.mono (sF.trans (s6.trans s7)) _ _ li
      refine ⟨fun j k Hj => j ≤ ds1.length ∧ k = ds1.length - j ∧ ∃ gj Fj accj accW, lcL t1 c1 e vs1 (ds1.drop j) accj gj = .ok acc2 gd ∧ Rel X.kw (Y.gd q' (.lst accW)) (wipe σ2 vs1) Hj (wipeG gj vs1) Fj ∧ Same F6 Fj ∧ IsL X.kw Fj accW accj ∧ accj.length ≤ acc.length + j,
        ⟨ds1.length, Nat.zero_le _, rfl, gc, F6, acc, accV, e4, r7.wipe vs1, Same.refl _, li6, Nat.le_refl _⟩, fun j k Hj ⟨hj, hk, gj, Fj, accj, accW, ej, rj, sj, lj, lej⟩ => ?_⟩
      obtain ⟨hgo1, hst1⟩ := srv1 Hj Fj sj rj.sub
      by_cases hl1 : j < ds1.length
      · right
        have ed1 : ds1.drop j = ds1[j] :: ds1.drop (j + 1) := List.drop_eq_getElem_cons hl1
        obtain ⟨g2', hy1⟩ := hgo1 j ds1[j] (List.getElem?_eq_getElem hl1)
        refine ⟨g2', fun Hn => j + 1 ≤ ds1.length ∧ ∃ gj Fj accj accW, lcL t1 c1 e vs1 (ds1.drop (j + 1)) accj gj = .ok acc2 gd ∧ Rel X.kw (Y.gd q' (.lst accW)) (wipe σ2 vs1) Hn (wipeG gj vs1) Fj ∧ Same F6 Fj ∧ IsL X.kw Fj accW accj ∧ accj.length ≤ acc.length + (j + 1), fun H'' ⟨h1, h2⟩ => ⟨k - 1, by omega, h1, by omega, h2⟩, fun x1 H7 hx1 => ?_⟩
        obtain ⟨F7, ex1, qx1⟩ := hy1 x1 H7 hx1
        have t3 := rj.ext ex1
        rw [ed1] at ej
        unfold lcL at ej
        obtain ⟨_, gda, d1, ej1⟩ := then_inv ej
        obtain ⟨b1, gdb, d2, ej2⟩ := then_inv ej1
        refine ht1 (Y.gd q' (.lst accW)) rfl _ _ _ _ ⟨_, F7, .fz ds1[j], t3, qx1, ?_⟩
        rw [d1]
        intro σ3 H8 F8 t4 u4 m4 n4
        have hw1 := wipe_tg hts1 m4 n4
        refine ⟨hw1, hc1 (Y.gd q' (.lst accW)) rfl _ _ _ ⟨gda, F8, t4, blk_step d2 fun H9 F9 t5 u5 => ?_⟩⟩
        have sG : Same Fj F9 := ex1.ff.trans (u4.trans u5)
        cases b1 with
        | false =>
          rw [if_neg Bool.false_ne_true] at ej2
          refine (show _ ∧ _ from ⟨hl1, gdb, F9, accj, accW, ej2, ?_, sj.trans sG, IsL.mono sG _ _ lj, by omega⟩)
          have := t5.wipe vs1
          rw [hw1] at this
          exact this
        | true =>
          rw [if_pos rfl] at ej2
          obtain ⟨x3, gdc, d3, ej3⟩ := then_inv ej2
          refine (show te σ3 H9 _ from he (Y.gd q' (.lst accW)) rfl _ _ _ ⟨gdb, F9, t5, blk_step d3 fun Ha Fa t6 u6 w hw5 => ?_⟩)
          cases x3 with
          | ow _ => cases ej3
          | sub _ _ => cases ej3
          | «at» _ => cases ej3
          | fz y =>
            have lja : IsL X.kw Fa accW accj := IsL.mono (sG.trans u6) _ _ lj
            refine ⟨accW, t6.gdAt, by rw [lja.length]; omega, hl1, gdc, Fa, accj ++ [y], accW ++ [w], ej3, ?_, sj.trans (sG.trans u6), lja.append (.one hw5), by rw [List.length_append]; simp; omega⟩
            have := t6.wipe vs1
            rw [hw1] at this
            exact this.bump hF0 hLa
      · have eq : j = ds1.length := by omega
        subst eq
        rw [List.drop_length] at ej
        cases ej
        refine .inl ⟨hst1, hl, wipeG gd vs1, Fj, acc2, accW, ei4, ?_, si.trans (sF.trans (s6.trans (s7.trans sj))), lj, by omega⟩
        have rr := rj.wipe vs
        have ew : wipe (wipe σ2 vs1) vs = wipe σ vs := by
          rw [← hw]
          exact wipe_same (ts := vs1) (wipe_length σ2 vs1) (fun j hj => wipe_get hj) hv
        rw [ew] at rr
        exact rr
  · have eq : i = ds.length := by omega
    subst eq
    rw [List.drop_length] at ei
    cases ei
    refine .inl ⟨hst, ?_⟩
    have r2 : Rel X.kw (Y.gd q' (.lst accV)) (wipe σ vs) Hi (wipeG g2 vs) Fi := ri
    obtain ⟨k1, k2⟩ := r1.outOf r2 hF0 hB hH0 hLa si rfl (o := .ls accF) ⟨accV, r2.gdAt, lei, li⟩
    exact fin Hi Fi k1 (s11.trans si) _ k2
end
section
variable {X : Cx} {Y : Ent} {W : WX} {pos : Pos}
def tZI (K : KW) (Y : Ent) (f : M (List D)) : TI := fun σ H R => ∃ Z : Ent, Z.cls = Y.cls ∧ tI K Z W0 f σ H R
theorem de_lc2 {elt tg iter tg1 iter1 : Expr} {ifs ifs1 : List Expr} {scope : Scope} (own : List (Str × Nat)) (vs1 : List Nat) {f : M (List D)} {ts ts1 : List Nat} {t t1 : R → M Unit} {c c1 : M Bool} {fi : M (List D)} {e : M R} (hc : X.calm = true) (hN : X.N.Nodup) (ok : BlkOk X.N X.env.scope scope own)
    (hi : DI X Y W tg iter f) (hg : AllBlk X Y scope fun X Z => DG X Z tg ts t) (ht : AllBlk X Y scope fun X Z => DTs X Z W0 ifs c) (hi1 : AllBlk X Y scope fun X Z => DI X Z W0 tg1 iter1 fi)
    (hg1 : AllBlk X Y scope fun X Z => DG X Z tg1 ts1 t1) (ht1 : AllBlk X Y scope fun X Z => DTs X Z W0 ifs1 c1) (he : AllBlk X Y scope fun X Z => DE X Z W0 elt e)
    (hv : ∀ j ∈ vs1, j ∈ own.map (·.2) := by decide) (hts : ∀ j ∈ ts, j ∈ own.map (·.2) := by decide) (hts1 : ∀ j ∈ ts1, j ∈ vs1 := by decide) (hs : ∀ x, foldedSetIterable iter X.env x = pure x := by intro _; rfl) (hs1 : ∀ env x, foldedSetIterable iter1 env x = pure x := by intro _ _; rfl) :
    DE X Y W (.ListComp elt [⟨tg, iter, ifs, 0⟩, ⟨tg1, iter1, ifs1, 0⟩] scope pos) (eLc2 f t c fi t1 c1 e (own.map (·.2)) vs1) :=
  pe_mono (pe_lc2 (g := tZG X.kw Y ts t) (tt := tZT X.kw Y c) (wi1 := tZI X.kw Y fi) (g1 := tZG X.kw Y ts1 t1) (tt1 := tZT X.kw Y c1) (te := tZD X.kw Y (esc e)) hc hN hi ok hv
    (fun s H C cl fp => ⟨fun pins s' σ H' v u Q I r ⟨Z, hZ, q⟩ => (hg Z hZ s H C cl fp).run pins s' σ H' v u Q I r q⟩)
    (fun s H C cl fp => ⟨fun pins s' σ H' Q I ⟨Z, hZ, q⟩ => (ht Z hZ s H C cl fp).run pins s' σ H' Q I q⟩)
    (fun s H C cl fp => ⟨fun pins s' σ H' R I ⟨Z, hZ, q⟩ => (hi1 Z hZ s H C cl fp).run pins s' σ H' R I q⟩)
    (fun s H C cl fp => ⟨fun pins s' σ H' v u Q I r ⟨Z, hZ, q⟩ => (hg1 Z hZ s H C cl fp).run pins s' σ H' v u Q I r q⟩)
    (fun s H C cl fp => ⟨fun pins s' σ H' Q I ⟨Z, hZ, q⟩ => (ht1 Z hZ s H C cl fp).run pins s' σ H' Q I q⟩)
    (fun s H C cl fp => ⟨fun pins s' σ H' Q I ⟨Z, hZ, q⟩ => (de_esc (he Z hZ s H C cl fp)).run pins s' σ H' Q I q⟩) hs hs1)
    fun σ H Q h => lc2_sem hts hts1 hv (fun Z hZ _ _ _ _ q => ⟨Z, hZ, q⟩) (fun Z hZ _ _ _ q => ⟨Z, hZ, q⟩) (fun Z hZ _ _ _ q => ⟨Z, hZ, q⟩) (fun Z hZ _ _ _ _ q => ⟨Z, hZ, q⟩) (fun Z hZ _ _ _ q => ⟨Z, hZ, q⟩) (fun Z hZ _ _ _ q => ⟨Z, hZ, q⟩) h
theorem ds_setLc2 {i : Nat} {y : Str} {py : Pos} {elt tg iter tg1 iter1 : Expr} {ifs ifs1 : List Expr} {scope : Scope} (own : List (Str × Nat)) (vs1 : List Nat) {spos : Pos} {f : M (List D)} {ts ts1 : List Nat} {t t1 : R → M Unit} {c c1 : M Bool} {fi : M (List D)} {e : M R} (hc : X.calm = true) (hN : X.N.Nodup) (ok : BlkOk X.N X.env.scope scope own)
    (hi : DI X Y W tg iter f) (hg : AllBlk X Y scope fun X Z => DG X Z tg ts t) (ht : AllBlk X Y scope fun X Z => DTs X Z W0 ifs c) (hi1 : AllBlk X Y scope fun X Z => DI X Z W0 tg1 iter1 fi)
    (hg1 : AllBlk X Y scope fun X Z => DG X Z tg1 ts1 t1) (ht1 : AllBlk X Y scope fun X Z => DTs X Z W0 ifs1 c1) (he : AllBlk X Y scope fun X Z => DE X Z W0 elt e)
    (hsw : swapsWith (.ListComp elt [⟨tg, iter, ifs, 0⟩, ⟨tg1, iter1, ifs1, 0⟩] scope pos) (some (.Name y py)) spos.line X.env = pure true)
    (hy : X.N[i]? = some y := by rfl) (hyl : X.env.scope.names.lookup y = some .local := by rfl)
    (hv : ∀ j ∈ vs1, j ∈ own.map (·.2) := by decide) (hts : ∀ j ∈ ts, j ∈ own.map (·.2) := by decide) (hts1 : ∀ j ∈ ts1, j ∈ vs1 := by decide) (hs : ∀ x, foldedSetIterable iter X.env x = pure x := by intro _; rfl) (hs1 : ∀ env x, foldedSetIterable iter1 env x = pure x := by intro _ _; rfl) :
    DS X Y W (.Assign [.Name y py] (.ListComp elt [⟨tg, iter, ifs, 0⟩, ⟨tg1, iter1, ifs1, 0⟩] scope pos) spos) (sAsg (eLc2 f t c fi t1 c1 e (own.map (·.2)) vs1) (setSl i)) :=
  ps_mono (ps_setLc2 (g := tZG X.kw Y ts t) (tt := tZT X.kw Y c) (wi1 := tZI X.kw Y fi) (g1 := tZG X.kw Y ts1 t1) (tt1 := tZT X.kw Y c1) (te := tZD X.kw Y (esc e)) hc hN hy hyl hsw hi ok hv
    (fun s H C cl fp => ⟨fun pins s' σ H' v u Q I r ⟨Z, hZ, q⟩ => (hg Z hZ s H C cl fp).run pins s' σ H' v u Q I r q⟩)
    (fun s H C cl fp => ⟨fun pins s' σ H' Q I ⟨Z, hZ, q⟩ => (ht Z hZ s H C cl fp).run pins s' σ H' Q I q⟩)
    (fun s H C cl fp => ⟨fun pins s' σ H' R I ⟨Z, hZ, q⟩ => (hi1 Z hZ s H C cl fp).run pins s' σ H' R I q⟩)
    (fun s H C cl fp => ⟨fun pins s' σ H' v u Q I r ⟨Z, hZ, q⟩ => (hg1 Z hZ s H C cl fp).run pins s' σ H' v u Q I r q⟩)
    (fun s H C cl fp => ⟨fun pins s' σ H' Q I ⟨Z, hZ, q⟩ => (ht1 Z hZ s H C cl fp).run pins s' σ H' Q I q⟩)
    (fun s H C cl fp => ⟨fun pins s' σ H' Q I ⟨Z, hZ, q⟩ => (de_esc (he Z hZ s H C cl fp)).run pins s' σ H' Q I q⟩) hs hs1)
    fun D σ H h => lc2_sem hts hts1 hv (fun Z hZ _ _ _ _ q => ⟨Z, hZ, q⟩) (fun Z hZ _ _ _ q => ⟨Z, hZ, q⟩) (fun Z hZ _ _ _ q => ⟨Z, hZ, q⟩) (fun Z hZ _ _ _ _ q => ⟨Z, hZ, q⟩) (fun Z hZ _ _ _ q => ⟨Z, hZ, q⟩) (fun Z hZ _ _ _ q => ⟨Z, hZ, q⟩) (asg_name h)
end
end DL

namespace DL
open PySem PySem.Spec L2
/-! # x = {..for..}; zip -/
section
variable {X : Cx}
end
section
variable {X : Cx} {Y : Ent} {W : WX} {pos : Pos}
/-! ### zip -/
def zpD (ds es : List D) : List D := (ds.zip es).map fun p => .tup [p.1, p.2]
def toZp : List R → M (List D) := fun rs g => match rs with
  | [.fz (.lst ds), .fz (.lst es)] => .ok (zpD ds es) g
  | [.fz (.tup ds), .fz (.tup es)] => .ok (zpD ds es) g
  | _ => .bad
def iZp (k : M (List R)) : M (List D) := mb k toZp
theorem zpD_get {ds es : List D} {i : Nat} {d : D} (h : (zpD ds es)[i]? = some d) : ∃ x y, ds[i]? = some x ∧ es[i]? = some y ∧ d = .tup [x, y] := by
  unfold zpD at h
  rw [List.getElem?_map] at h
  cases e : (ds.zip es)[i]? with
  | none => rw [e] at h; cases h
  | some p =>
    rw [e] at h; cases h
    have := List.getElem?_zip_eq_some.mp e
    exact ⟨p.1, p.2, this.1, this.2, rfl⟩
theorem zpD_len (ds es : List D) : (zpD ds es).length = min ds.length es.length := by unfold zpD; rw [List.length_map, List.length_zip]
theorem srv_zip {K : KW} {F0 : Hp} {J : It} {ds es : List D} {vs us : List V} (hl : IsL K F0 vs ds) (hl2 : IsL K F0 us es)
    (go : ∀ i H, (∃ x, vs[i]? = some x) → (∃ y, us[i]? = some y) → (∀ F, Same F0 F → Same F H → J.go i H))
    (yl : ∀ i H F x H', Same F0 F → Same F H → J.yld i H x H' → ∃ T x1 y, x = .ref T ∧ H T = none ∧ H' = upd H T (.tup [x1, y]) ∧ vs[i]? = some x1 ∧ us[i]? = some y)
    (st : ∀ H F, Same F0 F → Same F H → J.stop (min vs.length us.length) H) : Srv K F0 J (zpD ds es) := by
  refine fun H F s0 s1 => ⟨fun i d e => ?_, ?_⟩
  · obtain ⟨x, y, hx, hy, rfl⟩ := zpD_get e
    obtain ⟨v, h1, h2⟩ := hl.get hx
    obtain ⟨u, k1, k2⟩ := hl2.get hy
    refine ⟨go i H ⟨v, h1⟩ ⟨u, k1⟩ F s0 s1, fun z H' hz => ?_⟩
    obtain ⟨T, x1, y1, rfl, hT, rfl, g1, g2⟩ := yl i H F z H' s0 s1 hz
    rw [h1] at g1; cases g1
    rw [k1] at g2; cases g2
    have hv : IsL K F [v, u] [x, y] := ⟨_, _, rfl, h2.mono s0, ⟨_, _, rfl, k2.mono s0, rfl⟩⟩
    exact ⟨_, ext_tup s1 hT, T, _, rfl, .inl (.inl upd_same), by show (2 : Nat) ≤ sizeLine; decide, IsL.mono (ext_tup s1 hT).ff _ _ hv⟩
  · rw [zpD_len, ← hl.length, ← hl2.length]; exact st H F s0 s1
end
end DL

namespace DL
open PySem PySem.Spec L2
open PyProof.Rows hiding St
/-! # dicts whose keys are tuples -/
mutual
def keyN : D → Option NK
  | .int i => some (.num i)
  | .str s => some (.text s)
  | .non => some .none
  | .tup ds => (keyNs ds).map .tup
  | _ => none
def keyNs : List D → Option (List NK)
  | [] => some []
  | d :: ds => match keyN d, keyNs ds with
    | some k, some ks => some (k :: ks)
    | _, _ => none
end
/-- a key that is a tuple -/
def keyT (d : D) : Option NK := match d with
  | .tup _ => (keyN d).bind fun k => if k.depth ≤ 8 then some k else none
  | _ => none
section
variable {K : KW} {F H : Hp}
mutual
theorem keyN_ok : ∀ (d : D) (v : V) (k : NK), Is K F v d → keyN d = some k → NKv K.K F k v
  | .int i, v, k, q, e => by cases e; exact q
  | .str s, v, k, q, e => by cases e; exact q.1
  | .non, v, k, q, e => by cases e; exact q
  | .tup ds, v, k, ⟨a, vs, e1, s, z, t⟩, e => by
    obtain ⟨ks, h, e⟩ := Option.map_eq_some_iff.mp (show (keyNs ds).map NestedKey.tup = some k from e)
    subst e
    exact ⟨a, vs, e1, s, keyNs_ok ds vs ks t h⟩
  | .bl _, _, _, _, e => by cases e
  | .lst _, _, _, _, e => by cases e
  | .dk _, _, _, _, e => by cases e
  | .dt _, _, _, _, e => by cases e
  | .dd _, _, _, _, e => by cases e
  | .obj _ _, _, _, _, e => by cases e
  | .scr _, _, _, _, e => by cases e
  | .exc _, _, _, _, e => by cases e
  | .lk _, _, _, _, e => by cases e
  | .ld _, _, _, _, e => by cases e
  | .tux _, _, _, _, e => by cases e
theorem keyNs_ok : ∀ (ds : List D) (vs : List V) (ks : List NK), IsL K F vs ds → keyNs ds = some ks → NKs K.K F ks vs
  | [], vs, ks, q, e => by cases e; exact q
  | d :: ds, vs, ks, ⟨v, r, e1, q, t⟩, e => by
    unfold keyNs at e
    split at e
    · rename_i k ks' h1 h2
      cases e
      exact ⟨v, r, e1, keyN_ok d v _ q h1, keyNs_ok ds r _ t h2⟩
    · cases e
end
theorem CV.key {v : V} {d : D} {k : NK} (h : CV K F H v d) (e : keyT d = some k) : ∃ b, v = .ref b ∧ IsNK K.K F b k := by
  unfold keyT at e
  split at e
  · rename_i ds
    obtain ⟨k', h1, h2⟩ := Option.bind_eq_some_iff.mp e
    split at h2
    · rename_i hd
      cases h2
      obtain ⟨a, vs, e1, s, z, t⟩ := h.tup
      subst e1
      exact ⟨a, rfl, keyN_ok (.tup ds) (.ref a) _ ⟨a, vs, rfl, s, z, t⟩ h1, hd⟩
    · cases h2
  · cases e
theorem CV.dd {v : V} {kvs : List (NK × D)} (s : Same F H) (h : CV K F H v (.dd kvs)) : ∃ a xs, v = .ref a ∧ H a = some (DdA K.w a xs) ∧ ((a == sysModules) = false ∧ (kvs.map (·.1)).Nodup) ∧ kvs.length ≤ sizeLine ∧ IsN K F xs kvs := by
  rcases h with h | ⟨a, o, e, q, eo⟩
  · obtain ⟨a, xs, e, h1, h2, h3, h4⟩ := h
    exact ⟨a, xs, e, s _ _ h1, h2, h3, h4⟩
  · cases o with
    | ls _ => cases eo
    | dt _ => cases eo
    | dk _ => cases eo
    | ob _ _ => cases eo
    | dd kvs' => cases eo; obtain ⟨xs, h1, h2, h3, h4⟩ := q; exact ⟨a, xs, e, h1, h2, h3, h4⟩
def valN (kvs : List (NK × D)) (k : NK) : Option D := (kvs.find? fun kv => decide (kv.1 = k)).map (·.2)
def putN (kvs : List (NK × D)) (k : NK) (d : D) : List (NK × D) :=
  if (kvs.any fun kv => decide (kv.1 = k)) = true then kvs.map (fun kv => if kv.1 = k then (kv.1, d) else kv) else kvs ++ [(k, d)]
theorem IsN.len : ∀ {xs : List (NK × Addr × Value)} {kvs : List (NK × D)}, IsN K F xs kvs → xs.length = kvs.length
  | _, [], h => by rw [show _ = [] from h]; rfl
  | _, (k, d) :: r, ⟨b, u, v, s, e, _, _, _, t⟩ => by rw [e, List.length_cons, List.length_cons, IsN.len t]
theorem IsN.keys : ∀ {xs : List (NK × Addr × Value)} {kvs : List (NK × D)}, IsN K F xs kvs → xs.map (·.1) = kvs.map (·.1)
  | _, [], h => by rw [show _ = [] from h]; rfl
  | _, (k, d) :: r, ⟨b, u, v, s, e, _, _, _, t⟩ => by rw [e, List.map_cons, List.map_cons, IsN.keys t]
theorem IsN.val (k : NK) : ∀ {xs : List (NK × Addr × Value)} {kvs : List (NK × D)}, IsN K F xs kvs →
    (valN kvs k = none ∧ atKey xs k = none) ∨ ∃ d p v, valN kvs k = some d ∧ atKey xs k = some p ∧ RelV v p.2 ∧ Is K F v d
  | _, [], h => by rw [show _ = [] from h]; exact .inl ⟨rfl, rfl⟩
  | _, (k', d') :: r, ⟨b, u, v, s, e, q, rv, qd, t⟩ => by
    subst e
    by_cases ek : k' = k
    · exact .inr ⟨d', (b, u), v, by simp [valN, List.find?_cons, ek], by simp [atKey, List.find?_cons, ek], rv, qd⟩
    · have e1 : valN ((k', d') :: r) k = valN r k := by simp [valN, List.find?_cons, ek]
      have e2 : atKey ((k', b, u) :: s) k = atKey s k := by simp [atKey, List.find?_cons, ek]
      rw [e1, e2]; exact IsN.val k t
theorem IsN.any (k : NK) : ∀ {xs : List (NK × Addr × Value)} {kvs : List (NK × D)}, IsN K F xs kvs → (atKey xs k).isSome = (kvs.any fun kv => decide (kv.1 = k))
  | _, [], h => by rw [show _ = [] from h]; rfl
  | _, (k', d') :: r, ⟨b, u, v, s, e, q, rv, qd, t⟩ => by
    subst e
    by_cases ek : k' = k
    · simp [atKey, List.find?_cons, ek]
    · have := IsN.any k t
      simpa [atKey, List.find?_cons, ek] using this
theorem IsN.map_put (k : NK) {v : V} {u : Value} {d : D} (rv : RelV v u) (qd : Is K F v d) : ∀ {xs : List (NK × Addr × Value)} {kvs : List (NK × D)}, IsN K F xs kvs → IsN K F (xs.map (putAt k u)) (kvs.map fun kv => if kv.1 = k then (kv.1, d) else kv)
  | _, [], h => by rw [show _ = [] from h]; rfl
  | _, (k', d') :: r, ⟨b, u', v', s, e, q, rv', qd', t⟩ => by
    subst e
    rw [List.map_cons, List.map_cons]
    by_cases ek : k' = k
    · rw [if_pos ek, show putAt k u (k', b, u') = (k', b, u) from if_pos ek]; exact ⟨b, u, v, _, rfl, q, rv, qd, IsN.map_put k rv qd t⟩
    · rw [if_neg ek, show putAt k u (k', b, u') = (k', b, u') from if_neg ek]; exact ⟨b, u', v', _, rfl, q, rv', qd', IsN.map_put k rv qd t⟩
theorem IsN.snoc {k : NK} {b : Addr} {v : V} {u : Value} {d : D} (q : IsNK K.K F b k) (rv : RelV v u) (qd : Is K F v d) : ∀ {xs : List (NK × Addr × Value)} {kvs : List (NK × D)}, IsN K F xs kvs → IsN K F (xs ++ [(k, b, u)]) (kvs ++ [(k, d)])
  | _, [], h => by rw [show _ = [] from h]; exact ⟨b, u, v, [], rfl, q, rv, qd, rfl⟩
  | _, (k', d') :: r, ⟨b', u', v', s, e, q', rv', qd', t⟩ => by subst e; exact ⟨b', u', v', _, rfl, q', rv', qd', IsN.snoc q rv qd t⟩
theorem IsN.put {k : NK} {b : Addr} {v : V} {u : Value} {d : D} (q : IsNK K.K F b k) (rv : RelV v u) (qd : Is K F v d) {xs : List (NK × Addr × Value)} {kvs : List (NK × D)} (h : IsN K F xs kvs) : IsN K F (storedH xs k b u) (putN kvs k d) := by
  unfold storedH putN
  rw [IsN.any k h]
  split
  · exact h.map_put k rv qd
  · exact h.snoc q rv qd
end
section
variable {X : Cx} {pins : List (Addr × Obj)} {σ : St} {H F : Hp} {s : Shared}
mutual
theorem nk_is (I : Inv X pins σ H s) (sm : Same F H) : ∀ (k : NK) (v : V) (u : Value), NKv X.K F k v → RelV v u → NestedIs s.heap k u
  | .none, v, u, q, r => by rw [show v = .non from q] at r; rw [show u = .none from r]; exact .none
  | .num i, v, u, q, r => by
    rw [show v = .int i from q] at r
    obtain ⟨t, e⟩ : ∃ t, u = .int i t := r
    rw [e]; exact .int i t
  | .text x, v, u, q, r => by
    rw [show v = .str x from q] at r
    obtain ⟨t, e⟩ : ∃ t, u = .str x t := r
    rw [e]; exact .text x t
  | .tup ks, v, u, ⟨a, vs, e, sq, t⟩, r => by
    rw [e] at r
    rw [show u = .ref a from r]
    obtain ⟨its, rv, ⟨o, ho, hc, n, hd⟩, hz⟩ := I.tuple (sqT_mono sm sq)
    exact .tup ho hc hd (by simpa using nks_is I sm ks vs its t rv)
theorem nks_is (I : Inv X pins σ H s) (sm : Same F H) : ∀ (ks : List NK) (vs : List V) (us : List Value), NKs X.K F ks vs → Vals vs us → NestedAll s.heap ks us
  | [], vs, us, q, r => by rw [show vs = [] from q] at r; cases r; exact .nil
  | k :: ks, vs, us, ⟨v, ws, e, q, t⟩, r => by
    rw [e] at r
    cases r with
    | cons r1 r2 => exact .cons (nk_is I sm k v _ q r1) (nks_is I sm ks ws _ t r2)
end
end
/-! ### the operations -/
def eNewN : M R := mp (.ow (.dd []))
def ixN' : D → D → Option R
  | .dd kvs, i => (keyT i).bind fun k => (valN kvs k).map .fz
  | _, _ => none
def cNin (ng : Bool) : D → D → Option R
  | i, .dd kvs => (keyT i).map fun k => .fz (.bl (xor ng (valN kvs k).isSome))
  | _, _ => none
def stN : O → D → D → Option O
  | .dd kvs, i, d => (keyT i).bind fun k => if kvs.length < sizeLine then some (.dd (putN kvs k d)) else none
  | _, _, _ => none
instance : LeafSt stN := ⟨fun o i v o' e => by
  unfold stN at e
  split at e
  · obtain ⟨k, _, e⟩ := Option.bind_eq_some_iff.mp e
    split at e
    · cases e; exact ⟨rfl, rfl⟩
    · cases e
  · cases e⟩
def fLenN : List D → Option R
  | [.dd kvs] => some (.fz (.int kvs.length))
  | _ => none
def mGetN : D → List D → Option R
  | .dd kvs, [k] => (keyT k).map fun k => .fz ((valN kvs k).getD .non)
  | .dd kvs, [k, d] => if d.plain = true then (keyT k).map fun k => .fz ((valN kvs k).getD d) else none
  | _, _ => none
def uSetdN : O → List D → Option (O × D)
  | .dd kvs, [k, d] => (keyT k).bind fun k => if kvs.length < sizeLine then (match valN kvs k with
    | some x => some (.dd kvs, x)
    | none => some (.dd (putN kvs k d), d)) else none
  | _, _ => none
instance : LeafOp uSetdN := ⟨fun o ds o' d e => by
  unfold uSetdN at e
  split at e
  · obtain ⟨k, _, e⟩ := Option.bind_eq_some_iff.mp e
    split at e
    · split at e <;> (cases e; exact ⟨rfl, rfl⟩)
    · cases e
  · cases e⟩
section
variable {X : Cx} {Y : Ent} {W : WX} {pos : Pos}
/-! ### methods -/
def isDd (x : R) : M Unit := fun g => match cont g x with
  | some (.dd _) => .ok () g
  | _ => .bad
def tBMN (w : World) (r : V → List V → Hp → VK → Prop) (to : TE) (ta : TA) : TE := fun σ H Q => to σ H fun x H1 => (∃ p xs, x = .ref p ∧ H1 p = some (DdA w p xs)) ∧ ta σ H1 fun vs H2 => r x vs H2 Q
def eMutN (op : O → List D → Option (O × D)) (f : M R) (k : M (List R)) : M R := mb f fun x => mb (isDd x) fun _ => mb k fun ys => opMut op x ys
def eMethN (op : D → List D → Option R) (f : M R) (k : M (List R)) : M R := mb (pk f) fun x => mb (isDd x) fun _ => mb k fun ys => opM op x ys
end
end DL

namespace DL
open PySem PySem.Spec L2
open PyProof.Rows hiding St
/-! # {k: v}, the key a tuple -/
def mkN1 (x y : R) : M R := fun g => match x, y with
  | .fz kd, .fz d => match keyT kd with
    | some k => .ok (.ow (.dd [(k, d)])) g
    | none => .bad
  | _, _ => .bad
def eDictN (f k : M R) : M R := mb (pk f) fun x => mb (esc k) fun y => mkN1 x y
section
variable {X : Cx} {Y : Ent} {W : WX} {pos : Pos}
def PN1 (X : Cx) (Q : VK) (p : Addr) (x y : V) (H2 : Hp) : Prop :=
  H2 p = some (DdA X.w p []) ∧ ∃ c k F, x = .ref c ∧ Same F H2 ∧ IsNK X.K F c k ∧ ∀ u, RelV y u → Q (.ref p) (upd H2 p (DdA X.w p [(k, c, u)]))
end
end DL

/-! # extend by a tuple, t.index, xs.count, in by data -/
namespace DLT
open PySem PySem.SeqAt PySem.AutoSeq1
open Sem (wp)
end DLT
namespace DL
open PySem PySem.Spec L2
open PyProof.Rows hiding St
section
variable {X : Cx}
theorem mt_tidx {X : Cx} : MtR X "tuple.index" fun x xs H Q => ∃ (a : Addr) (ys : List V) (y : V) (j : Nat) (z : V), x = V.ref a ∧ xs = [y] ∧ SqT X.K H a ys ∧ flatV y = true ∧ ys.all flatV = true ∧ ys[j]? = some z ∧ eqV z y = true ∧ (∀ (m : Nat) (z' : V), m < j → ys[m]? = some z' → eqV z' y = false) ∧ Q (.int (j : Nat)) H := by
  intro pins s σ H x xs v us Q I rx rxs h
  obtain ⟨a, ys, y, j, z, rfl, rfl, hs, fy, fys, hz, hzj, hno, q⟩ := h
  cases rx
  obtain ⟨uy, rfl, ry⟩ := vals1 rxs
  obtain ⟨its, rv, ⟨⟨cls, dd, dt, sl⟩, ho, hc, n, hd⟩, hz2⟩ := I.tuple hs
  simp only at hc hd
  subst hc hd
  obtain ⟨u, hu, ru⟩ := rv.get hz
  obtain ⟨hjl, hje⟩ := List.getElem?_eq_some_iff.mp hu
  have hvl := rv.length
  have hj : j < its.toArray.size := by simpa using hjl
  refine call_meets PySem.F.slot_tuple_index ⟨_, ho, rfl⟩ PySem.F.entry_tuple_index (PySem.F.args_tuple_index_2 _ _) (TI.tuple_indexAt a its.toArray n dd sl uy (eqU y) j hj ?_ ?_)
    ⟨ho, fun u' hu' => mem_eqAt ry fy rv fys u' (by simpa using hu'), ⟨.int (j : Nat), H, I.tok _, ⟨_, rfl⟩, q⟩⟩
  · have e1 : its.toArray[j] = u := by simpa using hje
    rw [e1, eqU_of ru (flat_at fys hz)]
    exact hzj
  · intro m hm hmj
    have hml : m < its.length := by simpa using hm
    have hmy : m < ys.length := by omega
    have hy' : ys[m]? = some ys[m] := List.getElem?_eq_getElem hmy
    obtain ⟨u2, hu2, ru2⟩ := rv.get hy'
    obtain ⟨_, hme⟩ := List.getElem?_eq_some_iff.mp hu2
    have e1 : its.toArray[m] = u2 := by simpa using hme
    rw [e1, eqU_of ru2 (flat_at fys hy')]
    exact hno m _ hmj hy'
/-! ## by data -/
def uExtendT : O → List D → Option (O × D)
  | .ls xs, [.tup ys] => if xs.length + ys.length ≤ sizeLine then some (.ls (xs ++ ys), .non) else none
  | _, _ => none
instance : LeafOp uExtendT := leaf_ls (ls := true) fun o ds o' d e => by
  unfold uExtendT at e
  split at e
  · split at e
    · cases e; exact ⟨⟨_, rfl⟩, _, rfl⟩
    · cases e
  · cases e
def mIndexT : D → List D → Option R
  | .tup xs, [d] => if (flatI d && xs.all flatI) = true then ((xs.map toV).findIdx? fun z => eqV z (toV d)).map fun j => .fz (.int (j : Nat)) else none
  | _, _ => none
def mCountL : D → List D → Option R
  | .lst xs, [d] => if (flatI d && xs.all flatI) = true then some (.fz (.int (((xs.map toV).countP fun z => eqV z (toV d) : Nat) : Int))) else none
  | _, _ => none
/-- x in xs, by data -/
def cInD (ng : Bool) : D → D → Option R
  | a, .lst ds => if okEq a (.lst ds) = true then some (.fz (.bl (xor ng ((pyL ds).any fun z => PyData.eqv z a.py)))) else none
  | _, _ => none
theorem od_inD (hu : X.A.units + 65 < cLine) : OpD X (compareOp .In) (cInD false) := by
  intro pins s σ H x y v u Q I rx ry ⟨F, a, b, r, sm, ha, hb, ho, hr⟩
  unfold cInD at ho
  split at ho
  · rename_i ds
    split at ho
    · rename_i hz
      obtain ⟨f1, f2, s1, s2⟩ := okEq_cases hz
      cases ho
      exact op_inD hu pins s σ H x y v u Q I rx ry ⟨_, pyL ds, ha.dp sm f1, hb.dp sm f2, s1, s2, by simpa using hr.now sm rfl⟩
    · cases ho
  · cases ho
end
end DL

namespace DL
open PySem PySem.Spec L2
/-! # self.f[n] while self is under way -/
def eIxP (i : Nat) (c f : Str) (n : Nat) : M R := fun g => match g[i]? with
  | some (some (.op c' fs)) => if c' = c then (match fs.get f with
    | some (.inr (.ls ds)) => (match ds[n]? with
      | some d => .ok (.fz d) g
      | none => .bad)
    | _ => .bad) else .bad
  | _ => .bad
section
variable {X : Cx} {Y : Ent} {W : WX} {p0 p1 p2 p3 : Pos} {c f : Str} {C : Addr}
end
end DL

namespace DL
open PySem PySem.Spec L2
open PyProof.Rows hiding St
/-! # zip of a tuple and a list -/
structure Src (K : PySem.W.Frag) (a : Addr) (S : Hp → List V → Prop) (Is : Heap → Array Value → Prop) (It0 : Heap → Addr → Nat → Prop) (ob : Obj) : Prop where
  draws : ∀ (P : Program) (w : World) (A : Around), A.handled = none → ∀ it, a ≠ it → ∀ items, Draws P w A it [it, a] items.size (fun i v => items[i]? = some v) (fun i h => It0 h it i ∧ Is h items)
  get : ∀ {X : Cx} {pins : List (Addr × Obj)} {σ : St} {H : Hp} {s : Shared} {xs : List V}, Inv X pins σ H s → X.K = K → S H xs → ∃ its : List Value, Vals xs its ∧ Is s.heap its.toArray
  inj : ∀ {X : Cx} {pins : List (Addr × Obj)} {σ : St} {H : Hp} {s : Shared} {xs ys : List V}, Inv X pins σ H s → X.K = K → S H xs → S H ys → xs = ys
  begins : ∀ items, Begins (.ref a) ob (fun h => Is h items)
  start : ∀ h it, h.get? it = some ob → It0 h it 0
  obj : ∀ h it i, It0 h it i → ∃ o, h.get? it = some o ∧ ∀ v, o.data ≠ .cell v
  at_ : ∀ h h' it i, It0 h it i → (∀ o, h.get? it = some o → h'.get? it = some o) → It0 h' it i
  lt : ∀ h items, Is h items → a < h.objs.size
theorem src_tup (K : PySem.W.Frag) (a : Addr) : Src K a (fun H xs => SqT K H a xs) (fun h items => h.IsTuple a items) (fun h it i => h.IsTupleIter it a i) { cls := .type "tuple_iterator", data := .fields #[.ref a, .int 0 0] } where
  draws := fun P w A hh it hne items => Draws.tuple hh it a hne items
  get := fun I e q => by subst e; obtain ⟨its, r, p, _⟩ := I.tuple q; exact ⟨its, r, p⟩
  inj := fun I e q q' => by subst e; exact I.tuple_inj q q'
  begins := fun items => begins_tuple a items
  start := fun h it e => ⟨_, e, rfl, rfl⟩
  obj := fun h it i ⟨o, e, _, d⟩ => ⟨o, e, fun v q => by rw [d] at q; cases q⟩
  at_ := fun h h' it i q k => q.at k
  lt := fun h items q => by obtain ⟨o, e, _⟩ := q; exact Heap.lt_size e
theorem src_lst (K : PySem.W.Frag) (a : Addr) : Src K a (fun H xs => SqL K H a xs) (fun h items => h.IsList a items) (fun h it i => h.IsListIter it a i) { cls := .type "list_iterator", data := .fields #[.ref a, .int 0 0] } where
  draws := fun P w A hh it hne items => Draws.list hh it a hne items
  get := fun I e q => by subst e; obtain ⟨its, r, p, _⟩ := I.list q; exact ⟨its, r, p.isList⟩
  inj := fun I e q q' => by subst e; exact I.list_inj q q'
  begins := fun items => begins_list a items
  start := fun h it e => ⟨_, e, rfl, rfl⟩
  obj := fun h it i ⟨o, e, _, d⟩ => ⟨o, e, fun v q => by rw [d] at q; cases q⟩
  at_ := fun h h' it i q k => q.at k
  lt := fun h items q => by obtain ⟨o, e, _⟩ := q; exact Heap.lt_size e
def ItzG (SA SB : Hp → List V → Prop) : It :=
  ⟨fun i H => ∃ (xs ys : List V) (x y : V), SA H xs ∧ SB H ys ∧ xs[i]? = some x ∧ ys[i]? = some y,
    fun i H v H' => ∃ T x y, v = .ref T ∧ H T = none ∧ H' = upd H T (.tup [x, y]) ∧ (∀ xs, SA H xs → xs[i]? = some x) ∧ ∀ ys, SB H ys → ys[i]? = some y,
    fun i H => ∃ xs ys : List V, SA H xs ∧ SB H ys ∧ i = min xs.length ys.length⟩
theorem zipSep {z TI TO i1 i2 a b : Addr} (D : ZipApart z TI TO i1 i2 a b) : ZipSep2 z TI TO i1 i2 [i1, a] [i2, b] where
  TIz := D.TIz
  TOz := D.TOz
  TITO := D.TITO
  TIi1 := D.TIi1
  mem1 := by simp
  zf1 := by simp; exact ⟨D.i1z.symm, D.l1z.symm⟩
  Tf1 := by simp; exact ⟨D.TOi1, D.l1TO.symm⟩
  TIi2 := D.TIi2
  mem2 := by simp
  zf2 := by simp; exact ⟨D.i2z.symm, D.l2z.symm⟩
  Tf2 := by simp; exact ⟨D.TOi2, D.l2TO.symm⟩
  sep1_2 := by simp; exact ⟨D.i12, D.l2i1.symm⟩
  sep2_1 := by simp; exact ⟨D.i12.symm, D.l1i2.symm⟩
def SqB (K : PySem.W.Frag) : Bool → Addr → Hp → List V → Prop
  | true, a => fun H xs => SqT K H a xs
  | false, a => fun H xs => SqL K H a xs
def IsB : Bool → Addr → Heap → Array Value → Prop
  | true, a => fun h items => h.IsTuple a items
  | false, a => fun h items => h.IsList a items
def ItB : Bool → Addr → Heap → Addr → Nat → Prop
  | true, a => fun h it i => h.IsTupleIter it a i
  | false, a => fun h it i => h.IsListIter it a i
def obB : Bool → Addr → Obj
  | true, a => { cls := .type "tuple_iterator", data := .fields #[.ref a, .int 0 0] }
  | false, a => { cls := .type "list_iterator", data := .fields #[.ref a, .int 0 0] }
theorem src_b (K : PySem.W.Frag) : ∀ (m : Bool) (a : Addr), Src K a (SqB K m a) (IsB m a) (ItB m a) (obB m a)
  | true, a => src_tup K a
  | false, a => src_lst K a
section
variable {P : Program} {w : World} {K : PySem.W.Frag} {elts : List Expr} {kk : Nat} {tpos : Pos} {a b z TI TO i1 i2 : Addr} {SA SB : Hp → List V → Prop} {IsA IsB : Heap → Array Value → Prop} {ItA ItB : Heap → Addr → Nat → Prop} {oA oB : Obj}
theorem turn_zipG (A : Src K a SA IsA ItA oA) (B : Src K b SB IsB ItB oB) (D : ZipApart z TI TO i1 i2 a b) (l1 : a ≠ i1) (l2 : b ≠ i2) :
    Turn P w K (.Tuple elts kk tpos) (ItzG SA SB) [z, TI, TO, i1, i2] z (fun i h => IsZip h z TI TO .none ∧ IsTupOf2 h TI (.ref i1) (.ref i2) ∧ (∃ x y, IsTupOf2 h TO x y) ∧ ItA h i1 i ∧ ItB h i2 i) where
  mem := by simp
  obj := fun i h st c hc => by
    obtain ⟨hz, hTI, ⟨x, y, hTO⟩, h1, h2⟩ := st
    have e' : c = z ∨ c = TI ∨ c = TO ∨ c = i1 ∨ c = i2 := by simpa using hc
    rcases e' with q | q | q | q | q
    · rw [q]; exact ⟨_, hz, fun v q => nomatch q⟩
    · rw [q]; exact ⟨_, hTI, fun v q => nomatch q⟩
    · rw [q]; exact ⟨_, hTO, fun v q => nomatch q⟩
    · rw [q]; exact A.obj _ _ _ h1
    · rw [q]; exact B.obj _ _ _ h2
  keep := fun i h h' st k => by
    obtain ⟨hz, hTI, ⟨x, y, hTO⟩, h1, h2⟩ := st
    exact ⟨k z (by simp) _ hz, k TI (by simp) _ hTI, ⟨x, y, k TO (by simp) _ hTO⟩, A.at_ _ _ _ _ h1 fun o q => k i1 (by simp) o q, B.at_ _ _ _ _ h2 fun o q => k i2 (by simp) o q⟩
  item := by
    intro X hP hw hK hc i pins s σ H E I hf st hg
    subst hP hw
    obtain ⟨hz, hTI, ⟨x0, y0, hTO⟩, h1, h2⟩ := st
    obtain ⟨xs, ys, x, y, hqx, hqy, hx, hy⟩ := hg
    obtain ⟨its, rv, p⟩ := A.get I hK hqx
    obtain ⟨its2, rv2, p2⟩ := B.get I hK hqy
    obtain ⟨u, hu, ru⟩ := rv.get hx
    obtain ⟨u2, hu2, ru2⟩ := rv2.get hy
    have hzl : z < s.heap.objs.size := Heap.lt_size hz
    have hh : X.A.in1.handled = none := I.ok.hd hc
    have k1 : i < its.toArray.size := by simpa using (List.getElem?_eq_some_iff.mp hu).1
    have k2 : i < its2.toArray.size := by simpa using (List.getElem?_eq_some_iff.mp hu2).1
    refine wpAny_pyNext_zipD2_item (zipSep D) (A.draws _ _ _ hh i1 l1 its.toArray) (B.draws _ _ _ hh i2 l2 its2.toArray) hz hTI hTO ⟨h1, p⟩ ⟨h2, p2⟩ k1 k2 fun v1 v2 h' tk y1 y2 z' TO' h1' h2' hT hsz hk => ?_
    have e1 : v1 = u := by rw [show its.toArray[i]? = some u by simpa using hu] at y1; exact (Option.some.inj y1).symm
    have e2 : v2 = u2 := by rw [show its2.toArray[i]? = some u2 by simpa using hu2] at y2; exact (Option.some.inj y2).symm
    subst e1 e2
    refine ⟨_, rfl, wpAny_letOwnedTupleGo_zip (s := { s with heap := h', toks := tk }) z' fun h'' z'' sb => ?_⟩
    have hT2 : h''.get? s.heap.objs.size = some { cls := .type "tuple", data := .seq #[v1, v2] } := (sb.2 _ (Nat.ne_of_gt hzl)).trans hT
    have new : ObjOk X.prog X.w (upd H s.heap.objs.size (.tup [x, y])) h'' s.heap.objs.size (.tup [x, y]) :=
      ⟨by show 2 ≤ sizeLine; decide, [v1, v2], .cons ru (.cons ru2 .nil), ⟨_, hT2, rfl, _, rfl⟩⟩
    have I1 : Inv X pins σ (upd H s.heap.objs.size (.tup [x, y])) { s with heap := h'', toks := tk } :=
      I.turnedNew (t' := tk) (ch := [z, TI, TO, i1, i2]) (fun c o hb q => (sb.2 c (fun q' => hb (by simp [q']))).trans (hk c o (fun q' => hb (by simp [q'])) (fun q' => hb (by simp [q'])) (fun q' => hb (by simp [q'])) (fun q' => hb (by simp [q'])) q)) hf (Nat.le_refl _) new
    refine ⟨.ref s.heap.objs.size, _, I1, rfl, ⟨_, x, y, rfl, I.hok.fresh (Nat.le_refl _), rfl, fun l hl => by rw [A.inj I hK hl hqx]; exact hx, fun l hl => by rw [B.inj I hK hl hqy]; exact hy⟩, ⟨z'', ?_, ⟨v1, v2, ?_⟩, ?_, ?_⟩, fun c hcm => ?_⟩
    · exact (sb.2 _ D.TIz).trans (hk _ _ D.TIz D.TITO D.TIi1 D.TIi2 hTI)
    · exact (sb.2 _ D.TOz).trans TO'
    · exact A.at_ _ _ _ _ h1'.1 fun o q => (sb.2 _ D.i1z).trans q
    · exact B.at_ _ _ _ _ h2'.1 fun o q => (sb.2 _ D.i2z).trans q
    · have hlt : c < s.heap.objs.size := by
        have e' : c = z ∨ c = TI ∨ c = TO ∨ c = i1 ∨ c = i2 := by simpa using hcm
        rcases e' with q | q | q | q | q
        · rw [q]; exact hzl
        · rw [q]; exact Heap.lt_size hTI
        · rw [q]; exact Heap.lt_size hTO
        · rw [q]; obtain ⟨_, e1, _⟩ := A.obj _ _ _ h1; exact Heap.lt_size e1
        · rw [q]; obtain ⟨_, e2, _⟩ := B.obj _ _ _ h2; exact Heap.lt_size e2
      rw [upd_ne (Nat.ne_of_lt hlt)]
      exact (hf c hcm).1
  done := by
    intro X hP hw hK hc i pins s σ H E I hf st hg
    subst hP hw
    obtain ⟨hz, hTI, ⟨x0, y0, hTO⟩, h1, h2⟩ := st
    obtain ⟨xs, ys, hqx, hqy, hend⟩ := hg
    obtain ⟨its, rv, p⟩ := A.get I hK hqx
    obtain ⟨its2, rv2, p2⟩ := B.get I hK hqy
    have l1' := rv.length
    have l2' := rv2.length
    have hh : X.A.in1.handled = none := I.ok.hd hc
    refine wpAny_pyNext_zipD2_end (zipSep D) (A.draws _ _ _ hh i1 l1 its.toArray) (B.draws _ _ _ hh i2 l2 its2.toArray) hz hTI hTO ⟨h1, p⟩ ⟨h2, p2⟩ (by simp; omega) (by simp; omega) (by simp; omega) fun h' tk hk => ⟨rfl, I.turnedL (t' := tk) (ch := [z, TI, TO, i1, i2]) (fun c o hb q =>
      hk c o (fun q' => hb (by simp [q'])) (fun q' => hb (by simp [q'])) (fun q' => hb (by simp [q'])) (fun q' => hb (by simp [q'])) q) hf⟩
  self := fun A i s Q E st h => wpAny_pyIter_zip st.1 h
theorem pi_zipG {X : Cx} {e e2 : Expr} {ta : TA} {p pos tpos : Pos} {elts : List Expr} {kk : Nat} 
    (hg : Gl X "zip") (hm : X.mg "zip" = none) (ha : PA X [e, e2] ta)
    (hs : starEach [e, e2] X.env = (false, eval e X.env) :: starEach [e2] X.env := by rfl) (hpl : (backTo pos (starEach [e2] X.env)).any (·.1) = false := by rfl) :
    PI X (.Tuple elts kk tpos) (.Call (.Name "zip" p) [e, e2] [] pos) (fun σ H R => ta σ H fun vs H1 => ∃ m1 m2 a b xs ys, vs = [.ref a, .ref b] ∧ SqB X.K m1 a H1 xs ∧ SqB X.K m2 b H1 ys ∧ R (ItzG (SqB X.K m1 a) (SqB X.K m2 b)) H1) := by
  refine ⟨fun pins s σ H R I h => ?_⟩
  refine Call_ (ld_blt I hg hm PyProof.Rows.boot_zip (PyProof.Rows.callWith_type1 (thn (ha.run pos pins s σ H _ I h) fun us s1 ⟨vs, H1, I1, r1, q1⟩ => ?_) hs hpl))
  obtain ⟨m1, m2, a, b, xs, ys, ex, hqx, hqy, q⟩ := q1
  subst ex
  obtain ⟨u, u2, rfl, ru, ru2⟩ := vals2 r1
  cases (show u = Value.ref a from ru)
  cases (show u2 = Value.ref b from ru2)
  obtain ⟨its, rv, p1⟩ := (src_b X.K m1 a).get I1 rfl hqx
  obtain ⟨its2, rv2, p2⟩ := (src_b X.K m2 b).get I1 rfl hqy
  have la := (src_b X.K m1 a).lt _ _ p1
  have lb := (src_b X.K m2 b).lt _ _ p2
  refine zip_begins2 ((src_b X.K m1 a).begins its.toArray) ((src_b X.K m2 b).begins its2.toArray) p1 p2 fun h' hz hTI hTO h1 h2 hsz hk => wpAny_pyIter_zip hz ?_
  have I2 : Inv X pins σ H1 { s1 with heap := h' } := I1.kept (t' := s1.toks) hk
  refine ⟨s1.heap.objs.size + 4, [s1.heap.objs.size + 4, s1.heap.objs.size + 2, s1.heap.objs.size + 3, s1.heap.objs.size, s1.heap.objs.size + 1], _, _, H1, rfl, I2, turn_zipG (src_b X.K m1 a) (src_b X.K m2 b) (PySem.W.ktu_apart s1.heap.objs.size a b la lb) (Nat.ne_of_lt la) (Nat.ne_of_lt (Nat.lt_succ_of_lt lb)), ⟨hz, hTI, ⟨_, _, hTO⟩, (src_b X.K m1 a).start _ _ h1, (src_b X.K m2 b).start _ _ h2⟩, fun c hcm => ?_, q⟩
  have e' : c = s1.heap.objs.size + 4 ∨ c = s1.heap.objs.size + 2 ∨ c = s1.heap.objs.size + 3 ∨ c = s1.heap.objs.size ∨ c = s1.heap.objs.size + 1 := by simpa using hcm
  have hle : s1.heap.objs.size ≤ c := by
    rcases e' with z | z | z | z | z <;> rw [z] <;> omega
  exact I1.fpOk hle (I1.hok.fresh hle)
end
section
variable {X : Cx} {Y : Ent} {W : WX} {pos : Pos}
def toZpM : List R → M (List D) := fun rs g => match rs with
  | [.fz (.lst ds), .fz (.lst es)] => .ok (zpD ds es) g
  | [.fz (.tup ds), .fz (.tup es)] => .ok (zpD ds es) g
  | [.fz (.lst ds), .fz (.tup es)] => .ok (zpD ds es) g
  | [.fz (.tup ds), .fz (.lst es)] => .ok (zpD ds es) g
  | _ => .bad
def iZpM (k : M (List R)) : M (List D) := mb k toZpM
theorem di_zpM {e e2 : Expr} {p tpos : Pos} {elts : List Expr} {kk : Nat} {k : M (List R)} (hg : Gl X "zip") (hm : X.mg "zip" = none) (ha : DA X Y W [e, e2] k) (hs : starEach [e, e2] X.env = (false, eval e X.env) :: starEach [e2] X.env := by rfl) (hpl : (backTo pos (starEach [e2] X.env)).any (·.1) = false := by rfl) :
    DI X Y W (.Tuple elts kk tpos) (.Call (.Name "zip" p) [e, e2] [] pos) (iZpM k) := by
  refine pi_mono (pi_zipG hg hm ha hs hpl) fun σ H R ⟨g, F, r, p⟩ => ⟨g, F, r, (p.bind).imp fun rs g1 H1 F1 r1 s1 p2 vs hv => ?_⟩
  unfold toZpM at p2
  have fin : ∀ {m1 m2 : Bool} {a b : Addr} {xs ys : List V} {ds es : List D}, IsL X.kw F1 xs ds → IsL X.kw F1 ys es → (∀ H F, Same F1 F → Same F H → SqB X.K m1 a H xs) → (∀ H F, Same F1 F → Same F H → SqB X.K m2 b H ys) → Srv X.kw F1 (ItzG (SqB X.K m1 a) (SqB X.K m2 b)) (zpD ds es) := fun k3 j3 gd gd2 =>
    srv_zip k3 j3 (fun i H ⟨x, hx⟩ ⟨y, hy⟩ F s0 s1 => ⟨_, _, x, y, gd H F s0 s1, gd2 H F s0 s1, hx, hy⟩) (fun i H F x H' s0 s1 ⟨T, x1, y, h1, h2, h3, h4, h5⟩ => ⟨T, x1, y, h1, h2, h3, h4 _ (gd H F s0 s1), h5 _ (gd2 H F s0 s1)⟩) (fun H F s0 s1 => ⟨_, _, gd H F s0 s1, gd2 H F s0 s1, by omega⟩)
  split at p2
  · rename_i ds es
    obtain ⟨v, us, rfl, ⟨a, xs, rfl, k1, k2, k3⟩, u, us2, rfl, ⟨b, ys, rfl, j1, j2, j3⟩, e3⟩ := hv
    rw [show us2 = [] from e3]
    have gd : ∀ H F, Same F1 F → Same F H → SqB X.kw false a H xs := fun H F s0 s1 => SqL.of (s1 _ _ (s0 _ _ k1))
    have gd2 : ∀ H F, Same F1 F → Same F H → SqB X.kw false b H ys := fun H F s0 s1 => SqL.of (s1 _ _ (s0 _ _ j1))
    exact ⟨false, false, a, b, xs, ys, rfl, gd H1 F1 (Same.refl _) r1.sub, gd2 H1 F1 (Same.refl _) r1.sub, p2 H1 F1 r1 (Same.refl _) _ H1 F1 r1 (Same.refl _) (fin k3 j3 gd gd2)⟩
  · rename_i ds es
    obtain ⟨v, us, rfl, ⟨a, xs, rfl, k1, k2, k3⟩, u, us2, rfl, ⟨b, ys, rfl, j1, j2, j3⟩, e3⟩ := hv
    rw [show us2 = [] from e3]
    have gd : ∀ H F, Same F1 F → Same F H → SqB X.kw true a H xs := fun H F s0 s1 => sqT_mono s1 (sqT_mono s0 k1)
    have gd2 : ∀ H F, Same F1 F → Same F H → SqB X.kw true b H ys := fun H F s0 s1 => sqT_mono s1 (sqT_mono s0 j1)
    exact ⟨true, true, a, b, xs, ys, rfl, gd H1 F1 (Same.refl _) r1.sub, gd2 H1 F1 (Same.refl _) r1.sub, p2 H1 F1 r1 (Same.refl _) _ H1 F1 r1 (Same.refl _) (fin k3 j3 gd gd2)⟩
  · rename_i ds es
    obtain ⟨v, us, rfl, ⟨a, xs, rfl, k1, k2, k3⟩, u, us2, rfl, ⟨b, ys, rfl, j1, j2, j3⟩, e3⟩ := hv
    rw [show us2 = [] from e3]
    have gd : ∀ H F, Same F1 F → Same F H → SqB X.kw false a H xs := fun H F s0 s1 => SqL.of (s1 _ _ (s0 _ _ k1))
    have gd2 : ∀ H F, Same F1 F → Same F H → SqB X.kw true b H ys := fun H F s0 s1 => sqT_mono s1 (sqT_mono s0 j1)
    exact ⟨false, true, a, b, xs, ys, rfl, gd H1 F1 (Same.refl _) r1.sub, gd2 H1 F1 (Same.refl _) r1.sub, p2 H1 F1 r1 (Same.refl _) _ H1 F1 r1 (Same.refl _) (fin k3 j3 gd gd2)⟩
  · rename_i ds es
    obtain ⟨v, us, rfl, ⟨a, xs, rfl, k1, k2, k3⟩, u, us2, rfl, ⟨b, ys, rfl, j1, j2, j3⟩, e3⟩ := hv
    rw [show us2 = [] from e3]
    have gd : ∀ H F, Same F1 F → Same F H → SqB X.kw true a H xs := fun H F s0 s1 => sqT_mono s1 (sqT_mono s0 k1)
    have gd2 : ∀ H F, Same F1 F → Same F H → SqB X.kw false b H ys := fun H F s0 s1 => SqL.of (s1 _ _ (s0 _ _ j1))
    exact ⟨true, false, a, b, xs, ys, rfl, gd H1 F1 (Same.refl _) r1.sub, gd2 H1 F1 (Same.refl _) r1.sub, p2 H1 F1 r1 (Same.refl _) _ H1 F1 r1 (Same.refl _) (fin k3 j3 gd gd2)⟩
  · exact p2.elim
/-- a block within a block -/
theorem relab_ok {env : Env} (x : Str) : ∀ {names : List (Str × NameKind)}, (match names.lookup x with | some .cell => true | some .free => true | _ => false) = true →
    (match (names.map fun (n, k) => if (k == NameKind.free && env.scope.kind == .function && env.kindOf n == some .cell) then (n, NameKind.cell) else (n, k)).lookup x with | some .cell => true | some .free => true | _ => false) = true
  | [], h => by cases h
  | (n, k) :: r, h => by
    have ih := @relab_ok env x r
    show (match List.lookup x ((if (k == NameKind.free && env.scope.kind == .function && env.kindOf n == some .cell) = true then (n, NameKind.cell) else (n, k)) :: _) with | some .cell => true | some .free => true | _ => false) = true
    generalize hp : (if (k == NameKind.free && env.scope.kind == .function && env.kindOf n == some .cell) = true then (n, NameKind.cell) else (n, k)) = p
    have hp2 : p = (n, NameKind.cell) ∨ p = (n, k) := by
      by_cases c : (k == NameKind.free && env.scope.kind == .function && env.kindOf n == some .cell) = true
      · rw [if_pos c] at hp; exact .inl hp.symm
      · rw [if_neg c] at hp; exact .inr hp.symm
    rw [List.lookup_cons] at h
    rcases hp2 with z | z
    · subst z
      rw [List.lookup_cons]
      cases e : x == n with
      | false => rw [e] at h; exact ih h
      | true => rfl
    · subst z
      rw [List.lookup_cons]
      cases e : x == n with
      | false => rw [e] at h; exact ih h
      | true => rw [e] at h; exact h
theorem blkOk_in {N : List Str} {scp scope : Scope} {cl : List (Str × Addr)} {C : Addr} {env : Env} {own : List (Str × Nat)} (h : blkC N scp scope own = true) : BlkOk N (compEnvC scp cl C env).scope scope own := by
  refine blkOk_by ?_
  unfold blkC at h ⊢
  simp only [Bool.and_eq_true] at h ⊢
  refine ⟨h.1, ?_⟩
  have h4 := h.2
  rw [List.all_eq_true] at h4 ⊢
  intro y hy
  have q := h4 y hy
  obtain ⟨y1, y2⟩ := y
  cases y2 <;> first | exact relab_ok y1 q | exact q
end
end DL

namespace DL
open PySem PySem.Spec L2
open PyProof.Rows hiding St
variable {X : Cx}
/-! # bits of whole numbers -/
def bBand : D → D → Option R
  | .int i, .int j => some (.fz (.int (Builtin.bitAnd i j)))
  | _, _ => none
end DL

namespace DL
open PySem PySem.Spec L2
open PyProof.Rows hiding St
variable {X : Cx}
/-! # xs.index(x), by data -/
def mIndexD : D → List D → Option R
  | .lst ds, [a] => if okEq a (.lst ds) = true then ((pyL ds).findIdx? fun z => PyData.eqv z a.py).map fun j => .fz (.int (j : Nat)) else none
  | _, _ => none
end DL

namespace DL
open PySem PySem.Spec L2 PyProof.Rows

/-! ### sep.join(reversed(list)), tuple(reversed(list)) -/
section
open RT
variable {prog : Program} {w : World} {A : Around} {E : Value → Shared → Prop} {s : Shared}
end
section
variable {X : Cx} {Y : Ent} {W : WX} {pos : Pos}
def tJoinRev (K : PySem.W.Frag) (to te : TE) : TE := fun σ H Q => to σ H fun x H1 => (∃ a, x = .str a) ∧ te σ H1 fun v H2 => ∃ (a : Str) (q : Addr) (xs : List V) (ys : List Str),
  x = .str a ∧ v = .ref q ∧ SqL K H2 q xs ∧ xs.reverse = ys.map V.str ∧ (ys.map (·.length)).sum + ys.length * a.length ≤ 16777216 ∧ Q (.str (Txt.join a ys)) H2
end
end DL

namespace DL
open PySem PySem.Spec L2
open PyProof.Rows hiding St
/-! # zip of a tuple or a list and a text -/
def chV (x : Str) : List V := x.cps.toList.map fun c => V.str ⟨#[c]⟩
def ItzS (SA : Hp → List V → Prop) (ys : List V) : It :=
  ⟨fun i H => ∃ (xs : List V) (x y : V), SA H xs ∧ xs[i]? = some x ∧ ys[i]? = some y,
    fun i H v H' => ∃ T x y, v = .ref T ∧ H T = none ∧ H' = upd H T (.tup [x, y]) ∧ (∀ xs, SA H xs → xs[i]? = some x) ∧ ys[i]? = some y,
    fun i H => ∃ xs : List V, SA H xs ∧ i = min xs.length ys.length⟩
section
variable {P : Program} {w : World} {K : PySem.W.Frag} {elts : List Expr} {kk : Nat} {tpos : Pos} {a z TI TO i1 i2 : Addr} {SA : Hp → List V → Prop} {IsA : Heap → Array Value → Prop} {ItA : Heap → Addr → Nat → Prop} {oA : Obj} {x : Str} {t : Tok}
end
section
variable {X : Cx} {Y : Ent} {W : WX} {pos : Pos}
def chD (x : Str) : List D := x.cps.toList.map fun c => D.str ⟨#[c]⟩
def toZpS : List R → M (List D) := fun rs g => match rs with
  | [.fz (.lst ds), .fz (.str x)] => .ok (zpD ds (chD x)) g
  | [.fz (.tup ds), .fz (.str x)] => .ok (zpD ds (chD x)) g
  | _ => .bad
def iZpS (k : M (List R)) : M (List D) := mb k toZpS
end
end DL

namespace DL
open PySem PySem.Spec L2
/-! # (*row, x) -/
def isTupR (x : R) : M Unit := fun g => match x with
  | .fz (.tup _) => .ok () g
  | _ => .bad
def eStarT (f k : M R) : M R := mb (pk f) fun x => mb (isTupR x) fun _ => mb (pk (eTup (aCons (esc k) aNil))) fun y => op2 bAdd x y
section
variable {X : Cx} {Y : Ent} {W : WX} {pos : Pos}
end
end DL

set_option maxHeartbeats 4000000
/-! # tuple * 1 -/
namespace DL
open PySem PySem.Spec L2 PyProof.Rows
def rRepT1 (K : PySem.W.Frag) : R2 := fun x y H Q => ∃ l xs, x = .ref l ∧ y = .int 1 ∧ SqT K H l xs ∧ Q (.ref l) H
section
variable {X : Cx}
def bMulT : D → D → Option R
  | .tup xs, .int 1 => some (.fz (.tup xs))
  | a, b => bMul a b
end
end DL

/-! # sorted, of lists of tuples of whole numbers -/
namespace DL
open PySem PySem.Spec L2
open PyProof.Rows hiding St
/-! the order -/
theorem lexT_anti : ∀ xs ys : List Int, HT.lexLt xs ys = false → HT.lexLt ys xs = false → xs = ys
  | [], [], _, _ => rfl
  | [], y :: ys, h, _ => by rw [HT.lexLt_nil_cons] at h; cases h
  | x :: xs, [], _, h => by rw [HT.lexLt_nil_cons] at h; cases h
  | x :: xs, y :: ys, h, g => by
    rw [HT.lexLt_cons] at h g
    by_cases e : x = y
    · subst e
      rw [if_pos rfl] at h g
      rw [lexT_anti xs ys h g]
    · rw [if_neg e] at h
      rw [if_neg (fun q => e q.symm)] at g
      have a := of_decide_eq_false h
      have b := of_decide_eq_false g
      omega
def leT (a b : List Int) : Bool := !HT.lexLt b a
def srtT (ns : List (List Int)) : List (List Int) := ns.mergeSort leT
theorem leT_iff {a b : List Int} : leT a b = true ↔ HT.lexLt b a = false := by unfold leT; simp
theorem srtT_perm (ns : List (List Int)) : (srtT ns).Perm ns := List.mergeSort_perm ns _
theorem leT_trans (a b c : List Int) (h1 : leT a b = true) (h2 : leT b c = true) : leT a c = true := leT_iff.mpr (NtL.lex_tr _ _ _ (leT_iff.mp h1) (leT_iff.mp h2))
theorem leT_total (a b : List Int) : (leT a b || leT b a) = true := by
  cases h : HT.lexLt b a with
  | false => rw [leT_iff.mpr h]; rfl
  | true => rw [leT_iff.mpr (NtL.lex_asym _ _ h), Bool.or_true]
theorem srtT_pw (ns : List (List Int)) : (srtT ns).Pairwise (fun a b => leT a b = true) := List.pairwise_mergeSort leT_trans leT_total ns
theorem srtT_of {ns ms : List (List Int)} (h1 : ms.Perm ns) (h2 : ms.Pairwise (fun a b => HT.lexLt b a = false)) : ms = srtT ns :=
  List.Perm.eq_of_pairwise (fun a b _ _ x y => lexT_anti _ _ (leT_iff.mp y) (leT_iff.mp x)) (h2.imp fun {a b} h => leT_iff.mpr h) (srtT_pw ns) (h1.trans (srtT_perm ns).symm)
/-! raw -/
section
variable {prog : Program} {w : World} {A : Around} {E : Value → Shared → Prop} {s : Shared}
def TI (h : Heap) (v : Value) (ns : List Int) : Prop := ∃ (a : Addr) (items : Array Value), v = .ref a ∧ h.IsTuple a items ∧ IntsAre items.toList ns
theorem kat_lexT {fin : Bool} {Q : Bool → Shared → Prop} {xs : List Value} {ns : List Int} (hx : IntsAre xs ns) : ∀ {ys : List Value} {ms : List Int} (i : Nat), IntsAre ys ms → fin = decide (ns.length < ms.length) → Q (HT.lexLt ns ms) s → PySem.W.KatLex prog w A true fin Q (xs.zip ys) i s := by
  induction hx with
  | nil =>
    intro ys ms i hy hf q
    rw [List.zip_nil_left]
    refine PySem.W.kat_nil ?_
    rw [hf]
    cases hy with
    | nil => exact q
    | cons c u hy => exact q
  | cons a t hx ih =>
    intro ys ms i hy hf q
    cases hy with
    | nil =>
      rw [List.zip_nil_right]
      refine PySem.W.kat_nil ?_
      rw [hf]; exact q
    | cons c u hy =>
      rw [List.zip_cons_cons]
      rw [HT.lexLt_cons] at q
      refine PySem.W.kat_cons (SeqAt.EqAt.int_int a t c u prog w _ _ ?_)
      refine PySem.W.kat_go (fun e1 => ?_) (fun e1 => ?_)
      · have ex : a = c := by simpa using e1
        rw [if_pos ex] at q
        exact PySem.W.kat_yes (ih (i + 1) hy (by simpa using hf) q)
      · have ex : ¬ a = c := by simpa using e1
        rw [if_neg ex] at q
        exact PySem.W.kat_no (PyProof.Rows.oneLt_any_int q)
theorem tup_cmp {vs : List Value} {k : Value → List Int} (hp : ∀ v ∈ vs, TI s.heap v (k v)) : SrtO.Cmp prog w A s (tuples' true) (fun p => p.1 ∈ vs) (SrtO.lt2 fun v u => HT.lexLt (k v) (k u)) := by
  intro p q hm hm'
  have h1 := hp _ hm
  have h2 := hp _ hm'
  show wpAny (model prog w) A (keyLt' (tuples' true) p.1 q.1) (fun r s' => s' = s ∧ r = HT.lexLt (k p.1) (k q.1)) (fun _ _ => False) s
  generalize k p.1 = ns at h1 ⊢
  generalize k q.1 = ms at h2 ⊢
  obtain ⟨a, xs, e, ⟨o, ho, hc, n, hd⟩, hi⟩ := h1
  obtain ⟨a', ys, e', ⟨o', ho', hc', n', hd'⟩, hi'⟩ := h2
  rw [e, e']
  refine PySem.W.kat_lt ho hd ho' hd' ?_
  refine kat_lexT hi 0 hi' ?_ ⟨rfl, rfl⟩
  rw [← hi.length, ← hi'.length]; simp
theorem tup_firsts {h : Heap} {k : Value → List Int} : ∀ {vs : List Value}, (∀ v ∈ vs, TI h v (k v) ∧ k v ≠ []) → ∃ fs, PySem.W.KatTups h vs fs ∧ fs.length = vs.length ∧ ∀ f ∈ fs, ∃ x t, f = Value.int x t
  | [], _ => ⟨[], PySem.W.KatTups.nil, rfl, fun f hf => by cases hf⟩
  | v :: vs, hv => by
    obtain ⟨fs, q1, q2, q3⟩ := tup_firsts fun u hu => hv u (List.mem_cons_of_mem _ hu)
    obtain ⟨⟨a, xs, e, ⟨o, ho, hc, n, hd⟩, hi⟩, ne⟩ := hv v List.mem_cons_self
    have key : ∃ x t, xs[0]? = some (Value.int x t) := by
      generalize k v = ns at hi ne
      generalize el : xs.toList = l at hi
      cases hi with
      | nil => exact absurd rfl ne
      | cons x t hr => exact ⟨x, t, by rw [← Array.getElem?_toList, el]; rfl⟩
    obtain ⟨x, t, hx⟩ := key
    refine ⟨.int x t :: fs, by rw [e]; exact PySem.W.KatTups.cons ho hc hd hx q1, by simp [q2], fun f hf => ?_⟩
    rcases List.mem_cons.mp hf with rfl | hf
    · exact ⟨x, t, rfl⟩
    · exact q3 f hf
theorem tup_sortable {a : Addr} {vs : List Value} {k : Value → List Int} (h0 : 0 < vs.length) (hp : ∀ v ∈ vs, TI s.heap v (k v) ∧ k v ≠ []) (ha : ∀ o, s.heap.get? a = some o → o.cls ≠ .type "tuple") : SrtO.SortableO prog w A s a vs fun v u => HT.lexLt (k v) (k u) := by
  intro h' keep
  have hp' : ∀ v ∈ vs, TI h' v (k v) ∧ k v ≠ [] := fun v hm => by
    obtain ⟨⟨b, xs, e, ⟨o, ho, hc, r⟩, hi⟩, ne⟩ := hp v hm
    exact ⟨⟨b, xs, e, ⟨o, keep b o (fun z => by subst z; exact ha o ho hc) ho, hc, r⟩, hi⟩, ne⟩
  obtain ⟨fs, h1, h2, h3⟩ := tup_firsts hp'
  refine ⟨tuples' true, fun Q E hq => ?_, tup_cmp (s := { s with heap := h' }) fun v hm => (hp' v hm).1⟩
  refine PySem.W.kat_kind (s := { s with heap := h' }) (T := .type "int") h1 (by omega) (fun f hm => ?_) (by rfl) ?_
  · obtain ⟨x, t, rfl⟩ := h3 f hm
    exact PySem.W.Looks.now
  · have e : (Value.type "int" != Value.type "tuple") = true := by first | decide +kernel | rfl | decide
    rw [e]
    exact hq
theorem sorted_tupsO {l : Addr} {vs : List Value} {k : Value → List Int} {Q : Value → Shared → Prop} (hl : s.heap.IsList l vs.toArray) (hz : vs.length ≤ sizeLine) (hp : ∀ v ∈ vs, TI s.heap v (k v) ∧ k v ≠ [])
    (h : ∀ (h' : Heap) (d : Addr) (out : List Value), SrtO.Srtd (fun v u => HT.lexLt (k v) (k u)) out → SrtO.Stb (fun v u => HT.lexLt (k v) (k u)) out vs → (∀ b o, s.heap.get? b = some o → h'.get? b = some o) → s.heap.objs.size ≤ d → (∃ n, h'.get? d = some (seqObj "list" out.toArray n)) → Q (.ref d) { s with heap := h' }) :
    wpAny (model prog w) A (call (.builtin "sorted") [.ref l]) Q E s := by
  refine SrtO.sorted_ord (NtL.swo_lexL k) hl hz (fun h2 h₁ a ha kk => ?_) fun out hs hb => ?_
  · refine tup_sortable (s := { s with heap := h₁ }) (by omega) (fun v hm => ?_) fun o e => ?_
    · obtain ⟨⟨b, xs, e, ⟨o, ho, r⟩, hi⟩, ne⟩ := hp v hm
      exact ⟨⟨b, xs, e, ⟨o, (kk b o ho).2, r⟩, hi⟩, ne⟩
    · have e' : some o = some (seqObj "list" vs.toArray 0) := e.symm.trans ha
      cases e'
      intro c
      exact absurd (Value.type.inj c) (by decide)
  · exact h _ _ out hs hb (fun b o e => sortedAll_old e) (Nat.le_succ _) (sortedAll_at s.heap vs out.toArray)
end

/-! the layer -/
section
variable {X : Cx} {pins : List (Addr × Obj)} {σ : St} {H : Hp} {s : Shared}
theorem ti_raw (I : Inv X pins σ H s) {t : Addr} {ns : List Int} (h : SqT X.K H t (ns.map V.int)) : TI s.heap (.ref t) ns := by
  obtain ⟨its, rv, hT, _⟩ := I.tuple h
  exact ⟨t, its.toArray, rfl, hT, by simpa using rv.ints⟩
noncomputable def rdT (h : Heap) (v : Value) : List Int := @dite _ (∃ ns, TI h v ns) (Classical.propDecidable _) (fun q => Classical.choose q) fun _ => []
theorem ints_uniq {xs : List Value} {ns : List Int} (h : IntsAre xs ns) : ∀ {ms : List Int}, IntsAre xs ms → ns = ms := by
  induction h with
  | nil => intro ms k; cases k; rfl
  | cons a t hx ih =>
    intro ms k
    cases k with
    | cons _ _ k => rw [ih k]
theorem ti_uniq {h : Heap} {v : Value} {ns ms : List Int} (a : TI h v ns) (b : TI h v ms) : ns = ms := by
  obtain ⟨p, xs, e, ⟨o, ho, hc, n, hd⟩, hi⟩ := a
  obtain ⟨p', ys, e', ⟨o', ho', hc', n', hd'⟩, hi'⟩ := b
  have e1 := e.symm.trans e'
  cases e1
  have e2 := ho.symm.trans ho'
  cases e2
  have e3 := hd.symm.trans hd'
  cases e3
  exact ints_uniq hi hi'
theorem rdT_eq {h : Heap} {v : Value} {ns : List Int} (a : TI h v ns) : rdT h v = ns := by
  unfold rdT
  have q : ∃ ns, TI h v ns := ⟨ns, a⟩
  rw [dif_pos q]
  exact ti_uniq (Classical.choose_spec q) a
def adT : Value → Addr
  | .ref a => a
  | _ => 0
def rSortedTO (K : KW) : List V → Hp → VK → Prop := fun vs H Q => ∃ (a : Addr) (ps : List (Addr × List Int)), vs = [V.ref a] ∧ SqL K.K H a (ps.map fun p => V.ref p.1) ∧ (∀ p ∈ ps, SqT K.K H p.1 (p.2.map V.int) ∧ p.2 ≠ []) ∧
  ∀ (ps' : List (Addr × List Int)) (q : Addr), ps'.Perm ps → ps'.map (·.2) = srtT (ps.map (·.2)) → H q = none → Q (.ref q) (upd H q (.lst (ps'.map fun p => V.ref p.1)))
theorem cr_sortedTO : CallR X (.builtin "sorted") (rSortedTO X.kw) := by
  intro pins s σ H vs us Q I r h
  obtain ⟨a, ps, rfl, hs, hx, q⟩ := h
  obtain ⟨its, rv, hl, hz⟩ := I.list hs
  obtain ⟨u, rfl, ru⟩ := vals1 r
  obtain rfl : u = Value.ref a := ru
  obtain ⟨e1, e2⟩ := refs_back rv fun x m => by
    obtain ⟨p, _, e⟩ := List.mem_map.mp m
    exact ⟨p.1, e.symm⟩
  have ei : its = ps.map fun p => Value.ref p.1 := by
    have : ∀ (ls : List Value) (qs : List (Addr × List Int)), (∀ u ∈ ls, ∃ a, u = Value.ref a) → (qs.map fun p => V.ref p.1) = ls.map backV → ls = qs.map fun p => Value.ref p.1 := by
      intro ls
      induction ls with
      | nil => intro qs _ e; cases qs with
        | nil => rfl
        | cons p qs => cases e
      | cons u ls ih => intro qs hu e; cases qs with
        | nil => cases e
        | cons p qs =>
          obtain ⟨b, rfl⟩ := hu u List.mem_cons_self
          rw [List.map_cons, List.map_cons] at e
          injection e with e3 e4
          have e5 : V.ref p.1 = V.ref b := e3
          injection e5 with e6
          rw [List.map_cons, ← e6, ih qs (fun y hy => hu y (List.mem_cons_of_mem _ hy)) e4]
    exact this its ps e2 e1
  have hT : ∀ p ∈ ps, TI s.heap (.ref p.1) p.2 := fun p hp => ti_raw I (hx p hp).1
  have back : (its.map fun u => (adT u, rdT s.heap u)) = ps := by
    rw [ei, List.map_map]
    refine (List.map_congr_left fun p hp => ?_).trans (List.map_id ps)
    show (p.1, rdT s.heap (.ref p.1)) = p
    rw [rdT_eq (hT p hp)]
  refine sorted_tupsO (k := rdT s.heap) hl.isList (by rw [← rv.length]; exact hz) (fun v hv => ?_) fun h' d out h1 h2 kp hd hn => ?_
  · rw [ei] at hv
    obtain ⟨p, hp, rfl⟩ := List.mem_map.mp hv
    rw [rdT_eq (hT p hp)]
    exact ⟨hT p hp, (hx p hp).2⟩
  · have h3 : ∀ u ∈ out, ∃ a, u = Value.ref a := fun u hu => e2 u (h2.perm.mem_iff.mp hu)
    obtain ⟨n, hn⟩ := hn
    have pm : (out.map fun u => (adT u, rdT s.heap u)).Perm ps := by
      have := h2.perm.map fun u => (adT u, rdT s.heap u)
      rwa [back] at this
    have ev : (out.map backV) = (out.map fun u => (adT u, rdT s.heap u)).map fun p => V.ref p.1 := by
      rw [List.map_map]
      refine List.map_congr_left fun u hu => ?_
      obtain ⟨b, rfl⟩ := h3 u hu
      rfl
    have es : (out.map fun u => (adT u, rdT s.heap u)).map (·.2) = srtT (ps.map (·.2)) := by
      refine srtT_of (pm.map _) ?_
      rw [List.map_map]
      exact List.pairwise_map.mpr (h1.imp fun {x y} z => z)
    refine ⟨.ref d, upd H d (.lst (out.map backV)), I.laid (t' := s.toks) kp hd ⟨?_, out, n, vals_back h3, hn⟩, rfl, ?_⟩
    · rw [List.length_map, h2.perm.length_eq, ← rv.length]; exact hz
    · rw [ev]
      exact q _ d pm es (I.hok.fresh hd)
end

/-! data -/
def tupOf : D → Option (List Int)
  | .tup xs => (intsOf xs).bind fun ns => if ns = [] then none else some ns
  | _ => none
def tupsOf : List D → Option (List (List Int))
  | [] => some []
  | d :: r => (tupOf d).bind fun n => (tupsOf r).map fun ns => n :: ns
theorem tupOf_eq {d : D} {n : List Int} (h : tupOf d = some n) : d = .tup (n.map D.int) ∧ n ≠ [] := by
  unfold tupOf at h
  split at h
  · rename_i xs
    cases e : intsOf xs with
    | none => rw [e] at h; cases h
    | some ns =>
      rw [e, Option.bind_some] at h
      split at h
      · cases h
      · rename_i ne
        cases h
        exact ⟨by rw [intsOf_eq e], ne⟩
  · cases h
theorem tupsOf_eq : ∀ {ds : List D} {nss : List (List Int)}, tupsOf ds = some nss → (ds = nss.map fun ns => D.tup (ns.map D.int)) ∧ ∀ n ∈ nss, n ≠ []
  | [], nss, h => by
    cases h
    exact ⟨rfl, fun n hn => by cases hn⟩
  | d :: ds, nss, h => by
    have h : (tupOf d).bind (fun n => (tupsOf ds).map fun ns => n :: ns) = some nss := h
    cases e1 : tupOf d with
    | none => rw [e1] at h; cases h
    | some n =>
      cases e2 : tupsOf ds with
      | none => rw [e1, e2] at h; cases h
      | some ns =>
        rw [e1, e2] at h
        cases h
        obtain ⟨a, b⟩ := tupsOf_eq e2
        obtain ⟨c, d'⟩ := tupOf_eq e1
        refine ⟨by rw [List.map_cons, ← a, c], fun m hm => ?_⟩
        rcases List.mem_cons.mp hm with rfl | hm
        · exact d'
        · exact b m hm
theorem isl_tups {K : KW} {F : Hp} : ∀ ps : List (Addr × List Int), (∀ p ∈ ps, SqT K.K F p.1 (p.2.map V.int) ∧ p.2.length ≤ sizeLine) → IsL K F (ps.map fun p => V.ref p.1) ((ps.map (·.2)).map fun ns => D.tup (ns.map D.int))
  | [], _ => rfl
  | p :: ps, h => ⟨V.ref p.1, _, rfl, ⟨p.1, p.2.map V.int, rfl, (h p List.mem_cons_self).1, by rw [List.length_map]; exact (h p List.mem_cons_self).2, IsL.ints _⟩, isl_tups ps fun q hq => h q (List.mem_cons_of_mem _ hq)⟩
theorem tups_at {K : KW} {F : Hp} : ∀ (nss : List (List Int)) (vs : List V), IsL K F vs (nss.map fun ns => D.tup (ns.map D.int)) → ∃ ps : List (Addr × List Int), (vs = ps.map fun p => V.ref p.1) ∧ nss = ps.map (·.2) ∧ ∀ p ∈ ps, SqT K.K F p.1 (p.2.map V.int) ∧ p.2.length ≤ sizeLine
  | [], vs, h => ⟨[], h, rfl, fun p hp => by cases hp⟩
  | n :: nss, vs, h => by
    obtain ⟨v, r, rfl, ⟨a, ys, rfl, h1, h2, h3⟩, h4⟩ := h
    obtain ⟨ps, rfl, rfl, q⟩ := tups_at nss r h4
    have e := IsL.ints' n ys h3
    subst e
    rw [List.length_map] at h2
    refine ⟨(a, n) :: ps, rfl, rfl, fun p hp => ?_⟩
    rcases List.mem_cons.mp hp with rfl | hp
    · exact ⟨h1, h2⟩
    · exact q p hp
def fSortH (ds : List D) : Option R := match fSortG ds with
  | some r => some r
  | none => match ds with
    | [.lst xs] => (tupsOf xs).map fun nss => .ow (.ls ((srtT nss).map fun ns => D.tup (ns.map D.int)))
    | _ => none
section
variable {X : Cx}
theorem cd_sortH : CallD X (.builtin "sorted") fSortH := by
  intro pins s σ H xs us Q I r ⟨F, ds, r', sm, hc, ho, hr⟩
  unfold fSortH at ho
  split at ho
  · rename_i r0 e
    cases ho
    exact cd_sortG pins s σ H xs us Q I r ⟨F, ds, _, sm, hc, e, hr⟩
  · split at ho
    · rename_i ds' _
      cases e : tupsOf ds' with
      | none => rw [e] at ho; cases ho
      | some nss =>
        rw [e] at ho
        cases ho
        obtain ⟨p, vs, rfl, h1, h2, h3⟩ := lst_one sm hc
        obtain ⟨e', ne⟩ := tupsOf_eq e
        subst e'
        obtain ⟨ps, rfl, rfl, e3⟩ := tups_at nss vs h3
        refine cr_sortedTO pins s σ H _ us Q I r ⟨p, ps, rfl, h1, fun p hp => ⟨sqT_mono sm (e3 p hp).1, ne _ (List.mem_map_of_mem hp)⟩, fun ps' l pm es hl => ?_⟩
        rw [List.length_map, List.length_map] at h2
        refine hr.ls sm ?_ ?_ hl
        · rw [← es]
          exact isl_tups ps' fun p hp => e3 p (pm.mem_iff.mp hp)
        · rw [List.length_map, ← es, List.length_map, pm.length_eq]; exact h2
    · cases ho
end
end DL

/-! # max, min of a list of whole numbers -/
namespace DL
open PySem PySem.Spec L2
def mxI : List Int → Int
  | [] => 0
  | [x] => x
  | x :: y :: r => if x < mxI (y :: r) then mxI (y :: r) else x
def mnI : List Int → Int
  | [] => 0
  | [x] => x
  | x :: y :: r => if mnI (y :: r) < x then mnI (y :: r) else x
def fMax : List D → Option R
  | [.lst xs] => (intsOf xs).bind fun ns => if ns = [] then none else some (.fz (.int (mxI ns)))
  | _ => none
def fMin : List D → Option R
  | [.lst xs] => (intsOf xs).bind fun ns => if ns = [] then none else some (.fz (.int (mnI ns)))
  | _ => none
section
variable {X : Cx}
end
end DL

namespace DL
open PySem PySem.Spec L2
/-! # dicts that are walked: an own dict is frozen and locked for good -/
section
variable {X : Cx} {e : Expr} {t : TE}
end
def O.lkd : O → Option D
  | .dk kvs => some (.lk kvs)
  | .dd kvs => some (.ld kvs)
  | _ => none
def lockR : R → M R := fun r g => match r with
  | .ow o => (match o.lkd with
    | some d => .ok (.fz d) g
    | none => .bad)
  | .fz d => .ok (.fz d) g
  | .at i => (match g[i]? with
    | some (some (.ow false o)) => (match o.lkd with
      | some d => .ok (.fz d) (g.set i (some (.fz d)))
      | none => .bad)
    | some (some (.fz d)) => .ok (.fz d) g
    | _ => .bad)
  | .sub _ _ => .bad
def lkM (f : M R) : M R := mb f lockR
section
variable {K : KW} {Y : Ent} {σ : St} {H F : Hp} {g : G}
theorem OwAt.lkd {a : Addr} {o : O} {d : D} (q : OwAt K F H a o) (e : o.lkd = some d) :
    o.leaf = true ∧ ∃ u, H a = some u ∧ Mut (some u) ∧ ∀ F' od, Same F F' → F' a = some (.frz od u) → Is K F' (.ref a) d := by
  cases o with
  | dk kvs =>
    cases e
    unfold OwAt at q
    obtain ⟨ks, h1, h2, h3⟩ := q
    exact ⟨rfl, _, h1, trivial, fun F' od s hf => ⟨a, od, ks, rfl, hf, h2, IsK.mono s _ _ h3⟩⟩
  | dd kvs =>
    cases e
    unfold OwAt at q
    obtain ⟨xs, h1, h2, h3, h4⟩ := q
    exact ⟨rfl, _, h1, trivial, fun F' od s hf => ⟨a, od, xs, rfl, hf, h2, h3, IsN.mono s _ _ h4⟩⟩
  | ls _ => cases e
  | dt _ => cases e
  | ob _ _ => cases e
end
section
variable {X : Cx} {Y : Ent} {W : WX} {e : Expr} {f : M R}
/-! ### for k in d, d.items() -/
def kD : Key → D
  | .inl i => .int i
  | .inr s => .str s
def kOk : Key → Bool
  | .inl _ => true
  | .inr s => decide (s.length ≤ sizeLine)
def toKeys : R → M (List D) := fun r g => match r with
  | .fz (.lk kvs) => if (kvs.all fun p => kOk p.1) = true then .ok (kvs.map fun p => kD p.1) g else .bad
  | _ => .bad
def toItems : R → M (List D) := fun r g => match r with
  | .fz (.lk kvs) => if (kvs.all fun p => kOk p.1) = true then .ok (kvs.map fun p => .tup [kD p.1, p.2]) g else .bad
  | _ => .bad
def iKeysD (f : M R) : M (List D) := mb (lkM f) toKeys
def iItemsD (f : M R) : M (List D) := mb (lkM f) toItems
end
end DL

namespace DL
open PySem PySem.Spec L2 PyProof.Rows
/-! # dict comprehensions with two fors -/
abbrev dc2E (kx vx t0 i0 t1 i1 : Expr) (f0 f1 : List Expr) (sc : Scope) (ps : Pos) : Expr := .DictComp kx vx [⟨t0, i0, f0, 0⟩, ⟨t1, i1, f1, 0⟩] sc ps
section
variable {kx vx t0 i0 t1 i1 : Expr} {f0 f1 : List Expr} {sc : Scope} {ps : Pos} {it acc : Value} {D : Addr} {en : Env}
variable {pg : Program} {w : World} {A : Around} {R : Result → Shared → Prop}
/-- a turn of the first for, of the second -/
def Tn0 (pg : Program) (w : World) (A : Around) (kx vx t0 i0 t1 i1 : Expr) (f0 f1 : List Expr) (sc : Scope) (ps : Pos) (it acc : Value) (en : Env) (R : Result → Shared → Prop) (I : Nat → Shared → Prop) (n : Nat) (z : Shared) : Prop :=
  let N := notedBy (model pg w) A en fun e s' => R (.error e) s'
  wpAny (model pg w) A (pyNext it) (fun r z1 => match r with
    | none => R (.ok .next) z1
    | some u => wpAny (model pg w) A (letOwnedTupleGo t0 it u) (fun _ z2 => wpAny (model pg w) A (assign t0 en u) (fun _ z3 =>
        wpAny (model pg w) A (forIn f0 true fun c r => if r = true then do let okk ← isTrue c en (eval c en); pure (ForInStep.yield okk) else pure (ForInStep.yield r)) (fun okk z4 =>
          if okk = true then wpAny (model pg w) A (eval i1 en) (fun y z5 => wpAny (model pg w) A (pyIter y) (fun j z6 =>
            codeAny (model pg w) A (.compStart (dc2E kx vx t0 i0 t1 i1 f0 f1 sc ps) 1 j acc en) (fun r s' => match r with
              | .ok _ => ∃ m, m < n ∧ I m s'
              | .error _ => False) z6) N z5) N z4
          else ∃ m, m < n ∧ I m z4) N z3) N z2) N z1) N z
def Tn1 (pg : Program) (w : World) (A : Around) (kx vx t1 : Expr) (f1 : List Expr) (it : Value) (D : Addr) (en : Env) (R : Result → Shared → Prop) (I : Nat → Shared → Prop) (n : Nat) (z : Shared) : Prop :=
  let N := notedBy (model pg w) A en fun e s' => R (.error e) s'
  wpAny (model pg w) A (pyNext it) (fun r z1 => match r with
    | none => R (.ok .next) z1
    | some u => wpAny (model pg w) A (letOwnedTupleGo t1 it u) (fun _ z2 => wpAny (model pg w) A (assign t1 en u) (fun _ z3 =>
        wpAny (model pg w) A (forIn f1 true fun c r => if r = true then do let okk ← isTrue c en (eval c en); pure (ForInStep.yield okk) else pure (ForInStep.yield r)) (fun okk z4 =>
          if okk = true then wpAny (model pg w) A (eval kx en) (fun ky z5 => wpAny (model pg w) A (eval vx en) (fun vy z6 =>
            wpAny (model pg w) A (dictSet D ky vy) (fun _ z7 => ∃ m, m < n ∧ I m z7) N z6) N z5) N z4
          else ∃ m, m < n ∧ I m z4) N z3) N z2) N z1) N z
end
section
variable {X : Cx}
def tDc2 (wi : L2.TI) (g : TG) (tt : TT) (wi1 : L2.TI) (g1 : TG) (tt1 : TT) (tk tv : TE) (vs vs1 : List Nat) : TE := fun σ H Q => wi σ H fun J Ha => ∀ D, Ha D = none → ∃ P : Nat → Nat → Hp → Prop, (∃ m, P 0 m (upd Ha D (.dK []))) ∧ ∀ i m Hb, P i m Hb →
  (J.stop i Hb ∧ Q (.ref D) Hb) ∨ (J.go i Hb ∧ ∃ N : Hp → Prop, (∀ Hc, N Hc → ∃ m', m' < m ∧ P (i + 1) m' Hc) ∧ ∀ x Hc, J.yld i Hb x Hc → g x (wipe σ vs) Hc fun σ2 Hd => wipe σ2 vs = wipe σ vs ∧ tt σ2 Hd fun b He =>
    if b = true then wi1 σ2 He fun J1 Hf => ∃ P1 : Nat → Nat → Hp → Prop, (∃ m, P1 0 m Hf) ∧ ∀ j k Hg, P1 j k Hg →
      (J1.stop j Hg ∧ N Hg) ∨ (J1.go j Hg ∧ ∃ N1 : Hp → Prop, (∀ Hh, N1 Hh → ∃ k', k' < k ∧ P1 (j + 1) k' Hh) ∧ ∀ x Hh, J1.yld j Hg x Hh → g1 x (wipe σ2 vs1) Hh fun σ3 Hi => wipe σ3 vs1 = wipe σ2 vs1 ∧ tt1 σ3 Hi fun b Hj =>
        if b = true then tk σ3 Hj fun y Hk => tv σ3 Hk fun z Hl => ∃ kvs ky, y = kV ky ∧ Hl D = some (.dK kvs) ∧ kvs.length < sizeLine ∧ N1 (upd Hl D (.dK (putK kvs ky z))) else N1 Hj)
    else N He)
abbrev AllB (X : Cx) (sc : Scope) (p : Cx → Prop) : Prop := ∀ (s : Shared) (H : Hp) (C : Addr) (cl : List (Str × Addr)) (fp : List Addr), p (X.blk s H sc (compEnvC sc cl C X.env) fp)
end
end DL

namespace DL
open PySem PySem.Spec L2
/-! # dict comprehensions with two fors: what they compute -/
def kvP : R → R → M R := fun x y g => match x, y with
  | .fz kd, .fz d => (match keyD kd with
    | some _ => .ok (.fz (.tup [kd, d])) g
    | none => .bad)
  | _, _ => .bad
def kvE (k e : M R) : M R := mb (pk k) fun x => mb (esc e) fun y => kvP x y
def addP (acc : List (Key × D)) (d : D) : List (Key × D) := match d with
  | .tup [kd, x] => (match keyD kd with
    | some k => putD acc k x
    | none => acc)
  | _ => acc
def toDk : R → M R := fun r g => match r with
  | .ow (.ls ds) => .ok (.ow (.dk (ds.foldl addP []))) g
  | _ => .bad
def eDc2 (it : M (List D)) (t : R → M Unit) (c : M Bool) (fi : M (List D)) (t1 : R → M Unit) (c1 : M Bool) (k e : M R) (vs vs1 : List Nat) : M R := mb (eLc2 it t c fi t1 c1 (kvE k e) vs vs1) toDk
section
variable {X : Cx} {Y : Ent} {W : WX}
end
section
variable {X : Cx} {Y : Ent} {W : WX} {pos : Pos}
end
end DL

namespace DL
open PySem PySem.Spec L2
/-! # a dict of the module's top with ints as keys and values; math.lcm, math.gcd -/
def kdP : List DictEntry → List (Int × Int) → Prop
  | [], [] => True
  | ⟨h, .int k _, .int v _⟩ :: es, (k', v') :: r => h = hashInt k' ∧ k = k' ∧ v = v' ∧ kdP es r
  | _, _ => False
def lkI (kvs : List (Int × Int)) (k : Int) : Option Int := (kvs.find? fun p => decide (p.1 = k)).map (·.2)
def bKd (kvs : List (Int × Int)) : D → Option R
  | .int k => (lkI kvs k).map fun v => .fz (.int v)
  | _ => none
section
variable {X : Cx} {x : Str} {i : Expr} {p pos : Pos} {ty : TE} {d : Addr} {es : Array DictEntry} {n : Nat} {kvs : List (Int × Int)}
end
section
variable {X : Cx} {Y : Ent} {W : WX} {x : Str} {b : Expr} {p pos : Pos} {d : Addr} {es : Array DictEntry} {n : Nat} {kvs : List (Int × Int)}
end
/-! ## math.lcm, math.gcd -/
def fLcm : List D → Option R
  | [.int a, .int b] => if a.natAbs < 2 ^ 64 ∧ b.natAbs < 2 ^ 64 then some (.fz (.int ((a.natAbs.lcm b.natAbs : Nat) : Int))) else none
  | _ => none
def fGcd : List D → Option R
  | [.int a, .int b] => some (.fz (.int ((a.natAbs.gcd b.natAbs : Nat) : Int)))
  | _ => none
section
variable {X : Cx}
def rLcm : List V → Hp → VK → Prop := fun vs H Q => ∃ a b : Int, vs = [.int a, .int b] ∧ a.natAbs < 2 ^ 64 ∧ b.natAbs < 2 ^ 64 ∧ Q (.int ((Nat.lcm a.natAbs b.natAbs : Nat) : Int)) H
variable {Y : Ent} {W : WX} {id : String} {x : Str} {e : Expr} {es : List Expr} {p pos : Pos}
end
end DL

/-! # len(set(xs)), xs any list of texts -/
namespace DLT
open PySem PySem.Spec PyProof.Rows
/-- the texts, each where it is met first -/
def dd1 (σ : List Str) (x : Str) : List Str := if σ.any (· == x) then σ else σ ++ [x]
def metS (xs : List Str) : List Str := xs.foldl dd1 []
/-- the set at S holds what the first i texts are -/
def HasS (pg : Program) (w : World) (S : Addr) (xs : List Str) (i : Nat) (h : Heap) : Prop :=
  h.SetOf (PySem.strKind pg w) S (fun c => (metS (xs.take i)).any (· == c)) (metS (xs.take i)).length
theorem HasS.keep {pg : Program} {w : World} {S : Addr} {xs : List Str} {i : Nat} {h h' : Heap} (x : HasS pg w S xs i h) (k : ∀ o, h.get? S = some o → h'.get? S = some o) : HasS pg w S xs i h' := by
  obtain ⟨o, es, ep, t, ho, r⟩ := x
  exact ⟨o, es, ep, t, k o ho, r⟩
section
variable {pg : Program} {w : World} {A : Around} {R : Result → Shared → Prop} {it : Addr} {fp wr : List Addr} {G : Array GenState → Array GenState → Prop} {n : Nat} {Pv : Nat → Value → Prop} {St : Nat → Shared → Prop}
end
end DLT
namespace DLT
open PySem PySem.Spec PyProof.Rows
section
variable {pg : Program} {w : World} {A : Around} {E : Value → Shared → Prop} {s : Shared}
/-- an empty set object -/
abbrev noS (b : Bool) : Obj := { cls := .type "set", dict := none, data := .set #[] 0 (.fresh 0 0 b) }
end
end DLT
namespace L2
open PySem PySem.Spec PyProof.Rows
section
variable {X : Cx} {a : Expr} {ta : TE} {p p2 q pos : Pos}
/-- len(set(xs)) of a list of texts -/
def tLenSetS (K : PySem.W.Frag) (ta : TE) : TE := fun σ H Q => ta σ H fun x H1 => ∃ l, ∃ xs : List Str, x = .ref l ∧ SqL K H1 l (xs.map V.str) ∧ xs.length ≤ 4000 ∧ Q (.int (DLT.metS xs).length) H1
end
end L2
namespace DL
open PySem PySem.Spec L2
open PyProof.Rows hiding St
section
variable {X : Cx} {Y : Ent} {W : WX} {p p2 q pos : Pos} {a : Expr}
def bLenS : D → Option R
  | .lst ds => if ds.length ≤ 4000 then (strsOf ds).map fun ns => .fz (.int ((DLT.metS ns).length : Nat)) else none
  | _ => none
end
end DL

/-! # list(d.values()) -/
namespace DLT
open PySem PySem.Spec PyProof.Rows
end DLT
namespace L2
open PySem PySem.Spec PyProof.Rows
section
variable {X : Cx} {o : Expr} {p pos apos mpos : Pos} {td : TE}
def tListVals (td : TE) : TE := fun σ H Q => td σ H fun x H1 => ∃ a kvs, x = V.ref a ∧ Rd H1 a (.dK kvs) ∧ ∀ l, H1 l = none → Q (.ref l) (upd H1 l (.lst (kvs.map (·.2))))
end
end L2
namespace DL
open PySem PySem.Spec L2
open PyProof.Rows hiding St
section
variable {X : Cx} {Y : Ent} {W : WX} {o : Expr} {p pos apos mpos : Pos}
def bLvals : D → Option R
  | .dk kvs => if kvs.length ≤ sizeLine then some (.ow (.ls (kvs.map (·.2)))) else none
  | .lk kvs => if kvs.length ≤ sizeLine then some (.ow (.ls (kvs.map (·.2)))) else none
  | _ => none
end
end DL

/-! # tuples whose whole object is known: tuple(xs), t.index(x), taken as plain tuples -/
namespace L2
open PySem PySem.Spec PyProof.Rows
section
variable {X : Cx}
theorem call_tupleX : CallR X (.type "tuple") (fun xs H Q => ∃ p ys, xs = [.ref p] ∧ SqL X.K H p ys ∧ ∀ (l : Addr) (o : Obj), H l = none → o.cls = .type "tuple" → o.dict = none → Q (.ref l) (upd H l (.frz o (.tup ys)))) := by
  intro pins s σ H xs us Q I r h
  obtain ⟨p, ys, rfl, hq, q⟩ := h
  obtain ⟨u, rfl, rx⟩ := vals1 r
  cases rx
  obtain ⟨its, rv, pl, hz⟩ := I.list hq
  have len := rv.length
  refine call_tuple_list pl.isList (fun h' kp => ?_) (by simp only [List.size_toArray] <;> omega)
  have I1 : Inv X pins σ H { s with heap := h' } := I.kept (t' := s.toks) kp
  exact ⟨.ref h'.objs.size, _, I1.laid (o := .frz { cls := .type "tuple", data := .seq its.toArray } (.tup ys)) (t' := s.toks) (fun b o e => Heap.get?_push_of_some _ e) (Nat.le_refl _) ⟨Heap.get?_push_size _ rfl, hz, its, rv, IsTup.new _ _⟩, rfl,
    q _ _ (I1.hok.fresh (Nat.le_refl _)) rfl rfl⟩
/-- the value is a known tuple -/
def tyU (x : V) (H : Hp) : Prop := ∃ (p : Addr) (o : Obj) (u : HO), x = .ref p ∧ H p = some (.frz o u) ∧ o.cls = .type "tuple" ∧ o.dict = none
theorem tyU_is {pins : List (Addr × Obj)} {σ : St} {H : Hp} {s : Shared} {x : V} {v : Value} (I : Inv X pins σ H s) (r : RelV x v) (ty : tyU x H) : s.TypeIs v "tuple" ∧ ∀ a, v = .ref a → ∃ ob, s.heap.get? a = some ob ∧ ob.dict = none := by
  obtain ⟨p, o, u, rfl, hp, hc, hd⟩ := ty
  cases r
  have e := (show ObjOk _ _ _ _ _ (.frz o u) from I.hok p _ hp).1
  exact ⟨⟨o, e, hc⟩, fun a ea => by cases ea; exact ⟨o, e, hd⟩⟩
def tBMU (r : V → List V → Hp → VK → Prop) (to : TE) (t : TA) : TE := fun σ H Q => to σ H fun x H1 => tyU x H1 ∧ t σ H1 fun xs H2 => r x xs H2 Q
variable {o e : Expr} {es : List Expr} {to : TE} {t : TA} {name : Str} {apos cpos : Pos} {id : String} {r : V → List V → Hp → VK → Prop}
theorem pe_bmU (pa : PlainAttrs "tuple") (slot : Slot "tuple" name id) (hty : typeOf (.builtin id) = pure (.type "method_descriptor")) (hm : MtR X id r) (ho : PE X o to) (ha : PA X (e :: es) t)
    (hbase : attributeBase o name X.env (eval o X.env) = eval o X.env := by rfl)
    (hfew : ((backTo cpos (starEach (e :: es) X.env)).all (fun x => !x.1) && (backToKw cpos (keywordEach [] X.env)).all (fun x => x.1.isSome)
      && decide ((e :: es).length + ([] : List Keyword).length + (if ([] : List Keyword).isEmpty then 0 else 1) < 30)) = true := by rfl)
    (hline : (apos.endLine == cpos.line) = true := by rfl) (hs : starEach (e :: es) X.env = (false, eval e X.env) :: starEach es X.env := by rfl) (hplain : (backTo cpos (starEach es X.env)).any (·.1) = false := by rfl) :
    PE X (.Call (.Attribute o name apos) (e :: es) [] cpos) (tBMU r to t) :=
  ⟨fun pins s σ H Q I h => wpAny_Call_method_late hbase hfew hline rfl (thn (ho.run pins s σ H _ I h) fun v s1 ⟨x, H1, I1, r1, ty, q1⟩ => by
    have hA := ha.run cpos pins s1 σ H1 _ I1 q1
    rw [hs] at hA ⊢
    exact ⟨"tuple", id, pa, slot, hty, (tyU_is I1 r1 ty).1, (tyU_is I1 r1 ty).2, Calls.callWith_builtin (by show (false || (backTo cpos (starEach es X.env)).any (·.1)) = false; rw [hplain] <;> rfl)
      (Calls.evalArgs_plain (thn hA fun us s2 ⟨vs, H2, I2, r2, q2⟩ => hm pins s2 σ H2 x vs v us Q I2 r1 r2 q2))⟩)⟩
end
end L2
namespace DL
open PySem PySem.Spec L2
open PyProof.Rows hiding St
section
variable {K : KW} {F H : Hp} {Q : VK}
theorem RP.tux {p : Addr} {o : Obj} {vs : List V} {ds : List D} (s : Same F H) (h : RP K F H Q (.fz (.tux ds))) (q : IsL K F vs ds) (hz : ds.length ≤ sizeLine) (hp : H p = none) (hc : o.cls = .type "tuple") (hd : o.dict = none) : Q (.ref p) (upd H p (.frz o (.tup vs))) :=
  h (.ref p) _ _ (ext_any s hp) ⟨p, o, vs, rfl, upd_same, ⟨hc, hd⟩, hz, IsL.mono (same_new (none_of_same s hp)) _ _ q⟩
theorem CV.tux {v : V} {ds : List D} (h : CV K F H v (.tux ds)) : Is K F v (.tux ds) := by
  rcases h with h | ⟨a, o, _, _, e⟩
  · exact h
  · cases o <;> cases e
/-! ### as plain tuples -/
mutual
def D.wk : D → D
  | .tux ds => .tup (wkL ds)
  | .tup ds => .tup (wkL ds)
  | .lst ds => .lst (wkL ds)
  | d => d
def wkL : List D → List D
  | [] => []
  | d :: ds => d.wk :: wkL ds
end
theorem wkL_map : ∀ ds : List D, wkL ds = ds.map D.wk
  | [] => rfl
  | d :: ds => by rw [wkL, wkL_map ds]; rfl
theorem wkL_len (ds : List D) : (wkL ds).length = ds.length := by rw [wkL_map, List.length_map]
mutual
theorem Is.wk : ∀ (d : D) (v : V), Is K F v d → Is K F v d.wk
  | .tux ds, _, ⟨a, ob, vs, e, s, n, z, q⟩ => by rw [D.wk]; exact ⟨a, vs, e, .inl (.inr ⟨ob, s⟩), by rw [wkL_len]; exact z, IsL.wk ds vs q⟩
  | .tup ds, _, ⟨a, vs, e, s, z, q⟩ => by rw [D.wk]; exact ⟨a, vs, e, s, by rw [wkL_len]; exact z, IsL.wk ds vs q⟩
  | .lst ds, _, ⟨a, vs, e, s, z, q⟩ => by rw [D.wk]; exact ⟨a, vs, e, s, by rw [wkL_len]; exact z, IsL.wk ds vs q⟩
  | .non, _, q => q
  | .bl _, _, q => q
  | .int _, _, q => q
  | .str _, _, q => q
  | .dk _, _, q => q
  | .dt _, _, q => q
  | .dd _, _, q => q
  | .obj _ _, _, q => q
  | .scr _, _, q => q
  | .exc _, _, q => q
  | .lk _, _, q => q
  | .ld _, _, q => q
theorem IsL.wk : ∀ (ds : List D) (vs : List V), IsL K F vs ds → IsL K F vs (wkL ds)
  | [], _, q => q
  | d :: ds, _, ⟨v, r, e, q, t⟩ => by rw [wkL]; exact ⟨v, r, e, Is.wk d v q, IsL.wk ds r t⟩
end
end
def wkR : R → M R := fun r g => match r with
  | .fz d => .ok (.fz d.wk) g
  | _ => .bad
def wkM (f : M R) : M R := mb f wkR
section
variable {X : Cx} {Y : Ent} {W : WX} {e : Expr} {f : M R}
theorem de_wk (h : DE X Y W e f) : DE X Y W e (wkM f) :=
  pe_mono h fun σ H Q ⟨g, F, r, p⟩ => ⟨g, F, r, p.bind.imp fun a g' H' F' r' s' q => by
    cases a with
    | fz d => exact fun v hv => q H' F' r' (Same.refl _) v (Is.wk d v hv)
    | «at» i => exact q.elim
    | ow o => exact q.elim
    | sub i f => exact q.elim⟩
end
end DL
namespace DL
open PySem PySem.Spec L2
open PyProof.Rows hiding St
section
variable {X : Cx}
def fTupleX : List D → Option R
  | [.lst ds] => some (.fz (.tux ds))
  | _ => none
theorem cd_tupleX : CallD X (.type "tuple") fTupleX := by
  intro pins s σ H xs us Q I r ⟨F, ds, r', sm, hc, ho, hr⟩
  unfold fTupleX at ho
  split at ho
  · cases ho
    obtain ⟨v, rfl, q⟩ := hc.one
    obtain ⟨p, vs, rfl, h1, h2, h3⟩ := q.lst sm
    exact call_tupleX pins s σ H _ us Q I r ⟨_, _, rfl, SqL.of h1, fun l o hl hcl hd => hr.tux sm h3 h2 hl hcl hd⟩
  · cases ho
def mIndexU : D → List D → Option R
  | .tux xs, [d] => if (flatI d && xs.all flatI) = true then ((xs.map toV).findIdx? fun z => eqV z (toV d)).map fun j => .fz (.int (j : Nat)) else none
  | _, _ => none
theorem md_indexU : MtD X "tuple.index" mIndexU := by
  intro pins s σ H x xs v us Q I rx rs ⟨F, d, ds, r, sm, hd, hc, ho, hr⟩
  unfold mIndexU at ho
  split at ho
  · rename_i ys y
    split at ho
    · rename_i hz
      rw [Bool.and_eq_true] at hz
      cases e : (ys.map toV).findIdx? fun z => eqV z (toV y) with
      | none => rw [e] at ho; cases ho
      | some j =>
        rw [e] at ho
        cases ho
        obtain ⟨p, ob, vs, rfl, h1, _, h2, h3⟩ := hd.tux
        obtain ⟨w, rfl, hw⟩ := hc.one
        obtain ⟨e1, f1⟩ := flatI_V hz.1 hw
        obtain ⟨e2, f2⟩ := flatI_L (H := H) hz.2 h3
        obtain ⟨hj, k1, k2⟩ := List.findIdx?_eq_some_iff_getElem.mp e
        subst e1 e2
        refine mt_tidx pins s σ H _ _ v us Q I rx rs ⟨p, ys.map toV, toV y, j, (ys.map toV)[j], rfl, rfl, .inl (.inr ⟨ob, sm _ _ h1⟩), f1, f2, List.getElem?_eq_getElem hj, k1, fun m z' hm hz' => ?_, hr.now sm rfl⟩
        obtain ⟨hl, hg⟩ := List.getElem?_eq_some_iff.mp hz'
        have := k2 m hm
        rw [hg] at this
        exact Bool.eq_false_iff.mpr this
    · cases ho
  · cases ho
end
def chkU (x : R) : M Unit := fun g => match cont g x with
  | some (.tux _) => .ok () g
  | _ => .bad
def eMethU (op : D → List D → Option R) (f : M R) (k : M (List R)) : M R := mb (pk f) fun x => mb (chkU x) fun _ => mb k fun ys => opM op x ys
section
variable {X : Cx} {Y : Ent} {W : WX} {K : KW} {o e : Expr} {es : List Expr} {name : Str} {apos pos : Pos} {id : String}
theorem chkU_of {α : Type} {σ : St} {F H : Hp} {J : α → G → Hp → Hp → Prop} {x : R} {g : G} {k : Unit → M α} (h : Post K Y W σ F J (mb (chkU x) k g)) : (∃ ds, cont g x = some (.tux ds)) ∧ Post K Y W σ F J (k () g) := by
  have h' : Post K Y W σ F J ((chkU x g).andThen k) := h
  unfold chkU at h'
  split at h'
  · rename_i ds e; exact ⟨⟨ds, e⟩, h'⟩
  · exact h'.elim
theorem methU_args {f : M R} {k : M (List R)} {op : D → List D → Option R} {σ : St} {H : Hp} {Q : VK} (h : tD K Y W (eMethU op f k) σ H Q) :
    tD K Y W (pk f) σ H fun x H1 => tyU x H1 ∧ tA K Y W k σ H1 fun xs H2 => ∃ F d ds r, Same F H2 ∧ CV K F H2 x d ∧ CVs K F H2 xs ds ∧ op d ds = some r ∧ RP K F H2 Q r := by
  obtain ⟨g, F, r, p⟩ := h
  refine ⟨g, F, r, (p.bind).imp fun x g1 H1 F1 r1 s1 q v hv => ?_⟩
  obtain ⟨⟨ds, e1⟩, q2⟩ := chkU_of (H := H1) q
  refine ⟨?_, g1, F1, r1, (q2.bind).imp fun ys g2 H2 F2 r2 s2 q3 us hus => ?_⟩
  · obtain ⟨p, ob, vs, e, h1, ⟨h2, h3⟩, _⟩ := (r1.cv hv e1).tux
    exact ⟨p, ob, _, e, r1.sub _ _ h1, h2, h3⟩
  unfold opM at q3
  split at q3
  · rename_i d' ds e3 e4
    obtain ⟨r', h1, h2⟩ := Post.done q3 r2
    exact ⟨F2, d', ds, r', r2.sub, r2.cv (hv.keep s2 (cont_ne e3)) e3, hus.cvs r2 e4, h1, h2⟩
  · exact q3.elim
theorem de_methU {f : M R} {k : M (List R)} {op : D → List D → Option R} (pa : PlainAttrs "tuple") (slot : Slot "tuple" name id) (hty : typeOf (.builtin id) = pure (.type "method_descriptor")) (hm : MtD X id op) (ho : DE X Y W o f) (ha : DA X Y W (e :: es) k)
    (hbase : attributeBase o name X.env (eval o X.env) = eval o X.env := by rfl)
    (hfew : ((backTo pos (starEach (e :: es) X.env)).all (fun x => !x.1) && (backToKw pos (keywordEach [] X.env)).all (fun x => x.1.isSome)
      && decide ((e :: es).length + ([] : List Keyword).length + (if ([] : List Keyword).isEmpty then 0 else 1) < 30)) = true := by rfl)
    (hline : (apos.endLine == pos.line) = true := by rfl) (hs : starEach (e :: es) X.env = (false, eval e X.env) :: starEach es X.env := by rfl) (hplain : (backTo pos (starEach es X.env)).any (·.1) = false := by rfl) :
    DE X Y W (.Call (.Attribute o name apos) (e :: es) [] pos) (eMethU op f k) :=
  pe_mono (pe_bmU pa slot hty hm (de_pk ho) ha hbase hfew hline hs hplain) fun σ H Q h => methU_args h
end
end DL

/-! # list comprehensions over a list of ours, which stays ours -/
namespace DL
open PySem PySem.Spec L2
open PyProof.Rows hiding St
section
variable {K : KW} {Y : Ent} {σ : St} {H F : Hp} {g : G}
theorem SlAt.gd {p : Addr} {u : HO} {v : V} : ∀ {s : Sl}, SlAt K Y F H v s → p ∉ sf F H v s → SlAt K (Y.gd p u) F H v s
  | .fz d, q, _ => q
  | .ow l o, ⟨a, e, h1, h2, h3, h4⟩, n => by
    subst e
    exact ⟨a, rfl, h1, h2, fun b hb => by
      have z : b ≠ p := fun z => n (z ▸ hb)
      exact ⟨(h3 b hb).1, (upd_ne z).trans (h3 b hb).2.1, fun k => (upd_ne z).trans ((h3 b hb).2.2.1 k), (h3 b hb).2.2.2.imp (fun k => (upd_ne z).trans k) id⟩, h4⟩
  | .op c fs, ⟨a, C, dx, vs, e, h1, h2, h3, h4, h5, h6⟩, n => by
    subst e
    have ec : sf F H (.ref a) (.op c fs) = a :: footF F vs fs := by unfold sf; simp only; rw [h1]
    rw [ec] at n
    exact ⟨a, C, dx, vs, rfl, h1, h2, h3, h4, fun b hb => by
      have z : b ≠ p := fun z => n (z ▸ hb)
      exact ⟨(h5 b hb).1, (upd_ne z).trans (h5 b hb).2.1, (h5 b hb).2.2.imp (fun k => (upd_ne z).trans k) id⟩, h6⟩
/-- nothing is told of a slot -/
theorem Rel.dropS (r : Rel K Y σ H g F) (i : Nat) : Rel K Y σ H (g.set i none) F := by
  have get : ∀ {j : Nat} {s : Sl}, (g.set i none)[j]? = some (some s) → i ≠ j ∧ g[j]? = some (some s) := fun {j s} e' => by
    rw [List.getElem?_set] at e'
    by_cases z : i = j
    · rw [if_pos z] at e'; split at e' <;> cases e'
    · rw [if_neg z] at e'; exact ⟨z, e'⟩
  exact ⟨r.sub, r.base, r.keep, r.dom, r.fr, r.lad, by rw [List.length_set]; exact r.len, fun j s ej => r.sl j s (get ej).2, fun j j' s s' v v' n e1 e2 h1 h2 b hb => r.inj j j' s s' v v' n (get e1).2 (get e2).2 h1 h2 b hb⟩
end
/-- [elt for target in x if ..]: x a list of ours -/
def eLcO (i : Nat) (t : R → M Unit) (c : M Bool) (e : M R) (vs : List Nat) : M R := fun g => match g[i]? with
  | some (some (.ow false (.ls ds))) => if ds.length ≤ sizeLine then (lcL t c e vs ds [] (g.set i none)).andThen fun acc g2 => .ok (.ow (.ls acc)) ((backG (g.set i none) g2 vs).set i (some (.ow false (.ls ds)))) else .bad
  | _ => .bad
section
variable {X : Cx} {Y : Ent} {W : WX}
end
end DL

/-! # min of a list of data that are alike -/
namespace DL
open PySem PySem.Spec L2
open PyProof.Rows hiding St
def okMinD (ds : List D) : Prop := flatL ds = true ∧ PySem.W.AlikeAll (pyL ds) ∧ PyData.depthAll (pyL ds) ≤ 60 ∧ ∀ a ∈ ds, ∀ b ∈ ds, a.py = b.py → a = b
open Classical in
noncomputable def fMinD : List D → Option R
  | [.lst (d :: ds)] => if okMinD (d :: ds) then ((d :: ds).find? fun x => decide (x.py = PySem.W.minD d.py (pyL ds))).map fun x => .fz x else none
  | _ => none
theorem flatL_mem : ∀ {ds : List D}, flatL ds = true → ∀ x ∈ ds, x.flat = true
  | d :: ds, h, x, hx => by
    rw [flatL, Bool.and_eq_true] at h
    rcases List.mem_cons.mp hx with rfl | hx
    · exact h.1
    · exact flatL_mem h.2 x hx
theorem vals_at : ∀ {vs : List V} {us : List Value}, Vals vs us → ∀ {i : Nat} {u : Value}, us[i]? = some u → ∃ v, vs[i]? = some v ∧ RelV v u
  | _, _, .nil, i, u, e => by cases e
  | _, _, .cons r t, 0, u, e => by cases e; exact ⟨_, rfl, r⟩
  | _, _, .cons r t, i + 1, u, e => vals_at t (i := i) e
section
variable {X : Cx}
theorem readsAll_of {pins : List (Addr × Obj)} {σ : St} {H : Hp} {s : Shared} (I : Inv X pins σ H s) : ∀ (ps : List PyData) (vs : List V) (us : List Value), DpAll X.K H vs ps → Vals vs us → ∃ as, ReadsAll s.heap us ps as
  | [], _, _, q, r => by cases q; cases r; exact ⟨[], .nil⟩
  | p :: ps, _, _, q, r => by
    cases q with
    | cons h t =>
      cases r with
      | cons r1 r2 =>
        obtain ⟨as, ra⟩ := Dp.reads I p _ _ h r1
        obtain ⟨bs, rb⟩ := readsAll_of I ps _ _ t r2
        exact ⟨as ++ bs, .cons ra rb⟩
theorem cd_minD (hc : X.calm = true) (hu : X.A.units + 65 < cLine) : CallD X (.builtin "min") fMinD := by
  intro pins s σ H xs us Q I r ⟨F, ds0, r', sm, hcv, ho, hr⟩
  unfold fMinD at ho
  split at ho
  · rename_i d ds
    split at ho
    · rename_i hz
      obtain ⟨h1, h2, h3, h4⟩ := hz
      obtain ⟨x, ex, e⟩ := Option.map_eq_some_iff.mp ho
      subst e
      obtain ⟨p, vs, rfl, q1, q2, q3⟩ := lst_one sm hcv
      obtain ⟨its, rv, hl, _⟩ := I.list q1
      rw [Vals.ref1 r]
      have da := IsL.dp sm (d :: ds) vs h1 q3
      obtain ⟨as, ra⟩ := readsAll_of I _ _ _ da rv
      refine PySem.W.min_list_data (I.ok.hd hc) hl.isList ra h2 (by show _ + 1 + PyData.depthAll (pyL (d :: ds)) < _; omega) fun i v h' tk bs hv hrd hk => ?_
      have hv' : its[i]? = some v := by simpa using hv
      obtain ⟨w, hw, rw'⟩ := vals_at rv hv'
      have hi : i < (d :: ds).length := by rw [← q3.length]; exact (List.getElem?_eq_some_iff.mp hw).1
      obtain ⟨w2, hw2, iw⟩ := q3.get (List.getElem?_eq_getElem hi)
      rw [hw] at hw2
      cases hw2
      have fl := flatL_mem h1 _ (List.getElem_mem hi)
      obtain ⟨as', rd⟩ := Dp.reads I _ _ _ (Is.dp sm _ _ fl iw) rw'
      have rd' := PySem.W.reads_keeps hk rd
      have eq := (Reads.unique hrd _ _ rd').1
      have xp : x.py = PySem.W.minD d.py (pyL ds) := by
        have z := List.find?_some ex
        simpa using z
      have ed := h4 x (List.mem_of_find?_eq_some ex) _ (List.getElem_mem hi) (xp.trans eq)
      rw [← ed] at iw
      exact ⟨w, H, I.kept hk, rw', hr.now sm iw⟩
    · cases ho
  · cases ho
end
end DL

namespace DL
open PySem PySem.Spec L2

/-! # typed functions, and that the functions of data compute them -/
/-- a typed result -/
inductive T (α : Type) where
  | ok (a : α) | ex (e : Ex) | bad
def tb {α β : Type} (x : T α) (k : α → T β) : T β := match x with
  | .ok a => k a
  | .ex e => .ex e
  | .bad => .bad
@[simp] theorem tb_ok {α β : Type} (a : α) (k : α → T β) : tb (.ok a) k = k a := rfl
@[simp] theorem tb_ex {α β : Type} (e : Ex) (k : α → T β) : tb (.ex e) k = .ex e := rfl
@[simp] theorem tb_bad {α β : Type} (k : α → T β) : tb .bad k = .bad := rfl
/-- .. without exceptions -/
def tnx {α : Type} : T α → T α
  | .ok a => .ok a
  | _ => .bad
/-- a loop body's end -/
inductive St' (σ ρ : Type) where
  | nx (s : σ) | bk (s : σ) | rt (r : ρ)
/-- .. a loop's end -/
inductive Lp (σ ρ : Type) where
  | dn (s : σ) | rt (r : ρ)
def tfold {σ α : Type} : List α → σ → (σ → α → T σ) → T σ
  | [], s, _ => .ok s
  | x :: xs, s, f => tb (f s x) fun s' => tfold xs s' f
def tfor {σ ρ α : Type} : List α → σ → (σ → α → T (St' σ ρ)) → T (Lp σ ρ)
  | [], s, _ => .ok (.dn s)
  | x :: xs, s, f => match f s x with
    | .ok (.nx s') => tfor xs s' f
    | .ok (.bk s') => .ok (.dn s')
    | .ok (.rt r) => .ok (.rt r)
    | .ex e => .ex e
    | .bad => .bad
def twhL {σ ρ : Type} (c : σ → T Bool) (f : σ → T (St' σ ρ)) : Nat → σ → T (Lp σ ρ)
  | 0, _ => .bad
  | n + 1, s => match c s with
    | .ok false => .ok (.dn s)
    | .ok true => match f s with
      | .ok (.nx s') => twhL c f n s'
      | .ok (.bk s') => .ok (.dn s')
      | .ok (.rt r) => .ok (.rt r)
      | .ex e => .ex e
      | .bad => .bad
    | .ex e => .ex e
    | .bad => .bad
@[irreducible] def twh {σ ρ : Type} (s : σ) (c : σ → T Bool) (f : σ → T (St' σ ρ)) : T (Lp σ ρ) := twhL c f fuel s
def tlp {σ ρ : Type} (x : T (Lp σ ρ)) (k : σ → T ρ) : T ρ := match x with
  | .ok (.dn s) => k s
  | .ok (.rt r) => .ok r
  | .ex e => .ex e
  | .bad => .bad
@[simp] theorem tlp_dn {σ ρ : Type} (s : σ) (k : σ → T ρ) : tlp (.ok (.dn s)) k = k s := rfl
@[simp] theorem tlp_rt {σ ρ : Type} (s : ρ) (k : σ → T ρ) : tlp (.ok (.rt s)) k = .ok s := rfl
@[simp] theorem tlp_ex {σ ρ : Type} (e : Ex) (k : σ → T ρ) : tlp (.ex e) k = .ex e := rfl
@[simp] theorem tlp_bad {σ ρ : Type} (k : σ → T ρ) : tlp .bad k = .bad := rfl
def tmapA {α β : Type} (f : α → T β) : List α → T (List β)
  | [] => .ok []
  | x :: xs => tb (tnx (f x)) fun y => tb (tmapA f xs) fun ys => .ok (y :: ys)
def tfmA {α β : Type} (f : α → T (Option β)) : List α → T (List β)
  | [] => .ok []
  | x :: xs => tb (tnx (f x)) fun y => tb (tfmA f xs) fun ys => .ok (match y with
    | some y => y :: ys
    | none => ys)
/-- [f(x) for x in xs], and with a test -/
@[irreducible] def tMap {α β : Type} (xs : List α) (f : α → T β) : T (List β) := if xs.length ≤ 16777216 then tmapA f xs else .bad
@[irreducible] def tFm {α β : Type} (xs : List α) (f : α → T (Option β)) : T (List β) := if xs.length ≤ 16777216 then tfmA f xs else .bad

/-! ## layouts -/
abbrev Lay := List (Nat × Sl)
def lk : Lay → Nat → Option Sl
  | [], _ => none
  | (j, s) :: r, i => match Nat.beq j i with
    | true => some s
    | false => lk r i
def At (n : Nat) (L : Lay) (g : G) : Prop := g.length = n ∧ ∀ i s, lk L i = some s → g[i]? = some (some s)
def Sub (L : Lay) : Lay → Prop
  | [] => True
  | (i, s) :: r => lk L i = some s ∧ Sub L r
theorem lk_mem {L : Lay} {i : Nat} {s : Sl} (h : lk L i = some s) : (i, s) ∈ L := by
  induction L with
  | nil => cases h
  | cons p r ih =>
    obtain ⟨j, s'⟩ := p
    unfold lk at h
    split at h
    · rename_i e; cases h; rw [Nat.eq_of_beq_eq_true e]; exact List.mem_cons_self
    · exact List.mem_cons_of_mem _ (ih h)
theorem Sub.mem {L L' : Lay} (h : Sub L L') {i : Nat} {s : Sl} (m : (i, s) ∈ L') : lk L i = some s := by
  induction L' with
  | nil => cases m
  | cons p r ih =>
    obtain ⟨j, s'⟩ := p
    rcases List.mem_cons.mp m with e | m
    · cases e; exact h.1
    · exact ih h.2 m
theorem At.sub {n : Nat} {L L' : Lay} {g : G} (h : At n L g) (s : Sub L L') : At n L' g := ⟨h.1, fun i x e => h.2 i x (s.mem (lk_mem e))⟩
theorem At.set {n : Nat} {L : Lay} {g : G} (h : At n L g) {i : Nat} (hi : Nat.blt i n = true) (s : Sl) : At n ((i, s) :: L) (g.set i (some s)) := by
  have hi : i < n := by simpa using hi
  refine ⟨by rw [List.length_set]; exact h.1, fun j x e => ?_⟩
  unfold lk at e
  split at e
  · rename_i q; cases e; rw [Nat.eq_of_beq_eq_true q, List.getElem?_set_self (by rw [h.1]; rw [← Nat.eq_of_beq_eq_true q]; exact hi)]
  · rename_i q
    rw [List.getElem?_set_ne (by intro z; rw [z, Nat.beq_refl] at q; cases q)]
    exact h.2 j x e
def cnt (L : Lay) : R → Option D
  | .fz d => some d
  | .at i => match lk L i with
    | some (.ow _ o) => some o.d
    | some (.fz d) => some d
    | _ => none
  | .sub i f => match lk L i with
    | some (.ow _ (.ob _ fs)) => (match fs.get f with
      | some (.inr o) => some o.d
      | _ => none)
    | _ => none
  | .ow _ => none
theorem At.cnt {n : Nat} {L : Lay} {g : G} (h : At n L g) {r : R} {d : D} (e : cnt L r = some d) : cont g r = some d := by
  cases r with
  | fz x => exact e
  | ow o => cases e
  | «at» i =>
    unfold DL.cnt at e
    simp only at e
    split at e
    · rename_i q; unfold cont; simp only; rw [h.2 _ _ q]; exact e
    · rename_i q; unfold cont; simp only; rw [h.2 _ _ q]; exact e
    · cases e
  | sub i f =>
    unfold DL.cnt at e
    simp only at e
    split at e
    · rename_i q; unfold cont; simp only; rw [h.2 _ _ q]; exact e
    · cases e
def cnts (L : Lay) : List R → Option (List D)
  | [] => some []
  | r :: rs => match cnt L r, cnts L rs with
    | some d, some ds => some (d :: ds)
    | _, _ => none
theorem At.cnts {n : Nat} {L : Lay} {g : G} (h : At n L g) : ∀ {rs : List R} {ds : List D}, DL.cnts L rs = some ds → conts g rs = some ds
  | [], ds, e => e
  | r :: rs, ds, e => by
    unfold DL.cnts at e
    split at e
    · rename_i a b e1 e2; cases e; unfold conts; rw [h.cnt e1, h.cnts e2]
    · cases e

/-! ## judgements -/
section
variable {n : Nat} {L L' L1 L2 Lx : Lay} {α β γ ρ σ : Type}
/-- an end as the typed t says -/
def Wout (n : Nat) (Lx : Lay) (x : Rs β) (t : T ρ) (Φ : ρ → β → G → Prop) : Prop := match t with
  | .bad => True
  | .ex e => ∃ g', x = .ex e g' ∧ At n Lx g'
  | .ok r => ∃ b g', x = .ok b g' ∧ Φ r b g'
/-- m, at a state of the layout L, ends as the typed t says -/
structure W (n : Nat) (L Lx : Lay) (m : M β) (t : T ρ) (Φ : ρ → β → G → Prop) : Prop where
  run : ∀ g, At n L g → Wout n Lx (m g) t Φ
instance {m : M β} {t : T ρ} {Φ : ρ → β → G → Prop} : CoeFun (W n L Lx m t Φ) (fun _ => ∀ g, At n L g → Wout n Lx (m g) t Φ) := ⟨W.run⟩
/-- m changes nothing and gives a -/
def Px (n : Nat) (L : Lay) (m : M α) (a : α) : Prop := ∀ g, At n L g → m g = .ok a g
/-- m changes the layout -/
def Tg (n : Nat) (L : Lay) (m : M Unit) (L' : Lay) : Prop := ∀ g, At n L g → ∃ g', m g = .ok () g' ∧ At n L' g'
/-- .. and gives a -/
def Sx (n : Nat) (L : Lay) (m : M α) (a : α) (L' : Lay) : Prop := ∀ g, At n L g → ∃ g', m g = .ok a g' ∧ At n L' g'

theorem W.sub {m : M β} {t : T ρ} {Φ : ρ → β → G → Prop} (h : W n L' Lx m t Φ) (s : Sub L L') : W n L Lx m t Φ := ⟨fun g a => h g (a.sub s)⟩
theorem W.imp {m : M β} {t : T ρ} {Φ Ψ : ρ → β → G → Prop} (h : W n L Lx m t Φ) (i : ∀ r b g, Φ r b g → Ψ r b g) : W n L Lx m t Ψ := ⟨fun g a => by
  have := h g a
  cases t with
  | bad => trivial
  | ex e => exact this
  | ok r => obtain ⟨b, g', h1, h2⟩ := this; exact ⟨b, g', h1, i _ _ _ h2⟩⟩
theorem W.same {m m' : M β} {t : T ρ} {Φ : ρ → β → G → Prop} (e : ∀ g, At n L g → m' g = m g) (h : W n L Lx m t Φ) : W n L Lx m' t Φ := ⟨fun g a => by
  have := h g a
  rw [e g a]
  exact this⟩
theorem w_bad {m : M β} {Φ : ρ → β → G → Prop} : W n L Lx m (.bad : T ρ) Φ := ⟨fun _ _ => trivial⟩
theorem w_ok {b : β} {r : ρ} {Φ : ρ → β → G → Prop} (h : ∀ g, At n L g → Φ r b g) : W n L Lx (mp b) (.ok r) Φ := ⟨fun g a => ⟨b, g, rfl, h g a⟩⟩
/-- a pure part -/
theorem w_p {m : M α} {a : α} {k : α → M β} {t : T ρ} {Φ : ρ → β → G → Prop} (h : Px n L m a) (r : W n L Lx (k a) t Φ) : W n L Lx (mb m k) t Φ :=
  r.same fun g q => by show (m g).andThen k = _; rw [h g q]; rfl
/-- a part that changes the layout -/
theorem w_s {m : M α} {a : α} {k : α → M β} {t : T ρ} {Φ : ρ → β → G → Prop} (h : Sx n L m a L1) (r : W n L1 Lx (k a) t Φ) : W n L Lx (mb m k) t Φ := ⟨fun g q => by
  obtain ⟨g', h1, h2⟩ := h g q
  have := r g' h2
  have e : mb m k g = k a g' := by show (m g).andThen k = _; rw [h1]; rfl
  rw [e]; exact this⟩
/-- a typed part -/
theorem w_t {τ : Type} {m : M α} {k : α → M β} {tm : T τ} {tk : τ → T ρ} {f : τ → α} {LL : τ → Lay} {Φ : ρ → β → G → Prop}
    (h : W n L Lx m tm (fun v a g' => a = f v ∧ At n (LL v) g')) (r : ∀ v, W n (LL v) Lx (k (f v)) (tk v) Φ) : W n L Lx (mb m k) (tb tm tk) Φ := ⟨fun g q => by
  have := h g q
  cases tm with
  | bad => trivial
  | ex e => obtain ⟨g', h1, h2⟩ := this; exact ⟨g', by show (m g).andThen k = _; rw [h1]; rfl, h2⟩
  | ok v =>
    obtain ⟨a, g', h1, rfl, h3⟩ := this
    have := r v g' h3
    have e : mb m k g = k (f v) g' := by show (m g).andThen k = _; rw [h1]; rfl
    rw [e]; exact this⟩
theorem w_as {m : M α} {k : α → M γ} {j : γ → M β} {t : T ρ} {Φ : ρ → β → G → Prop} (h : W n L Lx (mb m fun x => mb (k x) j) t Φ) : W n L Lx (mb (mb m k) j) t Φ :=
  h.same fun g _ => by
    show ((m g).andThen k).andThen j = (m g).andThen fun x => mb (k x) j
    cases m g <;> rfl
theorem w_g {m : M Unit} {k : Unit → M β} {t : T ρ} {Φ : ρ → β → G → Prop} (h : Tg n L m L1) (r : W n L1 Lx (k ()) t Φ) : W n L Lx (mb m k) t Φ :=
  w_s (a := ()) h r
theorem w_if {c : Bool} {a b : M β} {ta tb' : T ρ} {Φ : ρ → β → G → Prop} (h1 : W n L Lx a ta Φ) (h2 : W n L Lx b tb' Φ) : W n L Lx (if c = true then a else b) (if c = true then ta else tb') Φ := by
  cases c with
  | true => exact h1
  | false => exact h2
/-! ### pure expressions -/
def pkO : R → R
  | .ow o => .fz o.d
  | r => r
theorem px_c {d : D} : Px n L (eC d) (.fz d) := fun _ _ => rfl
theorem px_cs {z : Str} {y : List Nat} (h : z = ⟨y.toArray⟩ := by rfl) : Px n L (eC (.str z)) (.fz (.str ⟨y.toArray⟩)) := fun _ _ => by rw [← h]; rfl
theorem px_v {i : Nat} {d : D} (h : lk L i = some (.fz d)) : Px n L (eVar i) (.fz d) := fun g a => by
  unfold eVar; rw [a.2 _ _ h]
theorem px_vo {i : Nat} {l : Bool} {o : O} (h : lk L i = some (.ow l o)) : Px n L (eVar i) (.at i) := fun g a => by
  unfold eVar; rw [a.2 _ _ h]
theorem px_mb {m : M α} {a : α} {k : α → M β} {b : β} (h : Px n L m a) (r : Px n L (k a) b) : Px n L (mb m k) b := fun g q => by
  show (m g).andThen k = _; rw [h g q]; exact r g q
theorem px_mp {a : α} : Px n L (mp a) a := fun _ _ => rfl
theorem px_pk {f : M R} {r : R} (h : Px n L f r) : Px n L (pk f) (pkO r) := fun g q => by
  show (f g).andThen pkR = _; rw [h g q]; cases r <;> rfl
theorem px_esc {f : M R} {d : D} (h : Px n L f (.fz d)) : Px n L (esc f) (.fz d) := fun g q => by
  show (f g).andThen escR = _; rw [h g q]; rfl
theorem px_esco {f : M R} {o : O} (h : Px n L f (.ow o)) : Px n L (esc f) (.fz o.d) := fun g q => by
  show (f g).andThen escR = _; rw [h g q]; rfl
theorem px_eA {f : M R} {d : D} (h : Px n L f (.fz d)) : Px n L (eA f) (.fz d) := fun g q => by
  show (f g).andThen escA = _; rw [h g q]; rfl
theorem px_eAo {f : M R} {o : O} (h : Px n L f (.ow o)) : Px n L (eA f) (.ow o) := fun g q => by
  show (f g).andThen escA = _; rw [h g q]; rfl
/-- a slot's own object is frozen -/
theorem sx_esc {i : Nat} {o : O} (h : lk L i = some (.ow false o)) (hi : Nat.blt i n = true) : Sx n L (esc (eVar i)) (.fz o.d) ((i, .fz o.d) :: L) := fun g a => by
  refine ⟨_, ?_, a.set hi _⟩
  have e : eVar i g = .ok (.at i) g := px_vo h g a
  show (eVar i g).andThen escR = _
  rw [e]
  show escR (.at i) g = _
  unfold escR
  simp only
  rw [a.2 _ _ h]
theorem px_op {op : D → D → Option R} {x y : R} {a b : D} {r : R} (h1 : cnt L x = some a) (h2 : cnt L y = some b) (h : op a b = some r) (hr : pkO r = .fz (match r with | .fz d => d | .ow o => o.d | _ => .non) := by rfl) : Px n L (op2 op x y) r := fun g q => by
  unfold op2
  rw [q.cnt h1, q.cnt h2]
  simp only
  rw [h]
  cases r with
  | fz d => rfl
  | ow o => rfl
  | «at» i => cases hr
  | sub i f => cases hr
theorem px_B {op : D → D → Option R} {f k : M R} {x y : R} {a b r' : D} (hf : Px n L f x) (hk : Px n L k y) (h1 : cnt L (pkO x) = some a) (h2 : cnt L (pkO y) = some b) (h : op a b = some (.fz r')) : Px n L (eB op f k) (.fz r') :=
  px_mb (px_pk hf) (px_mb (px_pk hk) (px_op h1 h2 h))
theorem px_U {op : D → Option R} {f : M R} {x : R} {a : D} {r : D} (hf : Px n L f x) (h1 : cnt L (pkO x) = some a) (h : op a = some (.fz r)) : Px n L (eU op f) (.fz r) :=
  px_mb (px_pk hf) fun g q => by
    unfold op1
    rw [q.cnt h1]
    simp only
    rw [h]; rfl
theorem px_toB {b : Bool} : Px n L (toB (.fz (.bl b))) b := fun _ _ => rfl
theorem px_test {f : M R} {b : Bool} (h : Px n L f (.fz (.bl b))) : Px n L (eTest f) b := px_mb h px_toB
theorem px_tNot {f : M Bool} {a : Bool} (hf : Px n L f a) : Px n L (tNotM f) (!a) := px_mb hf px_mp
theorem px_ch {op op' : D → D → Option R} {f k j : M R} {x y z : R} {a b c : D} {p q : Bool} (hf : Px n L f x) (hk : Px n L k y) (hj : Px n L j z) (h1 : cnt L (pkO x) = some a) (h2 : cnt L (pkO y) = some b) (h3 : cnt L (pkO z) = some c)
    (h : op a b = some (.fz (.bl p))) (h' : op' b c = some (.fz (.bl q))) : Px n L (eCh op op' f k j) (.fz (.bl (p && q))) :=
  px_mb (px_pk hf) (px_mb (px_pk hk) (px_mb (px_op h1 h2 h) (px_mb px_toB (by cases p; exact px_c; exact px_mb (px_pk hj) (px_op h2 h3 h')))))
theorem px_nil : Px n L aNil [] := px_mp
theorem px_cons {f : M R} {k : M (List R)} {d : D} {xs : List R} (hf : Px n L f (.fz d)) (hk : Px n L k xs) : Px n L (aCons f k) (.fz d :: xs) := px_mb hf (px_mb hk fun _ _ => rfl)
theorem px_consA {f : M R} {k : M (List R)} {i : Nat} {xs : List R} (hf : Px n L f (.at i)) (hk : Px n L k xs) : Px n L (aCons f k) (.at i :: xs) := px_mb hf (px_mb hk fun _ _ => rfl)
theorem px_tup {k : M (List R)} {xs : List R} {ds : List D} (h : Px n L k xs) (e : allFz xs = some ds) (hl : Nat.ble ds.length 1000 = true) : Px n L (eTup k) (.fz (.tup ds)) :=
  px_mb h fun g _ => by
    unfold mkTup; rw [e]; simp only; rw [if_pos (Nat.le_of_ble_eq_true hl)]
theorem px_lst {k : M (List R)} {xs : List R} {ds : List D} (h : Px n L k xs) (e : allFz xs = some ds) (hl : Nat.ble ds.length 1000 = true) : Px n L (eLst k) (.ow (.ls ds)) :=
  px_mb h fun g _ => by
    unfold mkLst; rw [e]; simp only; rw [if_pos (Nat.le_of_ble_eq_true hl)]
theorem px_callB {op : List D → Option R} {k : M (List R)} {rs : List R} {ds : List D} {r : D} (h : Px n L k rs) (e : cnts L rs = some ds) (ho : op ds = some (.fz r)) : Px n L (eCallB op k) (.fz r) :=
  px_mb h fun g q => by unfold opN; rw [q.cnts e]; simp only; rw [ho]; rfl
theorem px_callBo {op : List D → Option R} {k : M (List R)} {rs : List R} {ds : List D} {r : O} (h : Px n L k rs) (e : cnts L rs = some ds) (ho : op ds = some (.ow r)) : Px n L (eCallB op k) (.ow r) :=
  px_mb h fun g q => by unfold opN; rw [q.cnts e]; simp only; rw [ho]; rfl
theorem px_part {f : M R} {i : Int} (h : Px n L f (.fz (.int i))) : Px n L (ePart f) (some i) := px_mb h fun _ _ => rfl
theorem px_npart : Px n L eNoPart none := px_mp
theorem px_slo {f : M R} {l h : M (Option Int)} {x : R} {d : D} {lo hi : Option Int} {r : O} (hf : Px n L f x) (hl : Px n L l lo) (hh : Px n L h hi) (h1 : cnt L (pkO x) = some d) (ho : slD lo hi d = some (.ow r)) : Px n L (eSl f l h) (.ow r) :=
  px_mb (px_pk hf) (px_mb hl (px_mb hh fun g q => by unfold opSl; rw [q.cnt h1]; simp only; rw [ho]; rfl))
theorem px_iSeq {f : M R} {d : D} {ds : List D} (h : Px n L (esc f) (.fz d)) (e : itemsD d = some ds) : Px n L (iSeq f) ds := px_mb h fun g _ => by
  unfold toIt; simp only; rw [e]
theorem px_chkN {k : Nat} {a : M (List R)} {rs : List R} (h : Px n L a rs) (e : Nat.beq rs.length k = true) : Px n L (chkN k a) rs := px_mb h fun g _ => by
  rw [if_pos (Nat.eq_of_beq_eq_true e)]
end
end DL

namespace DL
open PySem PySem.Spec L2

section
variable {n : Nat} {L L' L1 L2 Lx : Lay} {α β γ ρ σ τ : Type}
def nAt : R → Bool
  | .at _ => false
  | .sub _ _ => false
  | _ => true
/-- an operation gives what the typed t says -/
def OpT (o : Option R) (t : T γ) (rc : γ → R) : Prop := match t with
  | .bad => True
  | .ok v => o = some (rc v) ∧ nAt (rc v) = true
  | .ex _ => False
theorem done_of {r : R} (h : nAt r = true) (g : G) : done (some r) g = .ok r g := by cases r <;> first | rfl | cases h
theorem w_opt' {o : Option R} {t : T γ} {rc : γ → R} {j : R → M β} {tk : γ → T ρ} {Φ : ρ → β → G → Prop} {m : M R} (hm : ∀ g, At n L g → m g = done o g) (ho : OpT o t rc) (r : ∀ v, W n L Lx (j (rc v)) (tk v) Φ) : W n L Lx (mb m j) (tb t tk) Φ := by
  cases t with
  | bad => exact w_bad
  | ex e => exact ho.elim
  | ok v => exact w_p (a := rc v) (fun g q => by rw [hm g q, ho.1, done_of ho.2]) (r v)
theorem w_op2 {op : D → D → Option R} {x y : R} {a b : D} {t : T γ} {rc : γ → R} {j : R → M β} {tk : γ → T ρ} {Φ : ρ → β → G → Prop} (h1 : cnt L x = some a) (h2 : cnt L y = some b) (ho : OpT (op a b) t rc) (r : ∀ v, W n L Lx (j (rc v)) (tk v) Φ) :
    W n L Lx (mb (op2 op x y) j) (tb t tk) Φ := w_opt' (fun g q => by unfold op2; rw [q.cnt h1, q.cnt h2]) ho r
theorem w_op1 {op : D → Option R} {x : R} {a : D} {t : T γ} {rc : γ → R} {j : R → M β} {tk : γ → T ρ} {Φ : ρ → β → G → Prop} (h1 : cnt L x = some a) (ho : OpT (op a) t rc) (r : ∀ v, W n L Lx (j (rc v)) (tk v) Φ) :
    W n L Lx (mb (op1 op x) j) (tb t tk) Φ := w_opt' (fun g q => by unfold op1; rw [q.cnt h1]) ho r
theorem w_opN {op : List D → Option R} {rs : List R} {ds : List D} {t : T γ} {rc : γ → R} {j : R → M β} {tk : γ → T ρ} {Φ : ρ → β → G → Prop} (h1 : cnts L rs = some ds) (ho : OpT (op ds) t rc) (r : ∀ v, W n L Lx (j (rc v)) (tk v) Φ) :
    W n L Lx (mb (opN op rs) j) (tb t tk) Φ := w_opt' (fun g q => by unfold opN; rw [q.cnts h1]) ho r
theorem w_opM {op : D → List D → Option R} {x : R} {d : D} {rs : List R} {ds : List D} {t : T γ} {rc : γ → R} {j : R → M β} {tk : γ → T ρ} {Φ : ρ → β → G → Prop} (h1 : cnt L x = some d) (h2 : cnts L rs = some ds) (ho : OpT (op d ds) t rc) (r : ∀ v, W n L Lx (j (rc v)) (tk v) Φ) :
    W n L Lx (mb (opM op x rs) j) (tb t tk) Φ := w_opt' (fun g q => by unfold opM; rw [q.cnt h1, q.cnts h2]) ho r
theorem px_chkT {Ty : String} {x : R} {d : D} (h1 : cnt L x = some d) (hT : kindD d = Ty) : Px n L (chkT Ty x) () := fun g q => by unfold chkT; rw [q.cnt h1]; simp only; rw [if_pos hT]
theorem px_pkR {x : R} : Px n L (pkR x) (pkO x) := fun g q => by cases x <;> rfl
theorem px_pkRf {d : D} : Px n L (pkR (.fz d)) (.fz d) := fun g q => rfl
theorem px_pkRo {o : O} : Px n L (pkR (.ow o)) (.fz o.d) := fun g q => rfl
theorem px_escR {d : D} : Px n L (escR (.fz d)) (.fz d) := fun g q => rfl
theorem px_escRo {o : O} : Px n L (escR (.ow o)) (.fz o.d) := fun g q => rfl
theorem px_escA {d : D} : Px n L (escA (.fz d)) (.fz d) := fun g q => rfl
theorem px_escAo {o : O} : Px n L (escA (.ow o)) (.ow o) := fun g q => rfl
theorem px_push {d : D} {xs : List R} : Px n L (aPush (.fz d) xs) (.fz d :: xs) := fun g q => rfl
theorem px_mkTup {rs : List R} {ds : List D} (e : allFz rs = some ds) (hl : Nat.ble ds.length 1000 = true) : Px n L (mkTup rs) (.fz (.tup ds)) := fun g _ => by
    unfold mkTup; rw [e]; simp only; rw [if_pos (Nat.le_of_ble_eq_true hl)]
theorem px_mkLst {rs : List R} {ds : List D} (e : allFz rs = some ds) (hl : Nat.ble ds.length 1000 = true) : Px n L (mkLst rs) (.ow (.ls ds)) := fun g _ => by
    unfold mkLst; rw [e]; simp only; rw [if_pos (Nat.le_of_ble_eq_true hl)]
theorem px_toIt {d : D} {ds : List D} (e : itemsD d = some ds) : Px n L (toIt (.fz d)) ds := fun g _ => by unfold toIt; simp only; rw [e]
theorem px_chkL {k : Nat} {rs : List R} (e : Nat.beq rs.length k = true) : Px n L (fun g => if rs.length = k then .ok rs g else .bad) rs := fun g _ => if_pos (Nat.eq_of_beq_eq_true e)

/-! ### tests with typed parts -/
theorem w_mbmp {m : M β} {t : T ρ} {Φ : ρ → β → G → Prop} (h : W n L Lx (mb m mp) t Φ) : W n L Lx m t Φ := h.same fun g _ => by show _ = (m g).andThen mp; cases m g <;> rfl
theorem w_tOr {f k : M Bool} {j : Bool → M β} {a : Bool} {tb2 : T Bool} {tk : Bool → T ρ} {Φ : ρ → β → G → Prop} (hf : Px n L f a) (hk : W n L Lx k tb2 (fun v b g' => b = v ∧ At n L g')) (r : ∀ v, W n L Lx (j v) (tk v) Φ) :
    W n L Lx (mb (tOrM f k) j) (tb (if a = true then .ok true else tb2) tk) Φ :=
  w_t (f := fun v => v) (LL := fun _ => L) (by
    refine W.same (m := if a = true then mp true else k) (fun g q => ?_) ?_
    · show (f g).andThen (fun c => if c = true then mp true else k) = _; rw [hf g q]; rfl
    · cases a with
      | false => exact hk
      | true => exact w_ok fun g q => ⟨rfl, q⟩) r
theorem w_tNot {f : M Bool} {j : Bool → M β} {t : T ρ} {Φ : ρ → β → G → Prop} (h : W n L Lx (mb f fun c => j (!c)) t Φ) : W n L Lx (mb (tNotM f) j) t Φ :=
  h.same fun g _ => by
    show ((f g).andThen fun c => mp (!c)).andThen j = (f g).andThen fun c => j (!c)
    cases f g <;> rfl
theorem w_tOrT {f k : M Bool} {j : Bool → M β} {t : T ρ} {Φ : ρ → β → G → Prop} (h : W n L Lx (mb f fun c => mb (if c = true then mp true else k) j) t Φ) : W n L Lx (mb (tOrM f k) j) t Φ := w_as h
/-- an if that is joined -/
theorem w_tif {c : Bool} {m m' : M α} {j : α → M β} {t1 t2 : T τ} {tk : τ → T ρ} {f : τ → α} {LL : τ → Lay} {Φ : ρ → β → G → Prop} (h1 : W n L Lx m t1 (fun v b g' => b = f v ∧ At n (LL v) g')) (h2 : W n L Lx m' t2 (fun v b g' => b = f v ∧ At n (LL v) g')) (r : ∀ v, W n (LL v) Lx (j (f v)) (tk v) Φ) :
    W n L Lx (mb (if c = true then m else m') j) (tb (if c = true then t1 else t2) tk) Φ :=
  w_t (f := f) (LL := LL) (w_if h1 h2) r
/-! ### statements -/
theorem sSeq_mb (m : M α) (k : α → M Fl) (b : M Fl) : sSeq (mb m k) b = mb m fun x => sSeq (k x) b := by
  funext g
  show (match (m g).andThen k with | .ok .nx g' => b g' | r => r) = (m g).andThen fun x => sSeq (k x) b
  cases m g <;> rfl
variable {Φ : ρ → Fl → G → Prop} {t : T ρ}
theorem w_last {a : M Fl} (h : W n L Lx (sSeq a sNil) t Φ) : W n L Lx a t Φ := h.same fun g _ => by
  show a g = match a g with | .ok .nx g' => sNil g' | r => r
  cases a g with
  | ok f g' => cases f <;> rfl
  | ex _ _ => rfl
  | bad => rfl
theorem w_sas {a b c : M Fl} (h : W n L Lx (sSeq a (sSeq b c)) t Φ) : W n L Lx (sSeq (sSeq a b) c) t Φ := h.same fun g _ => by
  show (match (match a g with | .ok .nx g' => b g' | r => r) with | .ok .nx g' => c g' | r => r) = (match a g with | .ok .nx g' => sSeq b c g' | r => r)
  cases a g with
  | ok f g' => cases f <;> rfl
  | ex _ _ => rfl
  | bad => rfl
theorem w_nil {r : ρ} (h : ∀ g, At n L g → Φ r .nx g) : W n L Lx sNil (.ok r) Φ := ⟨fun g q => ⟨.nx, g, rfl, h g q⟩⟩
theorem w_expr {f : M R} {b : M Fl} (h : W n L Lx (mb f fun _ => b) t Φ) : W n L Lx (sSeq (sExpr f) b) t Φ := by
  unfold sExpr; rw [sSeq_mb]; exact h
theorem w_brk {b : M Fl} {r : ρ} (h : ∀ g, At n L g → Φ r .bk g) : W n L Lx (sSeq sBrk b) (.ok r) Φ := ⟨fun g q => ⟨.bk, g, rfl, h g q⟩⟩
theorem w_ret {f : M R} {b : M Fl} (h : W n L Lx (mb f fun r => sSeq (retR r) b) t Φ) : W n L Lx (sSeq (sRet f) b) t Φ := by
  unfold sRet; rw [sSeq_mb]; exact h
theorem w_retF {d : D} {b : M Fl} {r : ρ} (h : ∀ g, At n L g → Φ r (.rt (.fz d)) g) : W n L Lx (sSeq (retR (.fz d)) b) (.ok r) Φ := ⟨fun g q => ⟨.rt (.fz d), g, rfl, h g q⟩⟩
theorem w_retO {o : O} {b : M Fl} {r : ρ} (h : ∀ g, At n L g → Φ r (.rt (.ow o)) g) : W n L Lx (sSeq (retR (.ow o)) b) (.ok r) Φ := ⟨fun g q => ⟨.rt (.ow o), g, rfl, h g q⟩⟩
/-- without one slot -/
def rmL : Lay → Nat → Lay
  | [], _ => []
  | (j, s) :: r, i => match Nat.beq j i with
    | true => rmL r i
    | false => (j, s) :: rmL r i
theorem lk_rm {i : Nat} : ∀ {L : Lay} {j : Nat} {s : Sl}, lk (rmL L i) j = some s → lk L j = some s ∧ j ≠ i
  | [], _, _, h => by cases h
  | (k, x) :: r, j, s, h => by
    unfold rmL at h
    cases e : Nat.beq k i with
    | true =>
      simp only [e] at h
      obtain ⟨h1, h2⟩ := lk_rm h
      refine ⟨?_, h2⟩
      unfold lk
      have : Nat.beq k j = false := by
        cases q : Nat.beq k j with
        | false => rfl
        | true => exact absurd ((Nat.eq_of_beq_eq_true q).symm.trans (Nat.eq_of_beq_eq_true e)) h2
      simp only [this]; exact h1
    | false =>
      simp only [e] at h
      unfold lk at h ⊢
      cases q : Nat.beq k j with
      | true =>
        simp only [q] at h ⊢
        refine ⟨h, ?_⟩
        rintro rfl
        rw [← Nat.eq_of_beq_eq_true q, Nat.beq_refl] at e; cases e
      | false =>
        simp only [q] at h ⊢
        exact lk_rm h
theorem At.none {g : G} (h : At n L g) (i : Nat) : At n (rmL L i) (g.set i none) := by
  refine ⟨by rw [List.length_set]; exact h.1, fun j s e => ?_⟩
  obtain ⟨h1, h2⟩ := lk_rm e
  rw [List.getElem?_set_ne (Ne.symm h2)]
  exact h.2 _ _ h1
theorem w_retA {i : Nat} {o : O} {b : M Fl} {r : ρ} (hl : lk L i = some (.ow false o)) (h : ∀ g, At n (rmL L i) g → Φ r (.rt (.ow o)) g) : W n L Lx (sSeq (retR (.at i)) b) (.ok r) Φ := ⟨fun g q => by
  refine ⟨.rt (.ow o), g.set i none, ?_, h _ (q.none i)⟩
  unfold sSeq retR
  simp only
  rw [q.2 _ _ hl]⟩
theorem w_raise {c : Str} {b : M Fl} (hx : Sub L Lx) : W n L Lx (sSeq (sRaise c) b) (.ex ⟨c, []⟩ : T ρ) Φ := ⟨fun g q => ⟨g, rfl, q.sub hx⟩⟩
/-- if: what follows is in both ways -/
theorem w_sIf {c : M Bool} {x y b : M Fl} (h : W n L Lx (mb c fun t => if t = true then sSeq x b else sSeq y b) t Φ) : W n L Lx (sSeq (sIf c x y) b) t Φ := by
  unfold sIf; rw [sSeq_mb]
  refine h.same fun g _ => ?_
  show (c g).andThen _ = (c g).andThen _
  cases c g with
  | ok t g' => cases t <;> rfl
  | ex _ _ => rfl
  | bad => rfl
/-- a part of its own -/
theorem w_blk {a b : M Fl} {ta : T σ} {tk : σ → T ρ} {LS : σ → Lay} (h : W n L Lx a ta (fun v fl g' => fl = .nx ∧ At n (LS v) g')) (r : ∀ v, W n (LS v) Lx b (tk v) Φ) : W n L Lx (sSeq a b) (tb ta tk) Φ := ⟨fun g q => by
  have := h g q
  cases ta with
  | bad => trivial
  | ex e => obtain ⟨g', h1, h2⟩ := this; exact ⟨g', by unfold sSeq; rw [h1], h2⟩
  | ok v =>
    obtain ⟨fl, g', h1, rfl, h3⟩ := this
    have := r v g' h3
    have e : sSeq a b g = b g' := by unfold sSeq; rw [h1]
    rw [e]; exact this⟩
/-- .. that may return -/
def isRt : Fl → Prop
  | .rt _ => True
  | _ => False
def ΦL (n : Nat) (LS : σ → Lay) (Φ : ρ → Fl → G → Prop) : Lp σ ρ → Fl → G → Prop := fun v fl g' => match v with
  | .dn s => fl = .nx ∧ At n (LS s) g'
  | .rt r => isRt fl ∧ Φ r fl g'
theorem w_blkR {a b : M Fl} {ta : T (Lp σ ρ)} {tk : σ → T ρ} {LS : σ → Lay} (h : W n L Lx a ta (ΦL n LS Φ)) (r : ∀ v, W n (LS v) Lx b (tk v) Φ) : W n L Lx (sSeq a b) (tlp ta tk) Φ := ⟨fun g q => by
  have := h g q
  cases ta with
  | bad => trivial
  | ex e => obtain ⟨g', h1, h2⟩ := this; exact ⟨g', by unfold sSeq; rw [h1], h2⟩
  | ok v =>
    cases v with
    | dn s =>
      obtain ⟨fl, g', h1, rfl, h3⟩ := this
      have := r s g' h3
      have e : sSeq a b g = b g' := by unfold sSeq; rw [h1]
      rw [e]; exact this
    | rt v =>
      obtain ⟨fl, g', h1, h2, h3⟩ := this
      refine ⟨fl, g', ?_, h3⟩
      unfold sSeq; rw [h1]
      cases fl <;> first | rfl | exact h2.elim⟩
/-- targets -/
abbrev nx' (m : M Unit) : M Unit := fun g => noEx (m g)
theorem w_gN {m : M Unit} {k : Unit → M β} {t : T ρ} {Φ : ρ → β → G → Prop} (h : Tg n L m L1) (r : W n L1 Lx (k ()) t Φ) : W n L Lx (mb (nx' m) k) t Φ :=
  w_g (L1 := L1) (fun g q => let ⟨g', h1, h2⟩ := h g q; ⟨g', by show noEx (m g) = _; rw [h1]; rfl, h2⟩) r
theorem w_asg {f : M R} {tg : R → M Unit} {b : M Fl} (h : W n L Lx (mb (eA f) fun r => mb (nx' (tg r)) fun _ => b) t Φ) : W n L Lx (sSeq (sAsg f tg) b) t Φ := by
  unfold sAsg; rw [sSeq_mb]
  refine h.same fun g _ => ?_
  show (eA f g).andThen _ = (eA f g).andThen _
  cases eA f g with
  | ok r g' =>
    show sSeq (mb (nx' (tg r)) fun _ => mp .nx) b g' = _
    rw [sSeq_mb]; rfl
  | ex _ _ => rfl
  | bad => rfl
theorem tg_fz {i : Nat} {d : D} (hi : Nat.blt i n = true) : Tg n L (setSl i (.fz d)) ((i, .fz d) :: L) := fun g q => ⟨_, rfl, q.set hi _⟩
theorem tg_ow {i : Nat} {o : O} (hi : Nat.blt i n = true) : Tg n L (setSl i (.ow o)) ((i, .ow false o) :: L) := fun g q => ⟨_, rfl, q.set hi _⟩
theorem tg_un {k : Nat} {tt : List D → M Unit} {ds : List D} (hk : Nat.beq ds.length k = true) (h : Tg n L (tt ds) L1) : Tg n L (gUn k tt (.fz (.tup ds))) L1 := fun g q => by
  unfold gUn; simp only; rw [if_pos (Nat.eq_of_beq_eq_true hk)]; exact h g q
theorem tg_cons {t1 : R → M Unit} {u : List D → M Unit} {d : D} {ds : List D} (h1 : Tg n L (t1 (.fz d)) L1) (h2 : Tg n L1 (u ds) L2) : Tg n L (gsCons t1 u (d :: ds)) L2 := fun g q => by
  obtain ⟨g1, e1, q1⟩ := h1 g q
  obtain ⟨g2, e2, q2⟩ := h2 g1 q1
  exact ⟨g2, by unfold gsCons; simp only; rw [e1]; exact e2, q2⟩
theorem tg_nil : Tg n L (gsNil []) L := fun g q => ⟨g, rfl, q⟩
def augS (i : Nat) (op : D → D → Option R) (a : D) (y : R) : M Unit := fun g => match cont g y with
  | some b => match op a b with
    | some (.fz d) => .ok () (g.set i (some (.fz d)))
    | _ => .bad
  | none => .bad
def augF (i : Nat) (op : D → D → Option R) (a : D) (y : R) : M Fl := fun g => match cont g y with
  | some b => (match op a b with
    | some (.fz d) => .ok .nx (g.set i (some (.fz d)))
    | _ => .bad)
  | none => .bad
theorem aug_eq (i : Nat) (op : D → D → Option R) (a : D) (y : R) (b : M Fl) : sSeq (augF i op a y) b = mb (augS i op a y) fun _ => b := by
  funext g
  show (match augF i op a y g with | .ok .nx g' => b g' | r => r) = (augS i op a y g).andThen fun _ => b
  unfold augF augS
  cases cont g y with
  | none => rfl
  | some c =>
    simp only
    cases op a c with
    | none => rfl
    | some r => cases r <;> rfl
theorem w_aug {i : Nat} {op : D → D → Option R} {f : M R} {b : M Fl} {a : D} (hl : lk L i = some (.fz a)) (h : W n L Lx (mb (pk f) fun y => mb (augS i op a y) fun _ => b) t Φ) : W n L Lx (sSeq (sAug i op f) b) t Φ := h.same fun g q => by
  have es : sAug i op f = mb (chkFz i) fun a => mb (pk f) (augF i op a) := rfl
  have e : chkFz i g = .ok a g := by unfold chkFz; rw [q.2 _ _ hl]
  rw [es, sSeq_mb]
  show (chkFz i g).andThen _ = _
  rw [e]
  show sSeq (mb (pk f) _) b g = _
  rw [sSeq_mb]
  show (pk f g).andThen _ = (pk f g).andThen _
  cases pk f g with
  | ok y g' =>
    show sSeq (augF i op a y) b g' = _
    rw [aug_eq]; rfl
  | ex _ _ => rfl
  | bad => rfl
theorem w_augP {i : Nat} {op : D → D → Option R} {a b d : D} {y : R} {k : Unit → M Fl} (h2 : cnt L y = some b) (ho : op a b = some (.fz d)) (hi : Nat.blt i n = true) (h : W n ((i, .fz d) :: L) Lx (k ()) t Φ) : W n L Lx (mb (augS i op a y) k) t Φ :=
  w_g (L1 := (i, .fz d) :: L) (fun g q => ⟨_, by unfold augS; rw [q.cnt h2]; simp only; rw [ho], q.set hi _⟩) h
/-- stores -/
def OpS (o : Option O) (t : T γ) (rc : γ → O) : Prop := match t with
  | .bad => True
  | .ok v => o = some (rc v)
  | .ex _ => False
theorem w_set {op : O → D → D → Option O} {o i v : M R} {b : M Fl} (h : W n L Lx (mb (esc v) fun rv => mb o fun ro => mb (pk i) fun ri => mb (opSet op rv ro ri) fun _ => b) t Φ) : W n L Lx (sSeq (sSet op o i v) b) t Φ := by
  unfold sSet; rw [sSeq_mb]
  refine h.same fun g _ => ?_
  show (esc v g).andThen _ = (esc v g).andThen _
  cases esc v g with
  | ok r g' =>
    show sSeq (mb o _) b g' = _
    rw [sSeq_mb]
    show (o g').andThen _ = (o g').andThen _
    cases o g' with
    | ok r2 g2 =>
      show sSeq (mb (pk i) _) b g2 = _
      rw [sSeq_mb]
      show (pk i g2).andThen _ = (pk i g2).andThen _
      cases pk i g2 with
      | ok r3 g3 =>
        show sSeq (mb (opSet op r r2 r3) _) b g3 = _
        rw [sSeq_mb]; rfl
      | ex _ _ => rfl
      | bad => rfl
    | ex _ _ => rfl
    | bad => rfl
  | ex _ _ => rfl
  | bad => rfl
theorem w_opSet {op : O → D → D → Option O} {dv di : D} {j : Nat} {ri : R} {l : Bool} {ob : O} {k : Unit → M β} {ts : T γ} {rc : γ → O} {tk : γ → T ρ} {Φ : ρ → β → G → Prop} (hl : lk L j = some (.ow l ob)) (hi : cnt L ri = some di) (ho : OpS (op ob di dv) ts rc) (hj : Nat.blt j n = true)
    (h : ∀ v, W n ((j, .ow l (rc v)) :: L) Lx (k ()) (tk v) Φ) : W n L Lx (mb (opSet op (.fz dv) (.at j) ri) k) (tb ts tk) Φ := by
  cases ts with
  | bad => exact w_bad
  | ex x => exact ho.elim
  | ok v => exact w_g (L1 := (j, .ow l (rc v)) :: L) (fun g q => ⟨_, by unfold opSet; simp only; rw [q.2 _ _ hl, q.cnt hi]; simp only; rw [show op ob di dv = _ from ho], q.set hj _⟩) (h v)
/-- changes by methods -/
def OpMu (o : Option (O × D)) (t : T γ) (rc : γ → O) (rd : γ → D) : Prop := match t with
  | .bad => True
  | .ok v => o = some (rc v, rd v)
  | .ex _ => False
theorem w_opMut {op : O → List D → Option (O × D)} {i : Nat} {ys : List R} {ds : List D} {l : Bool} {o : O} {j : R → M β} {ts : T γ} {rc : γ → O} {rd : γ → D} {tk : γ → T ρ} {Φ : ρ → β → G → Prop} (hl : lk L i = some (.ow l o)) (hy : allFz ys = some ds) (ho : OpMu (op o ds) ts rc rd) (hi : Nat.blt i n = true)
    (h : ∀ v, W n ((i, .ow l (rc v)) :: L) Lx (j (.fz (rd v))) (tk v) Φ) : W n L Lx (mb (opMut op (.at i) ys) j) (tb ts tk) Φ := by
  cases ts with
  | bad => exact w_bad
  | ex x => exact ho.elim
  | ok v => exact w_s (L1 := (i, .ow l (rc v)) :: L) (a := .fz (rd v)) (fun g q => ⟨_, by unfold opMut; simp only; rw [q.2 _ _ hl, hy]; simp only; rw [show op o ds = _ from ho], q.set hi _⟩) (h v)

theorem w_frz {i : Nat} {o : O} {b : M Fl} (hl : lk L i = some (.ow false o)) (hi : Nat.blt i n = true) (h : W n ((i, .fz o.d) :: L) Lx b t Φ) : W n L Lx (sSeq (frzS i) b) t Φ := ⟨fun g q => by
  have e : sSeq (frzS i) b g = b (g.set i (some (.fz o.d))) := by
    show b (frz i g) = _
    unfold frz; rw [q.2 _ _ hl]
  rw [e]; exact h _ (q.set hi _)⟩
/-- an exit: what follows does not matter -/
theorem w_exit {a b : M Fl} (h : ∀ b : M Fl, W n L Lx a t (fun r fl g => fl ≠ .nx ∧ Φ r fl g)) : W n L Lx (sSeq a b) t Φ := ⟨fun g q => by
  have := h b g q
  cases t with
  | bad => trivial
  | ex e => obtain ⟨g', h1, h2⟩ := this; exact ⟨g', by unfold sSeq; rw [h1], h2⟩
  | ok r =>
    obtain ⟨fl, g', h1, h2, h3⟩ := this
    refine ⟨fl, g', ?_, h3⟩
    unfold sSeq; rw [h1]
    cases fl <;> first | rfl | exact absurd rfl h2⟩
theorem w_letS {i : Nat} {r : R} {v : γ} {f : γ → R} {k : Unit → M β} {tk : γ → T ρ} {Φ : ρ → β → G → Prop} (e : r = f v) (h : ∀ x, W n L Lx (mb (nx' (setSl i (f x))) k) (tk x) Φ) : W n L Lx (mb (nx' (setSl i r)) k) (tb (.ok v) tk) Φ := by rw [e]; exact h v
theorem w_augL {i : Nat} {op : D → D → Option R} {a b d : D} {y : R} {k : Unit → M Fl} {v : γ} {f : γ → D} {tk : γ → T ρ} (h2 : cnt L y = some b) (ho : op a b = some (.fz d)) (e : d = f v) (hi : Nat.blt i n = true) (h : ∀ x, W n ((i, .fz (f x)) :: L) Lx (k ()) (tk x) Φ) : W n L Lx (mb (augS i op a y) k) (tb (.ok v) tk) Φ :=
  w_augP h2 ho hi (by rw [e]; exact h v)
open Classical in
/-- data that must be of a kind -/
@[irreducible] noncomputable def tCast {α : Type} (e : α → D) (d : D) : T α := if h : ∃ v, d = e v then .ok (choose h) else .bad
theorem tCast_ok {α : Type} {e : α → D} (hi : ∀ a b, e a = e b → a = b) (v : α) : tCast e (e v) = .ok v := by
  unfold tCast
  have h : ∃ w, e v = e w := ⟨v, rfl⟩
  rw [dif_pos h]
  exact congrArg T.ok (hi _ _ (Classical.choose_spec h)).symm
theorem w_cast {m : M β} {e : α → D} {d : D} {tk : α → T ρ} {Φ : ρ → β → G → Prop} (h : ∀ v, d = e v → W n L Lx m (tk v) Φ) : W n L Lx m (tb (tCast e d) tk) Φ := by
  unfold tCast
  by_cases q : ∃ v, d = e v
  · rw [dif_pos q]; exact h _ (Classical.choose_spec q)
  · rw [dif_neg q]; exact w_bad

/-! ### loops -/
theorem w_for {it : M (List D)} {tg : R → M Unit} {body b : M Fl} (h : W n L Lx (mb it fun ds => sSeq (forL tg body ds) b) t Φ) : W n L Lx (sSeq (sFor it tg body) b) t Φ := by
  unfold sFor; rw [sSeq_mb]; exact h
def isGo : Fl → Prop
  | .nx => True
  | .ct => True
  | _ => False
/-- the end of a turn -/
def ΦB (n : Nat) (LS : σ → Lay) (Φ : ρ → Fl → G → Prop) : St' σ ρ → Fl → G → Prop := fun v fl g' => match v with
  | .nx s => isGo fl ∧ At n (LS s) g'
  | .bk s => fl = .bk ∧ At n (LS s) g'
  | .rt r => isRt fl ∧ Φ r fl g'
def ΦF (n : Nat) (LS : σ → Lay) : σ → Fl → G → Prop := fun s fl g' => isGo fl ∧ At n (LS s) g'
theorem forL_turn (tg : R → M Unit) (body : M Fl) (d : D) (ds : List D) (g : G) : forL tg body (d :: ds) g = match (mb (nx' (tg (.fz d))) fun _ => body) g with
    | .ok .nx g2 => forL tg body ds g2
    | .ok .ct g2 => forL tg body ds g2
    | .ok .bk g2 => .ok .nx g2
    | r => r := for_cons tg body d ds g
theorem forL_go {tg : R → M Unit} {body : M Fl} {d : D} {ds : List D} {g g2 : G} {fl : Fl} (h : (mb (nx' (tg (.fz d))) fun _ => body) g = .ok fl g2) (k : isGo fl) : forL tg body (d :: ds) g = forL tg body ds g2 := by
  rw [forL_turn, h]
  cases fl <;> first | rfl | exact k.elim
theorem forL_fold {tg : R → M Unit} {body : M Fl} {LS : σ → Lay} {e : α → D} {f : σ → α → T σ} (hb : ∀ s x, W n (LS s) Lx (mb (nx' (tg (.fz (e x)))) fun _ => body) (f s x) (ΦF n LS)) :
    ∀ (xs : List α) (s : σ), W n (LS s) Lx (forL tg body (xs.map e)) (tfold xs s f) (fun v fl g' => fl = .nx ∧ At n (LS v) g')
  | [], s => ⟨fun g q => ⟨.nx, g, rfl, rfl, q⟩⟩
  | x :: xs, s => ⟨fun g q => by
    have h := hb s x g q
    unfold tfold
    cases e' : f s x with
    | bad => trivial
    | ex z =>
      rw [e'] at h
      obtain ⟨g', h1, h2⟩ := h
      exact ⟨g', by rw [List.map_cons, forL_turn, h1], h2⟩
    | ok s' =>
      rw [e'] at h
      obtain ⟨fl, g', h1, h2, h3⟩ := h
      have ih := forL_fold hb xs s' g' h3
      rw [List.map_cons, forL_go h1 h2]
      exact ih⟩
theorem w_fold {tg : R → M Unit} {body b : M Fl} {ds : List D} {xs : List α} {e : α → D} {s0 : σ} {LS : σ → Lay} {f : σ → α → T σ} {tk : σ → T ρ} (hd : ds = xs.map e) (h0 : Sub L (LS s0)) (hb : ∀ s x, W n (LS s) Lx (mb (nx' (tg (.fz (e x)))) fun _ => body) (f s x) (ΦF n LS))
    (r : ∀ s, W n (LS s) Lx b (tk s) Φ) : W n L Lx (sSeq (forL tg body ds) b) (tb (tfold xs s0 f) tk) Φ := by
  subst hd
  exact w_blk ((forL_fold hb xs s0).sub h0) r
theorem forL_for {tg : R → M Unit} {body : M Fl} {LS : σ → Lay} {e : α → D} {f : σ → α → T (St' σ ρ)} (hb : ∀ s x, W n (LS s) Lx (mb (nx' (tg (.fz (e x)))) fun _ => body) (f s x) (ΦB n LS Φ)) :
    ∀ (xs : List α) (s : σ), W n (LS s) Lx (forL tg body (xs.map e)) (tfor xs s f) (ΦL n LS Φ)
  | [], s => ⟨fun g q => ⟨.nx, g, rfl, rfl, q⟩⟩
  | x :: xs, s => ⟨fun g q => by
    have h := hb s x g q
    unfold tfor
    cases e' : f s x with
    | bad => trivial
    | ex z =>
      rw [e'] at h
      obtain ⟨g', h1, h2⟩ := h
      exact ⟨g', by rw [List.map_cons, forL_turn, h1], h2⟩
    | ok v =>
      rw [e'] at h
      cases v with
      | nx s' =>
        obtain ⟨fl, g', h1, h2, h3⟩ := h
        have ih := forL_for hb xs s' g' h3
        rw [List.map_cons, forL_go h1 h2]
        exact ih
      | bk s' =>
        obtain ⟨fl, g', h1, rfl, h3⟩ := h
        exact ⟨.nx, g', by rw [List.map_cons, forL_turn, h1], rfl, h3⟩
      | rt r =>
        obtain ⟨fl, g', h1, h2, h3⟩ := h
        refine ⟨fl, g', ?_, h2, h3⟩
        rw [List.map_cons, forL_turn, h1]
        cases fl <;> first | rfl | exact h2.elim⟩
theorem w_forT {tg : R → M Unit} {body b : M Fl} {ds : List D} {xs : List α} {e : α → D} {s0 : σ} {LS : σ → Lay} {f : σ → α → T (St' σ ρ)} {tk : σ → T ρ} (hd : ds = xs.map e) (h0 : Sub L (LS s0)) (hb : ∀ s x, W n (LS s) Lx (mb (nx' (tg (.fz (e x)))) fun _ => body) (f s x) (ΦB n LS Φ))
    (r : ∀ s, W n (LS s) Lx b (tk s) Φ) : W n L Lx (sSeq (forL tg body ds) b) (tlp (tfor xs s0 f) tk) Φ := by
  subst hd
  exact w_blkR ((forL_for hb xs s0).sub h0) r
theorem whileL_for {c : M Bool} {body : M Fl} {LS : σ → Lay} {tc : σ → T Bool} {f : σ → T (St' σ ρ)} (hc : ∀ s, W n (LS s) Lx c (tc s) (fun v b g' => b = v ∧ At n (LS s) g')) (hb : ∀ s, W n (LS s) Lx body (f s) (ΦB n LS Φ)) :
    ∀ (k : Nat) (s : σ), W n (LS s) Lx (whileL c body k) (twhL tc f k s) (ΦL n LS Φ)
  | 0, s => w_bad
  | k + 1, s => ⟨fun g q => by
    have h := hc s g q
    unfold twhL
    cases e1 : tc s with
    | bad => trivial
    | ex z =>
      rw [e1] at h
      obtain ⟨g', h1, h2⟩ := h
      exact ⟨g', by unfold whileL; rw [h1]; rfl, h2⟩
    | ok v =>
      rw [e1] at h
      obtain ⟨b, g', h1, rfl, h3⟩ := h
      cases b with
      | false => exact ⟨.nx, g', by unfold whileL; rw [h1]; rfl, rfl, h3⟩
      | true =>
        have h := hb s g' h3
        have ew : whileL c body (k + 1) g = match body g' with
          | .ok .nx g2 => whileL c body k g2
          | .ok .ct g2 => whileL c body k g2
          | .ok .bk g2 => .ok .nx g2
          | r => r := by
          show (c g).andThen _ = _
          rw [h1]; rfl
        cases e' : f s with
        | bad => trivial
        | ex z =>
          rw [e'] at h
          obtain ⟨g2, h1, h2⟩ := h
          exact ⟨g2, by rw [ew, h1], h2⟩
        | ok v =>
          rw [e'] at h
          cases v with
          | nx s' =>
            obtain ⟨fl, g2, h1, h2, h4⟩ := h
            have ih := whileL_for hc hb k s' g2 h4
            have : whileL c body (k + 1) g = whileL c body k g2 := by
              rw [ew, h1]
              cases fl <;> first | rfl | exact h2.elim
            rw [this]; exact ih
          | bk s' =>
            obtain ⟨fl, g2, h1, rfl, h4⟩ := h
            exact ⟨.nx, g2, by rw [ew, h1], rfl, h4⟩
          | rt r =>
            obtain ⟨fl, g2, h1, h2, h4⟩ := h
            refine ⟨fl, g2, ?_, h2, h4⟩
            rw [ew, h1]
            cases fl <;> first | rfl | exact h2.elim⟩
theorem w_while {c : M Bool} {body b : M Fl} {s0 : σ} {LS : σ → Lay} {tc : σ → T Bool} {f : σ → T (St' σ ρ)} {tk : σ → T ρ} (h0 : Sub L (LS s0)) (hc : ∀ s, W n (LS s) Lx c (tc s) (fun v b g' => b = v ∧ At n (LS s) g')) (hb : ∀ s, W n (LS s) Lx body (f s) (ΦB n LS Φ))
    (r : ∀ s, W n (LS s) Lx b (tk s) Φ) : W n L Lx (sSeq (sWhile c body) b) (tlp (twh s0 tc f) tk) Φ :=
  w_blkR (by unfold twh; exact (whileL_for hc hb fuel s0).sub h0) r
/-! ### comprehensions -/
def lcK (t : R → M Unit) (c : M Bool) (e : M R) (vs : List Nat) (ds : List D) : M R := fun g => if ds.length ≤ sizeLine then (lcL t c e vs ds [] g).andThen fun acc g2 => .ok (.ow (.ls acc)) (backG g g2 vs) else .bad
theorem w_lcU {it : M (List D)} {tg : R → M Unit} {c : M Bool} {e : M R} {vs : List Nat} {j : R → M β} {t : T ρ} {Φ : ρ → β → G → Prop} (h : W n L Lx (mb it fun ds => mb (lcK tg c e vs ds) j) t Φ) : W n L Lx (mb (eLc it tg c e vs) j) t Φ := w_as h
/-- without these slots -/
def rmLs (L : Lay) : List Nat → Lay
  | [] => L
  | v :: vs => rmL (rmLs L vs) v
theorem lk_rms {i : Nat} {x : Sl} : ∀ {vs : List Nat}, lk (rmLs L vs) i = some x → lk L i = some x ∧ i ∉ vs
  | [], h => ⟨h, List.not_mem_nil⟩
  | v :: vs, h => by
    obtain ⟨h1, h2⟩ := lk_rm h
    obtain ⟨h3, h4⟩ := lk_rms h1
    exact ⟨h3, fun m => (List.mem_cons.mp m).elim h2 h4⟩
/-- these slots hold nothing that is changed -/
def fzL (L : Lay) : List Nat → Bool
  | [] => true
  | v :: vs => (match lk L v with | some (.ow _ _) => false | some (.op _ _) => false | _ => true) && fzL L vs
theorem fzL_mem {i : Nat} {l : Bool} {o : O} : ∀ {vs : List Nat}, fzL L vs = true → i ∈ vs → lk L i ≠ some (.ow l o)
  | v :: vs, h, m => by
    unfold fzL at h
    rw [Bool.and_eq_true] at h
    rcases List.mem_cons.mp m with rfl | m
    · intro e; rw [e] at h; cases h.1
    · exact fzL_mem h.2 m
theorem fzL_memO {i : Nat} {c : Str} {fs : Fs} : ∀ {vs : List Nat}, fzL L vs = true → i ∈ vs → lk L i ≠ some (.op c fs)
  | v :: vs, h, m => by
    unfold fzL at h
    rw [Bool.and_eq_true] at h
    rcases List.mem_cons.mp m with rfl | m
    · intro e; rw [e] at h; cases h.1
    · exact fzL_memO h.2 m
theorem At.wipe {g : G} {vs : List Nat} (h : At n L g) : At n (rmLs L vs) (wipeG g vs) := by
  refine ⟨by rw [wipeG_len]; exact h.1, fun i s e => ?_⟩
  obtain ⟨h1, h2⟩ := lk_rms e
  rw [wipeG_at, if_neg fun q => h2 q.1]
  exact h.2 _ _ h1
theorem At.wipe' {g : G} {vs : List Nat} (h : At n (rmLs L vs) g) : At n (rmLs L vs) (wipeG g vs) := by
  refine ⟨by rw [wipeG_len]; exact h.1, fun i s e => ?_⟩
  rw [wipeG_at, if_neg fun q => (lk_rms e).2 q.1]
  exact h.2 _ _ e
theorem lk_rms_of {i : Nat} : ∀ {vs : List Nat}, i ∉ vs → lk (rmLs L vs) i = lk L i := by
  have key : ∀ {M : Lay} {v : Nat}, i ≠ v → lk (rmL M v) i = lk M i := by
    intro M v hv
    induction M with
    | nil => rfl
    | cons p r ih =>
      obtain ⟨j, s⟩ := p
      unfold rmL
      cases e : Nat.beq j v with
      | true =>
        simp only
        rw [ih]
        unfold lk
        have : Nat.beq j i = false := by
          cases q : Nat.beq j i with
          | false => rfl
          | true => exact absurd ((Nat.eq_of_beq_eq_true q).symm.trans (Nat.eq_of_beq_eq_true e)) hv
        simp only [this]
        cases r <;> rfl
      | false =>
        simp only
        unfold lk
        cases q : Nat.beq j i with
        | true => rfl
        | false => exact ih
  intro vs
  induction vs with
  | nil => intro _; rfl
  | cons v vs ih =>
    intro h
    show lk (rmL (rmLs L vs) v) i = _
    rw [key fun e => h (by rw [e]; exact List.mem_cons_self), ih fun m => h (List.mem_cons_of_mem _ m)]
theorem At.back {g g2 : G} {vs : List Nat} (h0 : At n L g) (h : At n (rmLs L vs) g2) (hv : fzL L vs = true) : At n L (backG g g2 vs) := by
  refine ⟨by rw [backG_leng]; exact h.1, fun i s e => ?_⟩
  rw [backG_at]
  by_cases q : i ∈ vs
  · have hl : i < n := by
      have := h0.2 _ _ e
      rcases Nat.lt_or_ge i g.length with k | k
      · rw [h0.1] at k; exact k
      · rw [List.getElem?_eq_none k] at this; cases this
    rw [if_pos ⟨q, by rw [h.1]; exact hl⟩, h0.2 _ _ e]
    cases s with
    | fz d => rfl
    | ow l o => exact absurd e (fzL_mem hv q)
    | op c fs => exact absurd e (fzL_memO hv q)
  · rw [if_neg fun z => q z.1]
    exact h.2 _ _ (by rw [lk_rms_of q]; exact e)
/-- what stands at these slots stands there before, frozen -/
def noX (L L' : Lay) : List Nat → Prop
  | [] => True
  | v :: vs => (match lk L' v with | none => True | some (.fz d) => lk L v = some (.fz d) | some _ => False) ∧ noX L L' vs
/-- one turn of a comprehension, typed -/
def LcOk (n : Nat) (L : Lay) (tg : R → M Unit) (c : M Bool) (e : M R) (d : D) (t : T (Option γ)) (e1 : γ → D) : Prop :=
  match tnx t with
  | .ok v => ∀ g, At n L g → ∃ g', lcStep tg c e d g = .ok (v.map e1) g' ∧ At n L g'
  | _ => True
theorem lcL_ok {tg : R → M Unit} {c : M Bool} {e : M R} {vs : List Nat} {e0 : α → D} {e1 : γ → D} {f : α → T (Option γ)} (hb : ∀ x, LcOk n (rmLs L vs) tg c e (e0 x) (f x) e1) :
    ∀ (xs : List α) (acc : List D) (g : G), At n (rmLs L vs) g → match tfmA f xs with
      | .ok ys => ∃ g', lcL tg c e vs (xs.map e0) acc g = .ok (acc ++ ys.map e1) g' ∧ At n (rmLs L vs) g'
      | _ => True
  | [], acc, g, q => ⟨g, by rw [List.map_nil, List.map_nil, List.append_nil]; rfl, q⟩
  | x :: xs, acc, g, q => by
    have h := hb x
    unfold LcOk at h
    unfold tfmA
    cases e' : tnx (f x) with
    | bad => trivial
    | ex z => trivial
    | ok v =>
      rw [e'] at h
      obtain ⟨g', h1, h2⟩ := h _ q.wipe'
      rw [List.map_cons, lcL_cons, h1]
      cases v with
      | none =>
        have ih := lcL_ok hb xs acc g' h2
        skip
        cases e2 : tfmA f xs with
        | bad => trivial
        | ex z => trivial
        | ok ys => rw [e2] at ih; exact ih
      | some y =>
        have ih := lcL_ok hb xs (acc ++ [e1 y]) g' h2
        skip
        cases e2 : tfmA f xs with
        | bad => trivial
        | ex z => trivial
        | ok ys =>
          rw [e2] at ih
          obtain ⟨g2, h3, h4⟩ := ih
          refine ⟨g2, ?_, h4⟩
          show lcL tg c e vs (xs.map e0) (acc ++ [e1 y]) g' = _
          rw [h3, List.append_assoc]; rfl
theorem At.rms {g : G} {vs : List Nat} (h : At n L g) : At n (rmLs L vs) g := ⟨h.1, fun i s e => h.2 _ _ (lk_rms e).1⟩
theorem w_fm {tg : R → M Unit} {c : M Bool} {e : M R} {vs : List Nat} {ds : List D} {xs : List α} {e0 : α → D} (e1 : γ → D) {f : α → T (Option γ)} {j : R → M β} {tk : List γ → T ρ} {Φ : ρ → β → G → Prop} (hd : ds = xs.map e0) (hv : fzL L vs = true)
    (hb : ∀ x, LcOk n (rmLs L vs) tg c e (e0 x) (f x) e1) (r : ∀ ys : List γ, W n L Lx (j (.ow (.ls (ys.map e1)))) (tk ys) Φ) : W n L Lx (mb (lcK tg c e vs ds) j) (tb (tFm xs f) tk) Φ := by
  subst hd
  unfold tFm
  by_cases hl : xs.length ≤ 16777216
  · rw [if_pos hl]
    cases e' : tfmA f xs with
    | bad => exact w_bad
    | ex z =>
      have : ∀ xs : List α, ∀ z, tfmA f xs ≠ .ex z := by
        intro xs
        induction xs with
        | nil => intro z h; cases h
        | cons x xs ih =>
          intro z h
          unfold tfmA at h
          cases e1 : f x with
          | bad => rw [e1] at h; cases h
          | ex _ => rw [e1] at h; cases h
          | ok _ =>
            rw [e1] at h
            cases e2 : tfmA f xs with
            | bad => rw [e2] at h; cases h
            | ex y => exact ih y e2
            | ok _ => rw [e2] at h; cases h
      exact absurd e' (this xs z)
    | ok ys =>
      refine w_s (a := .ow (.ls (ys.map e1))) (L1 := L) (fun g q => ?_) (r ys)
      have h := lcL_ok (f := f) hb xs [] g q.rms
      rw [e'] at h
      obtain ⟨g', h1, h2⟩ := h
      refine ⟨backG g g' vs, ?_, q.back h2 hv⟩
      unfold lcK
      rw [if_pos (by rw [List.length_map]; exact hl), h1]; rfl
  · rw [if_neg hl]; exact w_bad
theorem tfm_map {f : α → T γ} : ∀ xs : List α, tfmA (fun x => tb (f x) fun y => .ok (some y)) xs = tmapA f xs
  | [] => rfl
  | x :: xs => by
    unfold tfmA tmapA
    rw [tfm_map xs]
    cases f x with
    | bad => rfl
    | ex _ => rfl
    | ok y => cases tmapA f xs <;> rfl
theorem w_map {tg : R → M Unit} {c : M Bool} {e : M R} {vs : List Nat} {ds : List D} {xs : List α} {e0 : α → D} (e1 : γ → D) {f : α → T γ} {j : R → M β} {tk : List γ → T ρ} {Φ : ρ → β → G → Prop} (hd : ds = xs.map e0) (hv : fzL L vs = true)
    (hb : ∀ x, LcOk n (rmLs L vs) tg c e (e0 x) (tb (f x) fun y => .ok (some y)) e1) (r : ∀ ys : List γ, W n L Lx (j (.ow (.ls (ys.map e1)))) (tk ys) Φ) : W n L Lx (mb (lcK tg c e vs ds) j) (tb (tMap xs f) tk) Φ := by
  have : tMap xs f = tFm xs fun x => tb (f x) fun y => .ok (some y) := by unfold tMap tFm; rw [tfm_map]
  rw [this]
  exact w_fm e1 hd hv hb r
/-- a turn without a test -/
theorem lc_m {tg : R → M Unit} {e : M R} {d : D} {f : T γ} {e1 : γ → D} {L1 : Lay} (ht : Tg n L (tg (.fz d)) L1) (hL : ∀ g, At n L1 g → At n L g) (h : W n L1 [] (mb e escR) f (fun v r g' => r = .fz (e1 v) ∧ At n L1 g')) : LcOk n L tg cYes e d (tb f fun y => .ok (some y)) e1 := by
  unfold LcOk
  cases f with
  | bad => trivial
  | ex _ => trivial
  | ok v =>
    intro g q
    obtain ⟨g1, h1, h2⟩ := ht g q
    obtain ⟨r, g2, h3, rfl, h4⟩ := h g1 h2
    have h5 : esc e g1 = .ok (.fz (e1 v)) g2 := h3
    refine ⟨g2, ?_, hL _ h4⟩
    unfold lcStep
    rw [h1, ne_ok, then_ok, ev_yes, ne_ok, then_ok, if_pos rfl, h5]; rfl
/-- one more fact about a slot of which nothing was known -/
theorem at_rm {v : Nat} {x : Sl} {g : G} (h : At n ((v, x) :: L) g) (hv : ∀ s, lk L v ≠ some s) : At n L g := ⟨h.1, fun i s e => h.2 i s (by
  unfold lk
  cases q : Nat.beq v i with
  | true => rw [Nat.eq_of_beq_eq_true q] at hv; exact absurd e (hv s)
  | false => exact e)⟩
theorem rms_no {v : Nat} {vs : List Nat} (m : v ∈ vs) : ∀ s, lk (rmLs L vs) v ≠ some s := fun s e => (lk_rms e).2 m
/-- .. with a state -/
def LcOkS (n : Nat) (LS : σ → Lay) (vs : List Nat) (tg : R → M Unit) (c : M Bool) (e : M R) (d : D) (s : σ) (t : T (σ × γ)) (e1 : γ → D) : Prop :=
  match tnx t with
  | .ok v => ∀ g, At n (rmLs (LS s) vs) g → ∃ g', lcStep tg c e d g = .ok (some (e1 v.2)) g' ∧ At n (rmLs (LS v.1) vs) g'
  | _ => True
def tmapS {σ α γ : Type} (f : σ → α → T (σ × γ)) : List α → σ → T (σ × List γ)
  | [], s => .ok (s, [])
  | x :: xs, s => tb (tnx (f s x)) fun p => tb (tmapS f xs p.1) fun q => .ok (q.1, p.2 :: q.2)
@[irreducible] def tMapS {σ α γ : Type} (xs : List α) (s : σ) (f : σ → α → T (σ × γ)) : T (σ × List γ) := if xs.length ≤ 16777216 then tmapS f xs s else .bad
/-- an end's value -/
theorem w_endP {m : M R} {r : R} {v : γ} {f : γ → R} (h : Px n L m r) (e : r = f v) : W n L Lx m (.ok v) (fun v r g' => r = f v ∧ At n L g') := ⟨fun g q => ⟨r, g, h g q, e, q⟩⟩
theorem w_endB {m : M Bool} {b : Bool} (h : Px n L m b) : W n L Lx m (.ok b) (fun v r g' => r = v ∧ At n L g') := ⟨fun g q => ⟨b, g, h g q, rfl, q⟩⟩
theorem w_endM {b : Bool} : W n L Lx (mp b) (.ok b) (fun v r g' => r = v ∧ At n L g') := ⟨fun g q => ⟨b, g, rfl, rfl, q⟩⟩
theorem w_endR {r : R} {v : γ} {f : γ → R} (e : r = f v) : W n L Lx (mp r) (.ok v) (fun v r g' => r = f v ∧ At n L g') := ⟨fun g q => ⟨r, g, rfl, e, q⟩⟩
theorem px_opN {op : List D → Option R} {rs : List R} {ds : List D} {r : R} (e : cnts L rs = some ds) (ho : op ds = some r) (hr : nAt r = true := by rfl) : Px n L (opN op rs) r := fun g q => by unfold opN; rw [q.cnts e]; simp only; rw [ho, done_of hr]
theorem px_op2 {op : D → D → Option R} {x y : R} {a b : D} {r : R} (h1 : cnt L x = some a) (h2 : cnt L y = some b) (ho : op a b = some r) (hr : nAt r = true := by rfl) : Px n L (op2 op x y) r := fun g q => by unfold op2; rw [q.cnt h1, q.cnt h2]; simp only; rw [ho, done_of hr]
theorem px_toTru {x : R} {d : D} {b : Bool} (h1 : cnt L x = some d) (h : truD d = some b) : Px n L (toTru x) b := fun g q => by unfold toTru; rw [q.cnt h1, Option.bind_some, h]
theorem w_nilS {b : M Fl} {t : T ρ} {Φ : ρ → Fl → G → Prop} (h : W n L Lx b t Φ) : W n L Lx (sSeq sNil b) t Φ := h
/-- an option is looked at -/
def optc {α ρ : Type} (o : Option α) (t0 : T ρ) (t1 : α → T ρ) : T ρ := match o with
  | none => t0
  | some a => t1 a
/-! ### defs -/
@[irreducible] def RF (f : FSem) (ds : List D) (t : T ρ) (eR : ρ → R) : Prop := match t with
  | .bad => True
  | .ex e => f none ds = .ex e none
  | .ok r => f none ds = .ok (eR r) none ∧ nAt (eR r) = true
def Fin (r : R) (fl : Fl) : Prop := fl = .rt r ∨ (fl = .nx ∧ r = .fz .non)
def ΦR (eR : ρ → R) : ρ → Fl → G → Prop := fun v fl _ => Fin (eR v) fl
def argL : Nat → List D → Lay
  | _, [] => []
  | i, d :: ds => (i, .fz d) :: argL (i + 1) ds
theorem lk_arg : ∀ {ds : List D} {i j : Nat} {s : Sl}, lk (argL i ds) j = some s → i ≤ j ∧ ∃ d, s = .fz d ∧ ds[j - i]? = some d
  | [], i, j, s, h => by cases h
  | d :: ds, i, j, s, h => by
    unfold argL lk at h
    cases e : Nat.beq i j with
    | true =>
      simp only [e] at h
      cases h
      have := Nat.eq_of_beq_eq_true e
      subst this
      exact ⟨Nat.le_refl _, d, rfl, by simp⟩
    | false =>
      simp only [e] at h
      obtain ⟨h1, d', h2, h3⟩ := lk_arg h
      refine ⟨by omega, d', h2, ?_⟩
      rw [show j - i = (j - (i + 1)) + 1 by omega, List.getElem?_cons_succ]
      exact h3
theorem rf_body {n : Nat} {b : M Fl} {ds : List D} {t : T ρ} {eR : ρ → R} (hn : Nat.ble ds.length n = true) (he : ∀ v, nAt (eR v) = true) (h : W n (argL 0 ds) [] b t (ΦR eR)) : RF (bodyF n none b) ds t eR := by
  have hn := Nat.le_of_ble_eq_true hn
  have q : At n (argL 0 ds) (fill n (ds.map fun d => some (.fz d))) := by
    refine ⟨by unfold fill; rw [List.length_append, List.length_map, List.length_replicate]; omega, fun i s e => ?_⟩
    obtain ⟨_, d, rfl, h3⟩ := lk_arg e
    unfold fill
    have hl : i < ds.length := by
      rcases Nat.lt_or_ge i ds.length with h | h
      · exact h
      · rw [List.getElem?_eq_none (by omega)] at h3; cases h3
    rw [List.getElem?_append_left (by rw [List.length_map]; exact hl), List.getElem?_map]
    rw [Nat.sub_zero] at h3
    rw [h3]; rfl
  have := h _ q
  unfold RF
  cases t with
  | bad => trivial
  | ex e =>
    obtain ⟨g', h1, _⟩ := this
    rw [bodyF_none, h1]; rfl
  | ok v =>
    obtain ⟨fl, g', h1, h2⟩ := this
    refine ⟨?_, he v⟩
    rw [bodyF_none, h1]
    rcases h2 with rfl | ⟨rfl, h3⟩
    · have := he v
      cases e : eR v with
      | fz d => rfl
      | ow o => rfl
      | «at» i => rw [e] at this; cases this
      | sub i f => rw [e] at this; cases this
    · rw [h3]; rfl
theorem w_call {sem : FSem} {rs : List R} {ds : List D} {tc : T γ} {rc : γ → R} {j : R → M β} {tk : γ → T ρ} {Φ : ρ → β → G → Prop} (hf : RF sem ds tc rc) (e : allFz rs = some ds) (hx : Sub L Lx) (r : ∀ v, W n L Lx (j (rc v)) (tk v) Φ) : W n L Lx (mb (opCall none sem rs) j) (tb tc tk) Φ := by
  unfold RF at hf
  have eo : ∀ g, opCall none sem rs g = callK (sem none ds) g := by intro g; rw [ev_opCall, e]
  cases tc with
  | bad => exact w_bad
  | ex z => exact ⟨fun g q => ⟨g, by show (opCall none sem rs g).andThen j = _; rw [eo, hf]; rfl, q.sub hx⟩⟩
  | ok v =>
    refine w_p (a := rc v) (fun g q => ?_) (r v)
    rw [eo, hf.1]
    have := hf.2
    cases e : rc v with
    | fz d => rfl
    | ow o => rfl
    | «at» i => rw [e] at this; cases this
    | sub i f => rw [e] at this; cases this
/-! ### lent lists -/
@[irreducible] def RFL (f : FSem) (lp : Nat) (o : O) (ds : List D) (t : T (ρ × σ)) (eR : ρ → R) (eO : σ → O) : Prop := match t with
  | .bad => True
  | .ex e => f (some o) ds = .ex e none
  | .ok v => f (some o) ds = .ok (eR v.1) (some (eO v.2)) ∧ nAt (eR v.1) = true
def ΦRL (n : Nat) (lp : Nat) (eR : ρ → R) (eO : σ → O) : ρ × σ → Fl → G → Prop := fun v fl g => Fin (eR v.1) fl ∧ g[lp]? = some (some (.ow true (eO v.2)))
def argLL (j : Nat) (o : O) (ds : List D) : Lay := (j, .ow true o) :: (argL 0 (ds.take j) ++ argL (j + 1) (ds.drop j))
/-! ### try -/
/-- what catches -/
@[irreducible] def tTry (x : T ρ) (ns : List Str) (h : Ex → T ρ) : T ρ := match x with
  | .ex e => if e.c ∈ ns then h e else .bad
  | r => r
theorem w_try {ns : List Str} {x : M Fl} {hs : List (Str × M Fl)} {tx : T ρ} {th : Ex → T ρ} {Ly : Lay} (hb : W n L Ly x tx Φ) (hh : ∀ e, W n Ly Lx (handle hs e) (th e) Φ) : W n L Lx (sTry ns x hs) (tTry tx ns th) Φ := ⟨fun g q => by
  have := hb g q
  unfold tTry
  cases tx with
  | bad => trivial
  | ok v =>
    obtain ⟨b, g', h1, h2⟩ := this
    exact ⟨b, g', by unfold sTry; rw [h1], h2⟩
  | ex e =>
    obtain ⟨g', h1, h2⟩ := this
    have es : sTry ns x hs g = if e.c ∈ ns then handle hs e g' else .bad := by unfold sTry; rw [h1]
    show match (if e.c ∈ ns then th e else .bad) with | .bad => _ | .ex e => _ | .ok r => _
    by_cases m : e.c ∈ ns
    · rw [if_pos m] at es ⊢
      have := hh e g' h2
      rw [es]; exact this
    · rw [if_neg m]; trivial⟩
theorem h_nil {e : Ex} (hx : Sub L Lx) : W n L Lx (handle [] e) (.ex e : T ρ) Φ := ⟨fun g q => ⟨g, rfl, q.sub hx⟩⟩
theorem h_cons {c : Str} {f : M Fl} {r : List (Str × M Fl)} {e : Ex} {t1 t2 : T ρ} (h1 : W n L Lx f t1 Φ) (h2 : W n L Lx (handle r e) t2 Φ) : W n L Lx (handle ((c, f) :: r) e) (if subE e.c c = true then tnx t1 else t2) Φ := ⟨fun g q => by
  have e1 : handle ((c, f) :: r) e g = if subE e.c c = true then noEx (f g) else handle r e g := by
    show (if subE e.c c = true then noEx (f g) else handle r e g) = _; rfl
  cases hs : subE e.c c with
  | true =>
    rw [hs, if_pos rfl] at e1
    rw [if_pos rfl]
    have := h1 g q
    cases t1 with
    | bad => trivial
    | ex z => trivial
    | ok v => obtain ⟨b, g', h3, h4⟩ := this; exact ⟨b, g', by rw [e1, h3]; rfl, h4⟩
  | false =>
    rw [hs, if_neg (by decide)] at e1
    rw [if_neg (by decide)]
    have := h2 g q
    rw [e1]; exact this⟩
/-! ### try, clauses with names -/
/-- a caught error without fields of its own -/
def tExc (e : Ex) (t : T ρ) : T ρ := match e.p with
  | [] => tnx t
  | _ => .bad
end
end DL

namespace DL
open PySem PySem.Spec L2

/-! # typed operations -/
abbrev S := List Nat
abbrev eI : Int → D := D.int
abbrev eBl : Bool → D := D.bl
abbrev eS : S → D := fun z => .str ⟨z.toArray⟩
abbrev eGl : Nat → D := fun c => .str ⟨#[c]⟩
abbrev eN : Unit → D := fun _ => .non
abbrev eX : List Int → D := D.scr
abbrev eD : D → D := fun d => d
abbrev eEx : Str → D := D.exc
section
variable {α β γ δ : Type}
abbrev eL (e : α → D) : List α → D := fun xs => .lst (xs.map e)
abbrev eT (e : α → D) : List α → D := fun xs => .tup (xs.map e)
abbrev eP (e : α → D) (f : β → D) : α × β → D := fun p => .tup [e p.1, f p.2]
abbrev eP1 (e : α → D) : α → D := fun p => .tup [e p]
abbrev eP3 (e : α → D) (f : β → D) (g : γ → D) : α × β × γ → D := fun p => .tup [e p.1, f p.2.1, g p.2.2]
abbrev eP4 (e : α → D) (f : β → D) (g : γ → D) (h : δ → D) : α × β × γ × δ → D := fun p => .tup [e p.1, f p.2.1, g p.2.2.1, h p.2.2.2]
def eO (e : α → D) : Option α → D := fun o => match o with
  | none => .non
  | some a => e a
/-- results -/
abbrev rF (e : α → D) : α → R := fun v => .fz (e v)
abbrev rL (e : α → D) : List α → R := fun xs => .ow (.ls (xs.map e))
abbrev oL (e : α → D) : List α → O := fun xs => .ls (xs.map e)
theorem nF (e : α → D) (v : α) : nAt (rF e v) = true := rfl
/-! ### pure operations -/
variable {x y z : Int} {s t : S}
theorem str_inj {a b : S} : ((⟨a.toArray⟩ : Str) = ⟨b.toArray⟩) ↔ a = b := ⟨fun h => by have := congrArg (fun s : Str => s.cps.toList) h; simpa using this, fun h => by rw [h]⟩
theorem str_beq {a b : S} : ((⟨a.toArray⟩ : Str) == ⟨b.toArray⟩) = decide (a = b) := by
  rw [Bool.eq_iff_iff, beq_iff_eq, decide_eq_true_eq]; exact str_inj
theorem po_addI : bAdd (eI x) (eI y) = some (.fz (eI (x + y))) := rfl
theorem po_negI : bNeg (eI x) = some (.fz (eI (-x))) := rfl
theorem po_mulL (h1 : -18446744073709551616 < x := by decide) (h2 : x < 18446744073709551616 := by decide) : bMul (eI x) (eI y) = some (.fz (eI (x * y))) := bn_mulL x y h1 h2
theorem po_fdiv (h : 0 < y ∧ y < 1073741824 := by decide) : bFdiv (eI x) (eI y) = some (.fz (eI (x / y))) := if_pos h
theorem po_mod (h : 0 < y := by decide) : bMod (eI x) (eI y) = some (.fz (eI (x % y))) := if_pos h
theorem po_addS : bAddS (eI x) (eI y) = some (.fz (eI (x + y))) := rfl
theorem po_lt : cLtG (eI x) (eI y) = some (.fz (.bl (decide (x < y)))) := rfl
theorem po_le : cLe (eI x) (eI y) = some (.fz (.bl (decide (x ≤ y)))) := rfl
theorem po_gt : cGt (eI x) (eI y) = some (.fz (.bl (decide (y < x)))) := rfl
theorem po_eqI : cEq (eI x) (eI y) = some (.fz (.bl (decide (x = y)))) := rfl
theorem po_neB {x y : Bool} : cNe (eBl x) (eBl y) = some (.fz (.bl (!decide (x = y)))) := rfl
theorem po_neS : cNe (eS s) (eS t) = some (.fz (.bl (!decide (s = t)))) := by show some (R.fz (.bl (!(_ == _)))) = _; rw [str_beq]
def subL (s t : S) : Bool := subS ⟨s.toArray⟩ ⟨t.toArray⟩
/-- encoders of what is never None -/
class NonN (e : α → D) : Prop where
  h : ∀ a, isNon (e a) = false
instance : NonN eI := ⟨fun _ => rfl⟩
instance : NonN eS := ⟨fun _ => rfl⟩
instance : NonN eBl := ⟨fun _ => rfl⟩
instance (e : α → D) : NonN (eL e) := ⟨fun _ => rfl⟩
instance (e : α → D) : NonN (eT e) := ⟨fun _ => rfl⟩
instance (e : α → D) (f : β → D) : NonN (eP e f) := ⟨fun _ => rfl⟩
instance (e : α → D) (f : β → D) (g : γ → D) : NonN (eP3 e f g) := ⟨fun _ => rfl⟩
theorem po_lenL (e : α → D) {xs : List α} : fLen [eL e xs] = some (.fz (eI (xs.length : Int))) := by show some (R.fz (.int ((xs.map e).length : Nat))) = _; rw [List.length_map]
theorem po_lenT (e : α → D) {xs : List α} : fLen [eT e xs] = some (.fz (eI (xs.length : Int))) := by show some (R.fz (.int ((xs.map e).length : Nat))) = _; rw [List.length_map]
theorem po_lenX {xs : List Int} : fLen [eX xs] = some (.fz (eI (xs.length : Int))) := rfl
theorem po_slL (e : α → D) {xs : List α} {lo hi : Option Int} : slD lo hi (eL e xs) = some (.ow (.ls ((cutL xs lo hi).map e))) := by rw [sl_lst, cutL_map]
theorem po_tupL (e : α → D) {xs : List α} : fTuple [eL e xs] = some (.fz (eT e xs)) := rfl
theorem po_sortI {xs : List Int} : fSort [eL eI xs] = some (.ow (.ls ((srt xs).map eI))) := by
  show (match intsOf (xs.map D.int) with | some ns => _ | none => _) = _
  rw [intsOf_map]
def sortS (xs : List S) : List S := (srtS (xs.map fun z => (⟨z.toArray⟩ : Str))).map fun z => z.cps.toList
@[irreducible] def tSortD (xs : List D) : T (List D) := match fSort [.lst xs] with
  | some (.ow (.ls ys)) => .ok ys
  | _ => .bad
theorem po_all {xs : List Bool} : fAll [eL eBl xs] = some (.fz (.bl (xs.all id))) := by rw [fn_all, bolsOf_map]; rfl
theorem po_truB {b : Bool} : truD (eBl b) = some b := rfl
theorem po_truL (e : α → D) {xs : List α} : truD (eL e xs) = some (!xs.isEmpty) := by show some (!(xs.map e).isEmpty) = _; simp
/-- items -/
theorem it_L (e : α → D) {xs : List α} : itemsD (eL e xs) = some (xs.map e) := rfl
theorem it_T (e : α → D) {xs : List α} : itemsD (eT e xs) = some (xs.map e) := rfl
/-! ### partial operations -/
@[irreducible] def tIdx {α : Type} (xs : List α) (i : Int) : T α := match atI xs i with
  | some a => .ok a
  | none => .bad
theorem ot_ixL (e : α → D) {xs : List α} : OpT (ixD (eL e xs) (eI x)) (tIdx xs x) (rF e) := by
  unfold tIdx
  show match (match atI xs x with | some a => T.ok a | none => .bad : T α) with | .bad => _ | .ok v => _ | .ex _ => _
  cases h : atI xs x with
  | none => trivial
  | some a => exact ⟨by rw [ix_lst, atI_map, h]; rfl, rfl⟩
theorem ot_ixT (e : α → D) {xs : List α} : OpT (ixD (eT e xs) (eI x)) (tIdx xs x) (rF e) := by
  unfold tIdx
  show match (match atI xs x with | some a => T.ok a | none => .bad : T α) with | .bad => _ | .ok v => _ | .ex _ => _
  cases h : atI xs x with
  | none => trivial
  | some a => exact ⟨by rw [ix_tup, atI_map, h]; rfl, rfl⟩
theorem ot_ixX {xs : List Int} : OpT (ixD (eX xs) (eI x)) (tIdx xs x) (rF eI) := by
  unfold tIdx
  cases h : atI xs x with
  | none => trivial
  | some a => exact ⟨by rw [ix_scr, h]; rfl, rfl⟩
@[irreducible] def tCat {α : Type} (xs ys : List α) : T (List α) := if xs.length + ys.length ≤ 16777216 then .ok (xs ++ ys) else .bad
theorem ot_catL (e : α → D) {xs ys : List α} : OpT (bAdd (eL e xs) (eL e ys)) (tCat xs ys) (rL e) := by
  unfold tCat
  by_cases h : xs.length + ys.length ≤ 16777216
  · rw [if_pos h]; exact ⟨by rw [bn_addl, if_pos (by rw [List.length_map, List.length_map]; exact h)]; simp, rfl⟩
  · rw [if_neg h]; trivial
@[irreducible] def tMulI (x y : Int) : T Int := if (-18446744073709551616 < x ∧ x < 18446744073709551616) ∨ (-18446744073709551616 < y ∧ y < 18446744073709551616) then .ok (x * y) else .bad
@[irreducible] def tFdiv (x y : Int) : T Int := if 0 < y ∧ y < 1073741824 then .ok (x / y) else .bad
theorem ot_fdiv : OpT (bFdiv (eI x) (eI y)) (tFdiv x y) (rF eI) := by
  unfold tFdiv
  by_cases h : 0 < y ∧ y < 1073741824
  · rw [if_pos h]; exact ⟨if_pos h, rfl⟩
  · rw [if_neg h]; trivial
@[irreducible] def tMod (x y : Int) : T Int := if 0 < y then .ok (x % y) else .bad
theorem ot_mod : OpT (bMod (eI x) (eI y)) (tMod x y) (rF eI) := by
  unfold tMod
  by_cases h : 0 < y
  · rw [if_pos h]; exact ⟨if_pos h, rfl⟩
  · rw [if_neg h]; trivial
@[irreducible] def tPow (x y : Int) : T Int := if 0 ≤ y ∧ y ≤ 1000000 ∧ x.natAbs < 2 ^ 64 then .ok (x ^ y.toNat) else .bad
def repL {α : Type} (xs : List α) (k : Int) : List α := (List.replicate k.toNat xs).flatten
@[irreducible] def tRepT {α : Type} (xs : List α) (k : Int) : T (List α) := if xs ≠ [] ∧ 2 ≤ k ∧ k ≤ 1000 ∧ xs.length ≤ 1000 then .ok (repL xs k) else .bad
@[irreducible] def tRepS (s : S) (k : Int) : T S := if -9223372036854775808 ≤ k ∧ k < 9223372036854775808 ∧ s.length * k.toNat ≤ 16777216 then .ok (repL s k) else .bad
@[irreducible] def tRepL {α : Type} (xs : List α) (k : Int) : T (List α) := if -9223372036854775808 ≤ k ∧ k < 9223372036854775808 ∧ xs.length * k.toNat ≤ 16777216 then .ok (repL xs k) else .bad
theorem ot_repL (e : α → D) {xs : List α} : OpT (bMul (eL e xs) (eI x)) (tRepL xs x) (rL e) := by
  unfold tRepL
  by_cases h : -9223372036854775808 ≤ x ∧ x < 9223372036854775808 ∧ xs.length * x.toNat ≤ 16777216
  · rw [if_pos h]
    refine ⟨?_, rfl⟩
    show (if _ then _ else _) = _
    rw [if_pos ⟨by have := h.1; omega, by have := h.2.1; omega, by rw [List.length_map]; exact h.2.2⟩]
    unfold repL
    simp [List.map_flatten, List.map_replicate]
  · rw [if_neg h]; trivial
@[irreducible] def tIntS (s : S) : T Int := if s.length ≤ 640 then (match PySem.intText? ⟨s.toArray⟩ with | some n => .ok n | none => .bad) else .bad
@[irreducible] def tStrI (x : Int) : T S := if x.natAbs.log2 < 1920 ∧ (toString x : Str).length ≤ 16777216 then .ok (toString x : Str).cps.toList else .bad
@[irreducible] def tJoin (sep : S) (xs : List S) : T S := if (xs.map (·.length)).sum + xs.length * sep.length ≤ 16777216 then .ok (Txt.join ⟨sep.toArray⟩ (xs.map fun z => (⟨z.toArray⟩ : Str))).cps.toList else .bad
@[irreducible] def tRepr (d : D) : T S := if okRepr d = true then .ok d.py.shown.cps.toList else .bad
theorem ot_repr {d : D} : OpT (fRepr [d]) (tRepr d) (rF eS) := by
  unfold tRepr
  by_cases h : okRepr d = true
  · rw [if_pos h]; exact ⟨by rw [fn_repr, if_pos h], rfl⟩
  · rw [if_neg h]; trivial
/-! equality of data -/
class EqE [DecidableEq α] (e : α → D) : Prop where
  flat : ∀ a, (e a).flat = true
  eqv : ∀ a b, PyData.eqv (e a).py (e b).py = decide (a = b)
@[irreducible] def tEqE [DecidableEq α] (e : α → D) (a b : α) : T Bool := if okEq (e a) (e b) = true then .ok (decide (a = b)) else .bad
@[irreducible] def tNeE [DecidableEq α] (e : α → D) (a b : α) : T Bool := if okEq (e a) (e b) = true then .ok (!decide (a = b)) else .bad
theorem cEq_eqv {a b : D} (h : okEq a b = true) : cEq a b = some (.fz (.bl (PyData.eqv a.py b.py))) := by
  unfold cEq; split <;> first | rfl | rw [if_pos h]
theorem cNe_eqv {a b : D} (h : okEq a b = true) : cNe a b = some (.fz (.bl (!PyData.eqv a.py b.py))) := by
  unfold cNe; split <;> first | rfl | rw [if_pos h]
theorem ot_eqE [DecidableEq α] (e : α → D) [q : EqE e] {a b : α} : OpT (cEq (e a) (e b)) (tEqE e a b) (rF eBl) := by
  unfold tEqE
  by_cases h : okEq (e a) (e b) = true
  · rw [if_pos h]; exact ⟨by rw [cEq_eqv h, q.eqv], rfl⟩
  · rw [if_neg h]; trivial
/-- .. of any data -/
@[irreducible] def tEqD (a b : D) : T Bool := if okEq a b = true then .ok (PyData.eqv a.py b.py) else .bad
@[irreducible] def tNeD (a b : D) : T Bool := if okEq a b = true then .ok (!PyData.eqv a.py b.py) else .bad
theorem ot_eqD {a b : D} : OpT (cEq a b) (tEqD a b) (rF eBl) := by
  unfold tEqD
  by_cases h : okEq a b = true
  · rw [if_pos h]; exact ⟨by rw [cEq_eqv h], rfl⟩
  · rw [if_neg h]; trivial
theorem ot_neD {a b : D} : OpT (cNe a b) (tNeD a b) (rF eBl) := by
  unfold tNeD
  by_cases h : okEq a b = true
  · rw [if_pos h]; exact ⟨by rw [cNe_eqv h], rfl⟩
  · rw [if_neg h]; trivial
instance : EqE eI := ⟨fun _ => rfl, fun _ _ => rfl⟩
instance : EqE eBl := ⟨fun _ => rfl, fun a b => by cases a <;> cases b <;> rfl⟩
instance : EqE eS := ⟨fun _ => rfl, fun a b => str_beq⟩
theorem eqvAll_map [DecidableEq α] (e : α → D) [q : EqE e] : ∀ xs ys : List α, PyData.eqvAll (pyL (xs.map e)) (pyL (ys.map e)) = decide (xs = ys)
  | [], [] => rfl
  | [], y :: ys => rfl
  | x :: xs, [] => rfl
  | x :: xs, y :: ys => by
    show (PyData.eqv (e x).py (e y).py && PyData.eqvAll (pyL (xs.map e)) (pyL (ys.map e))) = _
    rw [q.eqv, eqvAll_map e xs ys, Bool.eq_iff_iff, Bool.and_eq_true, decide_eq_true_eq, decide_eq_true_eq, decide_eq_true_eq, List.cons.injEq]
theorem flat_map [DecidableEq α] (e : α → D) [q : EqE e] : ∀ xs : List α, flatL (xs.map e) = true
  | [] => rfl
  | x :: xs => by show ((e x).flat && flatL (xs.map e)) = true; rw [q.flat, flat_map e xs]; rfl
instance [DecidableEq α] (e : α → D) [q : EqE e] : EqE (eL e) := ⟨fun a => flat_map e a, fun a b => eqvAll_map e a b⟩
instance [DecidableEq α] (e : α → D) [q : EqE e] : EqE (eT e) := ⟨fun a => flat_map e a, fun a b => eqvAll_map e a b⟩
instance [DecidableEq α] [DecidableEq β] (e : α → D) (f : β → D) [q : EqE e] [r : EqE f] : EqE (eP e f) :=
  ⟨fun a => by show ((e a.1).flat && ((f a.2).flat && true)) = true; rw [q.flat, r.flat]; rfl,
   fun a b => by
    show (PyData.eqv (e a.1).py (e b.1).py && (PyData.eqv (f a.2).py (f b.2).py && true)) = _
    rw [q.eqv, r.eqv, Bool.and_true, Bool.eq_iff_iff, Bool.and_eq_true, decide_eq_true_eq, decide_eq_true_eq, decide_eq_true_eq, Prod.ext_iff]⟩
instance [DecidableEq α] [DecidableEq β] [DecidableEq γ] (e : α → D) (f : β → D) (g : γ → D) [q : EqE e] [r : EqE f] [s : EqE g] : EqE (eP3 e f g) :=
  ⟨fun a => by show ((e a.1).flat && ((f a.2.1).flat && ((g a.2.2).flat && true))) = true; rw [q.flat, r.flat, s.flat]; rfl,
   fun a b => by
    show (PyData.eqv (e a.1).py (e b.1).py && (PyData.eqv (f a.2.1).py (f b.2.1).py && (PyData.eqv (g a.2.2).py (g b.2.2).py && true))) = _
    rw [q.eqv, r.eqv, s.eqv, Bool.and_true, Bool.eq_iff_iff, Bool.and_eq_true, Bool.and_eq_true, decide_eq_true_eq, decide_eq_true_eq, decide_eq_true_eq, decide_eq_true_eq, Prod.ext_iff, Prod.ext_iff]⟩
/-! members -/
theorem inV_dec [DecidableEq α] (e : α → D) (hi : ∀ a b : α, eqV (toV (e a)) (toV (e b)) = decide (a = b)) (x : α) (xs : List α) : memD (e x) (xs.map e) = decide (x ∈ xs) := by
  unfold memD inV
  rw [List.map_map, List.any_map]
  rw [Bool.eq_iff_iff, List.any_eq_true, decide_eq_true_eq]
  constructor
  · rintro ⟨a, ha, h⟩
    have : eqV (toV (e a)) (toV (e x)) = true := h
    rw [hi, decide_eq_true_eq] at this
    rw [← this]; exact ha
  · intro h
    exact ⟨x, h, by show eqV (toV (e x)) (toV (e x)) = true; rw [hi]; exact decide_eq_true rfl⟩
theorem memI {x : Int} {xs : List Int} : memD (eI x) (xs.map eI) = decide (x ∈ xs) := inV_dec eI (fun a b => rfl) x xs
theorem flat_allI (xs : List Int) : (xs.map eI).all flatI = true := by rw [List.all_map]; exact List.all_eq_true.mpr fun _ _ => rfl
theorem po_nmemIL {x : Int} {xs : List Int} : cIn true (eI x) (eL eI xs) = some (.fz (.bl (!decide (x ∈ xs)))) := by
  show (if _ then _ else _) = _
  rw [flat_allI, memI]; rfl
/-! changes of lists -/
@[irreducible] def tApd (xs : List α) (x : α) : T (List α) := if xs.length < 16777216 then .ok (xs ++ [x]) else .bad
theorem om_apd (e : α → D) {xs : List α} {x : α} : OpMu (uAppend (oL e xs) [e x]) (tApd xs x) (oL e) (fun _ => .non) := by
  unfold tApd
  by_cases h : xs.length < 16777216
  · rw [if_pos h]
    show (if _ then _ else _) = _
    rw [if_pos (by rw [List.length_map]; exact h)]; simp
  · rw [if_neg h]; trivial
@[irreducible] def tPop (xs : List α) : T (List α × α) := match xs.getLast? with
  | some d => .ok (xs.dropLast, d)
  | none => .bad
@[irreducible] def tSet (xs : List α) (k : Int) (x : α) : T (List α) := match ixN xs.length k with
  | some j => .ok (xs.set j x)
  | none => .bad
theorem os_set (e : α → D) {xs : List α} {k : Int} {x : α} : OpS (stL (oL e xs) (eI k) (e x)) (tSet xs k x) (oL e) := by
  unfold tSet
  cases h : ixN xs.length k with
  | none => trivial
  | some j =>
    show (ixN (xs.map e).length k).map _ = _
    rw [List.length_map, h, Option.map_some]; simp
/-! ranges -/
def rngL (a b : Int) : List Int := (List.range (b - a).toNat).map fun (i : Nat) => a + (i : Int)
@[irreducible] def tRng (a b : Int) : T (List Int) := if -4611686018427387904 ≤ a ∧ a < 4611686018427387904 ∧ -4611686018427387904 ≤ b ∧ b < 4611686018427387904 then .ok (rngL a b) else .bad
theorem rngI_L (a b : Int) : rngI a (b - a).toNat = (rngL a b).map eI := by unfold rngI rngL; rw [List.map_map]; rfl
theorem w_rng1 {n : Nat} {L Lx : Lay} {ρ β : Type} {x : Int} {j : List D → M β} {tk : List Int → T ρ} {Φ : ρ → β → G → Prop} (r : ∀ v : List Int, W n L Lx (j (v.map eI)) (tk v) Φ) : W n L Lx (mb (toRng1 [.fz (eI x)]) j) (tb (tRng 0 x) tk) Φ := by
  unfold tRng
  by_cases h : -4611686018427387904 ≤ (0 : Int) ∧ (0 : Int) < 4611686018427387904 ∧ -4611686018427387904 ≤ x ∧ x < 4611686018427387904
  · rw [if_pos h]
    refine w_p (a := (rngL 0 x).map eI) (fun g q => ?_) (r _)
    show (if _ then _ else _ : Rs (List D)) = _
    rw [if_pos (by omega), ← rngI_L, Int.sub_zero]
  · rw [if_neg h]; exact w_bad
/-- list(range(a, b)) -/
@[irreducible] def tLrg (a b : Int) : T (List Int) := if okRg a b then .ok (rngL a b) else .bad
theorem lrng_L (a b : Int) : lrng a b = (rngL a b).map eI := by unfold lrng rngL; rw [List.map_map]; rfl
theorem ot_lrg1 {x : Int} : OpT (bLrg1 (eI x)) (tLrg 0 x) (rL eI) := by
  unfold tLrg
  by_cases h : okRg 0 x
  · rw [if_pos h]; exact ⟨by show (if _ then _ else _) = _; rw [if_pos h, lrng_L], rfl⟩
  · rw [if_neg h]; trivial
theorem ot_lrg2 {x y : Int} : OpT (bLrg2 (eI x) (eI y)) (tLrg x y) (rL eI) := by
  unfold tLrg
  by_cases h : okRg x y
  · rw [if_pos h]; exact ⟨by show (if _ then _ else _) = _; rw [if_pos h, lrng_L], rfl⟩
  · rw [if_neg h]; trivial
/-- isinstance of a caught error -/
@[irreducible] def tIsE (ns : List Str) (h c : Str) : T Bool := if c ∈ ns then .ok (subE c h) else .bad
/-- isinstance of anything -/
@[irreducible] def tIsD (t : String) (d : D) : T Bool := match (kindT d).bind fun k => kitB k t with
  | some b => .ok b
  | none => .bad
/-- len of anything -/
@[irreducible] def tLenD (d : D) : T Int := match d with
  | .str s => .ok s.length
  | .tup xs => .ok xs.length
  | .lst xs => .ok xs.length
  | _ => .bad
/-- a < b of data -/
@[irreducible] def tLtD (a b : D) : T Bool := if okLt a b = true then .ok (PySem.W.dataLt a.py b.py) else .bad
/-- s.index(t) -/
@[irreducible] def tSIdx (s t : S) : T Int := match Builtin.Str.occurrences ⟨s.toArray⟩ ⟨t.toArray⟩ 0 (⟨s.toArray⟩ : Str).length 1 with
  | i :: _ => .ok (i : Nat)
  | [] => .bad
/-- s.lower() -/
@[irreducible] def tLow (s : S) : T S := if (⟨s.toArray⟩ : Str).length ≤ 5592405 ∧ (Txt.lower ⟨s.toArray⟩).length ≤ sizeLine then .ok (Txt.lower ⟨s.toArray⟩).cps.toList else .bad
/-- xs.pop(i) -/
@[irreducible] def tPopAt (xs : List α) (i : Int) : T (List α × α) := if -9223372036854775808 ≤ i ∧ i < 9223372036854775808 then (match ixN xs.length i with
  | some k => match xs[k]? with
    | some d => .ok (xs.eraseIdx k, d)
    | none => .bad
  | none => .bad) else .bad
/-- range(i, j, c) -/
def rngCL (i j c : Int) : List Int := (List.range (PySem.Builtin.Range.rangeSize i j c).toNat).map fun (k : Nat) => i + (k : Int) * c
@[irreducible] def tRng3 (i j c : Int) : T (List Int) := if okRg3 i j c then .ok (rngCL i j c) else .bad
/-- s.find(t) -/
def findL (s t : S) : Int := Txt.find ⟨s.toArray⟩ ⟨t.toArray⟩
/-- xs.index(x) -/
@[irreducible] def tLIx (xs : List Int) (x : Int) : T Int := match xs.findIdx? fun y => y == x with
  | some j => .ok (j : Nat)
  | none => .bad
theorem ot_lix {xs : List Int} {x : Int} : OpT (mIndexL (eL eI xs) [eI x]) (tLIx xs x) (rF eI) := by
  unfold tLIx
  have hf : (flatI (eI x) && (xs.map eI).all flatI) = true := by
    rw [Bool.and_eq_true, List.all_map]
    exact ⟨rfl, List.all_eq_true.mpr fun _ _ => rfl⟩
  have e : mIndexL (eL eI xs) [eI x] = (xs.findIdx? fun y => y == x).map fun j => .fz (.int (j : Nat)) := by
    show (if (flatI (eI x) && (xs.map eI).all flatI) = true then (((xs.map eI).map toV).findIdx? fun z => eqV z (toV (eI x))).map fun j => R.fz (.int (j : Nat)) else none) = _
    rw [if_pos hf, List.map_map, List.findIdx?_map]; rfl
  rw [e]
  cases xs.findIdx? fun y => y == x with
  | none => trivial
  | some j => exact ⟨rfl, rfl⟩
end
end DL

namespace DL
open PySem PySem.Spec L2

/-! # proofs about typed functions -/
section
variable {α β γ ρ σ : Type}
/-- the end is a value with P -/
def Ok (t : T α) (P : α → Prop) : Prop := ∃ v, t = .ok v ∧ P v
theorem ok_ok {v : α} {P : α → Prop} (h : P v) : Ok (.ok v) P := ⟨v, rfl, h⟩
theorem ok_tb {x : T α} {k : α → T β} {P : α → Prop} {Q : β → Prop} (h : Ok x P) (r : ∀ v, P v → Ok (k v) Q) : Ok (tb x k) Q := by
  obtain ⟨v, rfl, p⟩ := h; exact r v p
theorem ok_imp {t : T α} {P Q : α → Prop} (h : Ok t P) (i : ∀ v, P v → Q v) : Ok t Q := let ⟨v, e, p⟩ := h; ⟨v, e, i v p⟩
theorem ok_tlp {x : T (Lp σ ρ)} {k : σ → T ρ} {P : Lp σ ρ → Prop} {Q : ρ → Prop} (h : Ok x P) (r : ∀ s, P (.dn s) → Ok (k s) Q) (r' : ∀ v, P (.rt v) → Q v) : Ok (tlp x k) Q := by
  obtain ⟨v, rfl, p⟩ := h
  cases v with
  | dn s => exact r s p
  | rt v => exact ⟨v, rfl, r' v p⟩
@[simp] theorem tnx_ok (a : α) : tnx (.ok a) = .ok a := rfl
@[simp] theorem tb_eta (t : T α) : tb t (fun v => .ok v) = t := by cases t <;> rfl
@[simp] theorem tb_unit (t : T Unit) : tb t (fun _ => .ok ()) = t := by cases t <;> rfl
@[simp] theorem optc_none (t0 : T ρ) (t1 : α → T ρ) : optc none t0 t1 = t0 := rfl
@[simp] theorem optc_some (a : α) (t0 : T ρ) (t1 : α → T ρ) : optc (some a) t0 t1 = t1 a := rfl
theorem ok_if {c : Prop} [Decidable c] {a b : T α} {P : α → Prop} (h1 : c → Ok a P) (h2 : ¬ c → Ok b P) : Ok (if c then a else b) P := by
  by_cases h : c
  · rw [if_pos h]; exact h1 h
  · rw [if_neg h]; exact h2 h
theorem RF.good {f : FSem} {ds : List D} {t : T ρ} {eR : ρ → R} {v : ρ} (h : RF f ds t eR) (e : t = .ok v) : f none ds = .ok (eR v) none := by
  unfold RF at h; subst e; exact h.1

/-! ## loops -/
@[simp] theorem tfold_nil (s : σ) (f : σ → α → T σ) : tfold [] s f = .ok s := rfl
@[simp] theorem tfold_cons (x : α) (xs : List α) (s : σ) (f : σ → α → T σ) : tfold (x :: xs) s f = tb (f s x) fun s' => tfold xs s' f := rfl
theorem tfold_ok_aux {f : σ → α → T σ} (P : List α → σ → Prop) : ∀ (xs pre : List α) (s : σ), P pre s →
    (∀ p x r s, pre ++ xs = p ++ x :: r → P p s → Ok (f s x) (P (p ++ [x]))) → Ok (tfold xs s f) (P (pre ++ xs))
  | [], pre, s, h, _ => ⟨s, rfl, by rwa [List.append_nil]⟩
  | x :: xs, pre, s, h, st => by
    obtain ⟨s', e, h'⟩ := st pre x xs s rfl h
    obtain ⟨s2, e2, h2⟩ := tfold_ok_aux P xs (pre ++ [x]) s' h' fun p y r s e => st p y r s (by rw [← e, List.append_assoc]; rfl)
    exact ⟨s2, by rw [tfold_cons, e, tb_ok, e2], by rw [show pre ++ x :: xs = pre ++ [x] ++ xs by rw [List.append_assoc]; rfl]; exact h2⟩
/-- a loop by what holds behind a beginning of the items -/
theorem tfold_ok {f : σ → α → T σ} {xs : List α} {s : σ} (P : List α → σ → Prop) (h0 : P [] s) (st : ∀ p x r s, xs = p ++ x :: r → P p s → Ok (f s x) (P (p ++ [x]))) : Ok (tfold xs s f) (P xs) :=
  tfold_ok_aux P xs [] s h0 st
/-- .. by the number of turns -/
theorem tfold_okN {f : σ → α → T σ} {xs : List α} {s : σ} (P : Nat → σ → Prop) (h0 : P 0 s) (st : ∀ i x s, xs[i]? = some x → P i s → Ok (f s x) (P (i + 1))) : Ok (tfold xs s f) (P xs.length) :=
  tfold_ok (fun p s => P p.length s) h0 fun p x r s e h => by
    have := st p.length x s (by rw [e, List.getElem?_append_right (Nat.le_refl _), Nat.sub_self]; rfl) h
    exact ok_imp this fun v q => by rw [List.length_append]; exact q
/-- .. one state after the other -/
theorem tfold_eq {f : σ → α → T σ} {xs : List α} (S : List α → σ) {s : σ} (h0 : s = S []) (st : ∀ p x r, xs = p ++ x :: r → f (S p) x = .ok (S (p ++ [x]))) : tfold xs s f = .ok (S xs) := by
  obtain ⟨v, e, rfl⟩ := tfold_ok (f := f) (xs := xs) (s := s) (fun p s => s = S p) h0 fun p x r s e h => ⟨_, by rw [h]; exact st p x r e, rfl⟩
  exact e
theorem tfor_ok_aux {f : σ → α → T (St' σ ρ)} (P : List α → σ → Prop) (Q : Lp σ ρ → Prop) : ∀ (xs pre : List α) (s : σ), P pre s →
    (∀ p x r s, pre ++ xs = p ++ x :: r → P p s → Ok (f s x) (fun v => match v with | .nx s' => P (p ++ [x]) s' | .bk s' => Q (.dn s') | .rt r => Q (.rt r))) → (∀ s, P (pre ++ xs) s → Q (.dn s)) → Ok (tfor xs s f) Q
  | [], pre, s, h, _, en => ⟨.dn s, rfl, en s (by rwa [List.append_nil])⟩
  | x :: xs, pre, s, h, st, en => by
    obtain ⟨v, e, h'⟩ := st pre x xs s rfl h
    unfold tfor
    rw [e]
    cases v with
    | nx s' => exact tfor_ok_aux P Q xs (pre ++ [x]) s' h' (fun p y r s e => st p y r s (by rw [← e, List.append_assoc]; rfl)) (fun s q => en s (by rw [show pre ++ x :: xs = pre ++ [x] ++ xs by rw [List.append_assoc]; rfl]; exact q))
    | bk s' => exact ⟨_, rfl, h'⟩
    | rt r => exact ⟨_, rfl, h'⟩
/-- a loop with break, return -/
theorem tfor_ok {f : σ → α → T (St' σ ρ)} {xs : List α} {s : σ} (P : List α → σ → Prop) (Q : Lp σ ρ → Prop) (h0 : P [] s)
    (st : ∀ p x r s, xs = p ++ x :: r → P p s → Ok (f s x) (fun v => match v with | .nx s' => P (p ++ [x]) s' | .bk s' => Q (.dn s') | .rt r => Q (.rt r))) (en : ∀ s, P xs s → Q (.dn s)) : Ok (tfor xs s f) Q :=
  tfor_ok_aux P Q xs [] s h0 st en
theorem tfor_okN {f : σ → α → T (St' σ ρ)} {xs : List α} {s : σ} (P : Nat → σ → Prop) (Q : Lp σ ρ → Prop) (h0 : P 0 s)
    (st : ∀ i x s, xs[i]? = some x → P i s → Ok (f s x) (fun v => match v with | .nx s' => P (i + 1) s' | .bk s' => Q (.dn s') | .rt r => Q (.rt r))) (en : ∀ s, P xs.length s → Q (.dn s)) : Ok (tfor xs s f) Q :=
  tfor_ok (fun p s => P p.length s) Q h0 (fun p x r s e h => by
    have := st p.length x s (by rw [e, List.getElem?_append_right (Nat.le_refl _), Nat.sub_self]; rfl) h
    exact ok_imp this fun v q => by
      cases v with
      | nx s' => show P (p ++ [x]).length s'; rw [List.length_append]; exact q
      | bk s' => exact q
      | rt r => exact q) en
/-- a while by a measure -/
theorem twh_ok {c : σ → T Bool} {f : σ → T (St' σ ρ)} {s : σ} (P : σ → Prop) (m : σ → Nat) (Q : Lp σ ρ → Prop) (h0 : P s) (hm : m s < 100000000)
    (st : ∀ s, P s → Ok (c s) (fun b => (b = false → Q (.dn s)) ∧ (b = true → Ok (f s) (fun v => match v with | .nx s' => P s' ∧ m s' < m s | .bk s' => Q (.dn s') | .rt r => Q (.rt r))))) : Ok (twh s c f) Q := by
  unfold twh
  have key : ∀ (k : Nat) (s : σ), P s → m s < k → Ok (twhL c f k s) Q := by
    intro k
    induction k with
    | zero => intro s _ h; omega
    | succ k ih =>
      intro s hp hk
      obtain ⟨b, e, hF, hT⟩ := st s hp
      unfold twhL
      rw [e]
      cases b with
      | false => exact ⟨_, rfl, hF rfl⟩
      | true =>
        obtain ⟨v, e2, h2⟩ := hT rfl
        simp only
        rw [e2]
        cases v with
        | nx s' => exact ih s' h2.1 (by have := h2.2; omega)
        | bk s' => exact ⟨_, rfl, h2⟩
        | rt r => exact ⟨_, rfl, h2⟩
  exact key fuel s h0 hm

/-! ## comprehensions -/
/-- item by item -/
inductive All2 (P : α → β → Prop) : List α → List β → Prop
  | nil : All2 P [] []
  | cons {a : α} {b : β} {xs : List α} {ys : List β} (h : P a b) (t : All2 P xs ys) : All2 P (a :: xs) (b :: ys)
theorem All2.length {P : α → β → Prop} {xs : List α} {ys : List β} (h : All2 P xs ys) : ys.length = xs.length := by
  induction h with
  | nil => rfl
  | cons _ _ ih => rw [List.length_cons, List.length_cons, ih]
theorem All2.get {P : α → β → Prop} {xs : List α} {ys : List β} (h : All2 P xs ys) : ∀ {i : Nat} {x : α}, xs[i]? = some x → ∃ y, ys[i]? = some y ∧ P x y := by
  induction h with
  | nil => intro i x e; simp at e
  | cons h _ ih =>
    intro i x e
    cases i with
    | zero => simp at e; subst e; exact ⟨_, rfl, h⟩
    | succ i => simp at e; simpa using ih e
theorem All2.mem {P : α → β → Prop} {xs : List α} {ys : List β} (h : All2 P xs ys) {y : β} (m : y ∈ ys) : ∃ x ∈ xs, P x y := by
  induction h with
  | nil => cases m
  | cons h _ ih =>
    rcases List.mem_cons.mp m with rfl | m
    · exact ⟨_, List.mem_cons_self, h⟩
    · obtain ⟨x, hx, p⟩ := ih m; exact ⟨x, List.mem_cons_of_mem _ hx, p⟩
theorem tmapA_eq {f : α → T β} {g : α → β} : ∀ {xs : List α}, (∀ x ∈ xs, f x = .ok (g x)) → tmapA f xs = .ok (xs.map g)
  | [], _ => rfl
  | x :: xs, h => by
    unfold tmapA
    rw [h x List.mem_cons_self, tmapA_eq fun y hy => h y (List.mem_cons_of_mem _ hy)]; rfl
theorem tMap_eq {f : α → T β} (g : α → β) {xs : List α} (hl : xs.length ≤ 16777216) (h : ∀ x ∈ xs, f x = .ok (g x)) : tMap xs f = .ok (xs.map g) := by
  unfold tMap; rw [if_pos hl, tmapA_eq h]
@[simp] theorem tMap_pure {g : α → β} {xs : List α} (hl : xs.length ≤ 16777216) : tMap xs (fun x => .ok (g x)) = .ok (xs.map g) := tMap_eq g hl fun _ _ => rfl
theorem tfmA_eq {f : α → T (Option β)} {g : α → Option β} : ∀ {xs : List α}, (∀ x ∈ xs, f x = .ok (g x)) → tfmA f xs = .ok (xs.filterMap g)
  | [], _ => rfl
  | x :: xs, h => by
    unfold tfmA
    rw [h x List.mem_cons_self, tfmA_eq fun y hy => h y (List.mem_cons_of_mem _ hy)]
    cases hg : g x with
    | none => rw [List.filterMap_cons_none hg]; rfl
    | some y => rw [List.filterMap_cons_some hg]; rfl
/-! ## operations -/
theorem tIdx_nat {xs : List α} {i : Nat} {a : α} (h : xs[i]? = some a) : tIdx xs (i : Int) = .ok a := by
  have hl : i < xs.length := by
    rcases Nat.lt_or_ge i xs.length with k | k
    · exact k
    · rw [List.getElem?_eq_none k] at h; cases h
  unfold tIdx atI ixN
  rw [if_pos (by omega), if_pos (by omega)]
  simp [h]
theorem tIdx_int {xs : List α} {i : Int} {a : α} (h0 : 0 ≤ i) (h : xs[i.toNat]? = some a) : tIdx xs i = .ok a := by
  have := tIdx_nat h
  rwa [Int.toNat_of_nonneg h0] at this
theorem tIdx_ok {xs : List α} {i : Int} (h0 : 0 ≤ i) (h : i < xs.length) : Ok (tIdx xs i) (fun a => xs[i.toNat]? = some a) := by
  have hl : i.toNat < xs.length := by omega
  exact ⟨xs[i.toNat], tIdx_int h0 (List.getElem?_eq_getElem hl), List.getElem?_eq_getElem hl⟩
theorem tIdx_neg {xs : List α} {i : Int} {a : α} (h0 : i < 0) (h1 : 0 ≤ i + xs.length) (h : xs[(i + xs.length).toNat]? = some a) : tIdx xs i = .ok a := by
  unfold tIdx atI ixN
  rw [if_neg (by omega), if_pos (by omega)]
  simp [h]
theorem tCat_eq {xs ys : List α} (h : xs.length + ys.length ≤ 16777216) : tCat xs ys = .ok (xs ++ ys) := by unfold tCat; rw [if_pos h]
theorem tApd_eq {xs : List α} {x : α} (h : xs.length < 16777216) : tApd xs x = .ok (xs ++ [x]) := by unfold tApd; rw [if_pos h]
theorem tMod_eq {x y : Int} (h : 0 < y) : tMod x y = .ok (x % y) := by unfold tMod; rw [if_pos h]
theorem tFdiv_eq {x y : Int} (h : 0 < y) (h2 : y < 1073741824) : tFdiv x y = .ok (x / y) := by unfold tFdiv; rw [if_pos ⟨h, h2⟩]
theorem tRng_eq {a b : Int} (h1 : -4611686018427387904 ≤ a) (h2 : a < 4611686018427387904) (h3 : -4611686018427387904 ≤ b) (h4 : b < 4611686018427387904) : tRng a b = .ok (rngL a b) := by unfold tRng; rw [if_pos ⟨h1, h2, h3, h4⟩]
theorem tLrg_eq {a b : Int} (h : okRg a b) : tLrg a b = .ok (rngL a b) := by unfold tLrg; rw [if_pos h]
theorem rngL_len (a b : Int) : (rngL a b).length = (b - a).toNat := by unfold rngL; rw [List.length_map, List.length_range]
theorem rngL_get {a b : Int} {i : Nat} {x : Int} (h : (rngL a b)[i]? = some x) : x = a + i ∧ (i : Int) < b - a := by
  unfold rngL at h
  rw [List.getElem?_map] at h
  cases e : (List.range (b - a).toNat)[i]? with
  | none => rw [e] at h; cases h
  | some k =>
    rw [e] at h
    have hk := List.getElem?_eq_some_iff.mp e
    obtain ⟨h1, h2⟩ := hk
    rw [List.getElem_range] at h2
    rw [List.length_range] at h1
    cases h
    subst h2
    exact ⟨rfl, by omega⟩
theorem rngL_mem {a b x : Int} : x ∈ rngL a b ↔ a ≤ x ∧ x < b := by
  unfold rngL
  rw [List.mem_map]
  constructor
  · rintro ⟨i, hi, rfl⟩; have := List.mem_range.mp hi; omega
  · rintro ⟨h1, h2⟩; exact ⟨(x - a).toNat, List.mem_range.mpr (by omega), by omega⟩
theorem tRepL_eq {xs : List α} {k : Int} (h1 : -9223372036854775808 ≤ k) (h2 : k < 9223372036854775808) (h3 : xs.length * k.toNat ≤ 16777216) : tRepL xs k = .ok (repL xs k) := by unfold tRepL; rw [if_pos ⟨h1, h2, h3⟩]
theorem repL_len (xs : List α) (k : Int) : (repL xs k).length = xs.length * k.toNat := by
  unfold repL
  rw [List.length_flatten, List.map_replicate]
  generalize k.toNat = n
  induction n with
  | zero => simp
  | succ n ih => rw [List.replicate_succ, List.sum_cons, ih, Nat.mul_succ, Nat.add_comm]
theorem tSet_nat {xs : List α} {i : Nat} {x : α} (h : i < xs.length) : tSet xs (i : Int) x = .ok (xs.set i x) := by
  unfold tSet ixN
  rw [if_pos (by omega), if_pos (by omega)]; simp
theorem cutL_len {α : Type} (xs : List α) (lo hi : Option Int) : (cutL xs lo hi).length ≤ xs.length := cutL_length xs lo hi
theorem tEqD_eq {a b : D} (h : okEq a b = true) : tEqD a b = .ok (PyData.eqv a.py b.py) := by unfold tEqD; rw [if_pos h]
theorem tNeD_eq {a b : D} (h : okEq a b = true) : tNeD a b = .ok (!PyData.eqv a.py b.py) := by unfold tNeD; rw [if_pos h]
theorem tEqE_eq [DecidableEq α] {e : α → D} {a b : α} (h : okEq (e a) (e b) = true) : tEqE e a b = .ok (decide (a = b)) := by unfold tEqE; rw [if_pos h]
/-! ### shapes for == and repr -/
/-- depth at most k, and all texts are texts -/
def Shp (k : Nat) (d : D) : Prop := d.flat = true ∧ PyData.canLay0 d.py = true ∧ PyData.depth d.py ≤ k
theorem okEq_of {k : Nat} {a b : D} (ha : Shp k a) (hb : Shp k b) (hk : k ≤ 64 := by decide) : okEq a b = true := by
  obtain ⟨h1, h2, h3⟩ := ha
  obtain ⟨h4, h5, h6⟩ := hb
  unfold okEq SeqAt.shaped
  rw [h1, h2, h4, h5, decide_eq_true (Nat.le_trans h3 hk), decide_eq_true (Nat.le_trans h6 hk)]; rfl
theorem shp_int {k : Nat} (i : Int) (hk : 1 ≤ k := by decide) : Shp k (.int i) := ⟨rfl, rfl, Nat.le_trans (by first | exact Nat.le_refl 1 | exact Nat.zero_le 1) hk⟩
/-- a text -/
def okS (s : S) : Prop := ∀ c ∈ s, c < 1114112
theorem shp_str {k : Nat} {s : S} (h : okS s) (hk : 1 ≤ k := by decide) : Shp k (eS s) := by
  refine ⟨rfl, ?_, Nat.le_trans (by first | exact Nat.le_refl 1 | exact Nat.zero_le 1) hk⟩
  show PyData.strOk _ = true
  unfold PyData.strOk
  rw [Array.all_eq_true]
  intro i hi
  simp at hi
  simpa using h s[i] (List.getElem_mem ..)
theorem shp_listL {k : Nat} (e : α → D) : ∀ {xs : List α}, (∀ x ∈ xs, Shp k (e x)) → flatL (xs.map e) = true ∧ PyData.canLayAll0 (pyL (xs.map e)) = true ∧ PyData.depthAll (pyL (xs.map e)) ≤ k
  | [], _ => ⟨rfl, rfl, Nat.zero_le _⟩
  | x :: xs, h => by
    obtain ⟨h1, h2, h3⟩ := h x List.mem_cons_self
    obtain ⟨h4, h5, h6⟩ := shp_listL e fun y hy => h y (List.mem_cons_of_mem _ hy)
    refine ⟨?_, ?_, ?_⟩
    · show ((e x).flat && flatL (xs.map e)) = true; rw [h1, h4]; rfl
    · show (PyData.canLay0 (e x).py && PyData.canLayAll0 (pyL (xs.map e))) = true; rw [h2, h5]; rfl
    · show max (PyData.depth (e x).py) (PyData.depthAll (pyL (xs.map e))) ≤ k; omega
theorem shp_L {k : Nat} (e : α → D) {xs : List α} (h : ∀ x ∈ xs, Shp k (e x)) : Shp (k + 1) (eL e xs) := by
  obtain ⟨h1, h2, h3⟩ := shp_listL e h
  exact ⟨h1, h2, by show PyData.depthAll _ + 1 ≤ _; omega⟩
theorem shp_T {k : Nat} (e : α → D) {xs : List α} (h : ∀ x ∈ xs, Shp k (e x)) : Shp (k + 1) (eT e xs) := by
  obtain ⟨h1, h2, h3⟩ := shp_listL e h
  exact ⟨h1, h2, by show PyData.depthAll _ + 1 ≤ _; omega⟩
theorem shp_mono {k l : Nat} {d : D} (h : Shp k d) (hk : k ≤ l := by decide) : Shp l d := ⟨h.1, h.2.1, Nat.le_trans h.2.2 hk⟩
end
end DL

namespace DL
open PySem PySem.Spec L2

/-! # enumerate, dicts -/
section
variable {α β γ ρ σ : Type} {n : Nat} {L Lx : Lay}
def enumL (xs : List α) (s : Int) : List (Int × α) := xs.zipIdx.map fun p => (s + (p.2 : Int), p.1)
theorem enumL_len (xs : List α) (s : Int) : (enumL xs s).length = xs.length := by unfold enumL; simp
theorem enumL_get {xs : List α} {s : Int} {i : Nat} {p : Int × α} (h : (enumL xs s)[i]? = some p) : p.1 = s + i ∧ xs[i]? = some p.2 := by
  unfold enumL at h
  rw [List.getElem?_map, List.getElem?_zipIdx] at h
  cases e : xs[i]? with
  | none => rw [e] at h; cases h
  | some x => rw [e] at h; simp at h; subst h; simp
theorem enD_enum (e : α → D) (xs : List α) : enD (xs.map e) = (enumL xs 0).map (eP eI e) := by
  apply List.ext_getElem?
  intro i
  unfold enD enumL
  rw [List.getElem?_map, List.getElem?_map, List.getElem?_map, List.getElem?_zipIdx, List.length_map]
  rcases Nat.lt_or_ge i xs.length with k | k
  · rw [List.getElem?_range k, List.getElem?_eq_getElem k]
    simp [List.getD_eq_getElem?_getD, k]
  · rw [List.getElem?_eq_none (by rw [List.length_range]; exact k), List.getElem?_eq_none k]; rfl
theorem px_enT (e : α → D) {xs : List α} : Px n L (toEn [.fz (eT e xs)]) ((enumL xs 0).map (eP eI e)) := fun g _ => by
  show Rs.ok (enD (xs.map e)) g = _
  rw [enD_enum]

/-! ## dicts -/
abbrev Dct (κ α : Type) := List (κ × α)
abbrev kI : Int → Key := Sum.inl
abbrev kS : S → Key := fun z => Sum.inr ⟨z.toArray⟩
abbrev eKI (e : α → D) : Dct Int α → D := fun kvs => .dk (kvs.map fun p => (kI p.1, e p.2))
abbrev eKS (e : α → D) : Dct S α → D := fun kvs => .dk (kvs.map fun p => (kS p.1, e p.2))
abbrev oKI (e : α → D) : Dct Int α → O := fun kvs => .dk (kvs.map fun p => (kI p.1, e p.2))
abbrev oKS (e : α → D) : Dct S α → O := fun kvs => .dk (kvs.map fun p => (kS p.1, e p.2))
section
variable {κ : Type} [DecidableEq κ]
def dget (d : Dct κ α) (k : κ) : Option α := (d.find? fun p => decide (p.1 = k)).map (·.2)
def dhas (d : Dct κ α) (k : κ) : Bool := d.any fun p => decide (p.1 = k)
def dput (d : Dct κ α) (k : κ) (a : α) : Dct κ α := if dhas d k = true then d.map (fun p => if p.1 = k then (p.1, a) else p) else d ++ [(k, a)]
@[irreducible] def tDGet (d : Dct κ α) (k : κ) : T α := match dget d k with
  | some a => .ok a
  | none => .bad
@[irreducible] def tDPut (d : Dct κ α) (k : κ) (a : α) : T (Dct κ α) := if d.length < 16777216 then .ok (dput d k a) else .bad
theorem dget_map (ek : κ → Key) (hk : ∀ a b, ek a = ek b ↔ a = b) (e : α → D) (d : Dct κ α) (k : κ) : valD (d.map fun p => (ek p.1, e p.2)) (ek k) = (dget d k).map e := by
  unfold valD dget
  induction d with
  | nil => rfl
  | cons p d ih =>
    rw [List.map_cons, List.find?_cons, List.find?_cons]
    by_cases h : p.1 = k
    · simp [h]
    · have : ek p.1 ≠ ek k := fun z => h ((hk _ _).mp z)
      simp only [decide_eq_false h, decide_eq_false this]; exact ih
theorem dhas_map (ek : κ → Key) (hk : ∀ a b, ek a = ek b ↔ a = b) (e : α → D) (d : Dct κ α) (k : κ) : ((d.map fun p => (ek p.1, e p.2)).any fun kv => decide (kv.1 = ek k)) = dhas d k := by
  unfold dhas
  rw [List.any_map]
  congr 1
  funext p
  show decide (ek p.1 = ek k) = _
  rw [decide_eq_decide]; exact hk _ _
theorem dput_map (ek : κ → Key) (hk : ∀ a b, ek a = ek b ↔ a = b) (e : α → D) (d : Dct κ α) (k : κ) (a : α) : putD (d.map fun p => (ek p.1, e p.2)) (ek k) (e a) = (dput d k a).map fun p => (ek p.1, e p.2) := by
  unfold putD dput
  rw [dhas_map ek hk e]
  split
  · rw [List.map_map, List.map_map]
    congr 1
    funext p
    show (if ek p.1 = ek k then (ek p.1, e a) else (ek p.1, e p.2)) = (fun p : κ × α => (ek p.1, e p.2)) (if p.1 = k then (p.1, a) else p)
    by_cases h : p.1 = k
    · rw [if_pos h, if_pos ((hk _ _).mpr h)]
    · rw [if_neg h, if_neg fun z => h ((hk _ _).mp z)]
  · simp
theorem dget_put (d : Dct κ α) (k k' : κ) (a : α) : dget (dput d k a) k' = if k = k' then some a else dget d k' := by
  unfold dput
  have fnd : ∀ d : Dct κ α, dhas d k = true → dget (d.map fun p => if p.1 = k then (p.1, a) else p) k' = if k = k' then some a else dget d k' := by
    intro d
    induction d with
    | nil => intro h; cases h
    | cons p d ih =>
      intro h
      unfold dget
      rw [List.map_cons, List.find?_cons, List.find?_cons]
      by_cases hp : p.1 = k
      · rw [if_pos hp]
        by_cases hk : k = k'
        · simp [hp, hk]
        · have h1 : ¬ p.1 = k' := fun z => hk (hp.symm.trans z)
          simp only [decide_eq_false h1, if_neg hk]
          by_cases hd : dhas d k = true
          · have := ih hd; unfold dget at this; rw [if_neg hk] at this; exact this
          · have hno : (d.map fun p => if p.1 = k then (p.1, a) else p) = d := by
              have : ∀ q ∈ d, q.1 ≠ k := fun q hq z => hd (List.any_eq_true.mpr ⟨q, hq, decide_eq_true z⟩)
              exact (List.map_congr_left fun q hq => if_neg (this q hq)).trans (List.map_id d)
            rw [hno]
      · rw [if_neg hp]
        have hd : dhas d k = true := by
          unfold dhas at h ⊢
          rw [List.any_cons, decide_eq_false hp, Bool.false_or] at h; exact h
        have := ih hd
        unfold dget at this
        by_cases hk' : p.1 = k'
        · have : k ≠ k' := fun z => hp (hk'.trans z.symm)
          simp [hk', this]
        · simp only [decide_eq_false hk']; exact this
  by_cases h : dhas d k = true
  · rw [if_pos h]; exact fnd d h
  · rw [if_neg h]
    unfold dget
    rw [List.find?_append]
    by_cases hk : k = k'
    · subst hk
      have : d.find? (fun p => decide (p.1 = k)) = none := by
        rw [List.find?_eq_none]
        intro p hp z
        exact h (List.any_eq_true.mpr ⟨p, hp, z⟩)
      rw [this]; simp
    · rw [if_neg hk]
      cases hf : d.find? (fun p => decide (p.1 = k')) with
      | some p => rfl
      | none => simp [hk]
theorem dhas_get (d : Dct κ α) (k : κ) : dhas d k = (dget d k).isSome := by
  unfold dhas dget
  rw [Option.isSome_map, List.isSome_find?]
theorem tDGet_eq {d : Dct κ α} {k : κ} {a : α} (h : dget d k = some a) : tDGet d k = .ok a := by unfold tDGet; rw [h]
theorem tDPut_eq {d : Dct κ α} {k : κ} {a : α} (h : d.length < 16777216) : tDPut d k a = .ok (dput d k a) := by unfold tDPut; rw [if_pos h]
theorem dput_len (d : Dct κ α) (k : κ) (a : α) : (dput d k a).length ≤ d.length + 1 := by
  unfold dput; split
  · rw [List.length_map]; omega
  · rw [List.length_append]; exact Nat.le_refl _
end
theorem kI_inj (a b : Int) : kI a = kI b ↔ a = b := ⟨fun h => Sum.inl.inj h, fun h => by rw [h]⟩
theorem px_newK : Px n L eNewK (.ow (.dk [])) := fun _ _ => rfl
theorem os_putI (e : α → D) {d : Dct Int α} {k : Int} {a : α} : OpS (stK (oKI e d) (eI k) (e a)) (tDPut d k a) (oKI e) := by
  unfold tDPut
  by_cases h : d.length < 16777216
  · rw [if_pos h]
    show (if _ then _ else _) = _
    rw [if_pos (by rw [List.length_map]; exact h), dput_map kI kI_inj e]
  · rw [if_neg h]; exact True.intro
theorem ot_dgetI (e : α → D) {d : Dct Int α} {k : Int} : OpT (ixK (eKI e d) (eI k)) (tDGet d k) (rF e) := by
  unfold tDGet
  have h1 : ixK (eKI e d) (eI k) = ((dget d k).map e).map R.fz := by
    show (valD _ (kI k)).map R.fz = _
    rw [dget_map kI kI_inj e]
  cases h : dget d k with
  | none => trivial
  | some a => exact ⟨by rw [h1, h]; rfl, rfl⟩
end
end DL

namespace DL
open PySem PySem.Spec L2

/-! # repr, ranges, arrangements -/
section
variable {α β γ ρ σ : Type}
/-- shown in a small text -/
def Rp (w k : Nat) (d : D) : Prop := d.flat = true ∧ PyData.showable d.py = true ∧ PyData.depth d.py ≤ k ∧ PyData.leavesShort 13 d.py = true ∧ PyData.weight d.py ≤ w
theorem okRepr_of {w k : Nat} {d : D} (h : Rp w k d) (hk : k ≤ 64 := by decide) (hw : w ≤ 1000000 := by decide) : okRepr d = true := by
  obtain ⟨h1, h2, h3, h4, h5⟩ := h
  have h6 := PyData.shown_le 13 (by decide) d.py h4
  have h7 : (13 + 2) * d.py.weight ≤ (13 + 2) * 1000000 := Nat.mul_le_mul_left _ (by omega)
  unfold okRepr
  rw [h1, h2, decide_eq_true (Nat.le_trans h3 hk), decide_eq_true]
  · rfl
  · rw [sizeLine_eq]; omega
theorem tRepr_eq {w k : Nat} {d : D} (h : Rp w k d) (hk : k ≤ 64 := by decide) (hw : w ≤ 1000000 := by decide) : tRepr d = .ok d.py.shown.cps.toList := by
  unfold tRepr; rw [if_pos (okRepr_of h hk hw)]
theorem rp_int (i : Int) (h : i.natAbs < 1000000000000) : Rp 40 1 (.int i) := by
  refine ⟨rfl, ?_, by first | exact Nat.le_refl 1 | exact Nat.zero_le 1, ?_, ?_⟩
  · show decide (i.natAbs.log2 < 1920) = true
    rcases Nat.eq_zero_or_pos i.natAbs with e | e
    · rw [e]; decide
    · have : i.natAbs.log2 < 40 := (Nat.log2_lt (by omega)).mpr (Nat.lt_of_lt_of_le h (by decide))
      exact decide_eq_true (by omega)
  · show decide (_ ≤ 13) = true
    refine decide_eq_true ?_
    have := PySem.int_text_length_le10 (a := i) (k := 12) (by decide) h
    show (PyData.shown (.int i)).length ≤ 13
    have e : PyData.shown (.int i) = Str.ofString (toString i) := rfl
    rw [e, ofString_length]; exact this
  · show (if i == 0 then 0 else i.natAbs.log2 + 1) ≤ 40
    split
    · omega
    · rename_i e
      have h0 : i.natAbs ≠ 0 := by intro z; apply e; simp; omega
      have : i.natAbs.log2 < 40 := (Nat.log2_lt h0).mpr (Nat.lt_of_lt_of_le h (by decide))
      omega
theorem rp_list {w k : Nat} (e : α → D) : ∀ {xs : List α}, (∀ x ∈ xs, Rp w k (e x)) → flatL (xs.map e) = true ∧ PyData.showableAll (pyL (xs.map e)) = true ∧ PyData.depthAll (pyL (xs.map e)) ≤ k ∧ PyData.leavesShortAll 13 (pyL (xs.map e)) = true ∧ PyData.weightAll (pyL (xs.map e)) ≤ xs.length * (w + 1)
  | [], _ => ⟨rfl, rfl, Nat.zero_le _, rfl, Nat.zero_le _⟩
  | x :: xs, h => by
    obtain ⟨h1, h2, h3, h4, h5⟩ := h x List.mem_cons_self
    obtain ⟨g1, g2, g3, g4, g5⟩ := rp_list e fun y hy => h y (List.mem_cons_of_mem _ hy)
    refine ⟨?_, ?_, ?_, ?_, ?_⟩
    · show ((e x).flat && flatL (xs.map e)) = true; rw [h1, g1]; rfl
    · show (PyData.showable (e x).py && PyData.showableAll (pyL (xs.map e))) = true; rw [h2, g2]; rfl
    · show max (PyData.depth (e x).py) (PyData.depthAll (pyL (xs.map e))) ≤ k; omega
    · show (PyData.leavesShort 13 (e x).py && PyData.leavesShortAll 13 (pyL (xs.map e))) = true; rw [h4, g4]; rfl
    · show PyData.weight (e x).py + 1 + PyData.weightAll (pyL (xs.map e)) ≤ (xs.length + 1) * (w + 1)
      rw [Nat.succ_mul]; omega
theorem rp_T {w k n : Nat} {e : α → D} {xs : List α} (h : ∀ x ∈ xs, Rp w k (e x)) (hn : xs.length ≤ n) : Rp (n * (w + 1)) (k + 1) (eT e xs) := by
  obtain ⟨g1, g2, g3, g4, g5⟩ := rp_list e h
  exact ⟨g1, g2, by show PyData.depthAll _ + 1 ≤ _; omega, g4, Nat.le_trans g5 (Nat.mul_le_mul_right _ hn)⟩
/-! ## ranges and arrangements -/
theorem rngL_nodup (a b : Int) : (rngL a b).Nodup := by
  unfold rngL
  exact List.pairwise_map.mpr (List.nodup_range.imp fun {x y} h e => h (by omega))
theorem rngL_sorted (a b : Int) : (rngL a b).Pairwise (· ≤ ·) := by
  unfold rngL
  exact List.pairwise_map.mpr (List.pairwise_lt_range.imp fun {x y} h => by omega)
theorem rngL_at {a b : Int} {i : Nat} (h : (i : Int) < b - a) : (rngL a b)[i]? = some (a + i) := by
  unfold rngL
  rw [List.getElem?_map, List.getElem?_range (by omega)]; rfl
theorem srt_rng {xs : List Int} {k : Int} : srt xs = rngL 0 k ↔ xs.Perm (rngL 0 k) := by
  constructor
  · intro h; rw [← h]; exact (srt_perm xs).symm
  · intro h; exact (srt_of h.symm (rngL_sorted 0 k)).symm
theorem perm_sub {α : Type} [DecidableEq α] : ∀ {xs ys : List α}, xs.Nodup → (∀ x ∈ xs, x ∈ ys) → ys.length ≤ xs.length → xs.Perm ys
  | [], ys, _, _, hl => by
    have : ys = [] := List.eq_nil_of_length_eq_zero (by simpa using hl)
    rw [this]
  | x :: xs, ys, hn, hm, hl => by
    obtain ⟨h1, h2⟩ := List.nodup_cons.mp hn
    have hx := hm x List.mem_cons_self
    have p := List.perm_cons_erase hx
    refine List.Perm.trans ((perm_sub h2 (fun y hy => ?_) ?_).cons x) p.symm
    · exact (List.mem_erase_of_ne (fun (e : y = x) => h1 (by rw [← e]; exact hy))).mpr (hm y (List.mem_cons_of_mem _ hy))
    · rw [List.length_erase_of_mem hx]; simp at hl; omega
/-- k different numbers below k are all of them -/
theorem perm_of {xs : List Int} {k : Nat} (hn : xs.Nodup) (hl : xs.length = k) (hm : ∀ x ∈ xs, 0 ≤ x ∧ x < k) : xs.Perm (rngL 0 (k : Int)) :=
  perm_sub hn (fun x hx => rngL_mem.mpr (hm x hx)) (by rw [rngL_len]; omega)
theorem Perm.ndp {xs : List Int} {k : Int} (h : xs.Perm (rngL 0 k)) : xs.Nodup := h.nodup_iff.mpr (rngL_nodup 0 k)
end
end DL

namespace DL
open PySem PySem.Spec L2

/-! # instances, typed -/
section
variable {n : Nat} {L L' L1 L2 Lx : Lay} {α β γ ρ σ τ : Type}
/-! ### fields -/
/-! ### an instance under way -/
variable {Φ : ρ → Fl → G → Prop} {t : T ρ}
/-- what an __init__ makes -/
@[irreducible] def RI (f : ISem) (ds : List D) (t : T σ) (eO : σ → O) : Prop := match t with
  | .bad => True
  | .ex e => f ds = .ex e none
  | .ok v => f ds = .ok (.fz .non) (some (eO v))
def ΦI (n : Nat) (eO : σ → O) : σ → Fl → G → Prop := fun v fl g => (fl = .nx ∨ fl = .rt (.fz .non)) ∧ g[(0 : Nat)]? = some (some (.ow true (eO v)))
def argLI (c : Str) (ds : List D) : Lay := (0, .op c .nil) :: argL 1 ds
/-! ### methods -/
variable {Ψ : ρ → β → G → Prop}
/-! ### what a field holds changes -/
end
end DL
namespace DL
open PySem PySem.Spec L2
/-! # short lists as tuples; what must not be None -/
section
variable {α β γ ρ σ : Type} {n : Nat} {L Lx : Lay}
abbrev eQ (e : α → D) (f : β → D) : α × β → D := fun p => .lst [e p.1, f p.2]
abbrev eQ3 (e : α → D) (f : β → D) (g : γ → D) : α × β × γ → D := fun p => .lst [e p.1, f p.2.1, g p.2.2]
instance (e : α → D) (f : β → D) : NonN (eQ e f) := ⟨fun _ => rfl⟩
instance (e : α → D) (f : β → D) (g : γ → D) : NonN (eQ3 e f g) := ⟨fun _ => rfl⟩
instance [DecidableEq α] [DecidableEq β] (e : α → D) (f : β → D) [q : EqE e] [r : EqE f] : EqE (eQ e f) :=
  ⟨fun a => by show ((e a.1).flat && ((f a.2).flat && true)) = true; rw [q.flat, r.flat]; rfl,
   fun a b => by
    show (PyData.eqv (e a.1).py (e b.1).py && (PyData.eqv (f a.2).py (f b.2).py && true)) = _
    rw [q.eqv, r.eqv, Bool.and_true, Bool.eq_iff_iff, Bool.and_eq_true, decide_eq_true_eq, decide_eq_true_eq, decide_eq_true_eq, Prod.ext_iff]⟩
theorem po_sortT {xs : List Int} : fSortG [eT eI xs] = some (.ow (.ls ((srt xs).map eI))) := by
  show (intsOf (xs.map D.int)).map _ = _
  rw [intsOf_map]; rfl
def tSome : Option α → T α
  | some a => .ok a
  | none => .bad
@[simp] theorem tSome_some (a : α) : tSome (some a) = .ok a := rfl
end
end DL

namespace DL
open PySem PySem.Spec L2
variable {α β γ δ ρ σ : Type} {n : Nat} {L L1 Lx : Lay}
/-! # dicts: typed rules -/
theorem px_mkD1I (e : α → D) {k : Int} {a : α} : Px n L (mkD1 (.fz (eI k)) (.fz (e a))) (.ow (oKI e [(k, a)])) := fun _ _ => rfl
theorem px_dict1 {f k : M R} {x y : D} {o : O} (hf : Px n L f (.fz x)) (hk : Px n L (esc k) (.fz y)) (h : Px n L (mkD1 (.fz x) (.fz y)) (.ow o)) : Px n L (eDict1 f k) (.ow o) := px_mb (px_pk hf) (px_mb hk h)
theorem dhas_isSome {κ : Type} [DecidableEq κ] (d : Dct κ α) (k : κ) : (dget d k).isSome = dhas d k := (dhas_get d k).symm
theorem po_dninI (e : α → D) {d : Dct Int α} {k : Int} : cDin true (eI k) (eKI e d) = some (.fz (.bl (!dhas d k))) := by
  show some (R.fz (.bl (xor true (valD _ (kI k)).isSome))) = _
  rw [dget_map kI kI_inj e, Option.isSome_map, dhas_isSome, Bool.true_xor]
/-! ### setdefault, pop -/
section
variable {κ : Type} [DecidableEq κ]
def ddrop (d : Dct κ α) (k : κ) : Dct κ α := d.filter fun p => decide (p.1 ≠ k)
def dsetd (d : Dct κ α) (k : κ) (a : α) : Dct κ α × α := match dget d k with
  | some x => (d, x)
  | none => (dput d k a, a)
def dpop (d : Dct κ α) (k : κ) : Dct κ α × Option α := match dget d k with
  | some x => (ddrop d k, some x)
  | none => (d, none)
@[irreducible] def tDSetd (d : Dct κ α) (k : κ) (a : α) : T (Dct κ α × α) := if d.length < 16777216 then .ok (dsetd d k a) else .bad
end
/-! ### dict comprehensions -/
def kvR (x y : R) : M (Key × D) := fun g => match x, y with
  | .fz kd, .fz d => match keyD kd with
    | some k => .ok (k, d) g
    | none => .bad
  | _, _ => .bad
def eKV (k e : M R) : M (Key × D) := mb (pk k) fun x => mb (esc e) fun y => kvR x y
def dcStep (t : R → M Unit) (c : M Bool) (k e : M R) (d : D) (g : G) : Rs (Option (Key × D)) :=
  (noEx (t (.fz d) g)).andThen fun _ g1 => (noEx (c g1)).andThen fun b g2 => if b = true then (noEx (eKV k e g2)).andThen fun p g4 => .ok (some p) g4 else .ok none g2
def addO (acc : List (Key × D)) : Option (Key × D) → List (Key × D)
  | none => acc
  | some p => putD acc p.1 p.2
def dcK (t : R → M Unit) (c : M Bool) (k e : M R) (vs : List Nat) (ds : List D) : M R := fun g => if ds.length ≤ sizeLine then (dcL t c k e vs ds [] g).andThen fun acc g2 => .ok (.ow (.dk acc)) (backG g g2 vs) else .bad
def DcOk {κ : Type} (n : Nat) (L : Lay) (tg : R → M Unit) (c : M Bool) (k e : M R) (d : D) (t : T (Option (κ × γ))) (ek : κ → Key) (e1 : γ → D) : Prop :=
  match tnx t with
  | .ok v => ∀ g, At n L g → ∃ g', dcStep tg c k e d g = .ok (v.map fun p => (ek p.1, e1 p.2)) g' ∧ At n L g'
  | _ => True
section
variable {κ : Type} [DecidableEq κ]
def dctOf (d : Dct κ α) (ps : List (κ × α)) : Dct κ α := ps.foldl (fun d p => dput d p.1 p.2) d
theorem tfmA_noex {f : α → T (Option γ)} : ∀ (xs : List α) (z : Ex), tfmA f xs ≠ .ex z
  | [], z, h => by cases h
  | x :: xs, z, h => by
    unfold tfmA at h
    cases e1 : f x with
    | bad => rw [e1] at h; cases h
    | ex _ => rw [e1] at h; cases h
    | ok _ =>
      rw [e1] at h
      cases e2 : tfmA f xs with
      | bad => rw [e2] at h; cases h
      | ex y => exact tfmA_noex xs y e2
      | ok _ => rw [e2] at h; cases h
end
/-! ### two fors -/
def lc2K (t : R → M Unit) (c : M Bool) (fi : M (List D)) (t1 : R → M Unit) (c1 : M Bool) (e : M R) (vs vs1 : List Nat) (ds : List D) : M R := fun g => if ds.length ≤ sizeLine then (lc2L t c fi t1 c1 e vs vs1 ds [] g).andThen fun acc g2 => .ok (.ow (.ls acc)) (backG g g2 vs) else .bad
theorem w_lc2U {it : M (List D)} {t : R → M Unit} {c : M Bool} {fi : M (List D)} {t1 : R → M Unit} {c1 : M Bool} {e : M R} {vs vs1 : List Nat} {j : R → M β} {tt : T ρ} {Φ : ρ → β → G → Prop} (h : W n L Lx (mb it fun ds => mb (lc2K t c fi t1 c1 e vs vs1 ds) j) tt Φ) : W n L Lx (mb (eLc2 it t c fi t1 c1 e vs vs1) j) tt Φ := w_as h
/-- one turn of the outer for: the test, the inner source -/
def oStep (t : R → M Unit) (c : M Bool) (fi : M (List D)) (d : D) (g : G) : Rs (Option (List D)) :=
  (noEx (t (.fz d) g)).andThen fun _ g1 => (noEx (c g1)).andThen fun b g2 => if b = true then (noEx (fi g2)).andThen fun ds g3 => .ok (some ds) g3 else .ok none g2
theorem lc2L_cons {t : R → M Unit} {c : M Bool} {fi : M (List D)} {t1 : R → M Unit} {c1 : M Bool} {e : M R} {vs vs1 : List Nat} {d : D} {ds acc : List D} {g : G} :
    lc2L t c fi t1 c1 e vs vs1 (d :: ds) acc g = (oStep t c fi d (wipeG g vs)).andThen fun o g3 => match o with
      | none => lc2L t c fi t1 c1 e vs vs1 ds acc g3
      | some ds1 => if acc.length + ds1.length ≤ sizeLine then (noEx (lcL t1 c1 e vs1 ds1 acc g3)).andThen fun acc2 g4 => lc2L t c fi t1 c1 e vs vs1 ds acc2 (wipeG g4 vs1) else .bad := by
  rw [lc2L]; dsimp only
  unfold oStep
  cases t (.fz d) (wipeG g vs) with
  | bad => rfl
  | ex _ _ => rfl
  | ok _ g1 =>
    simp only [noEx, then_ok]
    cases c g1 with
    | bad => rfl
    | ex _ _ => rfl
    | ok b g2 =>
      simp only [then_ok]
      cases b with
      | false => rfl
      | true =>
        simp only [if_true]
        cases fi g2 <;> rfl
def tflA (F : α → T (Option (List β))) (f : α → β → T (Option γ)) : List α → Nat → T (List γ)
  | [], _ => .ok []
  | x :: xs, m => tb (tnx (F x)) fun o => match o with
    | none => tflA F f xs m
    | some ys => if m + ys.length ≤ 16777216 then tb (tfmA (f x) ys) fun zs => tb (tflA F f xs (m + zs.length)) fun rest => .ok (zs ++ rest) else .bad
@[irreducible] def tFl (xs : List α) (F : α → T (Option (List β))) (f : α → β → T (Option γ)) : T (List γ) := if xs.length ≤ 16777216 then tflA F f xs 0 else .bad
/-- one turn, typed -/
def FlOk (n : Nat) (L : Lay) (t : R → M Unit) (c : M Bool) (fi : M (List D)) (t1 : R → M Unit) (c1 : M Bool) (e : M R) (vs1 : List Nat) (d : D) (F : T (Option (List β))) (f : β → T (Option γ)) (eb : β → D) (e1 : γ → D) : Prop :=
  match tnx F with
  | .ok none => ∀ g, At n L g → ∃ g', oStep t c fi d g = .ok none g' ∧ At n L g'
  | .ok (some ys) => ∃ L1, (∀ g, At n L g → ∃ g', oStep t c fi d g = .ok (some (ys.map eb)) g' ∧ At n L1 g') ∧ (∀ g, At n (rmLs L1 vs1) g → At n L g) ∧ ∀ y, LcOk n (rmLs L1 vs1) t1 c1 e (eb y) (f y) e1
  | _ => True
theorem lc2L_ok {t : R → M Unit} {c : M Bool} {fi : M (List D)} {t1 : R → M Unit} {c1 : M Bool} {e : M R} {vs vs1 : List Nat} {e0 : α → D} {eb : β → D} {e1 : γ → D} {F : α → T (Option (List β))} {f : α → β → T (Option γ)} (hb : ∀ x, FlOk n (rmLs L vs) t c fi t1 c1 e vs1 (e0 x) (F x) (f x) eb e1) :
    ∀ (xs : List α) (acc : List D) (g : G), At n (rmLs L vs) g → match tflA F f xs acc.length with
      | .ok ys => ∃ g', lc2L t c fi t1 c1 e vs vs1 (xs.map e0) acc g = .ok (acc ++ ys.map e1) g' ∧ At n (rmLs L vs) g'
      | _ => True
  | [], acc, g, q => ⟨g, by rw [List.map_nil, List.map_nil, List.append_nil]; rfl, q⟩
  | x :: xs, acc, g, q => by
    have h := hb x
    unfold FlOk at h
    unfold tflA
    cases e' : tnx (F x) with
    | bad => trivial
    | ex z => trivial
    | ok v =>
      rw [e'] at h
      rw [List.map_cons, lc2L_cons, tb_ok]
      cases v with
      | none =>
        obtain ⟨g', h1, h2⟩ := h _ q.wipe'
        rw [h1]
        exact lc2L_ok hb xs acc g' h2
      | some ys =>
        obtain ⟨L1, h1, h2, h3⟩ := h
        obtain ⟨g', k1, k2⟩ := h1 _ q.wipe'
        rw [k1, then_ok]
        dsimp only
        by_cases hz : acc.length + ys.length ≤ 16777216
        · rw [if_pos hz, if_pos (by rw [List.length_map, sizeLine_eq]; exact hz)]
          have i1 := lcL_ok (L := L1) (f := f x) h3 ys acc g' k2.rms
          cases e2 : tfmA (f x) ys with
          | bad => trivial
          | ex z => trivial
          | ok zs =>
            rw [e2] at i1
            obtain ⟨g2, j1, j2⟩ := i1
            rw [j1, ne_ok, then_ok, tb_ok]
            have ih := lc2L_ok hb xs (acc ++ zs.map e1) (wipeG g2 vs1) (h2 _ j2.wipe')
            rw [List.length_append, List.length_map] at ih
            cases e3 : tflA F f xs (acc.length + zs.length) with
            | bad => trivial
            | ex z => trivial
            | ok rest =>
              rw [e3] at ih
              obtain ⟨g3, m1, m2⟩ := ih
              exact ⟨g3, by rw [m1, List.append_assoc, ← List.map_append], m2⟩
        · rw [if_neg hz]; trivial
theorem tflA_noex {F : α → T (Option (List β))} {f : α → β → T (Option γ)} : ∀ (xs : List α) (m : Nat) (z : Ex), tflA F f xs m ≠ .ex z
  | [], m, z, h => by cases h
  | x :: xs, m, z, h => by
    unfold tflA at h
    cases e1 : F x with
    | bad => rw [e1] at h; cases h
    | ex _ => rw [e1] at h; cases h
    | ok o =>
      rw [e1] at h
      simp only [tnx, tb_ok] at h
      cases o with
      | none => exact tflA_noex xs m z h
      | some ys =>
        dsimp only at h
        split at h
        · cases e2 : tfmA (f x) ys with
          | bad => rw [e2] at h; cases h
          | ex y => exact tfmA_noex ys y e2
          | ok zs =>
            rw [e2] at h
            cases e3 : tflA F f xs (m + zs.length) with
            | bad => simp only [tb_ok, e3] at h; cases h
            | ex y => exact tflA_noex xs _ y e3
            | ok _ => simp only [tb_ok, e3] at h; cases h
        · cases h
theorem w_fl {t : R → M Unit} {c : M Bool} {fi : M (List D)} {t1 : R → M Unit} {c1 : M Bool} {e : M R} {vs vs1 : List Nat} {ds : List D} {xs : List α} {e0 : α → D} {eb : β → D} (e1 : γ → D) {F : α → T (Option (List β))} {f : α → β → T (Option γ)} {j : R → M δ} {tk : List γ → T ρ} {Φ : ρ → δ → G → Prop} (hd : ds = xs.map e0) (hv : fzL L vs = true)
    (hb : ∀ x, FlOk n (rmLs L vs) t c fi t1 c1 e vs1 (e0 x) (F x) (f x) eb e1) (r : ∀ ys : List γ, W n L Lx (j (.ow (.ls (ys.map e1)))) (tk ys) Φ) : W n L Lx (mb (lc2K t c fi t1 c1 e vs vs1 ds) j) (tb (tFl xs F f) tk) Φ := by
  subst hd
  unfold tFl
  by_cases hl : xs.length ≤ 16777216
  · rw [if_pos hl]
    cases e' : tflA F f xs 0 with
    | bad => exact w_bad
    | ex z => exact absurd e' (tflA_noex xs 0 z)
    | ok ys =>
      refine w_s (a := .ow (.ls (ys.map e1))) (L1 := L) (fun g q => ?_) (r ys)
      have h := lc2L_ok (F := F) (f := f) hb xs [] g q.rms
      rw [List.length_nil, e'] at h
      obtain ⟨g', h1, h2⟩ := h
      refine ⟨backG g g' vs, ?_, q.back h2 hv⟩
      unfold lc2K
      rw [if_pos (by rw [List.length_map, sizeLine_eq]; exact hl), h1]; rfl
  · rw [if_neg hl]; exact w_bad
/-- the outer turn without a test -/
theorem fl_m {t : R → M Unit} {fi : M (List D)} {t1 : R → M Unit} {c1 : M Bool} {e : M R} {vs1 : List Nat} {d : D} {F : T (List β)} {f : β → T (Option γ)} {eb : β → D} {e1 : γ → D} {L1 : Lay} (ht : Tg n L (t (.fz d)) L1) (h : W n L1 [] fi F (fun v ds g' => ds = v.map eb ∧ At n L1 g')) (hL : ∀ g, At n (rmLs L1 vs1) g → At n L g)
    (hy : ∀ y, LcOk n (rmLs L1 vs1) t1 c1 e (eb y) (f y) e1) : FlOk n L t cYes fi t1 c1 e vs1 d (tb F fun y => .ok (some y)) f eb e1 := by
  unfold FlOk
  cases F with
  | bad => trivial
  | ex _ => trivial
  | ok v =>
    refine ⟨L1, fun g q => ?_, hL, hy⟩
    obtain ⟨g1, h1, h2⟩ := ht g q
    obtain ⟨r, g2, h3, rfl, h4⟩ := h g1 h2
    refine ⟨g2, ?_, h4⟩
    unfold oStep
    rw [h1, ne_ok, then_ok, ev_yes, ne_ok, then_ok, if_pos rfl, h3]; rfl
/-- the kept slots are those of the outer block -/
theorem at_rm2 {vs vs1 : List Nat} {M : Lay} {g : G} (hv : ∀ j ∈ vs1, j ∈ vs) (hM : ∀ i, i ∉ vs → lk M i = lk L i) (h : At n (rmLs M vs1) g) : At n (rmLs L vs) g := ⟨h.1, fun i s e => by
  obtain ⟨e1, e2⟩ := lk_rms e
  exact h.2 i s (by rw [lk_rms_of (fun m => e2 (hv i m)), hM i e2]; exact e1)⟩
theorem lk_cons_ne {v i : Nat} {x : Sl} (h : i ≠ v) : lk ((v, x) :: L) i = lk L i := by
  have : Nat.beq v i = false := by
    cases q : Nat.beq v i with
    | false => rfl
    | true => exact absurd (Nat.eq_of_beq_eq_true q).symm h
  show (match Nat.beq v i with | true => _ | false => _) = _
  rw [this]
/-! ### zip -/
theorem zpD_map (e : α → D) (f : β → D) : ∀ (xs : List α) (ys : List β), zpD (xs.map e) (ys.map f) = (xs.zip ys).map (eP e f)
  | [], _ => rfl
  | _ :: _, [] => rfl
  | x :: xs, y :: ys => by
    show D.tup [e x, f y] :: zpD (xs.map e) (ys.map f) = _
    rw [zpD_map e f xs ys]; rfl
theorem w_endI {xs : List α} {e : α → D} {ds : List D} (h : ds = xs.map e) : W n L Lx (mp ds) (.ok xs) (fun v r g' => r = v.map e ∧ At n L g') := ⟨fun g q => ⟨ds, g, rfl, h, q⟩⟩
end DL

namespace DL
open PySem PySem.Spec L2
variable {α β γ δ κ ρ σ : Type} {n : Nat} {L L1 Lx : Lay}
/-! # dicts with tuples as keys: typed rules -/
mutual
def decN : NK → D
  | .none => .non
  | .num i => .int i
  | .text x => .str x
  | .tup ks => .tup (decNs ks)
def decNs : List NK → List D
  | [] => []
  | k :: ks => decN k :: decNs ks
end
mutual
theorem decN_of : ∀ (d : D) (k : NK), keyN d = some k → decN k = d
  | .int i, k, e => by cases e; rfl
  | .str s, k, e => by cases e; rfl
  | .non, k, e => by cases e; rfl
  | .tup ds, k, e => by
    obtain ⟨ks, h, e⟩ := Option.map_eq_some_iff.mp (show (keyNs ds).map NestedKey.tup = some k from e)
    subst e
    show D.tup (decNs ks) = _
    rw [decNs_of ds ks h]
  | .bl _, _, e => by cases e
  | .lst _, _, e => by cases e
  | .dk _, _, e => by cases e
  | .dt _, _, e => by cases e
  | .dd _, _, e => by cases e
  | .obj _ _, _, e => by cases e
  | .scr _, _, e => by cases e
  | .exc _, _, e => by cases e
  | .lk _, _, e => by cases e
  | .ld _, _, e => by cases e
  | .tux _, _, e => by cases e
theorem decNs_of : ∀ (ds : List D) (ks : List NK), keyNs ds = some ks → decNs ks = ds
  | [], ks, e => by cases e; rfl
  | d :: ds, ks, e => by
    unfold keyNs at e
    split at e
    · rename_i k ks' h1 h2
      cases e
      show decN k :: decNs ks' = _
      rw [decN_of d k h1, decNs_of ds ks' h2]
    · cases e
end
/-- an item of a key: its depth -/
class KeyI (e : κ → D) (m : outParam Nat) : Prop where
  ok : ∀ a, ∃ k, keyN (e a) = some k ∧ k.depth ≤ m
  inj : ∀ a b, e a = e b → a = b
instance : KeyI eI 0 := ⟨fun i => ⟨.num i, rfl, Nat.le_refl _⟩, fun a b h => by injection h⟩
instance : KeyI eS 0 := ⟨fun i => ⟨.text _, rfl, Nat.le_refl _⟩, fun a b h => by injection h with h; exact str_inj.mp h⟩
theorem keyNs_map {e : κ → D} {m : Nat} [q : KeyI e m] : ∀ xs : List κ, ∃ ks, keyNs (xs.map e) = some ks ∧ NestedKey.depthAll ks ≤ m
  | [] => ⟨[], rfl, Nat.zero_le _⟩
  | x :: xs => by
    obtain ⟨k, h1, h2⟩ := q.ok x
    obtain ⟨ks, h3, h4⟩ := keyNs_map (e := e) xs
    refine ⟨k :: ks, ?_, ?_⟩
    · rw [List.map_cons]; unfold keyNs; rw [h1, h3]
    · show max _ _ ≤ m; omega
theorem map_inj {e : κ → D} (q : ∀ a b, e a = e b → a = b) : ∀ xs ys : List κ, xs.map e = ys.map e → xs = ys
  | [], [], _ => rfl
  | [], _ :: _, h => by cases h
  | _ :: _, [], h => by cases h
  | x :: xs, y :: ys, h => by
    rw [List.map_cons, List.map_cons] at h
    injection h with h1 h2
    rw [q x y h1, map_inj q xs ys h2]
instance {e : κ → D} {m : Nat} [q : KeyI e m] : KeyI (eT e) (m + 1) := ⟨fun xs => by
  obtain ⟨ks, h1, h2⟩ := keyNs_map (e := e) xs
  refine ⟨.tup ks, ?_, ?_⟩
  · show (keyNs (xs.map e)).map _ = _; rw [h1]; rfl
  · show _ + 1 ≤ _; omega, fun a b h => by injection h with h; exact map_inj q.inj a b h⟩
instance {e : α → D} {f : β → D} {m p : Nat} [q : KeyI e m] [r : KeyI f p] : KeyI (eP e f) (max m p + 1) := ⟨fun x => by
  obtain ⟨k, h1, h2⟩ := q.ok x.1
  obtain ⟨l, h3, h4⟩ := r.ok x.2
  refine ⟨.tup [k, l], ?_, ?_⟩
  · show (keyNs [e x.1, f x.2]).map _ = _
    unfold keyNs keyNs keyNs; rw [h1, h3]; rfl
  · show max _ (max _ 0) + 1 ≤ _; omega, fun a b h => by
    injection h with h
    injection h with h1 h2
    injection h2 with h2 _
    exact Prod.ext (q.inj _ _ h1) (r.inj _ _ h2)⟩
instance {e : α → D} {f : β → D} {g : γ → D} {m p o : Nat} [q : KeyI e m] [r : KeyI f p] [t : KeyI g o] : KeyI (eP3 e f g) (max m (max p o) + 1) := ⟨fun x => by
  obtain ⟨k, h1, h2⟩ := q.ok x.1
  obtain ⟨l, h3, h4⟩ := r.ok x.2.1
  obtain ⟨u, h5, h6⟩ := t.ok x.2.2
  refine ⟨.tup [k, l, u], ?_, ?_⟩
  · show (keyNs [e x.1, f x.2.1, g x.2.2]).map _ = _
    unfold keyNs keyNs keyNs keyNs; rw [h1, h3, h5]; rfl
  · show max _ (max _ (max _ 0)) + 1 ≤ _; omega, fun a b h => by
    injection h with h
    injection h with h1 h2
    injection h2 with h2 h3
    injection h3 with h3 _
    exact Prod.ext (q.inj _ _ h1) (Prod.ext (r.inj _ _ h2) (t.inj _ _ h3))⟩
/-- a key that is a tuple -/
class KeyE (e : κ → D) : Prop where
  ok : ∀ a, ∃ k, keyT (e a) = some k
  inj : ∀ a b, e a = e b → a = b
def nk (e : κ → D) (a : κ) : NK := (keyT (e a)).getD .none
abbrev eKN (e0 : κ → D) (e : α → D) : Dct κ α → D := fun kvs => .dd (kvs.map fun p => (nk e0 p.1, e p.2))
abbrev oKN (e0 : κ → D) (e : α → D) : Dct κ α → O := fun kvs => .dd (kvs.map fun p => (nk e0 p.1, e p.2))
section
variable [DecidableEq κ] (e0 : κ → D) [KeyE e0]
end
end DL

namespace DL
open PySem PySem.Spec L2
variable {α β γ δ κ ρ σ : Type} {n : Nat} {L L1 Lx : Lay}
/-! # more typed operations -/
/-- xs.index(x) of texts -/
@[irreducible] def tLIxS (xs : List S) (x : S) : T Int := match xs.findIdx? fun y => decide (y = x) with
  | some j => .ok (j : Nat)
  | none => .bad
/-- x in xs, by data -/
@[irreducible] def tInE [DecidableEq α] (e : α → D) (x : α) (xs : List α) : T Bool := if okEq (e x) (eL e xs) = true then .ok (decide (x ∈ xs)) else .bad
theorem any_py [DecidableEq α] (e : α → D) [q : EqE e] (x : α) : ∀ xs : List α, ((pyL (xs.map e)).any fun z => PyData.eqv z (e x).py) = decide (x ∈ xs)
  | [] => rfl
  | y :: xs => by
    show (PyData.eqv (e y).py (e x).py || (pyL (xs.map e)).any fun z => PyData.eqv z (e x).py) = _
    rw [any_py e x xs, q.eqv]
    by_cases h : y = x
    · simp [h]
    · have h' : ¬ x = y := fun z => h z.symm
      simp [h, h']
theorem ot_inE [DecidableEq α] (e : α → D) [EqE e] {x : α} {xs : List α} : OpT (cInD false (e x) (eL e xs)) (tInE e x xs) (rF eBl) := by
  unfold tInE
  by_cases h : okEq (e x) (eL e xs) = true
  · rw [if_pos h]
    refine ⟨?_, rfl⟩
    show (if _ then _ else _) = _
    rw [if_pos h, any_py, Bool.false_xor]
  · rw [if_neg h]; trivial
/-! ### zip of mixed kinds -/
theorem px_zpTL (e : α → D) (f : β → D) {xs : List α} {ys : List β} : Px n L (toZpM [.fz (eT e xs), .fz (eL f ys)]) ((xs.zip ys).map (eP e f)) := fun g _ => by
  show Rs.ok (zpD (xs.map e) (ys.map f)) g = _
  rw [zpD_map]
/-! ### i & 1, chains -/
section
variable {Φ : ρ → β → G → Prop} {t : T ρ}
theorem w_chT {op op' : D → D → Option R} {j : M R} {x y z : R} {a b c : D} {p q : Bool} {J : R → M β} (h1 : cnt L x = some a) (h2 : cnt L y = some b) (h : op a b = some (.fz (.bl p))) (hj : Px n L j z) (h3 : cnt L (pkO z) = some c) (h' : op' b c = some (.fz (.bl q))) (r : W n L Lx (J (.fz (.bl (p && q)))) t Φ) :
    W n L Lx (mb (mb (op2 op x y) fun z => mb (toB z) fun t => if t = true then mb (pk j) fun w => op2 op' y w else eC (.bl false)) J) t Φ :=
  w_p (px_mb (px_op h1 h2 h) (px_mb px_toB (by cases p; exact px_c; exact px_mb (px_pk hj) (px_op h2 h3 h')))) r
end
end DL

namespace DL
open PySem PySem.Spec L2
variable {α : Type}
/-! # xs.index(x), by data -/
@[irreducible] def tIxE [DecidableEq α] (e : α → D) (xs : List α) (x : α) : T Int := if okEq (e x) (eL e xs) = true then (match xs.findIdx? fun y => decide (y = x) with
  | some j => .ok (j : Nat)
  | none => .bad) else .bad
end DL

namespace DL
open PySem PySem.Spec L2
/-! # defs that are never reached -/
def sBad : M Fl := fun _ => .bad
instance {α β γ δ : Type} (e : α → D) (f : β → D) (g : γ → D) (h : δ → D) : NonN (eP4 e f g h) := ⟨fun _ => rfl⟩
/-! # zip of a sequence and a text -/
section
variable {n : Nat} {L : Lay} {α : Type}
end
end DL

namespace DL
open PySem PySem.Spec L2
/-! # a < b of any data -/
@[irreducible] def tLtG (a b : D) : T Bool := match cLtG a b with
  | some (.fz (.bl x)) => .ok x
  | _ => .bad
/-! # a tuple some times, or once -/
@[irreducible] def tRepU {α : Type} (xs : List α) (k : Int) : T (List α) := if k = 1 then .ok xs else tRepT xs k
end DL

/-! # sorted, of lists of tuples, typed -/
namespace DL
open PySem PySem.Spec L2
theorem fSortG_lstH {xs : List D} {r : R} (h : fSort [.lst xs] = some r) : fSortH [.lst xs] = some r := by
  unfold fSortH
  rw [show fSortG [.lst xs] = fSort [.lst xs] from rfl, h]
theorem po_sortHI {xs : List Int} : fSortH [eL eI xs] = some (.ow (.ls ((srt xs).map eI))) := fSortG_lstH po_sortI
theorem po_sortHT {xs : List Int} : fSortH [eT eI xs] = some (.ow (.ls ((srt xs).map eI))) := by
  unfold fSortH; rw [po_sortT]
@[irreducible] def tSortT (xs : List (List Int)) : T (List (List Int)) := if xs.all (fun x => !x.isEmpty) = true then .ok (srtT xs) else .bad
end DL

/-! # max, min of a list, typed -/
namespace DL
open PySem PySem.Spec L2
@[irreducible] def tMaxL (xs : List Int) : T Int := if xs = [] then .bad else .ok (mxI xs)
@[irreducible] def tMinL (xs : List Int) : T Int := if xs = [] then .bad else .ok (mnI xs)
end DL

/-! # dicts that are walked, typed -/
namespace DL
open PySem PySem.Spec L2
variable {α β γ δ ρ σ : Type} {n : Nat} {L L1 Lx : Lay}
abbrev eLI (e : α → D) : Dct Int α → D := fun kvs => .lk (kvs.map fun p => (kI p.1, e p.2))
abbrev eLS (e : α → D) : Dct S α → D := fun kvs => .lk (kvs.map fun p => (kS p.1, e p.2))
/-! ### for k in d, d.items() -/
@[irreducible] def tKeysS (d : Dct S α) : T (List S) := if (d.all fun p => decide (p.1.length ≤ 16777216)) = true then .ok (d.map (·.1)) else .bad
@[irreducible] def tItemsS (d : Dct S α) : T (Dct S α) := if (d.all fun p => decide (p.1.length ≤ 16777216)) = true then .ok d else .bad
/-! ### dict comprehensions with two fors -/
/-! ### is, of any value and a bool -/
@[irreducible] def tIsDB (ng : Bool) (d : D) (b : Bool) : T Bool := match d with
  | .bl a => .ok (if ng = true then !decide (a = b) else decide (a = b))
  | _ => .bad
end DL

namespace DL
open PySem PySem.Spec L2
/-! # typed: a dict of the module's top, math.lcm, math.gcd -/
@[irreducible] def tKd (kvs : List (Int × Int)) (k : Int) : T Int := match lkI kvs k with
  | some v => .ok v
  | none => .bad
@[irreducible] def tLcm (a b : Int) : T Int := if a.natAbs < 2 ^ 64 ∧ b.natAbs < 2 ^ 64 then .ok ((a.natAbs.lcm b.natAbs : Nat) : Int) else .bad
instance : EqE (eO eI) := ⟨fun a => by cases a <;> rfl, fun a b => by
  cases a with
  | none => cases b with
    | none => rfl
    | some j => rfl
  | some i => cases b with
    | none => rfl
    | some j =>
      show decide (i = j) = decide (some i = some j)
      by_cases h : i = j
      · subst h; simp
      · rw [decide_eq_false h, decide_eq_false (fun e => h (by injection e))]⟩
/-! ## x, y = a, b whose right sides may fail -/
section
variable {α β ρ : Type} {n : Nat} {L Lx : Lay}
def parJ (i j : Nat) (rs : List R) : M Fl := fun g => match rs with
  | [.fz a, .fz b] => .ok .nx ((g.set i (some (.fz a))).set j (some (.fz b)))
  | _ => .bad
end
section
variable {α β γ δ : Type}
end
end DL

namespace DL
open PySem PySem.Spec L2
/-! # typed: len(set(texts)) -/
def dst1 (σ : List S) (x : S) : List S := if σ.any (· == x) then σ else σ ++ [x]
def dstL (xs : List S) : List S := xs.foldl dst1 []
@[irreducible] def tLenSet (xs : List S) : T Int := if xs.length ≤ 4000 then .ok ((dstL xs).length : Int) else .bad
end DL

namespace DL
open PySem PySem.Spec L2
/-! # typed: list(d.values()); dicts that are locked, read -/
variable {α : Type}
@[irreducible] def tLvals {κ : Type} (d : Dct κ α) : T (List α) := if d.length ≤ 16777216 then .ok (d.map (·.2)) else .bad
end DL
namespace DL
open PySem PySem.Spec L2
variable {α : Type}
end DL

namespace DL
open PySem PySem.Spec L2
/-! # typed: tuples whose object is known -/
section
variable {α β γ : Type}
abbrev eW (e : α → D) : List α → D := fun xs => .tux (xs.map e)
class Wk (e : α → D) (e' : outParam (α → D)) : Prop where
  h : ∀ a, (e a).wk = e' a
instance : Wk eI eI := ⟨fun _ => rfl⟩
instance : Wk eS eS := ⟨fun _ => rfl⟩
instance : Wk eBl eBl := ⟨fun _ => rfl⟩
instance : Wk eN eN := ⟨fun _ => rfl⟩
theorem wk_map {e : α → D} {e' : α → D} [w : Wk e e'] (xs : List α) : wkL (xs.map e) = xs.map e' := by
  rw [wkL_map, List.map_map]
  exact List.map_congr_left fun a _ => w.h a
instance {e e' : α → D} [Wk e e'] : Wk (eW e) (eT e') := ⟨fun xs => by show D.wk (.tux _) = .tup _; rw [D.wk, wk_map xs]⟩
instance {e e' : α → D} [Wk e e'] : Wk (eT e) (eT e') := ⟨fun xs => by show D.wk (.tup _) = .tup _; rw [D.wk, wk_map xs]⟩
instance {e e' : α → D} [Wk e e'] : Wk (eL e) (eL e') := ⟨fun xs => by show D.wk (.lst _) = .lst _; rw [D.wk, wk_map xs]⟩
instance {e e' : α → D} {f f' : β → D} [w1 : Wk e e'] [w2 : Wk f f'] : Wk (eP e f) (eP e' f') := ⟨fun p => by show D.wk (.tup [_, _]) = .tup [_, _]; rw [D.wk, wkL, wkL, wkL, w1.h, w2.h]⟩
instance {e e' : α → D} {f f' : β → D} {k k' : γ → D} [w1 : Wk e e'] [w2 : Wk f f'] [w3 : Wk k k'] : Wk (eP3 e f k) (eP3 e' f' k') := ⟨fun p => by show D.wk (.tup [_, _, _]) = .tup [_, _, _]; rw [D.wk, wkL, wkL, wkL, wkL, w1.h, w2.h, w3.h]⟩
instance {e e' : α → D} [w : Wk e e'] : Wk (eO e) (eO e') := ⟨fun o => by cases o with
  | none => rfl
  | some a => exact w.h a⟩
variable {n : Nat} {L : Lay}
theorem px_wk {e e' : α → D} [w : Wk e e'] {a : α} {f : M R} (h : Px n L f (.fz (e a))) : Px n L (wkM f) (.fz (e' a)) := fun g q => by
  show (f g).andThen wkR = _
  rw [h g q, ← w.h a]; rfl
theorem px_wkR {e e' : α → D} [w : Wk e e'] {a : α} : Px n L (wkR (.fz (e a))) (.fz (e' a)) := fun g q => by
  rw [← w.h a]; rfl
theorem po_tux (e : α → D) {xs : List α} : fTupleX [eL e xs] = some (.fz (eW e xs)) := rfl
theorem ot_uix {xs : List Int} {x : Int} : OpT (mIndexU (eW eI xs) [eI x]) (tLIx xs x) (rF eI) := ot_lix
theorem px_chkU {x : R} {ds : List D} (h1 : cnt L x = some (.tux ds)) : Px n L (chkU x) () := fun g q => by unfold chkU; rw [q.cnt h1]
end
end DL

namespace DL
open PySem PySem.Spec L2
/-! # typed: comprehensions over a list of ours -/
section
variable {α γ β ρ : Type} {n : Nat} {L Lx : Lay}
end
end DL

/-! # typed: min of a list of data that are alike -/
namespace DL
open PySem PySem.Spec L2
section
variable {α : Type}
open Classical in
@[irreducible] noncomputable def tMinD (e : α → D) : List α → T α
  | [] => .bad
  | x :: r => if okMinD ((x :: r).map e) then match (x :: r).find? (fun y => decide ((e y).py = PySem.W.minD (e x).py (pyL (r.map e)))) with
    | some y => .ok y
    | none => .bad
    else .bad
theorem ot_minD (e : α → D) {xs : List α} : OpT (fMinD [eL e xs]) (tMinD e xs) (rF e) := by
  classical
  unfold tMinD
  cases xs with
  | nil => trivial
  | cons x r =>
    simp only
    split
    · rename_i h
      split
      · rename_i y hy
        refine ⟨?_, rfl⟩
        show fMinD [.lst (e x :: r.map e)] = _
        unfold fMinD
        simp only
        have h' : okMinD (e x :: r.map e) := h
        rw [if_pos h', show (e x :: r.map e) = (x :: r).map e from rfl, List.find?_map]
        have : List.find? ((fun x_1 => decide (x_1.py = PySem.W.minD (e x).py (pyL (List.map e r)))) ∘ e) (x :: r) = some y := hy
        rw [this]; rfl
      · trivial
    · trivial
end
end DL

namespace DL
/-! # wide machines -/
abbrev MRow := List (Int × Int)
abbrev Mac := Int × List MRow
structure RowOk (k n : Int) (r : MRow) : Prop where
  pm : (r.map Prod.fst).Perm (rngL 0 k)
  nx : ∀ p ∈ r, 0 ≤ p.2 ∧ p.2 < n
structure WideM (m : Mac) : Prop where
  k0 : 2 ≤ m.1
  k1 : m.1 ≤ 4
  n0 : 1 ≤ m.2.length
  n1 : m.2.length ≤ 200
  row : ∀ r ∈ m.2, RowOk m.1 m.2.length r
theorem RowOk.len {k n : Int} {r : MRow} (h : RowOk k n r) : r.length = k.toNat := by
  have := h.pm.length_eq
  rw [List.length_map, rngL_len] at this; omega
/-- the entry of a state at a digit -/
def ent (m : Mac) (s : Int) (x : Int) : Int × Int := (m.2.getD s.toNat []).getD x.toNat (0, 0)
theorem WideM.rowAt {m : Mac} (w : WideM m) {s : Int} (h0 : 0 ≤ s) (h1 : s < m.2.length) : m.2[s.toNat]? = some (m.2.getD s.toNat []) ∧ RowOk m.1 m.2.length (m.2.getD s.toNat []) := by
  have hl : s.toNat < m.2.length := by omega
  have e : m.2[s.toNat]? = some (m.2.getD s.toNat []) := by rw [List.getD_eq_getElem?_getD, List.getElem?_eq_getElem hl]; rfl
  exact ⟨e, w.row _ (List.mem_of_getElem? e)⟩
theorem WideM.entAt {m : Mac} (w : WideM m) {s x : Int} (h0 : 0 ≤ s) (h1 : s < m.2.length) (x0 : 0 ≤ x) (x1 : x < m.1) :
    (m.2.getD s.toNat [])[x.toNat]? = some (ent m s x) ∧ (0 ≤ (ent m s x).1 ∧ (ent m s x).1 < m.1) ∧ (0 ≤ (ent m s x).2 ∧ (ent m s x).2 < m.2.length) := by
  obtain ⟨_, hr⟩ := w.rowAt h0 h1
  have hl : x.toNat < (m.2.getD s.toNat []).length := by rw [hr.len]; omega
  have e : (m.2.getD s.toNat [])[x.toNat]? = some (ent m s x) := by unfold ent; rw [List.getD_eq_getElem?_getD (l := m.2.getD s.toNat []), List.getElem?_eq_getElem hl]; rfl
  have hm := List.mem_of_getElem? e
  exact ⟨e, rngL_mem.mp (hr.pm.subset (List.mem_map_of_mem hm)), hr.nx _ hm⟩
/-- different digits are written differently -/
theorem WideM.inj {m : Mac} (w : WideM m) {s x y : Int} (h0 : 0 ≤ s) (h1 : s < m.2.length) (x0 : 0 ≤ x) (x1 : x < m.1) (y0 : 0 ≤ y) (y1 : y < m.1) (h : (ent m s x).1 = (ent m s y).1) : x = y := by
  obtain ⟨_, hr⟩ := w.rowAt h0 h1
  have ex := (w.entAt h0 h1 x0 x1).1
  have ey := (w.entAt h0 h1 y0 y1).1
  have nd : ((m.2.getD s.toNat []).map Prod.fst).Nodup := Perm.ndp hr.pm
  have hx : ((m.2.getD s.toNat []).map Prod.fst)[x.toNat]? = some (ent m s x).1 := by rw [List.getElem?_map, ex]; rfl
  have hy : ((m.2.getD s.toNat []).map Prod.fst)[y.toNat]? = some (ent m s y).1 := by rw [List.getElem?_map, ey]; rfl
  obtain ⟨lx, gx⟩ := List.getElem?_eq_some_iff.mp hx
  obtain ⟨ly, gy⟩ := List.getElem?_eq_some_iff.mp hy
  have := (List.getElem_inj nd).mp (gx.trans (h.trans gy.symm))
  omega
/-- texts of the first k digits -/
def DgS (k : Int) (s : S) : Prop := ∀ c ∈ s, 48 ≤ c ∧ (c : Int) < 48 + k
theorem DgS.nil {k : Int} : DgS k [] := fun c h => by simp at h
theorem DgS.add {k : Int} {s t : S} (h : DgS k s) (g : DgS k t) : DgS k (s ++ t) := fun c hc => (List.mem_append.mp hc).elim (h c) (g c)
theorem DgS.sub {k : Int} {s t : S} (h : DgS k s) (g : ∀ c ∈ t, c ∈ s) : DgS k t := fun c hc => h c (g c hc)
theorem cutL_mem {α : Type} {xs : List α} {lo hi : Option Int} {x : α} (h : x ∈ cutL xs lo hi) : x ∈ xs := by
  unfold cutL at h
  exact List.mem_of_mem_drop (List.mem_of_mem_take h)
theorem DgS.cut {k : Int} {s : S} (h : DgS k s) {lo hi : Option Int} : DgS k (cutL s lo hi) := h.sub fun _ => cutL_mem
theorem DgS.okS {k : Int} {s : S} (h : DgS k s) (hk : k ≤ 4) : okS s := fun c hc => by have := h c hc; omega
theorem DgS.cons {k : Int} {c : Nat} {s : S} : DgS k (c :: s) ↔ (48 ≤ c ∧ (c : Int) < 48 + k) ∧ DgS k s := by
  constructor
  · intro h; exact ⟨h c List.mem_cons_self, fun d hd => h d (List.mem_cons_of_mem _ hd)⟩
  · rintro ⟨h1, h2⟩ d hd
    rcases List.mem_cons.mp hd with rfl | hd
    · exact h1
    · exact h2 d hd
/-- the sign of a digit -/
def sgn (d : Int) : Nat := 48 + d.toNat
/-- reading: the image and the state behind -/
def rd (m : Mac) (s : Int) : S → S × Int
  | [] => ([], s)
  | c :: z => let e := ent m s ((c : Int) - 48); let q := rd m e.2 z; (sgn e.1 :: q.1, q.2)
theorem rd_cons (m : Mac) (s : Int) (c : Nat) (z : S) : rd m s (c :: z) = (sgn (ent m s ((c : Int) - 48)).1 :: (rd m (ent m s ((c : Int) - 48)).2 z).1, (rd m (ent m s ((c : Int) - 48)).2 z).2) := rfl
/-- u undoes m -/
structure UndoM (m u : Mac) : Prop where
  k : u.1 = m.1
  n : u.2.length = m.2.length
  e : ∀ s x : Int, 0 ≤ s → s < m.2.length → 0 ≤ x → x < m.1 → ent u s (ent m s x).1 = (x, (ent m s x).2)
theorem WideM.onto {m : Mac} (w : WideM m) {s y : Int} (h0 : 0 ≤ s) (h1 : s < m.2.length) (y0 : 0 ≤ y) (y1 : y < m.1) : ∃ x, 0 ≤ x ∧ x < m.1 ∧ (ent m s x).1 = y := by
  obtain ⟨_, hr⟩ := w.rowAt h0 h1
  have hy : y ∈ (m.2.getD s.toNat []).map Prod.fst := hr.pm.symm.subset (rngL_mem.mpr ⟨y0, y1⟩)
  obtain ⟨i, hi, e⟩ := List.getElem_of_mem hy
  rw [List.length_map, hr.len] at hi
  have := (w.entAt (x := (i : Int)) h0 h1 (by omega) (by omega)).1
  rw [Int.toNat_natCast] at this
  obtain ⟨_, g⟩ := List.getElem?_eq_some_iff.mp this
  refine ⟨i, by omega, by omega, ?_⟩
  rw [← g, ← e, List.getElem_map]
theorem UndoM.symm {m u : Mac} (w : WideM m) (h : UndoM m u) : UndoM u m := by
  refine ⟨h.k.symm, h.n.symm, fun s y h0 h1 y0 y1 => ?_⟩
  rw [h.n] at h1
  rw [h.k] at y1
  obtain ⟨x, x0, x1, e⟩ := w.onto h0 h1 y0 y1
  have q := h.e s x h0 h1 x0 x1
  rw [e] at q
  rw [q]
  exact Prod.ext e rfl
theorem UndoM.rd {m u : Mac} (w : WideM m) (h : UndoM m u) : ∀ {z : S} {s : Int}, 0 ≤ s → s < m.2.length → DgS m.1 z → DL.rd u s (DL.rd m s z).1 = (z, (DL.rd m s z).2)
  | [], s, _, _, _ => rfl
  | c :: z, s, h0, h1, hz => by
    obtain ⟨hc, hz⟩ := DgS.cons.mp hz
    have k0 := w.k0
    obtain ⟨_, ⟨e1, e2⟩, e3, e4⟩ := w.entAt (x := (c : Int) - 48) h0 h1 (by omega) (by omega)
    rw [rd_cons m, rd_cons u]
    have es : ((sgn (ent m s ((c : Int) - 48)).1 : Nat) : Int) - 48 = (ent m s ((c : Int) - 48)).1 := by unfold sgn; omega
    rw [es, h.e s _ h0 h1 (by omega) (by omega), UndoM.rd w h e3 e4 hz]
    have : sgn ((c : Int) - 48) = c := by unfold sgn; omega
    rw [this]
end DL

namespace DL
/-! # words: letters, undoing, cutting -/
def Lt (c : Nat) : Prop := (97 ≤ c ∧ c ≤ 104) ∨ (65 ≤ c ∧ c ≤ 72)
/-- the letter that undoes -/
def sw (c : Nat) : Nat := if 97 ≤ c then c - 32 else c + 32
theorem sw_lt {c : Nat} (h : Lt c) : Lt (sw c) := by unfold sw Lt at *; split <;> omega
theorem sw_sw {c : Nat} (h : Lt c) : sw (sw c) = c := by unfold sw Lt at *; split <;> split <;> omega
theorem sw_swap {a b : Nat} (ha : Lt a) (h : a = sw b) (hb : Lt b) : b = sw a := by rw [h, sw_sw hb]
def AllL (w : S) : Prop := ∀ c ∈ w, Lt c
theorem AllL.tail {c : Nat} {w : S} (h : AllL (c :: w)) : AllL w := fun d hd => h d (List.mem_cons_of_mem _ hd)
theorem AllL.cons {c : Nat} {w : S} (hc : Lt c) (h : AllL w) : AllL (c :: w) := fun d hd => (List.mem_cons.mp hd).elim (fun e => e ▸ hc) (h d)
theorem AllL.rev {w : S} (h : AllL w) : AllL w.reverse := fun d hd => h d (List.mem_reverse.mp hd)
/-- a stack takes a letter -/
def psh : S → Nat → S
  | [], c => [c]
  | a :: r, c => if a = sw c then r else c :: a :: r
/-- no letter stands by the one that undoes it -/
def Rd (l : S) : Prop := ∀ (p q : S) (x y : Nat), l = p ++ x :: y :: q → y ≠ sw x
theorem Rd.nil : Rd [] := fun p q x y h => by cases p <;> cases h
theorem Rd.one {c : Nat} : Rd [c] := fun p q x y h => by
  cases p with
  | nil => cases h
  | cons a p => injection h with _ h; cases p <;> cases h
theorem Rd.tail {a : Nat} {l : S} (h : Rd (a :: l)) : Rd l := fun p q x y e => h (a :: p) q x y (by rw [e]; rfl)
theorem Rd.cons {c a : Nat} {r : S} (h : Rd (a :: r)) (n : a ≠ sw c) : Rd (c :: a :: r) := fun p q x y e => by
  cases p with
  | nil =>
    injection e with e1 e2
    injection e2 with e2 e3
    rw [← e1, ← e2]; exact n
  | cons d p =>
    injection e with _ e2
    exact h p q x y e2
theorem Rd.rev {l : S} (h : Rd l) (hl : AllL l) : Rd l.reverse := fun p q x y e => by
  have e2 : l = q.reverse ++ y :: x :: p.reverse := by
    have := congrArg List.reverse e
    rw [List.reverse_reverse] at this
    rw [this]; simp
  have hy : Lt y := hl y (by rw [e2]; simp)
  have hx : Lt x := hl x (by rw [e2]; simp)
  exact fun z => h q.reverse p.reverse y x e2 (sw_swap hy z hx)
theorem Rd.sw {l : S} (h : Rd l) (hl : AllL l) : Rd (l.map sw) := fun p q x y e => by
  obtain ⟨p', r', e1, e2, e3⟩ := List.map_eq_append_iff.mp e
  cases r' with
  | nil => cases e3
  | cons x' r' =>
    injection e3 with ex e3
    cases r' with
    | nil => cases e3
    | cons y' q' =>
      injection e3 with ey e3
      have hx : Lt x' := hl x' (by rw [e1]; simp)
      have hy : Lt y' := hl y' (by rw [e1]; simp)
      intro z
      refine h p' q' x' y' e1 ?_
      have := congrArg DL.sw z
      rw [← ey, ← ex, sw_sw hy, sw_sw (sw_lt hx)] at this
      exact this
theorem psh_all {s : S} {c : Nat} (h : AllL s) (hc : Lt c) : AllL (psh s c) := by
  cases s with
  | nil => exact AllL.cons hc h
  | cons a r =>
    show AllL (if a = sw c then r else c :: a :: r)
    split
    · exact h.tail
    · exact h.cons hc
theorem psh_rd {s : S} {c : Nat} (h : Rd s) : Rd (psh s c) := by
  cases s with
  | nil => exact Rd.one
  | cons a r =>
    show Rd (if a = sw c then r else c :: a :: r)
    split
    · exact h.tail
    · rename_i n; exact h.cons n
/-- a letter and the one that undoes it -/
theorem psh_back {s : S} {c : Nat} (h : Rd s) (hs : AllL s) (hc : Lt c) : psh (psh s c) (sw c) = s := by
  cases s with
  | nil => show (if c = sw (sw c) then _ else _) = _; rw [if_pos (sw_sw hc).symm]
  | cons a r =>
    by_cases e : a = sw c
    · rw [show psh (a :: r) c = r from if_pos e]
      cases r with
      | nil => rw [e]; rfl
      | cons b q =>
        have n : b ≠ sw a := h [] q a b rfl
        rw [show psh (b :: q) (sw c) = sw c :: b :: q from if_neg (by rw [← e]; exact n), e]
    · rw [show psh (a :: r) c = c :: a :: r from if_neg e]
      show (if c = sw (sw c) then _ else _) = _
      rw [if_pos (sw_sw hc).symm]
/-- .. a whole word -/
def pw (s : S) (w : S) : S := w.foldl psh s
theorem pw_app (s v w : S) : pw s (v ++ w) = pw (pw s v) w := List.foldl_append
theorem pw_snoc (s w : S) (c : Nat) : pw s (w ++ [c]) = psh (pw s w) c := by rw [pw_app]; rfl
theorem pw_ok : ∀ {w s : S}, Rd s → AllL s → AllL w → Rd (pw s w) ∧ AllL (pw s w)
  | [], s, h, k, _ => ⟨h, k⟩
  | c :: w, s, h, k, hw => pw_ok (w := w) (psh_rd h) (psh_all k (hw c List.mem_cons_self)) hw.tail
/-- the undone word -/
def und (w : S) : S := (w.reverse).map sw
theorem und_cons (c : Nat) (w : S) : und (c :: w) = und w ++ [sw c] := by unfold und; simp
theorem pw_und : ∀ {w s : S}, Rd s → AllL s → AllL w → pw s (w ++ und w) = s
  | [], s, _, _, _ => rfl
  | c :: w, s, h, k, hw => by
    rw [und_cons, ← List.append_assoc, pw_snoc]
    show psh (pw (psh s c) (w ++ und w)) (sw c) = s
    have hc := hw c List.mem_cons_self
    rw [pw_und (psh_rd h) (psh_all k hc) hw.tail, psh_back h k hc]
/-- the cut word -/
def ct (w : S) : S := (pw [] w).reverse
theorem snoc_ind {P : S → Prop} (h0 : P []) (hs : ∀ w c, P w → P (w ++ [c])) (w : S) : P w := by
  have : ∀ v : S, P v.reverse := by
    intro v
    induction v with
    | nil => exact h0
    | cons c v ih => rw [List.reverse_cons]; exact hs _ _ ih
  rw [← List.reverse_reverse w]; exact this _
theorem pw_ct {s : S} (h : Rd s) (k : AllL s) (w : S) : AllL w → pw s w = pw s (ct w) := by
  refine snoc_ind (P := fun w => AllL w → pw s w = pw s (ct w)) (fun _ => rfl) (fun w c ih hw => ?_) w
  have hw' : AllL w := fun d hd => hw d (List.mem_append_left _ hd)
  have hc : Lt c := hw c (by simp)
  have ih := ih hw'
  have r0 := pw_ok (w := w) Rd.nil (s := []) (fun _ h => by simp at h) hw'
  rw [pw_snoc, ih]
  unfold ct
  rw [pw_snoc]
  unfold ct at ih
  generalize pw [] w = st at r0
  cases st with
  | nil => rfl
  | cons a r =>
    by_cases e : a = sw c
    · rw [show psh (a :: r) c = r from if_pos e, List.reverse_cons, pw_snoc, e]
      have r1 := pw_ok (w := r.reverse) h k r0.2.tail.rev
      have := psh_back r1.1 r1.2 (sw_lt hc)
      rw [sw_sw hc] at this
      exact this
    · rw [show psh (a :: r) c = c :: a :: r from if_neg e, List.reverse_cons (a := c), pw_snoc]
theorem nilR : Rd [] ∧ AllL [] := ⟨Rd.nil, fun _ h => by simp at h⟩
theorem ct_ok {w : S} (h : AllL w) : Rd (ct w) ∧ AllL (ct w) := by
  have := pw_ok (w := w) nilR.1 nilR.2 h
  exact ⟨this.1.rev this.2, this.2.rev⟩
/-- a cut word stays -/
theorem pw_rd (w : S) : Rd w → AllL w → pw [] w = w.reverse := by
  refine snoc_ind (P := fun w => Rd w → AllL w → pw [] w = w.reverse) (fun _ _ => rfl) (fun w c ih hr hw => ?_) w
  have hw' : AllL w := fun d hd => hw d (List.mem_append_left _ hd)
  have hr' : Rd w := fun p q x y e => hr p (q ++ [c]) x y (by rw [e]; simp)
  rw [pw_snoc, ih hr' hw', List.reverse_append]
  cases e : w.reverse with
  | nil => rfl
  | cons a r =>
    have ew : w = r.reverse ++ [a] := by rw [← List.reverse_reverse w, e, List.reverse_cons]
    have ha : Lt a := hw a (by rw [ew]; simp)
    have hc : Lt c := hw c (by simp)
    have n : c ≠ sw a := hr r.reverse [] a c (by rw [ew]; simp)
    exact if_neg fun z => n (sw_swap ha z hc)
theorem ct_rd {w : S} (h : Rd w) (k : AllL w) : ct w = w := by unfold ct; rw [pw_rd w h k, List.reverse_reverse]
theorem ct_ct {w : S} (h : AllL w) : ct (ct w) = ct w := ct_rd (ct_ok h).1 (ct_ok h).2
/-- cutting does not depend on the order -/
theorem ct_app {v w : S} (h : AllL v) (k : AllL w) : ct (v ++ w) = ct (ct v ++ ct w) := by
  have hv := pw_ok (w := v) nilR.1 nilR.2 h
  unfold ct
  rw [pw_app, pw_app, pw_ct hv.1 hv.2 w k]
  have := pw_ct nilR.1 nilR.2 v h
  unfold ct at this ⊢
  rw [← this]
theorem ct_und0 {w : S} (h : AllL w) : ct (w ++ und w) = [] := by unfold ct; rw [pw_und nilR.1 nilR.2 h]; rfl
theorem psh_sub {s : S} {c d : Nat} (h : d ∈ psh s c) : d ∈ s ∨ d = c := by
  cases s with
  | nil => exact .inr (List.mem_singleton.mp h)
  | cons a r =>
    have h : d ∈ (if a = sw c then r else c :: a :: r) := h
    split at h
    · exact .inl (List.mem_cons_of_mem _ h)
    · exact (List.mem_cons.mp h).elim .inr .inl
theorem pw_sub : ∀ {w s : S} {d : Nat}, d ∈ pw s w → d ∈ s ∨ d ∈ w
  | [], s, d, h => .inl h
  | c :: w, s, d, h => by
    rcases pw_sub (w := w) (s := psh s c) h with q | q
    · rcases psh_sub q with z | z
      · exact .inl z
      · exact .inr (by rw [z]; exact List.mem_cons_self)
    · exact .inr (List.mem_cons_of_mem _ q)
theorem ct_sub {w : S} {d : Nat} (h : d ∈ ct w) : d ∈ w := by
  unfold ct at h
  rcases pw_sub (List.mem_reverse.mp h) with q | q
  · simp at q
  · exact q
end DL

namespace DL
/-! # words of a machine: digits, strings, sections -/
/-- a letter of n states -/
def LtN (n : Nat) (c : Nat) : Prop := (97 ≤ c ∧ c < 97 + n) ∨ (65 ≤ c ∧ c < 65 + n)
theorem LtN.lt {n c : Nat} (hn : n ≤ 8) (h : LtN n c) : Lt c := by unfold LtN at h; unfold Lt; omega
theorem LtN.sw {n c : Nat} (hn : n ≤ 8) (h : LtN n c) : LtN n (sw c) := by unfold LtN at *; unfold DL.sw; split <;> omega
def AllN (n : Nat) (w : S) : Prop := ∀ c ∈ w, LtN n c
theorem AllN.nil {n : Nat} : AllN n [] := fun c h => by simp at h
theorem AllN.all {n : Nat} {w : S} (hn : n ≤ 8) (h : AllN n w) : AllL w := fun c hc => (h c hc).lt hn
theorem AllN.tail {n c : Nat} {w : S} (h : AllN n (c :: w)) : AllN n w := fun d hd => h d (List.mem_cons_of_mem _ hd)
theorem AllN.hd {n c : Nat} {w : S} (h : AllN n (c :: w)) : LtN n c := h c List.mem_cons_self
theorem AllN.cons {n c : Nat} {w : S} (hc : LtN n c) (h : AllN n w) : AllN n (c :: w) := fun d hd => (List.mem_cons.mp hd).elim (fun e => e ▸ hc) (h d)
theorem AllN.sub {n : Nat} {v w : S} (h : AllN n w) (k : ∀ c ∈ v, c ∈ w) : AllN n v := fun d hd => h d (k d hd)
theorem AllN.ct {n : Nat} {w : S} (h : AllN n w) : AllN n (ct w) := h.sub fun _ => ct_sub
theorem AllN.und {n : Nat} {w : S} (hn : n ≤ 8) (h : AllN n w) : AllN n (und w) := fun d hd => by
  unfold DL.und at hd
  obtain ⟨c, hc, rfl⟩ := List.mem_map.mp hd
  exact (h c (List.mem_reverse.mp hc)).sw hn
/-- the digit that is written as y -/
def bk (m : Mac) (s y : Int) : Int := ((((m.2.getD s.toNat []).map Prod.fst).idxOf y : Nat) : Int)
theorem WideM.bk {m : Mac} (w : WideM m) {s y : Int} (h0 : 0 ≤ s) (h1 : s < m.2.length) (y0 : 0 ≤ y) (y1 : y < m.1) :
    0 ≤ bk m s y ∧ bk m s y < m.1 ∧ (ent m s (bk m s y)).1 = y := by
  obtain ⟨_, hr⟩ := w.rowAt h0 h1
  have k0 := w.k0
  have hy : y ∈ (m.2.getD s.toNat []).map Prod.fst := hr.pm.symm.subset (rngL_mem.mpr ⟨y0, y1⟩)
  have hl := List.idxOf_lt_length_iff.mpr hy
  have hl2 := hl
  rw [List.length_map, hr.len] at hl
  have b1 : DL.bk m s y < m.1 := by unfold DL.bk; omega
  have b0 : 0 ≤ DL.bk m s y := by unfold DL.bk; omega
  refine ⟨b0, b1, ?_⟩
  have e := (w.entAt h0 h1 b0 b1).1
  have e2 : ((m.2.getD s.toNat []).map Prod.fst)[(DL.bk m s y).toNat]? = some (ent m s (DL.bk m s y)).1 := by rw [List.getElem?_map, e]; rfl
  have e3 : ((m.2.getD s.toNat []).map Prod.fst)[(DL.bk m s y).toNat]? = some y := by
    unfold DL.bk
    rw [Int.toNat_natCast, List.getElem?_eq_getElem hl2, List.getElem_idxOf]
  rw [e2] at e3
  exact Option.some.inj e3
theorem WideM.bk_of {m : Mac} (w : WideM m) {s x : Int} (h0 : 0 ≤ s) (h1 : s < m.2.length) (x0 : 0 ≤ x) (x1 : x < m.1) : DL.bk m s (ent m s x).1 = x := by
  obtain ⟨_, ⟨e0, e1⟩, _⟩ := w.entAt h0 h1 x0 x1
  obtain ⟨b0, b1, b2⟩ := w.bk h0 h1 e0 e1
  exact w.inj h0 h1 b0 b1 x0 x1 b2
/-- a digit through a letter: the digit, the letter behind -/
def stp (m : Mac) (c : Nat) (x : Int) : Int × Nat :=
  if 97 ≤ c then ((ent m ((c - 97 : Nat) : Int) x).1, 97 + (ent m ((c - 97 : Nat) : Int) x).2.toNat)
  else (bk m ((c - 65 : Nat) : Int) x, 65 + (ent m ((c - 65 : Nat) : Int) (bk m ((c - 65 : Nat) : Int) x)).2.toNat)
theorem stp_small {m : Mac} {i : Nat} {x : Int} : stp m (97 + i) x = ((ent m (i : Int) x).1, 97 + (ent m (i : Int) x).2.toNat) := by
  unfold stp; rw [if_pos (by omega), show 97 + i - 97 = i by omega]
theorem stp_large {m : Mac} {i : Nat} {x : Int} (h : i < 32) : stp m (65 + i) x = (bk m (i : Int) x, 65 + (ent m (i : Int) (bk m (i : Int) x)).2.toNat) := by
  unfold stp; rw [if_neg (by omega), show 65 + i - 65 = i by omega]
theorem LtN.case {n c : Nat} {P : Nat → Prop} (hn : n ≤ 8) (h : LtN n c) (a : ∀ i, i < n → P (97 + i)) (b : ∀ i, i < n → P (65 + i)) : P c := by
  rcases h with h | h
  · have := a (c - 97) (by omega); rwa [show 97 + (c - 97) = c by omega] at this
  · have := b (c - 65) (by omega); rwa [show 65 + (c - 65) = c by omega] at this
/-- digits of a machine -/
def Dg (m : Mac) (x : Int) : Prop := 0 ≤ x ∧ x < m.1
theorem stp_ok {m : Mac} (w : WideM m) (hn : m.2.length ≤ 8) {c : Nat} (hc : LtN m.2.length c) {x : Int} (hx : Dg m x) : Dg m (stp m c x).1 ∧ LtN m.2.length (stp m c x).2 := by
  refine hc.case (P := fun c => Dg m (stp m c x).1 ∧ LtN m.2.length (stp m c x).2) hn (fun i hi => ?_) fun i hi => ?_
  · rw [stp_small]
    obtain ⟨_, e1, e2⟩ := w.entAt (s := (i : Int)) (by omega) (by omega) hx.1 hx.2
    exact ⟨e1, .inl ⟨by dsimp only; omega, by dsimp only; omega⟩⟩
  · rw [stp_large (by omega)]
    obtain ⟨b0, b1, _⟩ := w.bk (s := (i : Int)) (by omega) (by omega) hx.1 hx.2
    obtain ⟨_, e1, e2⟩ := w.entAt (s := (i : Int)) (by omega) (by omega) b0 b1
    exact ⟨⟨b0, b1⟩, .inr ⟨by dsimp only; omega, by dsimp only; omega⟩⟩
/-- a letter and the one that undoes it -/
theorem stp_sw {m : Mac} (w : WideM m) (hn : m.2.length ≤ 8) {c : Nat} (hc : LtN m.2.length c) {x : Int} (hx : Dg m x) : stp m (sw c) (stp m c x).1 = (x, sw (stp m c x).2) := by
  refine hc.case (P := fun c => stp m (sw c) (stp m c x).1 = (x, sw (stp m c x).2)) hn (fun i hi => ?_) fun i hi => ?_
  · rw [stp_small, show sw (97 + i) = 65 + i from by unfold sw; rw [if_pos (by omega)]; omega, stp_large (by omega)]
    dsimp only
    rw [w.bk_of (by omega) (by omega) hx.1 hx.2]
    congr 1
    unfold sw; rw [if_pos (by omega)]; omega
  · rw [stp_large (by omega), show sw (65 + i) = 97 + i from by unfold sw; rw [if_neg (by omega)]; omega, stp_small]
    obtain ⟨b0, b1, b2⟩ := w.bk (s := (i : Int)) (by omega) (by omega) hx.1 hx.2
    obtain ⟨_, e1, e2⟩ := w.entAt (s := (i : Int)) (by omega) (by omega) b0 b1
    dsimp only
    rw [b2]
    congr 1
    unfold sw; rw [if_neg (by omega)]; omega
/-- .. through a word -/
def stw (m : Mac) : S → Int → Int × S
  | [], x => (x, [])
  | c :: w, x => ((stw m w (stp m c x).1).1, (stp m c x).2 :: (stw m w (stp m c x).1).2)
theorem stw_cons (m : Mac) (c : Nat) (w : S) (x : Int) : stw m (c :: w) x = ((stw m w (stp m c x).1).1, (stp m c x).2 :: (stw m w (stp m c x).1).2) := rfl
theorem stw_ok {m : Mac} (w : WideM m) (hn : m.2.length ≤ 8) : ∀ {v : S} {x : Int}, AllN m.2.length v → Dg m x → Dg m (stw m v x).1 ∧ AllN m.2.length (stw m v x).2 ∧ (stw m v x).2.length = v.length
  | [], x, _, hx => ⟨hx, AllN.nil, rfl⟩
  | c :: v, x, hv, hx => by
    obtain ⟨h1, h2⟩ := stp_ok w hn hv.hd hx
    obtain ⟨g1, g2, g3⟩ := stw_ok w hn hv.tail h1
    rw [stw_cons]
    exact ⟨g1, g2.cons h2, by simp [g3]⟩
theorem stw_app (m : Mac) : ∀ (v u : S) (x : Int), stw m (v ++ u) x = ((stw m u (stw m v x).1).1, (stw m v x).2 ++ (stw m u (stw m v x).1).2)
  | [], u, x => rfl
  | c :: v, u, x => by rw [List.cons_append, stw_cons, stw_app m v u, stw_cons]; rfl
/-- .. a string: the image, the section -/
def mvw (m : Mac) : S → S → S × S
  | [], v => ([], v)
  | c :: z, v => (sgn (stw m v ((c : Int) - 48)).1 :: (mvw m z (stw m v ((c : Int) - 48)).2).1, (mvw m z (stw m v ((c : Int) - 48)).2).2)
theorem mvw_cons (m : Mac) (c : Nat) (z v : S) : mvw m (c :: z) v = (sgn (stw m v ((c : Int) - 48)).1 :: (mvw m z (stw m v ((c : Int) - 48)).2).1, (mvw m z (stw m v ((c : Int) - 48)).2).2) := rfl
theorem dg_of {m : Mac} {c : Nat} (h : 48 ≤ c ∧ (c : Int) < 48 + m.1) : Dg m ((c : Int) - 48) := ⟨by omega, by omega⟩
theorem sgn_dg {m : Mac} {x : Int} (h : Dg m x) : 48 ≤ sgn x ∧ (sgn x : Int) < 48 + m.1 := by unfold sgn; have := h.1; have := h.2; omega
theorem sgn_sub {m : Mac} {x : Int} (h : Dg m x) : ((sgn x : Nat) : Int) - 48 = x := by unfold sgn; have := h.1; omega
theorem sgn_of {c : Nat} (h : 48 ≤ c) : sgn ((c : Int) - 48) = c := by unfold sgn; omega
theorem mvw_ok {m : Mac} (w : WideM m) (hn : m.2.length ≤ 8) : ∀ {z v : S}, DgS m.1 z → AllN m.2.length v → DgS m.1 (mvw m z v).1 ∧ (mvw m z v).1.length = z.length ∧ AllN m.2.length (mvw m z v).2 ∧ (mvw m z v).2.length = v.length
  | [], v, _, hv => ⟨DgS.nil, rfl, hv, rfl⟩
  | c :: z, v, hz, hv => by
    obtain ⟨hc, hz⟩ := DgS.cons.mp hz
    obtain ⟨h1, h2, h3⟩ := stw_ok w hn hv (dg_of hc)
    obtain ⟨g1, g2, g3, g4⟩ := mvw_ok w hn hz h2
    rw [mvw_cons]
    exact ⟨DgS.cons.mpr ⟨sgn_dg h1, g1⟩, by simp [g2], g3, by rw [g4, h3]⟩
theorem mvw_app (m : Mac) : ∀ (z y v : S), mvw m (z ++ y) v = ((mvw m z v).1 ++ (mvw m y (mvw m z v).2).1, (mvw m y (mvw m z v).2).2)
  | [], y, v => rfl
  | c :: z, y, v => by rw [List.cons_append, mvw_cons, mvw_app m z y, mvw_cons]; rfl
/-! ## cutting changes nothing -/
theorem stw_psh {m : Mac} (w : WideM m) (hn : m.2.length ≤ 8) {s : S} {c : Nat} (hs : AllN m.2.length s) (hc : LtN m.2.length c) {x : Int} (hx : Dg m x) :
    (stw m (psh s c).reverse x).1 = (stw m (s.reverse ++ [c]) x).1 ∧ ct (stw m (psh s c).reverse x).2 = ct (stw m (s.reverse ++ [c]) x).2 := by
  cases s with
  | nil => exact ⟨rfl, rfl⟩
  | cons a r =>
    by_cases e : a = sw c
    · rw [show psh (a :: r) c = r from if_pos e, List.reverse_cons, List.append_assoc, stw_app]
      have hr : AllN m.2.length r.reverse := hs.tail.sub fun _ h => List.mem_reverse.mp h
      obtain ⟨h1, h2, _⟩ := stw_ok w hn hr hx
      have ha : LtN m.2.length a := hs.hd
      have hca : c = sw a := by rw [e, sw_sw (hc.lt hn)]
      have e2 : stw m ([a] ++ [c]) (stw m r.reverse x).1 = ((stw m r.reverse x).1, [(stp m a (stw m r.reverse x).1).2, sw (stp m a (stw m r.reverse x).1).2]) := by
        show stw m [a, c] _ = _
        rw [stw_cons, stw_cons, hca, stp_sw w hn ha h1]; rfl
      rw [e2]
      refine ⟨rfl, ?_⟩
      dsimp only
      have hl := (stp_ok w hn ha h1).2.lt hn
      have aa : AllL [(stp m a (stw m r.reverse x).1).2, sw (stp m a (stw m r.reverse x).1).2] := fun d hd => by
        simp only [List.mem_cons, List.not_mem_nil, or_false] at hd
        rcases hd with rfl | rfl
        · exact hl
        · exact sw_lt hl
      rw [ct_app (h2.all hn) aa]
      have : ct [(stp m a (stw m r.reverse x).1).2, sw (stp m a (stw m r.reverse x).1).2] = [] := ct_und0 (w := [(stp m a (stw m r.reverse x).1).2]) (fun d hd => by rw [List.mem_singleton.mp hd]; exact hl)
      rw [this, List.append_nil, ct_ct (h2.all hn)]
    · rw [show psh (a :: r) c = c :: a :: r from if_neg e, List.reverse_cons (a := c)]
      exact ⟨rfl, rfl⟩
theorem pw_allN {n : Nat} {w : S} (h : AllN n w) : AllN n (pw [] w) := fun d hd => (pw_sub hd).elim (fun z => by simp at z) (h d)
theorem stw_ct {m : Mac} (w : WideM m) (hn : m.2.length ≤ 8) {x : Int} (hx : Dg m x) (v : S) : AllN m.2.length v → (stw m (ct v) x).1 = (stw m v x).1 ∧ ct (stw m (ct v) x).2 = ct (stw m v x).2 := by
  refine snoc_ind (P := fun v => AllN m.2.length v → (stw m (ct v) x).1 = (stw m v x).1 ∧ ct (stw m (ct v) x).2 = ct (stw m v x).2) (fun _ => ⟨rfl, rfl⟩) (fun v c ih hv => ?_) v
  have hv' : AllN m.2.length v := hv.sub fun d hd => List.mem_append_left _ hd
  have hc : LtN m.2.length c := hv c (by simp)
  obtain ⟨i1, i2⟩ := ih hv'
  obtain ⟨a1, a2⟩ := stw_psh w hn (pw_allN hv') hc hx
  have e : ct (v ++ [c]) = (psh (pw [] v) c).reverse := by unfold ct; rw [pw_snoc]
  have e2 : (pw [] v).reverse = ct v := rfl
  rw [e, a1, a2, e2]
  obtain ⟨h1, h2, _⟩ := stw_ok w hn hv' hx
  obtain ⟨k1, k2, _⟩ := stw_ok w hn hv'.ct hx
  have hs : AllL (stw m [c] (stw m v x).1).2 := ((stw_ok w hn (AllN.nil.cons hc) h1).2.1).all hn
  rw [stw_app, stw_app m v, i1]
  refine ⟨rfl, ?_⟩
  dsimp only
  rw [ct_app (k2.all hn) hs, i2, ← ct_app (h2.all hn) hs]
/-! ## rows, tables -/
def rowL (m : Mac) (c : Nat) : List (Int × S) := (rngL 0 m.1).map fun x => ((stp m c x).1, [(stp m c x).2])
def TabOk (m : Mac) (d : Dct S (List (Int × S))) : Prop := ∀ c, LtN m.2.length c → dget d [c] = some (rowL m c)
/-- the row of a word -/
def rowW (m : Mac) (v : S) : List Int × List S := ((rngL 0 m.1).map fun x => (stw m v x).1, (rngL 0 m.1).map fun x => ct (stw m v x).2)
end DL

namespace DL
open PySem PySem.Spec L2
/-! # how many words are behind a word of a narrow machine -/
structure NarD (m : Mac) (rs : List MRow) (last : MRow) : Prop where
  eq : m.2 = rs ++ [last]
  len : rs.length ≤ 3
  frw : ∀ w ∈ rs, ∃ f : Int, 0 ≤ f ∧ f < rs.length ∧ ∀ e ∈ w, e.2 = f ∨ e.2 = (rs.length : Int)
  lst : ∀ e ∈ last, e.2 = (rs.length : Int)
def Nar (m : Mac) : Prop := m.2.length ≤ 3 ∨ ∃ rs last, NarD m rs last
theorem Nar.len {m : Mac} (h : Nar m) : m.2.length ≤ 4 := by
  rcases h with h | ⟨rs, last, h⟩
  · omega
  · have := h.len
    rw [h.eq, List.length_append, List.length_singleton]; omega
theorem nd_le {α : Type} [DecidableEq α] : ∀ {l c : List α}, l.Nodup → (∀ x ∈ l, x ∈ c) → l.length ≤ c.length
  | [], c, _, _ => Nat.zero_le _
  | a :: l, c, h, k => by
    have ha := k a List.mem_cons_self
    obtain ⟨h1, h2⟩ := List.nodup_cons.mp h
    have := nd_le (c := c.erase a) h2 fun x hx => (List.mem_erase_of_ne (fun e => h1 (by rw [← e]; exact hx))).mpr (k x (List.mem_cons_of_mem _ hx))
    rw [List.length_erase_of_mem ha] at this
    have hp : 0 < c.length := List.length_pos_of_mem ha
    rw [List.length_cons]; omega
/-- all words with a choice for each letter -/
def cwds (o : Nat → List Nat) : S → List S
  | [] => [[]]
  | c :: w => (o c).flatMap fun d => (cwds o w).map (d :: ·)
/-- what a word leads to: a list of words that is closed -/
structure ClO (m : Mac) (v : S) (P : S → Prop) (C : List S) : Prop where
  self : P v
  all : ∀ u, P u → AllN m.2.length u
  len : ∀ u, P u → u.length = v.length
  mem : ∀ u, P u → u ∈ C
  sec : ∀ u x, P u → Dg m x → P (stw m u x).2
def op3 (c : Nat) : List Nat := if 97 ≤ c then [97, 98, 99] else [65, 66, 67]
def ltr (c i : Nat) : Nat := if 97 ≤ c then 97 + i else 65 + i
def sta (c : Nat) : Nat := if 97 ≤ c then c - 97 else c - 65
def opg (l : Nat) (g : Nat → Nat) (c : Nat) : List Nat := [if sta c = l then ltr c l else ltr c (g (sta c)), ltr c l]
def gj (j i : Nat) : Nat := if i = 0 then j % 3 else if i = 1 then j / 3 % 3 else j / 9
end DL

namespace DL
open PySem PySem.Spec L2
/-! # dicts as sets, words found in order -/
theorem dhas_get' {κ α : Type} [DecidableEq κ] (d : Dct κ α) (k : κ) : dhas d k = true ↔ ∃ a, (k, a) ∈ d := by
  unfold dhas
  rw [List.any_eq_true]
  constructor
  · rintro ⟨⟨a, b⟩, h, e⟩
    have : a = k := of_decide_eq_true e
    exact ⟨b, this ▸ h⟩
  · rintro ⟨a, h⟩; exact ⟨_, h, decide_eq_true rfl⟩
theorem dhas_putG {κ α : Type} [DecidableEq κ] (d : Dct κ α) (k y : κ) (b : α) : dhas (dput d k b) y = true ↔ y = k ∨ dhas d y = true := by
  unfold dput
  split
  · rename_i h
    rw [dhas_get', dhas_get']
    constructor
    · rintro ⟨a, ha⟩
      obtain ⟨⟨p, q⟩, hp, e⟩ := List.mem_map.mp ha
      dsimp only at e
      split at e
      · injection e with e1 e2; subst e1; rename_i e3; exact .inl e3
      · injection e with e1 e2; subst e1; exact .inr ⟨_, hp⟩
    · rintro (g | ⟨a, ha⟩)
      · obtain ⟨a, ha⟩ := (dhas_get' d k).mp h
        refine ⟨b, List.mem_map.mpr ⟨(k, a), ha, ?_⟩⟩
        rw [if_pos rfl, g]
      · by_cases c : y = k
        · refine ⟨b, List.mem_map.mpr ⟨(y, a), ha, ?_⟩⟩
          rw [if_pos c]
        · refine ⟨a, List.mem_map.mpr ⟨(y, a), ha, ?_⟩⟩
          rw [if_neg c]
  · rw [dhas_get', dhas_get']
    constructor
    · rintro ⟨a, ha⟩
      rcases List.mem_append.mp ha with g | g
      · exact .inr ⟨a, g⟩
      · have := List.mem_singleton.mp g
        injection this with e1 e2; exact .inl e1
    · rintro (g | ⟨a, ha⟩)
      · exact ⟨b, by rw [g]; simp⟩
      · exact ⟨a, List.mem_append.mpr (.inl ha)⟩
structure Kn {κ : Type} [DecidableEq κ] (d : Dct κ Bool) (ws : List κ) : Prop where
  has : ∀ x, dhas d x = true ↔ x ∈ ws
  len : d.length ≤ ws.length
theorem Kn.one {κ : Type} [DecidableEq κ] (x : κ) : Kn [(x, true)] [x] := ⟨fun y => by
  rw [dhas_get']
  constructor
  · rintro ⟨a, h⟩
    have := List.mem_singleton.mp h
    injection this with e1 e2; rw [e1]; simp
  · intro h; exact ⟨true, by rw [List.mem_singleton.mp h]; simp⟩, by simp⟩
def addN {κ : Type} [DecidableEq κ] (ws : List κ) (s : κ) : List κ := if s ∈ ws then ws else ws ++ [s]
/-! words in order -/
def kpd (m : Mac) (u : S) : Bool := (rngL 0 m.1).all fun x => decide ((stw m u x).1 = x)
theorem kpd_iff {m : Mac} {u : S} : kpd m u = true ↔ ∀ x, Dg m x → (stw m u x).1 = x := by
  unfold kpd
  rw [List.all_eq_true]
  exact ⟨fun h x hx => of_decide_eq_true (h x (rngL_mem.mpr hx)), fun h x hx => decide_eq_true (h x (rngL_mem.mp hx))⟩
def scs (m : Mac) (y : S) : List S := (rngL 0 m.1).map fun x => ct (stw m y x).2
def bst (m : Mac) (v : S) : Nat → Option (List S)
  | 0 => some [ct v]
  | i + 1 => match bst m v i with
    | none => none
    | some ws => match ws[i]? with
      | none => some ws
      | some y => if kpd m y = true then some ((scs m y).foldl addN ws) else none
/-- a closed list -/
def ClW (m : Mac) (ws : List S) : Prop := ws.Nodup ∧ ∀ v ∈ ws, AllN m.2.length v ∧ ct v = v ∧ ∀ x, Dg m x → (stw m v x).1 = x ∧ ct (stw m v x).2 ∈ ws
end DL

namespace DL
open PySem PySem.Spec L2
/-! # first strings that are moved -/
/-- a text's place, the shorter ones first -/
def vl (z : S) : Nat := z.foldl (fun n c => 5 * n + (c - 47)) 0
theorem vl_snoc (z : S) (c : Nat) : vl (z ++ [c]) = 5 * vl z + (c - 47) := by unfold vl; rw [List.foldl_append]; rfl
theorem vl_app (z : S) : ∀ y : S, vl z ≤ vl (z ++ y) := by
  intro y
  induction y using snoc_ind with
  | h0 => simp
  | hs y c ih => rw [← List.append_assoc, vl_snoc]; omega
theorem vl_lt {z : S} {k : Int} {y : S} (h : DgS k y) (hne : y ≠ []) : vl z < vl (z ++ y) := by
  induction y using snoc_ind with
  | h0 => exact absurd rfl hne
  | hs y c ih =>
    have hc := h c (by simp)
    rw [← List.append_assoc, vl_snoc]
    have := vl_app z y
    omega
def Kp (m : Mac) (v z : S) : Prop := (mvw m z v).1 = z
theorem kp_snoc {m : Mac} (w : WideM m) (hn : m.2.length ≤ 8) {v z : S} {c : Nat} (hv : AllN m.2.length v) (hz : DgS m.1 z) (hc : 48 ≤ c ∧ (c : Int) < 48 + m.1) : Kp m v (z ++ [c]) ↔ Kp m v z ∧ (stw m (mvw m z v).2 ((c : Int) - 48)).1 = (c : Int) - 48 := by
  unfold Kp
  rw [mvw_app]
  dsimp only
  rw [mvw_cons]
  have hl := (mvw_ok w hn hz hv).2.1
  have ha := (mvw_ok w hn hz hv).2.2.1
  have hs := (stw_ok w hn ha (dg_of hc)).1
  have e0 : (mvw m [] (stw m (mvw m z v).2 ((c : Int) - 48)).2).1 = [] := rfl
  rw [e0]
  constructor
  · intro h
    obtain ⟨h1, h2⟩ := List.append_inj h hl
    refine ⟨h1, ?_⟩
    injection h2 with h2 _
    have := sgn_sub hs
    rw [h2] at this
    exact this.symm
  · rintro ⟨h1, h2⟩
    rw [h1, h2, sgn_of hc.1]
theorem sec_snoc {m : Mac} {v z : S} {c : Nat} : (mvw m (z ++ [c]) v).2 = (stw m (mvw m z v).2 ((c : Int) - 48)).2 := by
  rw [mvw_app]; rfl
/-- a text that is moved has a least part that is moved -/
theorem mv_part {m : Mac} (w : WideM m) (hn : m.2.length ≤ 8) {v : S} (hv : AllN m.2.length v) : ∀ z : S, DgS m.1 z → ¬ Kp m v z → ∃ (y : S) (c : Nat) (r : S), z = y ++ [c] ++ r ∧ Kp m v y ∧ ¬ Kp m v (y ++ [c]) := by
  intro z
  induction z using snoc_ind with
  | h0 => intro _ h; exact absurd rfl h
  | hs z c ih =>
    intro hz h
    have hz' : DgS m.1 z := fun d hd => hz d (by simp [hd])
    by_cases hk : Kp m v z
    · exact ⟨z, c, [], by simp, hk, h⟩
    · obtain ⟨y, d, r, e, h1, h2⟩ := ih hz' hk
      exact ⟨y, d, r ++ [c], by rw [e]; simp, h1, h2⟩
structure Bq (m : Mac) (v : S) (d : Dct S Bool) (q : List (S × S)) (i : Nat) : Prop where
  kn : Kn d (q.map Prod.snd)
  nd : (q.map Prod.snd).Nodup
  hd : q[0]? = some ([], ct v)
  en : ∀ e ∈ q, DgS m.1 e.1 ∧ Kp m v e.1 ∧ e.2 = ct (mvw m e.1 v).2 ∧ e.1.length ≤ i
  pr : ∀ (j : Nat) e, j < i → q[j]? = some e → kpd m e.2 = true ∧ ∀ x, Dg m x → ∃ e' ∈ q, e'.2 = ct (stw m e.2 x).2 ∧ vl e'.1 ≤ 5 * vl e.1 + (x.toNat + 1)
  inc : ∀ (a b : Nat) ea eb, a < b → q[a]? = some ea → q[b]? = some eb → vl ea.1 < vl eb.1
  bd : ∃ B, (∀ e ∈ q, vl e.1 ≤ B) ∧ ∀ (j : Nat) e, i ≤ j → q[j]? = some e → B < 5 * vl e.1 + 1
theorem Bq.start (m : Mac) (v : S) : Bq m v [(ct v, true)] [([], ct v)] 0 where
  kn := Kn.one _
  nd := by simp
  hd := rfl
  en := fun e he => by
    rw [List.mem_singleton.mp he]
    exact ⟨DgS.nil, rfl, rfl, Nat.le_refl _⟩
  pr := fun j e hj => by omega
  inc := fun a b ea eb hab h1 h2 => by
    have := (List.getElem?_eq_some_iff.mp h2).1
    simp at this
    omega
  bd := ⟨0, fun e he => by rw [List.mem_singleton.mp he]; exact Nat.le_refl _, fun j e _ he => by omega⟩
/-- the part of a turn -/
structure Bi (m : Mac) (v : S) (d : Dct S Bool) (q q0 : List (S × S)) (i : Nat) (e0 : S × S) (n : Nat) : Prop where
  kn : Kn d (q.map Prod.snd)
  nd : (q.map Prod.snd).Nodup
  ext : ∃ ext, q = q0 ++ ext
  en : ∀ e ∈ q, DgS m.1 e.1 ∧ Kp m v e.1 ∧ e.2 = ct (mvw m e.1 v).2 ∧ e.1.length ≤ i + 1
  pr : ∀ x : Int, 0 ≤ x → x < n → x < m.1 → (stw m e0.2 x).1 = x ∧ ∃ e' ∈ q, e'.2 = ct (stw m e0.2 x).2 ∧ vl e'.1 ≤ 5 * vl e0.1 + (x.toNat + 1)
  inc : ∀ (a b : Nat) ea eb, a < b → q[a]? = some ea → q[b]? = some eb → vl ea.1 < vl eb.1
  bd : ∀ e ∈ q, vl e.1 ≤ 5 * vl e0.1 + n
theorem Bq.turn {m : Mac} {v : S} {d : Dct S Bool} {q : List (S × S)} {i : Nat} {e0 : S × S} (h : Bq m v d q i) (he : q[i]? = some e0) : Bi m v d q q i e0 0 where
  kn := h.kn
  nd := h.nd
  ext := ⟨[], by simp⟩
  en := fun e hm => by obtain ⟨a, b, c, l⟩ := h.en e hm; exact ⟨a, b, c, by omega⟩
  pr := fun x h0 h1 => by omega
  inc := h.inc
  bd := fun e hm => by
    obtain ⟨B, b1, b2⟩ := h.bd
    have := b1 e hm
    have := b2 i e0 (Nat.le_refl _) he
    omega
theorem Bi.done {m : Mac} (w : WideM m) {v : S} {d d' : Dct S Bool} {q q' : List (S × S)} {i : Nat} {e0 : S × S} (h : Bq m v d q i) (he : q[i]? = some e0) (k : Bi m v d' q' q i e0 m.1.toNat) : Bq m v d' q' (i + 1) where
  kn := k.kn
  nd := k.nd
  hd := by
    obtain ⟨ext, e⟩ := k.ext
    have := (List.getElem?_eq_some_iff.mp h.hd).1
    rw [e, List.getElem?_append_left this]; exact h.hd
  en := k.en
  pr := fun j e hj ej => by
    obtain ⟨ext, ee⟩ := k.ext
    have hil := (List.getElem?_eq_some_iff.mp he).1
    rw [ee, List.getElem?_append_left (by omega)] at ej
    by_cases c : j < i
    · obtain ⟨a, b⟩ := h.pr j e c ej
      refine ⟨a, fun x hx => ?_⟩
      obtain ⟨e', h1, h2, h3⟩ := b x hx
      exact ⟨e', by rw [ee]; exact List.mem_append.mpr (.inl h1), h2, h3⟩
    · have : j = i := by omega
      subst this
      rw [he] at ej
      injection ej with ej; subst ej
      have k0 := w.k0
      refine ⟨kpd_iff.mpr fun x hx => (k.pr x hx.1 (by have := hx.2; omega) hx.2).1, fun x hx => (k.pr x hx.1 (by have := hx.2; omega) hx.2).2⟩
  inc := k.inc
  bd := by
    refine ⟨5 * vl e0.1 + m.1.toNat, k.bd, fun j e hj ej => ?_⟩
    obtain ⟨ext, ee⟩ := k.ext
    have hil := (List.getElem?_eq_some_iff.mp he).1
    have he' : q'[i]? = some e0 := by rw [ee, List.getElem?_append_left hil]; exact he
    have := k.inc i j e0 e (by omega) he' ej
    have := w.k1
    omega
/-- all texts are kept where no more is to look at -/
theorem Bq.all {m : Mac} (w : WideM m) (hn : m.2.length ≤ 8) {v : S} (hv : AllN m.2.length v) {d : Dct S Bool} {q : List (S × S)} {i : Nat} (h : Bq m v d q i) (hi : q.length ≤ i) : ∀ z, DgS m.1 z → Kp m v z ∧ ∃ e ∈ q, e.2 = ct (mvw m z v).2 := by
  intro z
  induction z using snoc_ind with
  | h0 => intro _; exact ⟨rfl, _, List.mem_of_getElem? h.hd, rfl⟩
  | hs z c ih =>
    intro hz
    have hz' : DgS m.1 z := fun d hd => hz d (by simp [hd])
    have hc := hz c (by simp)
    obtain ⟨k, e, em, ee⟩ := ih hz'
    obtain ⟨j, ej⟩ := List.getElem?_of_mem em
    have hj := (List.getElem?_eq_some_iff.mp ej).1
    obtain ⟨p1, p2⟩ := h.pr j e (by omega) ej
    have dx := dg_of (m := m) hc
    have sa := (mvw_ok w hn hz' hv).2.2.1
    have sc := stw_ct w hn dx _ sa
    rw [ee] at p1
    have kx := kpd_iff.mp p1 _ dx
    rw [sc.1] at kx
    obtain ⟨e', h1, h2, _⟩ := p2 _ dx
    refine ⟨(kp_snoc w hn hv hz' hc).mpr ⟨k, kx⟩, e', h1, ?_⟩
    rw [h2, ee, sc.2, sec_snoc]
/-- each text has a part that is looked at, the whole or a later one -/
theorem Bq.rep {m : Mac} (w : WideM m) (hn : m.2.length ≤ 8) {v : S} (hv : AllN m.2.length v) {d : Dct S Bool} {q : List (S × S)} {i : Nat} (h : Bq m v d q i) : ∀ y, DgS m.1 y → ∃ (y1 r : S) (j : Nat) (e : S × S), y = y1 ++ r ∧ q[j]? = some e ∧ e.2 = ct (mvw m y1 v).2 ∧ vl e.1 ≤ vl y1 ∧ (r = [] ∨ i ≤ j) := by
  intro y
  induction y using snoc_ind with
  | h0 => intro _; exact ⟨[], [], 0, _, rfl, h.hd, rfl, Nat.le_refl _, .inl rfl⟩
  | hs y c ih =>
    intro hy
    have hy' : DgS m.1 y := fun d hd => hy d (by simp [hd])
    have hc := hy c (by simp)
    obtain ⟨y1, r, j, e, e1, e2, e3, e4, e5⟩ := ih hy'
    by_cases hj : i ≤ j
    · exact ⟨y1, r ++ [c], j, e, by rw [e1, List.append_assoc], e2, e3, e4, .inr hj⟩
    · have hr : r = [] := e5.resolve_right hj
      subst hr
      rw [List.append_nil] at e1
      subst e1
      obtain ⟨p1, p2⟩ := h.pr j e (by omega) e2
      have dx := dg_of (m := m) hc
      have sa := (mvw_ok w hn hy' hv).2.2.1
      have sc := stw_ct w hn dx _ sa
      obtain ⟨e', h1, h2, h3⟩ := p2 _ dx
      obtain ⟨j', ej'⟩ := List.getElem?_of_mem h1
      refine ⟨y ++ [c], [], j', e', by simp, ej', ?_, ?_, .inl rfl⟩
      · rw [h2, e3, sc.2, sec_snoc]
      · rw [vl_snoc]
        have : ((c : Int) - 48).toNat + 1 = c - 47 := by omega
        omega
theorem Bq.least {m : Mac} (w : WideM m) (hn : m.2.length ≤ 8) {v : S} (hv : AllN m.2.length v) {d : Dct S Bool} {q : List (S × S)} {i : Nat} (h : Bq m v d q i) {e0 : S × S} (he : q[i]? = some e0) {x : Nat} (hx : (x : Int) < m.1) (kept : ∀ y : Int, 0 ≤ y → y < x → (stw m e0.2 y).1 = y) (mv : (stw m e0.2 (x : Int)).1 ≠ x) :
    DgS m.1 (e0.1 ++ [48 + x]) ∧ ¬ Kp m v (e0.1 ++ [48 + x]) ∧ ∀ z, DgS m.1 z → ¬ Kp m v z → vl (e0.1 ++ [48 + x]) ≤ vl z := by
  obtain ⟨a1, a2, a3, _⟩ := h.en e0 (List.mem_of_getElem? he)
  have k1 := w.k1
  have hc : 48 ≤ 48 + x ∧ ((48 + x : Nat) : Int) < 48 + m.1 := by omega
  have hdg : DgS m.1 (e0.1 ++ [48 + x]) := a1.add fun c hc' => by rw [List.mem_singleton.mp hc']; exact hc
  have sub : ((48 + x : Nat) : Int) - 48 = (x : Int) := by omega
  have dx : Dg m (x : Int) := ⟨by omega, hx⟩
  have sa := (mvw_ok w hn a1 hv).2.2.1
  refine ⟨hdg, fun hk => ?_, fun z hz hm => ?_⟩
  · have := ((kp_snoc w hn hv a1 hc).mp hk).2
    rw [sub] at this
    rw [a3, (stw_ct w hn dx _ sa).1] at mv
    exact mv this
  · obtain ⟨y, c, r, ez, hy, hyc⟩ := mv_part w hn hv z hz hm
    have hyd : DgS m.1 y := fun d hd => hz d (by rw [ez]; simp [hd])
    have hcd := hz c (by rw [ez]; simp)
    have le1 : vl (y ++ [c]) ≤ vl z := by rw [ez]; exact vl_app _ _
    refine Nat.le_trans ?_ le1
    rw [vl_snoc, vl_snoc]
    have hmv : (stw m (mvw m y v).2 ((c : Int) - 48)).1 ≠ (c : Int) - 48 := fun q => hyc ((kp_snoc w hn hv hyd hcd).mpr ⟨hy, q⟩)
    have dc := dg_of (m := m) hcd
    have sy := (mvw_ok w hn hyd hv).2.2.1
    obtain ⟨y1, r1, j, e, e1, e2, e3, e4, e5⟩ := h.rep w hn hv y hyd
    by_cases hr : r1 = []
    · subst hr
      rw [List.append_nil] at e1
      subst e1
      have hmv' : (stw m e.2 ((c : Int) - 48)).1 ≠ (c : Int) - 48 := by rw [e3, (stw_ct w hn dc _ sy).1]; exact hmv
      rcases Nat.lt_trichotomy j i with g | g | g
      · exact absurd (kpd_iff.mp (h.pr j e g e2).1 _ dc) hmv'
      · subst g
        rw [he] at e2
        injection e2 with e2; subst e2
        have : ¬ ((c : Int) - 48 < x) := fun q => hmv' (kept _ dc.1 q)
        omega
      · have := h.inc i j e0 e g he e2
        omega
    · have g := e5.resolve_left hr
      have hrd : DgS m.1 r1 := fun d hd => hyd d (by rw [e1]; simp [hd])
      have l1 : vl y1 < vl y := by
        have := vl_lt (z := y1) hrd hr
        rw [e1]; exact this
      have l2 : vl e0.1 ≤ vl e.1 := by
        rcases Nat.eq_or_lt_of_le g with q | q
        · subst q
          rw [he] at e2
          injection e2 with e2
          rw [e2]; exact Nat.le_refl _
        · exact Nat.le_of_lt (h.inc i j e0 e q he e2)
      omega
theorem ClO.mv {m : Mac} {v : S} {P : S → Prop} {C : List S} (c : ClO m v P C) : ∀ {z u : S}, DgS m.1 z → P u → P (mvw m z u).2
  | [], u, _, hu => hu
  | d :: z, u, hz, hu => by
    obtain ⟨h1, h2⟩ := DgS.cons.mp hz
    rw [mvw_cons]
    exact c.mv h2 (c.sec u _ hu (dg_of h1))
theorem Bi.same {m : Mac} {v : S} {d d' : Dct S Bool} {q q' : List (S × S)} {i n : Nat} {e0 : S × S} (k : Bi m v d' q' q i e0 n) (kept : (stw m e0.2 (n : Int)).1 = n) (hin : ct (stw m e0.2 (n : Int)).2 ∈ q'.map Prod.snd) : Bi m v d' q' q i e0 (n + 1) where
  kn := k.kn
  nd := k.nd
  ext := k.ext
  en := k.en
  pr := fun x h0 h1 h2 => by
    by_cases c : x < n
    · exact k.pr x h0 c h2
    · have : x = (n : Int) := by omega
      subst this
      obtain ⟨e', he', e2⟩ := List.mem_map.mp hin
      have := k.bd e' he'
      exact ⟨kept, e', he', e2, by omega⟩
  inc := k.inc
  bd := fun e he => by have := k.bd e he; omega
theorem Bi.add {m : Mac} (w : WideM m) (hn : m.2.length ≤ 8) {v : S} (hv : AllN m.2.length v) {d d' : Dct S Bool} {q q' : List (S × S)} {i n : Nat} {e0 : S × S} (h : Bq m v d q i) (he : q[i]? = some e0) (k : Bi m v d' q' q i e0 n) (hx : (n : Int) < m.1) (kept : (stw m e0.2 (n : Int)).1 = n) (hin : ct (stw m e0.2 (n : Int)).2 ∉ q'.map Prod.snd) : Bi m v (dput d' (ct (stw m e0.2 (n : Int)).2) true) (q' ++ [(e0.1 ++ [48 + n], ct (stw m e0.2 (n : Int)).2)]) q i e0 (n + 1) := by
  obtain ⟨a1, a2, a3, a4⟩ := h.en e0 (List.mem_of_getElem? he)
  have hc : 48 ≤ 48 + n ∧ ((48 + n : Nat) : Int) < 48 + m.1 := by omega
  have sub : ((48 + n : Nat) : Int) - 48 = (n : Int) := by omega
  have dx : Dg m (n : Int) := ⟨by omega, hx⟩
  have sa := (mvw_ok w hn a1 hv).2.2.1
  have sc := stw_ct w hn dx _ sa
  have vv : vl (e0.1 ++ [48 + n]) = 5 * vl e0.1 + (n + 1) := by rw [vl_snoc]; omega
  refine ⟨⟨fun x => ?_, ?_⟩, ?_, ?_, fun e hm => ?_, fun x h0 h1 h2 => ?_, fun a b ea eb hab h1 h2 => ?_, fun e hm => ?_⟩
  · rw [dhas_putG, k.kn.has, List.map_append, List.mem_append]
    constructor
    · rintro (g | g)
      · exact .inr (by rw [g]; simp)
      · exact .inl g
    · rintro (g | g)
      · exact .inr g
      · exact .inl (by simpa using g)
  · have := dput_len d' (ct (stw m e0.2 (n : Int)).2) true
    have := k.kn.len
    rw [List.length_map] at this
    rw [List.length_map, List.length_append, List.length_singleton]; omega
  · rw [List.map_append]
    refine List.nodup_append.mpr ⟨k.nd, by simp, fun x hx y hy e => hin ?_⟩
    have hy' : y = ct (stw m e0.2 (n : Int)).2 := by simpa using hy
    rw [← hy', ← e]; exact hx
  · obtain ⟨ext, e⟩ := k.ext
    exact ⟨ext ++ [_], by rw [e, List.append_assoc]⟩
  · rcases List.mem_append.mp hm with g | g
    · exact k.en e g
    · rw [List.mem_singleton.mp g]
      refine ⟨a1.add fun c hc' => by rw [List.mem_singleton.mp hc']; exact hc, (kp_snoc w hn hv a1 hc).mpr ⟨a2, ?_⟩, ?_, ?_⟩
      · rw [sub]
        rw [a3, sc.1] at kept
        exact kept
      · dsimp only
        rw [sec_snoc, sub, a3, sc.2]
      · dsimp only
        rw [List.length_append, List.length_singleton]; omega
  · by_cases c : x < n
    · obtain ⟨p1, e', p2, p3⟩ := k.pr x h0 c h2
      exact ⟨p1, e', List.mem_append.mpr (.inl p2), p3⟩
    · have : x = (n : Int) := by omega
      subst this
      exact ⟨kept, _, List.mem_append.mpr (.inr (List.mem_singleton.mpr rfl)), rfl, by dsimp only; omega⟩
  · have hb := (List.getElem?_eq_some_iff.mp h2).1
    rw [List.length_append, List.length_singleton] at hb
    rw [List.getElem?_append_left (by omega)] at h1
    by_cases c : b < q'.length
    · rw [List.getElem?_append_left c] at h2
      exact k.inc a b ea eb hab h1 h2
    · rw [List.getElem?_append_right (by omega), show b - q'.length = 0 by omega] at h2
      have h2' : (e0.1 ++ [48 + n], ct (stw m e0.2 (n : Int)).2) = eb := by simpa using h2
      have := k.bd ea (List.mem_of_getElem? h1)
      rw [← h2']
      dsimp only
      omega
  · rcases List.mem_append.mp hm with g | g
    · have := k.bd e g; omega
    · rw [List.mem_singleton.mp g]
      dsimp only
      omega
/-! ## places of texts -/
/-- all texts of a length in order -/
def lev (k : Int) : Nat → List S
  | 0 => [[]]
  | n + 1 => (lev k n).flatMap fun s => (rngL 0 k).map fun d => s ++ [sgn d]
end DL

namespace DL
open PySem PySem.Spec L2
/-! # levels: the texts of n digits, in order -/
def dig (k : Nat) : Nat → Nat → S
  | 0, _ => []
  | n + 1, j => dig k n (j / k) ++ [48 + j % k]
def txs (k n : Nat) : List S := (List.range (k ^ n)).map (dig k n)
def num (k : Int) (z : S) : Int := z.foldl (fun (a : Int) (c : Nat) => k * a + ((c : Int) - 48)) 0
/-! ## the image of a level -/
def kN (m : Mac) : Nat := m.1.toNat
def lvN (m : Mac) (v : S) (n : Nat) : List Int := (txs (kN m) n).map fun z => num m.1 (mvw m z v).1
def lvS (m : Mac) (v : S) (n : Nat) : List S := (txs (kN m) n).map fun z => ct (mvw m z v).2
end DL

namespace DL
open PySem PySem.Spec L2
/-! # levels: numbers and strings there and back -/
section
variable {m : Mac}
end
end DL

namespace DL
open PySem PySem.Spec L2
/-! # loops that raise -/
section
variable {α σ : Type}
end
/-! # powers of words -/
def rp (f : S) (n : Nat) : S := (List.replicate n f).flatten
/-- a word to an exponent -/
def sp (f : S) (e : Int) : S := rp (if e < 0 then und f else f) e.natAbs
end DL

namespace Law
open DL PySem PySem.Spec L2
noncomputable section
/-! q_cell(q_script, q_k): 0 q_script, 1 q_k -/
def b_q_cell : M Fl :=
    sSeq (sIf (eTest (eB cLtG (eVar 1) (eCallB fLen (aCons (pk (eVar 0)) (aNil))))) (sRet (eB ixD (eVar 0) (eVar 1))) (sNil))
    (sRet (eC (.int 0)))
def f_q_cell : FSem := bodyF 2 none b_q_cell
/-! q_arranged(q_value, q_size): 0 q_value, 1 q_size, 2 q_left, 3 q_row, 4 q_k, 5 q_at -/
def b_q_arranged : M Fl :=
    sSeq (sAsg (eU bLrg1 (eVar 1)) (setSl 2))
    (sSeq (sAsg (eLst (aNil)) (setSl 3))
    (sSeq (sFor (iRng1 (aCons (esc (eVar 1)) (aNil))) (setSl 4) (sSeq (sAsg (eB bMod (eVar 0) (eCallB fLen (aCons (pk (eVar 2)) (aNil)))) (setSl 5))
    (sSeq (sAsg (eB bFdiv (eVar 0) (eCallB fLen (aCons (pk (eVar 2)) (aNil)))) (setSl 0))
    (sSeq (sExpr (eMut "list" uAppend (eVar 3) (aCons (esc (eB ixD (eVar 2) (eVar 5))) (aNil))))
    (sAsg (eB bAdd (eSl (eVar 2) (eNoPart) (ePart (eVar 5))) (eSl (eVar 2) (ePart (eB bAdd (eVar 5) (eC (.int 1)))) (eNoPart))) (setSl 2))))))
    (sRet (eCallB fTupleX (aCons (pk (eVar 3)) (aNil))))))
def f_q_arranged : FSem := bodyF 6 none b_q_arranged
/-! q_rows(q_cell_here, q_second, q_size): 0 q_cell_here, 1 q_second, 2 q_size, 3 q_rows_here, 4 q_k -/
def b_q_rows : M Fl :=
    sSeq (sAsg (eLst (aNil)) (setSl 3))
    (sSeq (sFor (iRng1 (aCons (esc (eB bAdd (eC (.int 1)) (eB bMod (eVar 0) (eC (.int 3))))) (aNil))) (setSl 4) (sExpr (eMut "list" uAppend (eVar 3) (aCons (esc (eCall none f_q_arranged (chkN 2 (aCons (esc (eB bAdd (eB bAdd (eB bFdiv (eVar 0) (eC (.int 3))) (eB bMul (eC (.int 977)) (eVar 4))) (eVar 1))) (aCons (esc (eVar 2)) (aNil)))))) (aNil)))))
    (sRet (eCallB fTuple (aCons (pk (eVar 3)) (aNil)))))
def f_q_rows : FSem := bodyF 5 none b_q_rows
/-! q_near(q_graph, q_number): 0 q_graph, 1 q_number, 2 q_found, 3 q_row -/
def b_q_near : M Fl :=
    sSeq (sAsg (eLst (aNil)) (setSl 2))
    (sSeq (sFor (iSeq (eVar 0)) (setSl 3) (sAsg (eB bAdd (eVar 2) (eLst (aCons (esc (eB ixD (wkM (eVar 3)) (eVar 1))) (aCons (esc (eMethU mIndexU (eVar 3) (aCons (pk (eVar 1)) (aNil)))) (aNil))))) (setSl 2)))
    (sRet (eVar 2)))
def f_q_near : FSem := bodyF 4 none b_q_near
/-! q_standard(q_graph, q_number): 0 q_graph, 1 q_number, 2 q_order, 3 q_place, 4 q_other, 5 q_row, 6 q_one -/
def b_q_standard : M Fl :=
    sSeq (sAsg (eLst (aCons (esc (eVar 1)) (aNil))) (setSl 2))
    (sSeq (sSeq (sFor (iRng1 (aCons (esc (eCallB fLen (aCons (pk (wkM (eB ixD (eVar 0) (eC (.int 0))))) (aNil)))) (aNil))) (setSl 3) (sSeq (sIf (eTest (eB cEq (eVar 3) (eCallB fLen (aCons (pk (eVar 2)) (aNil))))) (sBrk) (sNil))
    (sFor (iSeq (eCall none f_q_near (chkN 2 (aCons (esc (eVar 0)) (aCons (esc (eB ixD (eVar 2) (eVar 3))) (aNil)))))) (setSl 4) (sIf (eTest (eB (cIn true) (eVar 4) (eVar 2))) (sExpr (eMut "list" uAppend (eVar 2) (aCons (esc (eVar 4)) (aNil)))) (sNil))))) (frzS 2))
    (sRet (eCallB fTuple (aCons (pk (eLc (iSeq (eVar 0)) (setSl 5) (cYes) (eCallB fTuple (aCons (pk (eLc (iSeq (eVar 2)) (setSl 6) (cYes) (eMeth "list" mIndexL (eVar 2) (aCons (pk (eB ixD (wkM (eVar 5)) (eVar 6))) (aNil))) [6])) (aNil))) [5])) (aNil)))))
def f_q_standard : FSem := bodyF 7 none b_q_standard
/-! q_layers(q_graph, q_number): 0 q_graph, 1 q_number, 2 q_met, 3 q_layers_here, 4 q_step, 5 q_later, 6 q_one, 7 q_other -/
def b_q_layers : M Fl :=
    sSeq (sAsg (eLst (aCons (esc (eVar 1)) (aNil))) (setSl 2))
    (sSeq (sAsg (eLst (aCons (esc (eLst (aCons (esc (eVar 1)) (aNil)))) (aNil))) (setSl 3))
    (sSeq (sFor (iRng1 (aCons (esc (eCallB fLen (aCons (pk (wkM (eB ixD (eVar 0) (eC (.int 0))))) (aNil)))) (aNil))) (setSl 4) (sSeq (sAsg (eLst (aNil)) (setSl 5))
    (sSeq (sFor (iSeq (eB ixD (eVar 3) (eU bNeg (eC (.int 1))))) (setSl 6) (sFor (iSeq (eCall none f_q_near (chkN 2 (aCons (esc (eVar 0)) (aCons (esc (eVar 6)) (aNil)))))) (setSl 7) (sIf (eTest (eB (cIn true) (eVar 7) (eVar 2))) (sSeq (sExpr (eMut "list" uAppend (eVar 2) (aCons (esc (eVar 7)) (aNil))))
    (sExpr (eMut "list" uAppend (eVar 5) (aCons (esc (eVar 7)) (aNil))))) (sNil))))
    (sSeq (sIf (eTest (eB cEq (eCallB fLen (aCons (pk (eVar 5)) (aNil))) (eC (.int 0)))) (sBrk) (sNil))
    (sExpr (eMut "list" uAppend (eVar 3) (aCons (esc (eCallB fSortH (aCons (pk (eVar 5)) (aNil)))) (aNil))))))))
    (sRet (eVar 3))))
def f_q_layers : FSem := bodyF 8 none b_q_layers
/-! q_part(q_graph, q_number): 0 q_graph, 1 q_number, 2 q_part_here, 3 q_layer -/
def b_q_part : M Fl :=
    sSeq (sAsg (eLst (aNil)) (setSl 2))
    (sSeq (sFor (iSeq (eCall none f_q_layers (chkN 2 (aCons (esc (eVar 0)) (aCons (esc (eVar 1)) (aNil)))))) (setSl 3) (sAsg (eB bAdd (eVar 2) (eVar 3)) (setSl 2)))
    (sRet (eVar 2)))
def f_q_part : FSem := bodyF 4 none b_q_part
/-! is_graph(graph): 0 graph, 1 row -/
def b_is_graph : M Fl :=
    sSeq (sIf (tOrM (tNotM (eTest (eCh cLe cLe (eC (.int 1)) (eCallB fLen (aCons (pk (eVar 0)) (aNil))) (eC (.int 6))))) (tNotM (eTest (eCh cLe cLe (eC (.int 1)) (eCallB fLen (aCons (pk (eB ixD (eVar 0) (eC (.int 0)))) (aNil))) (eC (.int 1024)))))) (sRet (eC (.bl false))) (sNil))
    (sRet (eCallB fAll (aCons (pk (eLc (iSeq (eVar 0)) (setSl 1) (cYes) (eB cEq (eCallB fSortH (aCons (pk (eVar 1)) (aNil))) (eU bLrg1 (eCallB fLen (aCons (pk (eB ixD (eVar 0) (eC (.int 0)))) (aNil))))) [1])) (aNil))))
def f_is_graph : FSem := bodyF 2 none b_is_graph
/-! check_graph(graph): 0 graph -/
def b_check_graph : M Fl :=
    sIf (tNotM (eTru (eCall none f_is_graph (chkN 1 (aCons (esc (eVar 0)) (aNil)))))) (sRaise "NotGraph") (sNil)
def f_check_graph : FSem := bodyF 1 none b_check_graph
/-! check_number(graph, number): 0 graph, 1 number -/
def b_check_number : M Fl :=
    sIf (tNotM (eTest (eCh cLe cLtG (eC (.int 0)) (eVar 1) (eCallB fLen (aCons (pk (eB ixD (eVar 0) (eC (.int 0)))) (aNil)))))) (sRaise "BadNumber") (sNil)
def f_check_number : FSem := bodyF 2 none b_check_number
/-! _backs(graph): 0 graph, 1 found, 2 row, 3 back, 4 number, 5 entry -/
def b__backs : M Fl :=
    sSeq (sAsg (eLst (aNil)) (setSl 1))
    (sSeq (sFor (iSeq (eVar 0)) (setSl 2) (sSeq (sAsg (eB bMul (eLst (aCons (esc (eC (.int 0))) (aNil))) (eCallB fLen (aCons (pk (eVar 2)) (aNil)))) (setSl 3))
    (sSeq (sFor (iEn (aCons (esc (eVar 2)) (aNil))) (gUn 2 (gsCons (setSl 4) (gsCons (setSl 5) (gsNil)))) (sSet stL (eVar 3) (eVar 5) (eVar 4)))
    (sExpr (eMut "list" uAppend (eVar 1) (aCons (esc (eVar 3)) (aNil)))))))
    (sRet (eVar 1)))
def f__backs : FSem := bodyF 6 none b__backs
/-! _steps(graph, backs, number): 0 graph, 1 backs, 2 number, 3 found, 4 row, 5 back -/
def b__steps : M Fl :=
    sSeq (sAsg (eLst (aNil)) (setSl 3))
    (sSeq (sFor (iZpM (aCons (esc (eVar 0)) (aCons (esc (eVar 1)) (aNil)))) (gUn 2 (gsCons (setSl 4) (gsCons (setSl 5) (gsNil)))) (sSeq (sExpr (eMut "list" uAppend (eVar 3) (aCons (esc (eB ixD (eVar 4) (eVar 2))) (aNil))))
    (sExpr (eMut "list" uAppend (eVar 3) (aCons (esc (eB ixD (eVar 5) (eVar 2))) (aNil))))))
    (sRet (eVar 3)))
def f__steps : FSem := bodyF 6 none b__steps
/-! _standard(graph, number): 0 graph, 1 number, 2 backs, 3 names, 4 order, 5 place, 6 other, 7 row, 8 one -/
def b__standard : M Fl :=
    sSeq (sSeq (sAsg (eCall none f__backs (chkN 1 (aCons (esc (eVar 0)) (aNil)))) (setSl 2)) (frzS 2))
    (sSeq (sAsg (eDict1 (eVar 1) (eC (.int 0))) (setSl 3))
    (sSeq (sAsg (eLst (aCons (esc (eVar 1)) (aNil))) (setSl 4))
    (sSeq (sAsg (eC (.int 0)) (setSl 5))
    (sSeq (sSeq (sWhile (eTest (eB cLtG (eVar 5) (eCallB fLen (aCons (pk (eVar 4)) (aNil))))) (sSeq (sFor (iSeq (eCall none f__steps (chkN 3 (aCons (esc (eVar 0)) (aCons (esc (eVar 2)) (aCons (esc (eB ixD (eVar 4) (eVar 5))) (aNil))))))) (setSl 6) (sIf (eTest (eB (cDin true) (eVar 6) (eVar 3))) (sSeq (sSet stK (eVar 3) (eVar 6) (eCallB fLen (aCons (pk (eVar 4)) (aNil))))
    (sExpr (eMut "list" uAppend (eVar 4) (aCons (esc (eVar 6)) (aNil))))) (sNil)))
    (sAug 5 bAddS (eC (.int 1))))) (frzS 4))
    (sRet (eCallB fTuple (aCons (pk (eLc (iSeq (eVar 0)) (setSl 7) (cYes) (eCallB fTuple (aCons (pk (eLc (iSeq (eVar 4)) (setSl 8) (cYes) (eB ixK (eVar 3) (eB ixD (eVar 7) (eVar 8))) [8])) (aNil))) [7])) (aNil))))))))
def f__standard : FSem := bodyF 9 none b__standard
/-! standard(graph, number): 0 graph, 1 number -/
def b_standard : M Fl :=
    sSeq (sExpr (eCall none f_check_graph (chkN 1 (aCons (esc (eVar 0)) (aNil)))))
    (sSeq (sExpr (eCall none f_check_number (chkN 2 (aCons (esc (eVar 0)) (aCons (esc (eVar 1)) (aNil))))))
    (sRet (eCall none f__standard (chkN 2 (aCons (esc (eVar 0)) (aCons (esc (eVar 1)) (aNil)))))))
def f_standard : FSem := bodyF 2 none b_standard
/-! _layers(graph, number): 0 graph, 1 number, 2 backs, 3 met, 4 layers, 5 following, 6 one, 7 other -/
def b__layers : M Fl :=
    sSeq (sSeq (sAsg (eCall none f__backs (chkN 1 (aCons (esc (eVar 0)) (aNil)))) (setSl 2)) (frzS 2))
    (sSeq (sAsg (eDict1 (eVar 1) (eC (.bl true))) (setSl 3))
    (sSeq (sAsg (eLst (aCons (esc (eLst (aCons (esc (eVar 1)) (aNil)))) (aNil))) (setSl 4))
    (sSeq (sWhile (eTru (eB ixD (eVar 4) (eU bNeg (eC (.int 1))))) (sSeq (sAsg (eLst (aNil)) (setSl 5))
    (sSeq (sFor (iSeq (eB ixD (eVar 4) (eU bNeg (eC (.int 1))))) (setSl 6) (sFor (iSeq (eCall none f__steps (chkN 3 (aCons (esc (eVar 0)) (aCons (esc (eVar 2)) (aCons (esc (eVar 6)) (aNil))))))) (setSl 7) (sIf (eTest (eB (cDin true) (eVar 7) (eVar 3))) (sSeq (sSet stK (eVar 3) (eVar 7) (eC (.bl true)))
    (sExpr (eMut "list" uAppend (eVar 5) (aCons (esc (eVar 7)) (aNil))))) (sNil))))
    (sExpr (eMut "list" uAppend (eVar 4) (aCons (esc (eCallB fSortH (aCons (pk (eVar 5)) (aNil)))) (aNil)))))))
    (sRet (eSl (eVar 4) (eNoPart) (ePart (eU bNeg (eC (.int 1)))))))))
def f__layers : FSem := bodyF 8 none b__layers
/-! least_form(graph, number): 0 graph, 1 number, 2 part, 3 layer, 4 one -/
def b_least_form : M Fl :=
    sSeq (sExpr (eCall none f_check_graph (chkN 1 (aCons (esc (eVar 0)) (aNil)))))
    (sSeq (sExpr (eCall none f_check_number (chkN 2 (aCons (esc (eVar 0)) (aCons (esc (eVar 1)) (aNil))))))
    (sSeq (sAsg (eLc2 (iSeq (eCall none f__layers (chkN 2 (aCons (esc (eVar 0)) (aCons (esc (eVar 1)) (aNil)))))) (setSl 3) (cYes) (iSeq (eVar 3)) (setSl 4) (cYes) (eVar 4) [3, 4] [4]) (setSl 2))
    (sSeq (sIf (eTest (eB cGt (eCallB fLen (aCons (pk (eVar 2)) (aNil))) (eC (.int 100)))) (sRaise "TooLarge") (sNil))
    (sRet (eCallB fMinD (aCons (pk (eLc (iSeq (eVar 2)) (setSl 4) (cYes) (eCall none f__standard (chkN 2 (aCons (esc (eVar 0)) (aCons (esc (eVar 4)) (aNil))))) [4])) (aNil)))))))
def f_least_form : FSem := bodyF 5 none b_least_form
/-! q_told(q_which, q_graph, q_number): 0 q_which, 1 q_graph, 2 q_number -/
def b_q_told : M Fl :=
    sTry ["BadNumber", "NotGraph", "TooLarge"] (sSeq (sIf (eTest (eB cEq (eVar 0) (eC (.int 0)))) (sRet (eCall none f_standard (chkN 2 (aCons (esc (eVar 1)) (aCons (esc (eVar 2)) (aNil)))))) (sNil))
    (sRet (eCall none f_least_form (chkN 2 (aCons (esc (eVar 1)) (aCons (esc (eVar 2)) (aNil))))))) [("NotGraph", sRet (eC (.str "graph"))), ("BadNumber", sRet (eC (.str "number"))), ("TooLarge", sRet (eC (.str "large")))]
def f_q_told : FSem := bodyF 3 none b_q_told
/-! parts(graph): 0 graph, 1 met, 2 found, 3 number, 4 part, 5 one, 6 layer -/
def b_parts : M Fl :=
    sSeq (sExpr (eCall none f_check_graph (chkN 1 (aCons (esc (eVar 0)) (aNil)))))
    (sSeq (sAsg (eNewK) (setSl 1))
    (sSeq (sAsg (eLst (aNil)) (setSl 2))
    (sSeq (sFor (iRng1 (aCons (esc (eCallB fLen (aCons (pk (eB ixD (eVar 0) (eC (.int 0)))) (aNil)))) (aNil))) (setSl 3) (sIf (eTest (eB (cDin true) (eVar 3) (eVar 1))) (sSeq (sAsg (eCallB fSortH (aCons (pk (eLc2 (iSeq (eCall none f__layers (chkN 2 (aCons (esc (eVar 0)) (aCons (esc (eVar 3)) (aNil)))))) (setSl 6) (cYes) (iSeq (eVar 6)) (setSl 5) (cYes) (eVar 5) [6, 5] [5])) (aNil))) (setSl 4))
    (sSeq (sFor (iSeq (eVar 4)) (setSl 5) (sSet stK (eVar 1) (eVar 5) (eC (.bl true))))
    (sExpr (eMut "list" uAppend (eVar 2) (aCons (esc (eVar 4)) (aNil)))))) (sNil)))
    (sRet (eVar 2)))))
def f_parts : FSem := bodyF 7 none b_parts
/-! law(q_script): 0 q_script, 1 q_size, 2 q_graph, 3 q_number, 4 q_form, 5 q_least, 6 q_q, 7 q_turned, 8 q_row, 9 q_entries, 10 q_one, 11 q_second, 12 q_part_here, 13 q_has, 14 q_ring, 15 q_which -/
def b_law : M Fl :=
    sSeq (sAsg (eB bAdd (eC (.int 1)) (eB bMod (eCall none f_q_cell (chkN 2 (aCons (esc (eVar 0)) (aCons (esc (eC (.int 0))) (aNil))))) (eC (.int 12)))) (setSl 1))
    (sSeq (sAsg (eCall none f_q_rows (chkN 3 (aCons (esc (eCall none f_q_cell (chkN 2 (aCons (esc (eVar 0)) (aCons (esc (eC (.int 1))) (aNil)))))) (aCons (esc (eCall none f_q_cell (chkN 2 (aCons (esc (eVar 0)) (aCons (esc (eC (.int 2))) (aNil)))))) (aCons (esc (eVar 1)) (aNil)))))) (setSl 2))
    (sSeq (sAsg (eB bMod (eCall none f_q_cell (chkN 2 (aCons (esc (eVar 0)) (aCons (esc (eC (.int 3))) (aNil))))) (eVar 1)) (setSl 3))
    (sSeq (sAsg (eCall none f_q_standard (chkN 2 (aCons (esc (eVar 2)) (aCons (esc (eVar 3)) (aNil))))) (setSl 4))
    (sSeq (sAsg (eCallB fMinD (aCons (pk (eLc (iSeq (eCall none f_q_part (chkN 2 (aCons (esc (eVar 2)) (aCons (esc (eVar 3)) (aNil)))))) (setSl 10) (cYes) (eCall none f_q_standard (chkN 2 (aCons (esc (eVar 2)) (aCons (esc (eVar 10)) (aNil))))) [10])) (aNil))) (setSl 5))
    (sSeq (sIf (tOrM (eTest (eB cNe (eCallB fRepr (aCons (pk (eCall none f_q_told (chkN 3 (aCons (esc (eC (.int 0))) (aCons (esc (wkM (eVar 2))) (aCons (esc (eVar 3)) (aNil))))))) (aNil))) (eCallB fRepr (aCons (pk (eVar 4)) (aNil))))) (eTest (eB cNe (eCallB fRepr (aCons (pk (eCall none f_q_told (chkN 3 (aCons (esc (eC (.int 1))) (aCons (esc (wkM (eVar 2))) (aCons (esc (eVar 3)) (aNil))))))) (aNil))) (eCallB fRepr (aCons (pk (eVar 5)) (aNil)))))) (sRet (eC (.bl false))) (sNil))
    (sSeq (sAsg (eCall none f_q_arranged (chkN 2 (aCons (esc (eCall none f_q_cell (chkN 2 (aCons (esc (eVar 0)) (aCons (esc (eC (.int 4))) (aNil)))))) (aCons (esc (eVar 1)) (aNil))))) (setSl 6))
    (sSeq (sAsg (eLst (aNil)) (setSl 7))
    (sSeq (sFor (iSeq (eVar 2)) (setSl 8) (sSeq (sAsg (eB bMul (eLst (aCons (esc (eC (.int 0))) (aNil))) (eVar 1)) (setSl 9))
    (sSeq (sFor (iRng1 (aCons (esc (eVar 1)) (aNil))) (setSl 10) (sSet stL (eVar 9) (eB ixD (wkM (eVar 6)) (eVar 10)) (eB ixD (wkM (eVar 6)) (eB ixD (wkM (eVar 8)) (eVar 10)))))
    (sExpr (eMut "list" uAppend (eVar 7) (aCons (esc (eCallB fTuple (aCons (pk (eVar 9)) (aNil)))) (aNil)))))))
    (sSeq (sIf (tOrM (eTest (eB cNe (eCall none f_q_told (chkN 3 (aCons (esc (eC (.int 0))) (aCons (esc (eCallB fTuple (aCons (pk (eVar 7)) (aNil)))) (aCons (esc (eB ixD (wkM (eVar 6)) (eVar 3))) (aNil)))))) (eVar 4))) (eTest (eB cNe (eCall none f_q_told (chkN 3 (aCons (esc (eC (.int 1))) (aCons (esc (eCallB fTuple (aCons (pk (eVar 7)) (aNil)))) (aCons (esc (eB ixD (wkM (eVar 6)) (eVar 3))) (aNil)))))) (eVar 5)))) (sRet (eC (.bl false))) (sNil))
    (sSeq (sAsg (eCall none f_q_rows (chkN 3 (aCons (esc (eCall none f_q_cell (chkN 2 (aCons (esc (eVar 0)) (aCons (esc (eC (.int 1))) (aNil)))))) (aCons (esc (eCall none f_q_cell (chkN 2 (aCons (esc (eVar 0)) (aCons (esc (eC (.int 5))) (aNil)))))) (aCons (esc (eVar 1)) (aNil)))))) (setSl 11))
    (sSeq (sFor (iSeq (eCall none f_parts (chkN 1 (aCons (esc (wkM (eVar 11))) (aNil))))) (setSl 12) (sSeq (sAsg (eB (cInD false) (eVar 4) (eLc (iSeq (eVar 12)) (setSl 10) (cYes) (eCall none f_q_told (chkN 3 (aCons (esc (eC (.int 0))) (aCons (esc (wkM (eVar 11))) (aCons (esc (eVar 10)) (aNil)))))) [10])) (setSl 13))
    (sIf (eTest (eB cNe (eVar 13) (eB cEq (eCall none f_q_told (chkN 3 (aCons (esc (eC (.int 1))) (aCons (esc (wkM (eVar 11))) (aCons (esc (eB ixD (eVar 12) (eC (.int 0)))) (aNil)))))) (eVar 5)))) (sRet (eC (.bl false))) (sNil))))
    (sSeq (sAsg (eTup (aCons (esc (eCallB fTuple (aCons (pk (eB bAdd (eB bLrg2 (eC (.int 1)) (eC (.int 101))) (eLst (aCons (esc (eC (.int 0))) (aNil))))) (aNil)))) (aNil))) (setSl 14))
    (sSeq (sIf (tOrM (eTest (eB cNe (eCall none f_q_told (chkN 3 (aCons (esc (eC (.int 1))) (aCons (esc (eVar 14)) (aCons (esc (eC (.int 0))) (aNil)))))) (eC (.str "large")))) (eTest (eB cNe (eCall none f_q_told (chkN 3 (aCons (esc (eC (.int 0))) (aCons (esc (eVar 14)) (aCons (esc (eC (.int 5))) (aNil)))))) (eCall none f_q_told (chkN 3 (aCons (esc (eC (.int 0))) (aCons (esc (eVar 14)) (aCons (esc (eC (.int 0))) (aNil))))))))) (sRet (eC (.bl false))) (sNil))
    (sSeq (sFor (iRng1 (aCons (esc (eC (.int 2))) (aNil))) (setSl 15) (sIf (tOrM (eTest (eB cNe (eCall none f_q_told (chkN 3 (aCons (esc (eVar 15)) (aCons (esc (wkM (eVar 2))) (aCons (esc (eVar 1)) (aNil)))))) (eC (.str "number")))) (eTest (eB cNe (eCall none f_q_told (chkN 3 (aCons (esc (eVar 15)) (aCons (esc (eTup (aCons (esc (eTup (aCons (esc (eC (.int 0))) (aCons (esc (eC (.int 0))) (aNil))))) (aNil)))) (aCons (esc (eC (.int 9))) (aNil)))))) (eC (.str "graph"))))) (sRet (eC (.bl false))) (sNil)))
    (sRet (eC (.bl true)))))))))))))))))
def f_law : FSem := bodyF 16 none b_law
end
end Law

namespace Law
open DL PySem PySem.Spec L2
noncomputable section

def t_q_cell (script1 : (List Int)) (k2 : Int) : T Int :=
  if (decide (k2 < (script1.length : Int))) = true then (tb (tIdx script1 k2) fun v3 =>
  .ok v3)
  else .ok 0
theorem r_q_cell (script1 : (List Int)) (k2 : Int) : RF f_q_cell [eX script1, eI k2] (t_q_cell script1 k2) (rF eI) := by
  unfold t_q_cell f_q_cell b_q_cell
  exact rf_body rfl (fun _ => rfl)
    (w_last
 (w_sas
 (w_sIf (w_p (px_test (px_B (px_v rfl) (px_callB (px_cons (px_pk (px_v rfl)) (px_nil)) rfl (po_lenX)) rfl rfl (po_lt)))
 (w_if
 (w_ret (w_as (w_p (px_pk (px_v rfl))
 (w_as (w_p (px_pk (px_v rfl))
 (w_op2 rfl rfl (ot_ixX) fun v3 =>
 (w_retF fun g q => .inl rfl)))))))
 (w_nilS (w_ret (w_p (px_c)
 (w_retF fun g q => .inl rfl)))))))))

def t_q_arranged (value1 : Int) (size2 : Int) : T (List Int) :=
  tb (tLrg 0 size2) fun v3 =>
  tb (tRng 0 size2) fun r4 =>
  tb (tfold r4 ((value1, [], v3) : (Int × (List Int) × (List Int))) fun (s12 : (Int × (List Int) × (List Int))) (x5 : Int) =>
  tb (tMod s12.1 (s12.2.2.length : Int)) fun v13 =>
  tb (tFdiv s12.1 (s12.2.2.length : Int)) fun v14 =>
  tb (tIdx s12.2.2 v13) fun v15 =>
  tb (tApd s12.2.1 v15) fun row16 =>
  tb (tCat (cutL s12.2.2 none (some v13)) (cutL s12.2.2 (some (v13 + 1)) none)) fun v17 =>
  .ok (v14, row16, v17)) fun s12 =>
  .ok s12.2.1
theorem r_q_arranged (value1 : Int) (size2 : Int) : RF f_q_arranged [eI value1, eI size2] (t_q_arranged value1 size2) (rF (eW eI)) := by
  unfold t_q_arranged f_q_arranged b_q_arranged
  exact rf_body rfl (fun _ => rfl)
    (w_last
 (w_sas
 (w_asg (w_as (w_as (w_p (px_pk (px_v rfl))
 (w_op1 rfl ot_lrg1 fun v3 =>
 (w_p px_escAo
 (w_gN (tg_ow rfl)
 (w_sas
 (w_asg (w_p (px_eAo (px_lst (px_nil) rfl rfl))
 (w_gN (tg_ow rfl)
 (w_sas
 (w_for (w_as (w_p (px_cons (px_esc (px_v rfl)) (px_nil))
 (w_rng1 fun r4 =>
 (w_fold (e := eI) (LS := fun s12 : (Int × (List Int) × (List Int)) => [(0, .fz (eI s12.1)), (3, .ow false ((oL eI) s12.2.1)), (2, .ow false ((oL eI) s12.2.2))]) rfl ⟨rfl, rfl, rfl, trivial⟩
 (fun s12 x5 => w_gN (tg_fz rfl)
 (w_last
 (w_sas
 (w_asg (w_as (w_as (w_p (px_pk (px_v rfl))
 (w_as (w_p (px_pk (px_callB (px_consA (px_pk (px_vo rfl)) (px_nil)) rfl (po_lenL eI (xs := s12.2.2))))
 (w_op2 rfl rfl (ot_mod) fun v13 =>
 (w_p px_escA
 (w_gN (tg_fz rfl)
 (w_sas
 (w_asg (w_as (w_as (w_p (px_pk (px_v rfl))
 (w_as (w_p (px_pk (px_callB (px_consA (px_pk (px_vo rfl)) (px_nil)) rfl (po_lenL eI (xs := s12.2.2))))
 (w_op2 rfl rfl (ot_fdiv) fun v14 =>
 (w_p px_escA
 (w_gN (tg_fz rfl)
 (w_sas
 (w_expr (w_as (w_p (px_vo rfl) (w_as (w_p (px_chkT rfl rfl) (w_as (w_as (w_as (w_as (w_p (px_pk (px_vo rfl))
 (w_as (w_p (px_pk (px_v rfl))
 (w_op2 rfl rfl (ot_ixL eI (xs := s12.2.2)) fun v15 =>
 (w_p px_escR
 (w_as (w_p px_nil
 (w_p px_push
 (w_opMut rfl rfl (om_apd eI (xs := s12.2.1) (x := v15)) rfl fun row16 =>
 (w_asg (w_as (w_as (w_p (px_pk (px_slo (px_vo rfl) (px_npart) (px_part (px_v rfl)) rfl (po_slL eI (xs := s12.2.2))))
 (w_as (w_p (px_pk (px_slo (px_vo rfl) (px_part (px_B (px_v rfl) (px_c) rfl rfl (po_addI))) (px_npart) rfl (po_slL eI (xs := s12.2.2))))
 (w_op2 rfl rfl (ot_catL eI (xs := cutL s12.2.2 none (some v13)) (ys := cutL s12.2.2 (some (v13 + 1)) none)) fun v17 =>
 (w_p px_escAo
 (w_gN (tg_ow rfl)
 (w_nil fun g q => ⟨trivial, q.sub ⟨rfl, rfl, rfl, trivial⟩⟩)))))))))))))))))))))))))))))))))))))))))))))))))))
 (fun s12 => w_ret (w_p (px_callB (px_consA (px_pk (px_vo rfl)) (px_nil)) rfl (po_tux eI (xs := s12.2.1)))
 (w_retF fun g q => .inl rfl))))))))))))))))))))))

def t_q_rows (cell_here1 : Int) (second2 : Int) (size3 : Int) : T (List (List Int)) :=
  tb (tRng 0 (1 + (cell_here1 % 3))) fun r4 =>
  tb (tfold r4 ([] : ((List (List Int)))) fun (s9 : ((List (List Int)))) (x5 : Int) =>
  tb (t_q_arranged (((cell_here1 / 3) + (977 * x5)) + second2) size3) fun v10 =>
  tb (tApd s9 v10) fun rows_here11 =>
  .ok rows_here11) fun s9 =>
  .ok s9
theorem r_q_rows (cell_here1 : Int) (second2 : Int) (size3 : Int) : RF f_q_rows [eI cell_here1, eI second2, eI size3] (t_q_rows cell_here1 second2 size3) (rF (eT (eW eI))) := by
  unfold t_q_rows f_q_rows b_q_rows
  exact rf_body rfl (fun _ => rfl)
    (w_last
 (w_sas
 (w_asg (w_p (px_eAo (px_lst (px_nil) rfl rfl))
 (w_gN (tg_ow rfl)
 (w_sas
 (w_for (w_as (w_p (px_cons (px_esc (px_B (px_c) (px_B (px_v rfl) (px_c) rfl rfl (po_mod (y := 3))) rfl rfl (po_addI))) (px_nil))
 (w_rng1 fun r4 =>
 (w_fold (e := eI) (LS := fun s9 : ((List (List Int))) => [(0, .fz (eI cell_here1)), (1, .fz (eI second2)), (2, .fz (eI size3)), (3, .ow false ((oL (eW eI)) s9))]) rfl ⟨rfl, rfl, rfl, rfl, trivial⟩
 (fun s9 x5 => w_gN (tg_fz rfl)
 (w_last
 (w_expr (w_as (w_p (px_vo rfl) (w_as (w_p (px_chkT rfl rfl) (w_as (w_as (w_as (w_as (w_p (px_chkN (px_cons (px_esc (px_B (px_B (px_B (px_v rfl) (px_c) rfl rfl (po_fdiv (y := 3))) (px_B (px_c) (px_v rfl) rfl rfl (po_mulL (x := 977))) rfl rfl (po_addI)) (px_v rfl) rfl rfl (po_addI))) (px_cons (px_esc (px_v rfl)) (px_nil))) rfl)
 (w_call (r_q_arranged (((cell_here1 / 3) + (977 * x5)) + second2) size3) rfl trivial fun v10 =>
 (w_p px_escR
 (w_as (w_p px_nil
 (w_p px_push
 (w_opMut rfl rfl (om_apd (eW eI) (xs := s9) (x := v10)) rfl fun rows_here11 =>
 (w_nil fun g q => ⟨trivial, q.sub ⟨rfl, rfl, rfl, rfl, trivial⟩⟩)))))))))))))))))))
 (fun s9 => w_ret (w_p (px_callB (px_consA (px_pk (px_vo rfl)) (px_nil)) rfl (po_tupL (eW eI) (xs := s9)))
 (w_retF fun g q => .inl rfl))))))))))))))

def t_q_near (graph1 : (List (List Int))) (number2 : Int) : T (List Int) :=
  tb (tfold graph1 ([] : ((List Int))) fun (s8 : ((List Int))) (x3 : (List Int)) =>
  tb (tIdx x3 number2) fun v9 =>
  tb (tLIx x3 number2) fun v10 =>
  tb (tCat s8 [v9, v10]) fun v11 =>
  .ok v11) fun s8 =>
  .ok s8
theorem r_q_near (graph1 : (List (List Int))) (number2 : Int) : RF f_q_near [(eT (eW eI)) graph1, eI number2] (t_q_near graph1 number2) (rL eI) := by
  unfold t_q_near f_q_near b_q_near
  exact rf_body rfl (fun _ => rfl)
    (w_last
 (w_sas
 (w_asg (w_p (px_eAo (px_lst (px_nil) rfl rfl))
 (w_gN (tg_ow rfl)
 (w_sas
 (w_for (w_p (px_iSeq (px_esc (px_v rfl)) (it_T (eW eI) (xs := graph1)))
 (w_fold (e := (eW eI)) (LS := fun s8 : ((List Int)) => [(1, .fz (eI number2)), (2, .ow false ((oL eI) s8))]) rfl ⟨rfl, rfl, trivial⟩
 (fun s8 x3 => w_gN (tg_fz rfl)
 (w_last
 (w_asg (w_as (w_as (w_p (px_pk (px_vo rfl))
 (w_as (w_as (w_as (w_as (w_as (w_as (w_p (px_pk (px_wk (e := (eW eI)) (a := x3) (px_v rfl)))
 (w_as (w_p (px_pk (px_v rfl))
 (w_op2 rfl rfl (ot_ixT eI (xs := x3)) fun v9 =>
 (w_p px_escR
 (w_as (w_as (w_as (w_as (w_p (px_pk (px_v rfl))
 (w_as (w_p (px_chkU rfl) (w_as (w_p (px_cons (px_pk (px_v rfl)) (px_nil))
 (w_opM rfl rfl (ot_uix (xs := x3) (x := number2)) fun v10 =>
 (w_p px_escR
 (w_as (w_p px_nil
 (w_p px_push
 (w_p px_push
 (w_p (px_mkLst rfl rfl)
 (w_p px_pkR
 (w_op2 rfl rfl (ot_catL eI (xs := s8) (ys := [v9, v10])) fun v11 =>
 (w_p px_escAo
 (w_gN (tg_ow rfl)
 (w_nil fun g q => ⟨trivial, q.sub ⟨rfl, rfl, trivial⟩⟩))))))))))))))))))))))))))))))))))))))
 (fun s8 => w_ret (w_p (px_vo rfl)
 (w_retA rfl fun g q => .inl rfl))))))))))))

def t_q_standard (graph1 : (List (List Int))) (number2 : Int) : T (List (List Int)) :=
  tb (.ok ([number2] : (List Int))) fun order3 =>
  tb (tIdx graph1 0) fun v4 =>
  tb (tRng 0 (v4.length : Int)) fun r5 =>
  tlp (tfor r5 (order3 : ((List Int))) fun (s7 : ((List Int))) (x6 : Int) =>
  if (decide (x6 = (s7.length : Int))) = true then (.ok (.bk s7))
  else (tb (tIdx s7 x6) fun v8 =>
  tb (t_q_near graph1 v8) fun v9 =>
  tb (tfold v9 (s7 : ((List Int))) fun (s11 : ((List Int))) (x10 : Int) =>
  tb (if (!decide (x10 ∈ s11)) = true then (tb (tApd s11 x10) fun order13 =>
  .ok order13) else (.ok s11) : T ((List Int))) fun s14 =>
  .ok s14) fun s11 =>
  .ok (.nx s11))) fun s7 =>
  tb (tMap graph1 fun (x15 : (List Int)) =>
  tb (tMap s7 fun (x16 : Int) =>
  tb (tIdx x15 x16) fun v17 =>
  tb (tLIx s7 v17) fun v18 =>
  .ok v18) fun l19 =>
  .ok l19) fun l20 =>
  .ok l20
theorem r_q_standard (graph1 : (List (List Int))) (number2 : Int) : RF f_q_standard [(eT (eW eI)) graph1, eI number2] (t_q_standard graph1 number2) (rF (eT (eT eI))) := by
  unfold t_q_standard f_q_standard b_q_standard
  exact rf_body rfl (fun _ => rfl)
    (w_last
 (w_sas
 (w_asg (w_p (px_eAo (px_lst (px_cons (px_esc (px_v rfl)) (px_nil)) rfl rfl))
 (w_letS (f := (rL eI)) rfl fun order3 =>
  w_gN (tg_ow rfl)
 (w_sas
 (w_sas
 (w_for (w_as (w_as (w_as (w_as (w_as (w_as (w_as (w_as (w_p (px_pk (px_v rfl))
 (w_as (w_p (px_pk (px_c))
 (w_op2 rfl rfl (ot_ixT (eW eI) (xs := graph1)) fun v4 =>
 (w_p (px_wkR (e := (eW eI)) (a := v4))
 (w_p px_pkRf
 (w_as (w_p px_nil
 (w_p px_push
 (w_p (px_opN rfl (po_lenT eI (xs := v4)))
 (w_p px_escR
 (w_as (w_p px_nil
 (w_p px_push
 (w_rng1 fun r5 =>
 (w_forT (e := eI) (LS := fun s7 : ((List Int)) => [(0, .fz ((eT (eW eI)) graph1)), (2, .ow false ((oL eI) s7))]) rfl ⟨rfl, rfl, trivial⟩
 (fun s7 x6 => w_gN (tg_fz rfl)
 (w_last
 (w_sas
 (w_sIf (w_p (px_test (px_B (px_v rfl) (px_callB (px_consA (px_pk (px_vo rfl)) (px_nil)) rfl (po_lenL eI (xs := s7))) rfl rfl (po_eqI)))
 (w_if
 (w_brk fun g q => ⟨rfl, q.sub ⟨rfl, rfl, trivial⟩⟩)
 (w_nilS (w_for (w_as (w_as (w_as (w_as (w_as (w_p (px_esc (px_v rfl))
 (w_as (w_as (w_as (w_as (w_p (px_pk (px_vo rfl))
 (w_as (w_p (px_pk (px_v rfl))
 (w_op2 rfl rfl (ot_ixL eI (xs := s7)) fun v8 =>
 (w_p px_escR
 (w_as (w_p px_nil
 (w_p px_push
 (w_p px_push
 (w_p (px_chkL rfl)
 (w_call (r_q_near graph1 v8) rfl trivial fun v9 =>
 (w_p px_escRo
 (w_p (px_toIt (it_L eI (xs := v9)))
 (w_fold (e := eI) (LS := fun s11 : ((List Int)) => [(0, .fz ((eT (eW eI)) graph1)), (2, .ow false ((oL eI) s11))]) rfl ⟨rfl, rfl, trivial⟩
 (fun s11 x10 => w_gN (tg_fz rfl)
 (w_last
 (w_blk (LS := fun s14 : ((List Int)) => [(0, .fz ((eT (eW eI)) graph1)), (2, .ow false ((oL eI) s14))])
 (w_last (w_sIf (w_p (px_test (px_B (px_v rfl) (px_vo rfl) rfl rfl (po_nmemIL (x := x10) (xs := s11))))
 (w_if
 (w_expr (w_as (w_p (px_vo rfl) (w_as (w_p (px_chkT rfl rfl) (w_as (w_p (px_cons (px_esc (px_v rfl)) (px_nil))
 (w_opMut rfl rfl (om_apd eI (xs := s11) (x := x10)) rfl fun order13 =>
 (w_nil fun g q => ⟨rfl, q.sub ⟨rfl, rfl, trivial⟩⟩)))))))))
 (w_nilS (w_nil fun g q => ⟨rfl, q.sub ⟨rfl, rfl, trivial⟩⟩))))))
 (fun s14 => w_nil fun g q => ⟨trivial, q.sub ⟨rfl, rfl, trivial⟩⟩))))
 (fun s11 => w_nil fun g q => ⟨trivial, q.sub ⟨rfl, rfl, trivial⟩⟩)))))))))))))))))))))))))))))))))
 (fun s7 => w_frz rfl rfl
 (w_ret (w_as (w_as (w_as (w_lcU (w_p (px_iSeq (px_esc (px_v rfl)) (it_T (eW eI) (xs := graph1)))
 (w_map (e0 := (eW eI)) (eT eI) rfl rfl
 (fun x15 => lc_m (tg_fz rfl) (fun g q => at_rm (q) (rms_no (by decide))) (w_as (w_as (w_as (w_lcU (w_p (px_iSeq (px_esc (px_v rfl)) (it_L eI (xs := s7)))
 (w_map (e0 := eI) eI rfl rfl
 (fun x16 => lc_m (tg_fz rfl) (fun g q => at_rm (q) (rms_no (by decide))) (w_as (w_p (px_pk (px_v rfl))
 (w_as (w_p (px_chkT rfl rfl) (w_as (w_as (w_as (w_as (w_p (px_pk (px_wk (e := (eW eI)) (a := x15) (px_v rfl)))
 (w_as (w_p (px_pk (px_v rfl))
 (w_op2 rfl rfl (ot_ixT eI (xs := x15)) fun v17 =>
 (w_p px_pkRf
 (w_as (w_p px_nil
 (w_p px_push
 (w_opM rfl rfl (ot_lix (xs := s7) (x := v17)) fun v18 =>
 (w_endP px_escR rfl)))))))))))))))))))
 (fun l19 => w_p px_pkRo
 (w_as (w_p px_nil
 (w_p px_push
 (w_p (px_opN rfl (po_tupL eI (xs := l19)))
 (w_endP px_escR rfl)))))))))))))
 (fun l20 => w_p px_pkRo
 (w_as (w_p px_nil
 (w_p px_push
 (w_p (px_opN rfl (po_tupL (eT eI) (xs := l20)))
 (w_retF fun g q => .inl rfl))))))))))))))))))))))))))))))))))))))))))))))

def t_q_layers (graph1 : (List (List Int))) (number2 : Int) : T (List (List Int)) :=
  tb (.ok ([number2] : (List Int))) fun met3 =>
  tb (.ok ([[number2]] : (List (List Int)))) fun layers_here4 =>
  tb (tIdx graph1 0) fun v5 =>
  tb (tRng 0 (v5.length : Int)) fun r6 =>
  tlp (tfor r6 ((met3, layers_here4) : ((List Int) × (List (List Int)))) fun (s8 : ((List Int) × (List (List Int)))) (x7 : Int) =>
  tb (tIdx s8.2 (-1 : Int)) fun v9 =>
  tb (tfold v9 ((s8.1, []) : ((List Int) × (List Int))) fun (s26 : ((List Int) × (List Int))) (x10 : Int) =>
  tb (t_q_near graph1 x10) fun v27 =>
  tb (tfold v27 ((s26.1, s26.2) : ((List Int) × (List Int))) fun (s29 : ((List Int) × (List Int))) (x28 : Int) =>
  tb (if (!decide (x28 ∈ s29.1)) = true then (tb (tApd s29.1 x28) fun met32 =>
  tb (tApd s29.2 x28) fun later33 =>
  .ok (met32, later33)) else (.ok (s29.1, s29.2)) : T ((List Int) × (List Int))) fun s34 =>
  .ok (s34.1, s34.2)) fun s29 =>
  .ok (s29.1, s29.2)) fun s26 =>
  if (decide ((s26.2.length : Int) = 0)) = true then (.ok (.bk (s26.1, s8.2)))
  else (tb (tApd s8.2 (srt s26.2)) fun layers_here35 =>
  .ok (.nx (s26.1, layers_here35)))) fun s8 =>
  .ok s8.2
theorem r_q_layers (graph1 : (List (List Int))) (number2 : Int) : RF f_q_layers [(eT (eW eI)) graph1, eI number2] (t_q_layers graph1 number2) (rL (eL eI)) := by
  unfold t_q_layers f_q_layers b_q_layers
  exact rf_body rfl (fun _ => rfl)
    (w_last
 (w_sas
 (w_asg (w_p (px_eAo (px_lst (px_cons (px_esc (px_v rfl)) (px_nil)) rfl rfl))
 (w_letS (f := (rL eI)) rfl fun met3 =>
  w_gN (tg_ow rfl)
 (w_sas
 (w_asg (w_p (px_eAo (px_lst (px_cons (px_esco (px_lst (px_cons (px_esc (px_v rfl)) (px_nil)) rfl rfl)) (px_nil)) rfl rfl))
 (w_letS (f := (rL (eL eI))) rfl fun layers_here4 =>
  w_gN (tg_ow rfl)
 (w_sas
 (w_for (w_as (w_as (w_as (w_as (w_as (w_as (w_as (w_as (w_p (px_pk (px_v rfl))
 (w_as (w_p (px_pk (px_c))
 (w_op2 rfl rfl (ot_ixT (eW eI) (xs := graph1)) fun v5 =>
 (w_p (px_wkR (e := (eW eI)) (a := v5))
 (w_p px_pkRf
 (w_as (w_p px_nil
 (w_p px_push
 (w_p (px_opN rfl (po_lenT eI (xs := v5)))
 (w_p px_escR
 (w_as (w_p px_nil
 (w_p px_push
 (w_rng1 fun r6 =>
 (w_forT (e := eI) (LS := fun s8 : ((List Int) × (List (List Int))) => [(0, .fz ((eT (eW eI)) graph1)), (2, .ow false ((oL eI) s8.1)), (3, .ow false ((oL (eL eI)) s8.2))]) rfl ⟨rfl, rfl, rfl, trivial⟩
 (fun s8 x7 => w_gN (tg_fz rfl)
 (w_last
 (w_sas
 (w_asg (w_p (px_eAo (px_lst (px_nil) rfl rfl))
 (w_gN (tg_ow rfl)
 (w_sas
 (w_for (w_as (w_as (w_as (w_p (px_pk (px_vo rfl))
 (w_as (w_p (px_pk (px_U (px_c) rfl po_negI))
 (w_op2 rfl rfl (ot_ixL (eL eI) (xs := s8.2)) fun v9 =>
 (w_p px_escR
 (w_p (px_toIt (it_L eI (xs := v9)))
 (w_fold (e := eI) (LS := fun s26 : ((List Int) × (List Int)) => [(0, .fz ((eT (eW eI)) graph1)), (3, .ow false ((oL (eL eI)) s8.2)), (2, .ow false ((oL eI) s26.1)), (5, .ow false ((oL eI) s26.2))]) rfl ⟨rfl, rfl, rfl, rfl, trivial⟩
 (fun s26 x10 => w_gN (tg_fz rfl)
 (w_last
 (w_for (w_as (w_as (w_as (w_p (px_chkN (px_cons (px_esc (px_v rfl)) (px_cons (px_esc (px_v rfl)) (px_nil))) rfl)
 (w_call (r_q_near graph1 x10) rfl trivial fun v27 =>
 (w_p px_escRo
 (w_p (px_toIt (it_L eI (xs := v27)))
 (w_fold (e := eI) (LS := fun s29 : ((List Int) × (List Int)) => [(0, .fz ((eT (eW eI)) graph1)), (3, .ow false ((oL (eL eI)) s8.2)), (2, .ow false ((oL eI) s29.1)), (5, .ow false ((oL eI) s29.2))]) rfl ⟨rfl, rfl, rfl, rfl, trivial⟩
 (fun s29 x28 => w_gN (tg_fz rfl)
 (w_last
 (w_blk (LS := fun s34 : ((List Int) × (List Int)) => [(0, .fz ((eT (eW eI)) graph1)), (3, .ow false ((oL (eL eI)) s8.2)), (2, .ow false ((oL eI) s34.1)), (5, .ow false ((oL eI) s34.2))])
 (w_last (w_sIf (w_p (px_test (px_B (px_v rfl) (px_vo rfl) rfl rfl (po_nmemIL (x := x28) (xs := s29.1))))
 (w_if
 (w_sas
 (w_expr (w_as (w_p (px_vo rfl) (w_as (w_p (px_chkT rfl rfl) (w_as (w_p (px_cons (px_esc (px_v rfl)) (px_nil))
 (w_opMut rfl rfl (om_apd eI (xs := s29.1) (x := x28)) rfl fun met32 =>
 (w_expr (w_as (w_p (px_vo rfl) (w_as (w_p (px_chkT rfl rfl) (w_as (w_p (px_cons (px_esc (px_v rfl)) (px_nil))
 (w_opMut rfl rfl (om_apd eI (xs := s29.2) (x := x28)) rfl fun later33 =>
 (w_nil fun g q => ⟨rfl, q.sub ⟨rfl, rfl, rfl, rfl, trivial⟩⟩))))))))))))))))))
 (w_nilS (w_nil fun g q => ⟨rfl, q.sub ⟨rfl, rfl, rfl, rfl, trivial⟩⟩))))))
 (fun s34 => w_nil fun g q => ⟨trivial, q.sub ⟨rfl, rfl, rfl, rfl, trivial⟩⟩))))
 (fun s29 => w_nil fun g q => ⟨trivial, q.sub ⟨rfl, rfl, rfl, rfl, trivial⟩⟩))))))))))))
 (fun s26 => w_sas
 (w_sIf (w_p (px_test (px_B (px_callB (px_consA (px_pk (px_vo rfl)) (px_nil)) rfl (po_lenL eI (xs := s26.2))) (px_c) rfl rfl (po_eqI)))
 (w_if
 (w_brk fun g q => ⟨rfl, q.sub ⟨rfl, rfl, rfl, trivial⟩⟩)
 (w_nilS (w_expr (w_as (w_p (px_vo rfl) (w_as (w_p (px_chkT rfl rfl) (w_as (w_p (px_cons (px_esco (px_callBo (px_consA (px_pk (px_vo rfl)) (px_nil)) rfl (po_sortHI (xs := s26.2)))) (px_nil))
 (w_opMut rfl rfl (om_apd (eL eI) (xs := s8.2) (x := srt s26.2)) rfl fun layers_here35 =>
 (w_nil fun g q => ⟨trivial, q.sub ⟨rfl, rfl, rfl, trivial⟩⟩))))))))))))))))))))))))))))))))
 (fun s8 => w_ret (w_p (px_vo rfl)
 (w_retA rfl fun g q => .inl rfl))))))))))))))))))))))))))))))))))))))

def t_q_part (graph1 : (List (List Int))) (number2 : Int) : T (List Int) :=
  tb (t_q_layers graph1 number2) fun v3 =>
  tb (tfold v3 ([] : ((List Int))) fun (s7 : ((List Int))) (x4 : (List Int)) =>
  tb (tCat s7 x4) fun v8 =>
  .ok v8) fun s7 =>
  .ok s7
theorem r_q_part (graph1 : (List (List Int))) (number2 : Int) : RF f_q_part [(eT (eW eI)) graph1, eI number2] (t_q_part graph1 number2) (rL eI) := by
  unfold t_q_part f_q_part b_q_part
  exact rf_body rfl (fun _ => rfl)
    (w_last
 (w_sas
 (w_asg (w_p (px_eAo (px_lst (px_nil) rfl rfl))
 (w_gN (tg_ow rfl)
 (w_sas
 (w_for (w_as (w_as (w_as (w_p (px_chkN (px_cons (px_esc (px_v rfl)) (px_cons (px_esc (px_v rfl)) (px_nil))) rfl)
 (w_call (r_q_layers graph1 number2) rfl trivial fun v3 =>
 (w_p px_escRo
 (w_p (px_toIt (it_L (eL eI) (xs := v3)))
 (w_fold (e := (eL eI)) (LS := fun s7 : ((List Int)) => [(2, .ow false ((oL eI) s7))]) rfl ⟨rfl, trivial⟩
 (fun s7 x4 => w_gN (tg_fz rfl)
 (w_last
 (w_asg (w_as (w_as (w_p (px_pk (px_vo rfl))
 (w_as (w_p (px_pk (px_v rfl))
 (w_op2 rfl rfl (ot_catL eI (xs := s7) (ys := x4)) fun v8 =>
 (w_p px_escAo
 (w_gN (tg_ow rfl)
 (w_nil fun g q => ⟨trivial, q.sub ⟨rfl, trivial⟩⟩))))))))))))
 (fun s7 => w_ret (w_p (px_vo rfl)
 (w_retA rfl fun g q => .inl rfl))))))))))))))))))

def t_is_graph (graph1 : (List (List Int))) : T Bool :=
  tb ((if (!((decide (1 ≤ (graph1.length : Int))) && (decide ((graph1.length : Int) ≤ 6)))) = true then .ok true else (tb (tIdx graph1 0) fun v2 =>
  .ok (!((decide (1 ≤ (v2.length : Int))) && (decide ((v2.length : Int) ≤ 1024))))) : T Bool)) fun v3 =>
  if v3 = true then (.ok false)
  else (tb (tMap graph1 fun (x4 : (List Int)) =>
  tb (tIdx graph1 0) fun v5 =>
  tb (tLrg 0 (v5.length : Int)) fun v6 =>
  tb (tEqE (eL eI) (srt x4) v6) fun v7 =>
  .ok v7) fun l8 =>
  .ok (l8.all id))
theorem r_is_graph (graph1 : (List (List Int))) : RF f_is_graph [(eT (eT eI)) graph1] (t_is_graph graph1) (rF eBl) := by
  unfold t_is_graph f_is_graph b_is_graph
  exact rf_body rfl (fun _ => rfl)
    (w_last
 (w_sas
 (w_sIf (w_tOr (px_tNot (px_test (px_ch (px_c) (px_callB (px_cons (px_pk (px_v rfl)) (px_nil)) rfl (po_lenT (eT eI) (xs := graph1))) (px_c) rfl rfl rfl (po_le) (po_le)))) (w_mbmp (w_tNot (w_as (w_as (w_p (px_pk (px_c))
 (w_as (w_as (w_as (w_as (w_as (w_as (w_p (px_pk (px_v rfl))
 (w_as (w_p (px_pk (px_c))
 (w_op2 rfl rfl (ot_ixT (eT eI) (xs := graph1)) fun v2 =>
 (w_p px_pkRf
 (w_as (w_p px_nil
 (w_p px_push
 (w_p (px_opN rfl (po_lenT eI (xs := v2)))
 (w_p px_pkR
 (w_chT rfl rfl (po_le) (px_c) rfl (po_le)
 (w_p px_toB
 (w_endM)))))))))))))))))))))))) fun v3 =>
 (w_if
 (w_ret (w_p (px_c)
 (w_retF fun g q => .inl rfl)))
 (w_nilS (w_ret (w_as (w_as (w_as (w_lcU (w_p (px_iSeq (px_esc (px_v rfl)) (it_T (eT eI) (xs := graph1)))
 (w_map (e0 := (eT eI)) eBl rfl rfl
 (fun x4 => lc_m (tg_fz rfl) (fun g q => at_rm (q) (rms_no (by decide))) (w_as (w_p (px_pk (px_callBo (px_cons (px_pk (px_v rfl)) (px_nil)) rfl (po_sortHT (xs := x4))))
 (w_as (w_as (w_as (w_as (w_as (w_as (w_as (w_as (w_p (px_pk (px_v rfl))
 (w_as (w_p (px_pk (px_c))
 (w_op2 rfl rfl (ot_ixT (eT eI) (xs := graph1)) fun v5 =>
 (w_p px_pkRf
 (w_as (w_p px_nil
 (w_p px_push
 (w_p (px_opN rfl (po_lenT eI (xs := v5)))
 (w_p px_pkR
 (w_op1 rfl ot_lrg1 fun v6 =>
 (w_p px_pkR
 (w_op2 rfl rfl (ot_eqE (eL eI) (a := srt x4) (b := v6)) fun v7 =>
 (w_endP px_escR rfl)))))))))))))))))))))))))
 (fun l8 => w_p px_pkRo
 (w_as (w_p px_nil
 (w_p px_push
 (w_p (px_opN rfl (po_all (xs := l8)))
 (w_retF fun g q => .inl rfl)))))))))))))))))))

def t_check_graph (graph1 : (List (List Int))) : T Unit :=
  tb (t_is_graph graph1) fun v2 =>
  if (!v2) = true then (.ex ⟨"NotGraph", []⟩)
  else .ok ()
theorem r_check_graph (graph1 : (List (List Int))) : RF f_check_graph [(eT (eT eI)) graph1] (t_check_graph graph1) (rF eN) := by
  unfold t_check_graph f_check_graph b_check_graph
  exact rf_body rfl (fun _ => rfl)
    (w_last
 (w_sIf (w_tNot (w_as (w_as (w_as (w_p (px_chkN (px_cons (px_esc (px_v rfl)) (px_nil)) rfl)
 (w_call (r_is_graph graph1) rfl trivial fun v2 =>
 (w_p px_pkR
 (w_p (px_toTru rfl (po_truB))
 (w_if
 (w_raise trivial)
 (w_nilS (w_nil fun g q => .inr ⟨rfl, rfl⟩)))))))))))))

def t_check_number (graph1 : (List (List Int))) (number2 : Int) : T Unit :=
  tb ((if (decide (0 ≤ number2)) = true then (tb (tIdx graph1 0) fun v3 =>
  .ok (decide (number2 < (v3.length : Int)))) else .ok false : T Bool)) fun v4 =>
  if (!v4) = true then (.ex ⟨"BadNumber", []⟩)
  else .ok ()
theorem r_check_number (graph1 : (List (List Int))) (number2 : Int) : RF f_check_number [(eT (eT eI)) graph1, eI number2] (t_check_number graph1 number2) (rF eN) := by
  unfold t_check_number f_check_number b_check_number
  exact rf_body rfl (fun _ => rfl)
    (w_last
 (w_sIf (w_tNot (w_as (w_as (w_p (px_pk (px_c))
 (w_as (w_p (px_pk (px_v rfl))
 (w_as (w_p (px_op2 rfl rfl (po_le)) (w_as (w_p px_toB (w_tif (f := rF eBl) (LL := fun _ => _) (w_mbmp (w_as (w_as (w_as (w_as (w_as (w_as (w_p (px_pk (px_v rfl))
 (w_as (w_p (px_pk (px_c))
 (w_op2 rfl rfl (ot_ixT (eT eI) (xs := graph1)) fun v3 =>
 (w_p px_pkRf
 (w_as (w_p px_nil
 (w_p px_push
 (w_p (px_opN rfl (po_lenT eI (xs := v3)))
 (w_p px_pkR
 (w_p (px_op2 rfl rfl (po_lt)) (w_endR rfl))))))))))))))))))) (w_endP px_c rfl) fun v4 =>
 (w_p px_toB
 (w_if
 (w_raise trivial)
 (w_nilS (w_nil fun g q => .inr ⟨rfl, rfl⟩)))))))))))))))))

def t__backs (graph1 : (List (List Int))) : T (List (List Int)) :=
  tb (tfold graph1 ([] : ((List (List Int)))) fun (s9 : ((List (List Int)))) (x2 : (List Int)) =>
  tb (tRepL ([0] : List Int) (x2.length : Int)) fun v10 =>
  tb (tfold (enumL x2 0) (v10 : ((List Int))) fun (s12 : ((List Int))) (x11 : (Int × Int)) =>
  tb (tSet s12 x11.2 x11.1) fun back13 =>
  .ok back13) fun s12 =>
  tb (tApd s9 s12) fun found14 =>
  .ok found14) fun s9 =>
  .ok s9
theorem r__backs (graph1 : (List (List Int))) : RF f__backs [(eT (eT eI)) graph1] (t__backs graph1) (rL (eL eI)) := by
  unfold t__backs f__backs b__backs
  exact rf_body rfl (fun _ => rfl)
    (w_last
 (w_sas
 (w_asg (w_p (px_eAo (px_lst (px_nil) rfl rfl))
 (w_gN (tg_ow rfl)
 (w_sas
 (w_for (w_p (px_iSeq (px_esc (px_v rfl)) (it_T (eT eI) (xs := graph1)))
 (w_fold (e := (eT eI)) (LS := fun s9 : ((List (List Int))) => [(1, .ow false ((oL (eL eI)) s9))]) rfl ⟨rfl, trivial⟩
 (fun s9 x2 => w_gN (tg_fz rfl)
 (w_last
 (w_sas
 (w_asg (w_as (w_as (w_p (px_pk (px_lst (px_cons (px_esc (px_c)) (px_nil)) rfl rfl))
 (w_as (w_p (px_pk (px_callB (px_cons (px_pk (px_v rfl)) (px_nil)) rfl (po_lenT eI (xs := x2))))
 (w_op2 rfl rfl (ot_repL eI (xs := ([0] : List Int))) fun v10 =>
 (w_p px_escAo
 (w_gN (tg_ow rfl)
 (w_sas
 (w_for (w_as (w_p (px_cons (px_esc (px_v rfl)) (px_nil))
 (w_p (px_enT eI (xs := x2))
 (w_fold (e := (eP eI eI)) (LS := fun s12 : ((List Int)) => [(1, .ow false ((oL (eL eI)) s9)), (3, .ow false ((oL eI) s12))]) rfl ⟨rfl, rfl, trivial⟩
 (fun s12 x11 => w_gN (tg_un rfl (tg_cons (tg_fz rfl) (tg_cons (tg_fz rfl) (tg_nil))))
 (w_last
 (w_set (w_p (px_esc (px_v rfl))
 (w_p (px_vo rfl) (w_p (px_pk (px_v rfl))
 (w_opSet rfl rfl (os_set eI (xs := s12)) rfl fun back13 => w_nil fun g q => ⟨trivial, q.sub ⟨rfl, rfl, trivial⟩⟩)))))))
 (fun s12 => w_expr (w_as (w_p (px_vo rfl) (w_as (w_p (px_chkT rfl rfl) (w_as (w_as (w_s (sx_esc rfl rfl)
 (w_as (w_p px_nil
 (w_p px_push
 (w_opMut rfl rfl (om_apd (eL eI) (xs := s9) (x := s12)) rfl fun found14 =>
 (w_nil fun g q => ⟨trivial, q.sub ⟨rfl, trivial⟩⟩)))))))))))))))))))))))))))))))
 (fun s9 => w_ret (w_p (px_vo rfl)
 (w_retA rfl fun g q => .inl rfl))))))))))))

def t__steps (graph1 : (List (List Int))) (backs2 : (List (List Int))) (number3 : Int) : T (List Int) :=
  tb (tfold (graph1.zip backs2) ([] : ((List Int))) fun (s10 : ((List Int))) (x4 : ((List Int) × (List Int))) =>
  tb (tIdx x4.1 number3) fun v11 =>
  tb (tApd s10 v11) fun found12 =>
  tb (tIdx x4.2 number3) fun v13 =>
  tb (tApd found12 v13) fun found14 =>
  .ok found14) fun s10 =>
  .ok s10
theorem r__steps (graph1 : (List (List Int))) (backs2 : (List (List Int))) (number3 : Int) : RF f__steps [(eT (eT eI)) graph1, (eL (eL eI)) backs2, eI number3] (t__steps graph1 backs2 number3) (rL eI) := by
  unfold t__steps f__steps b__steps
  exact rf_body rfl (fun _ => rfl)
    (w_last
 (w_sas
 (w_asg (w_p (px_eAo (px_lst (px_nil) rfl rfl))
 (w_gN (tg_ow rfl)
 (w_sas
 (w_for (w_as (w_p (px_cons (px_esc (px_v rfl)) (px_cons (px_esc (px_v rfl)) (px_nil)))
 (w_p (px_zpTL (eT eI) (eL eI) (xs := graph1) (ys := backs2))
 (w_fold (e := (eP (eT eI) (eL eI))) (LS := fun s10 : ((List Int)) => [(2, .fz (eI number3)), (3, .ow false ((oL eI) s10))]) rfl ⟨rfl, rfl, trivial⟩
 (fun s10 x4 => w_gN (tg_un rfl (tg_cons (tg_fz rfl) (tg_cons (tg_fz rfl) (tg_nil))))
 (w_last
 (w_sas
 (w_expr (w_as (w_p (px_vo rfl) (w_as (w_p (px_chkT rfl rfl) (w_as (w_as (w_as (w_as (w_p (px_pk (px_v rfl))
 (w_as (w_p (px_pk (px_v rfl))
 (w_op2 rfl rfl (ot_ixT eI (xs := x4.1)) fun v11 =>
 (w_p px_escR
 (w_as (w_p px_nil
 (w_p px_push
 (w_opMut rfl rfl (om_apd eI (xs := s10) (x := v11)) rfl fun found12 =>
 (w_expr (w_as (w_p (px_vo rfl) (w_as (w_p (px_chkT rfl rfl) (w_as (w_as (w_as (w_as (w_p (px_pk (px_v rfl))
 (w_as (w_p (px_pk (px_v rfl))
 (w_op2 rfl rfl (ot_ixL eI (xs := x4.2)) fun v13 =>
 (w_p px_escR
 (w_as (w_p px_nil
 (w_p px_push
 (w_opMut rfl rfl (om_apd eI (xs := found12) (x := v13)) rfl fun found14 =>
 (w_nil fun g q => ⟨trivial, q.sub ⟨rfl, rfl, trivial⟩⟩))))))))))))))))))))))))))))))))))))))))
 (fun s10 => w_ret (w_p (px_vo rfl)
 (w_retA rfl fun g q => .inl rfl))))))))))))))

def t__standard (graph1 : (List (List Int))) (number2 : Int) : T (List (List Int)) :=
  tb (t__backs graph1) fun v3 =>
  tb (.ok ([(number2, 0)] : (Dct Int Int))) fun names4 =>
  tb (.ok ([number2] : (List Int))) fun order5 =>
  tlp (twh ((names4, order5, 0) : ((Dct Int Int) × (List Int) × Int)) (fun (s6 : ((Dct Int Int) × (List Int) × Int)) => .ok ((decide (s6.2.2 < (s6.2.1.length : Int))))) fun (s6 : ((Dct Int Int) × (List Int) × Int)) =>
  tb (tIdx s6.2.1 s6.2.2) fun v7 =>
  tb (t__steps graph1 v3 v7) fun v8 =>
  tb (tfold v8 ((s6.1, s6.2.1) : ((Dct Int Int) × (List Int))) fun (s10 : ((Dct Int Int) × (List Int))) (x9 : Int) =>
  tb (if (!dhas s10.1 x9) = true then (tb (tDPut s10.1 x9 (s10.2.length : Int)) fun names13 =>
  tb (tApd s10.2 x9) fun order14 =>
  .ok (names13, order14)) else (.ok (s10.1, s10.2)) : T ((Dct Int Int) × (List Int))) fun s15 =>
  .ok (s15.1, s15.2)) fun s10 =>
  tb (.ok ((s6.2.2 + 1) : Int)) fun place16 =>
  .ok (.nx (s10.1, s10.2, place16))) fun s6 =>
  tb (tMap graph1 fun (x17 : (List Int)) =>
  tb (tMap s6.2.1 fun (x18 : Int) =>
  tb (tIdx x17 x18) fun v19 =>
  tb (tDGet s6.1 v19) fun v20 =>
  .ok v20) fun l21 =>
  .ok l21) fun l22 =>
  .ok l22
theorem r__standard (graph1 : (List (List Int))) (number2 : Int) : RF f__standard [(eT (eT eI)) graph1, eI number2] (t__standard graph1 number2) (rF (eT (eT eI))) := by
  unfold t__standard f__standard b__standard
  exact rf_body rfl (fun _ => rfl)
    (w_last
 (w_sas
 (w_sas (w_asg (w_as (w_as (w_p (px_chkN (px_cons (px_esc (px_v rfl)) (px_nil)) rfl)
 (w_call (r__backs graph1) rfl trivial fun v3 =>
 (w_p px_escAo
 (w_gN (tg_ow rfl)
 (w_frz rfl rfl
 (w_sas
 (w_asg (w_p (px_eAo (px_dict1 (px_v rfl) (px_esc (px_c)) (px_mkD1I eI (k := number2) (a := 0))))
 (w_letS (f := (fun v => R.ow ((oKI eI) v))) rfl fun names4 =>
  w_gN (tg_ow rfl)
 (w_sas
 (w_asg (w_p (px_eAo (px_lst (px_cons (px_esc (px_v rfl)) (px_nil)) rfl rfl))
 (w_letS (f := (rL eI)) rfl fun order5 =>
  w_gN (tg_ow rfl)
 (w_sas
 (w_asg (w_p (px_eA (px_c))
 (w_gN (tg_fz rfl)
 (w_sas
 (w_sas
 (w_while (LS := fun s6 : ((Dct Int Int) × (List Int) × Int) => [(0, .fz ((eT (eT eI)) graph1)), (2, .fz ((eL (eL eI)) v3)), (3, .ow false ((oKI eI) s6.1)), (4, .ow false ((oL eI) s6.2.1)), (5, .fz (eI s6.2.2))]) ⟨rfl, rfl, rfl, rfl, rfl, trivial⟩
 (fun s6 => w_endB (px_test (px_B (px_v rfl) (px_callB (px_consA (px_pk (px_vo rfl)) (px_nil)) rfl (po_lenL eI (xs := s6.2.1))) rfl rfl (po_lt))))
 (fun s6 => w_last
 (w_sas
 (w_for (w_as (w_as (w_as (w_as (w_as (w_p (px_esc (px_v rfl))
 (w_as (w_as (w_p (px_esc (px_v rfl))
 (w_as (w_as (w_as (w_as (w_p (px_pk (px_vo rfl))
 (w_as (w_p (px_pk (px_v rfl))
 (w_op2 rfl rfl (ot_ixL eI (xs := s6.2.1)) fun v7 =>
 (w_p px_escR
 (w_as (w_p px_nil
 (w_p px_push
 (w_p px_push
 (w_p px_push
 (w_p (px_chkL rfl)
 (w_call (r__steps graph1 v3 v7) rfl trivial fun v8 =>
 (w_p px_escRo
 (w_p (px_toIt (it_L eI (xs := v8)))
 (w_fold (e := eI) (LS := fun s10 : ((Dct Int Int) × (List Int)) => [(0, .fz ((eT (eT eI)) graph1)), (2, .fz ((eL (eL eI)) v3)), (5, .fz (eI s6.2.2)), (3, .ow false ((oKI eI) s10.1)), (4, .ow false ((oL eI) s10.2))]) rfl ⟨rfl, rfl, rfl, rfl, rfl, trivial⟩
 (fun s10 x9 => w_gN (tg_fz rfl)
 (w_last
 (w_blk (LS := fun s15 : ((Dct Int Int) × (List Int)) => [(0, .fz ((eT (eT eI)) graph1)), (2, .fz ((eL (eL eI)) v3)), (5, .fz (eI s6.2.2)), (3, .ow false ((oKI eI) s15.1)), (4, .ow false ((oL eI) s15.2))])
 (w_last (w_sIf (w_p (px_test (px_B (px_v rfl) (px_vo rfl) rfl rfl (po_dninI eI (d := s10.1) (k := x9))))
 (w_if
 (w_sas
 (w_set (w_p (px_esc (px_callB (px_consA (px_pk (px_vo rfl)) (px_nil)) rfl (po_lenL eI (xs := s10.2))))
 (w_p (px_vo rfl) (w_p (px_pk (px_v rfl))
 (w_opSet rfl rfl (os_putI eI (d := s10.1) (k := x9) (a := (s10.2.length : Int))) rfl fun names13 => w_expr (w_as (w_p (px_vo rfl) (w_as (w_p (px_chkT rfl rfl) (w_as (w_p (px_cons (px_esc (px_v rfl)) (px_nil))
 (w_opMut rfl rfl (om_apd eI (xs := s10.2) (x := x9)) rfl fun order14 =>
 (w_nil fun g q => ⟨rfl, q.sub ⟨rfl, rfl, rfl, rfl, rfl, trivial⟩⟩))))))))))))))
 (w_nilS (w_nil fun g q => ⟨rfl, q.sub ⟨rfl, rfl, rfl, rfl, rfl, trivial⟩⟩))))))
 (fun s15 => w_nil fun g q => ⟨trivial, q.sub ⟨rfl, rfl, rfl, rfl, rfl, trivial⟩⟩))))
 (fun s10 => w_aug rfl (w_p (px_pk (px_c))
 (w_augL (f := eI) rfl (po_addS) rfl rfl fun place16 => w_nil fun g q => ⟨trivial, q.sub ⟨rfl, rfl, rfl, rfl, rfl, trivial⟩⟩))))))))))))))))))))))))))))))))))
 (fun s6 => w_frz rfl rfl
 (w_ret (w_as (w_as (w_as (w_lcU (w_p (px_iSeq (px_esc (px_v rfl)) (it_T (eT eI) (xs := graph1)))
 (w_map (e0 := (eT eI)) (eT eI) rfl rfl
 (fun x17 => lc_m (tg_fz rfl) (fun g q => at_rm (q) (rms_no (by decide))) (w_as (w_as (w_as (w_lcU (w_p (px_iSeq (px_esc (px_v rfl)) (it_L eI (xs := s6.2.1)))
 (w_map (e0 := eI) eI rfl rfl
 (fun x18 => lc_m (tg_fz rfl) (fun g q => at_rm (q) (rms_no (by decide))) (w_as (w_p (px_pk (px_vo rfl))
 (w_as (w_as (w_as (w_p (px_pk (px_v rfl))
 (w_as (w_p (px_pk (px_v rfl))
 (w_op2 rfl rfl (ot_ixT eI (xs := x17)) fun v19 =>
 (w_p px_pkR
 (w_op2 rfl rfl (ot_dgetI eI (d := s6.1)) fun v20 =>
 (w_endP px_escR rfl)))))))))))))
 (fun l21 => w_p px_pkRo
 (w_as (w_p px_nil
 (w_p px_push
 (w_p (px_opN rfl (po_tupL eI (xs := l21)))
 (w_endP px_escR rfl)))))))))))))
 (fun l22 => w_p px_pkRo
 (w_as (w_p px_nil
 (w_p px_push
 (w_p (px_opN rfl (po_tupL (eT eI) (xs := l22)))
 (w_retF fun g q => .inl rfl))))))))))))))))))))))))))))))))))))))))

def t_standard (graph1 : (List (List Int))) (number2 : Int) : T (List (List Int)) :=
  tb (t_check_graph graph1) fun v3 =>
  tb (t_check_number graph1 number2) fun v4 =>
  tb (t__standard graph1 number2) fun v5 =>
  .ok v5
theorem r_standard (graph1 : (List (List Int))) (number2 : Int) : RF f_standard [(eT (eT eI)) graph1, eI number2] (t_standard graph1 number2) (rF (eT (eT eI))) := by
  unfold t_standard f_standard b_standard
  exact rf_body rfl (fun _ => rfl)
    (w_last
 (w_sas
 (w_expr (w_as (w_p (px_chkN (px_cons (px_esc (px_v rfl)) (px_nil)) rfl)
 (w_call (r_check_graph graph1) rfl trivial fun v3 =>
 (w_sas
 (w_expr (w_as (w_p (px_chkN (px_cons (px_esc (px_v rfl)) (px_cons (px_esc (px_v rfl)) (px_nil))) rfl)
 (w_call (r_check_number graph1 number2) rfl trivial fun v4 =>
 (w_ret (w_as (w_p (px_chkN (px_cons (px_esc (px_v rfl)) (px_cons (px_esc (px_v rfl)) (px_nil))) rfl)
 (w_call (r__standard graph1 number2) rfl trivial fun v5 =>
 (w_retF fun g q => .inl rfl))))))))))))))))

def t__layers (graph1 : (List (List Int))) (number2 : Int) : T (List (List Int)) :=
  tb (t__backs graph1) fun v3 =>
  tb (.ok ([(number2, true)] : (Dct Int Bool))) fun met4 =>
  tb (.ok ([[number2]] : (List (List Int)))) fun layers5 =>
  tlp (twh ((met4, layers5) : ((Dct Int Bool) × (List (List Int)))) (fun (s6 : ((Dct Int Bool) × (List (List Int)))) => tb (tIdx s6.2 (-1 : Int)) fun v7 =>
  .ok (!v7.isEmpty)) fun (s6 : ((Dct Int Bool) × (List (List Int)))) =>
  tb (tIdx s6.2 (-1 : Int)) fun v8 =>
  tb (tfold v8 ((s6.1, []) : ((Dct Int Bool) × (List Int))) fun (s25 : ((Dct Int Bool) × (List Int))) (x9 : Int) =>
  tb (t__steps graph1 v3 x9) fun v26 =>
  tb (tfold v26 ((s25.1, s25.2) : ((Dct Int Bool) × (List Int))) fun (s28 : ((Dct Int Bool) × (List Int))) (x27 : Int) =>
  tb (if (!dhas s28.1 x27) = true then (tb (tDPut s28.1 x27 true) fun met31 =>
  tb (tApd s28.2 x27) fun following32 =>
  .ok (met31, following32)) else (.ok (s28.1, s28.2)) : T ((Dct Int Bool) × (List Int))) fun s33 =>
  .ok (s33.1, s33.2)) fun s28 =>
  .ok (s28.1, s28.2)) fun s25 =>
  tb (tApd s6.2 (srt s25.2)) fun layers34 =>
  .ok (.nx (s25.1, layers34))) fun s6 =>
  .ok (cutL s6.2 none (some (-1 : Int)))
theorem r__layers (graph1 : (List (List Int))) (number2 : Int) : RF f__layers [(eT (eT eI)) graph1, eI number2] (t__layers graph1 number2) (rL (eL eI)) := by
  unfold t__layers f__layers b__layers
  exact rf_body rfl (fun _ => rfl)
    (w_last
 (w_sas
 (w_sas (w_asg (w_as (w_as (w_p (px_chkN (px_cons (px_esc (px_v rfl)) (px_nil)) rfl)
 (w_call (r__backs graph1) rfl trivial fun v3 =>
 (w_p px_escAo
 (w_gN (tg_ow rfl)
 (w_frz rfl rfl
 (w_sas
 (w_asg (w_p (px_eAo (px_dict1 (px_v rfl) (px_esc (px_c)) (px_mkD1I eBl (k := number2) (a := true))))
 (w_letS (f := (fun v => R.ow ((oKI eBl) v))) rfl fun met4 =>
  w_gN (tg_ow rfl)
 (w_sas
 (w_asg (w_p (px_eAo (px_lst (px_cons (px_esco (px_lst (px_cons (px_esc (px_v rfl)) (px_nil)) rfl rfl)) (px_nil)) rfl rfl))
 (w_letS (f := (rL (eL eI))) rfl fun layers5 =>
  w_gN (tg_ow rfl)
 (w_sas
 (w_while (LS := fun s6 : ((Dct Int Bool) × (List (List Int))) => [(0, .fz ((eT (eT eI)) graph1)), (2, .fz ((eL (eL eI)) v3)), (3, .ow false ((oKI eBl) s6.1)), (4, .ow false ((oL (eL eI)) s6.2))]) ⟨rfl, rfl, rfl, rfl, trivial⟩
 (fun s6 => w_mbmp (w_as (w_as (w_as (w_p (px_pk (px_vo rfl))
 (w_as (w_p (px_pk (px_U (px_c) rfl po_negI))
 (w_op2 rfl rfl (ot_ixL (eL eI) (xs := s6.2)) fun v7 =>
 (w_p px_pkR
 (w_p (px_toTru rfl (po_truL eI (xs := v7)))
 (w_endM)))))))))))
 (fun s6 => w_last
 (w_sas
 (w_asg (w_p (px_eAo (px_lst (px_nil) rfl rfl))
 (w_gN (tg_ow rfl)
 (w_sas
 (w_for (w_as (w_as (w_as (w_p (px_pk (px_vo rfl))
 (w_as (w_p (px_pk (px_U (px_c) rfl po_negI))
 (w_op2 rfl rfl (ot_ixL (eL eI) (xs := s6.2)) fun v8 =>
 (w_p px_escR
 (w_p (px_toIt (it_L eI (xs := v8)))
 (w_fold (e := eI) (LS := fun s25 : ((Dct Int Bool) × (List Int)) => [(0, .fz ((eT (eT eI)) graph1)), (2, .fz ((eL (eL eI)) v3)), (4, .ow false ((oL (eL eI)) s6.2)), (3, .ow false ((oKI eBl) s25.1)), (5, .ow false ((oL eI) s25.2))]) rfl ⟨rfl, rfl, rfl, rfl, rfl, trivial⟩
 (fun s25 x9 => w_gN (tg_fz rfl)
 (w_last
 (w_for (w_as (w_as (w_as (w_p (px_chkN (px_cons (px_esc (px_v rfl)) (px_cons (px_esc (px_v rfl)) (px_cons (px_esc (px_v rfl)) (px_nil)))) rfl)
 (w_call (r__steps graph1 v3 x9) rfl trivial fun v26 =>
 (w_p px_escRo
 (w_p (px_toIt (it_L eI (xs := v26)))
 (w_fold (e := eI) (LS := fun s28 : ((Dct Int Bool) × (List Int)) => [(0, .fz ((eT (eT eI)) graph1)), (2, .fz ((eL (eL eI)) v3)), (4, .ow false ((oL (eL eI)) s6.2)), (3, .ow false ((oKI eBl) s28.1)), (5, .ow false ((oL eI) s28.2))]) rfl ⟨rfl, rfl, rfl, rfl, rfl, trivial⟩
 (fun s28 x27 => w_gN (tg_fz rfl)
 (w_last
 (w_blk (LS := fun s33 : ((Dct Int Bool) × (List Int)) => [(0, .fz ((eT (eT eI)) graph1)), (2, .fz ((eL (eL eI)) v3)), (4, .ow false ((oL (eL eI)) s6.2)), (3, .ow false ((oKI eBl) s33.1)), (5, .ow false ((oL eI) s33.2))])
 (w_last (w_sIf (w_p (px_test (px_B (px_v rfl) (px_vo rfl) rfl rfl (po_dninI eBl (d := s28.1) (k := x27))))
 (w_if
 (w_sas
 (w_set (w_p (px_esc (px_c))
 (w_p (px_vo rfl) (w_p (px_pk (px_v rfl))
 (w_opSet rfl rfl (os_putI eBl (d := s28.1) (k := x27) (a := true)) rfl fun met31 => w_expr (w_as (w_p (px_vo rfl) (w_as (w_p (px_chkT rfl rfl) (w_as (w_p (px_cons (px_esc (px_v rfl)) (px_nil))
 (w_opMut rfl rfl (om_apd eI (xs := s28.2) (x := x27)) rfl fun following32 =>
 (w_nil fun g q => ⟨rfl, q.sub ⟨rfl, rfl, rfl, rfl, rfl, trivial⟩⟩))))))))))))))
 (w_nilS (w_nil fun g q => ⟨rfl, q.sub ⟨rfl, rfl, rfl, rfl, rfl, trivial⟩⟩))))))
 (fun s33 => w_nil fun g q => ⟨trivial, q.sub ⟨rfl, rfl, rfl, rfl, rfl, trivial⟩⟩))))
 (fun s28 => w_nil fun g q => ⟨trivial, q.sub ⟨rfl, rfl, rfl, rfl, rfl, trivial⟩⟩))))))))))))
 (fun s25 => w_expr (w_as (w_p (px_vo rfl) (w_as (w_p (px_chkT rfl rfl) (w_as (w_p (px_cons (px_esco (px_callBo (px_consA (px_pk (px_vo rfl)) (px_nil)) rfl (po_sortHI (xs := s25.2)))) (px_nil))
 (w_opMut rfl rfl (om_apd (eL eI) (xs := s6.2) (x := srt s25.2)) rfl fun layers34 =>
 (w_nil fun g q => ⟨trivial, q.sub ⟨rfl, rfl, rfl, rfl, trivial⟩⟩))))))))))))))))))))))))))
 (fun s6 => w_ret (w_p (px_slo (px_vo rfl) (px_npart) (px_part (px_U (px_c) rfl po_negI)) rfl (po_slL (eL eI) (xs := s6.2)))
 (w_retO fun g q => .inl rfl))))))))))))))))))))))))

def t_least_form (graph1 : (List (List Int))) (number2 : Int) : T (List (List Int)) :=
  tb (t_check_graph graph1) fun v3 =>
  tb (t_check_number graph1 number2) fun v4 =>
  tb (t__layers graph1 number2) fun v5 =>
  tb (tFl v5 (fun (x6 : (List Int)) => tb (.ok x6) fun y => .ok (some y)) fun (x6 : (List Int)) (x7 : Int) =>
  tb (.ok x7) fun y => .ok (some y)) fun l8 =>
  if (decide (100 < (l8.length : Int))) = true then (.ex ⟨"TooLarge", []⟩)
  else (tb (tMap l8 fun (x9 : Int) =>
  tb (t__standard graph1 x9) fun v10 =>
  .ok v10) fun l11 =>
  tb (tMinD (eT (eT eI)) l11) fun v12 =>
  .ok v12)
theorem r_least_form (graph1 : (List (List Int))) (number2 : Int) : RF f_least_form [(eT (eT eI)) graph1, eI number2] (t_least_form graph1 number2) (rF (eT (eT eI))) := by
  unfold t_least_form f_least_form b_least_form
  exact rf_body rfl (fun _ => rfl)
    (w_last
 (w_sas
 (w_expr (w_as (w_p (px_chkN (px_cons (px_esc (px_v rfl)) (px_nil)) rfl)
 (w_call (r_check_graph graph1) rfl trivial fun v3 =>
 (w_sas
 (w_expr (w_as (w_p (px_chkN (px_cons (px_esc (px_v rfl)) (px_cons (px_esc (px_v rfl)) (px_nil))) rfl)
 (w_call (r_check_number graph1 number2) rfl trivial fun v4 =>
 (w_sas
 (w_asg (w_as (w_lc2U (w_as (w_as (w_as (w_p (px_chkN (px_cons (px_esc (px_v rfl)) (px_cons (px_esc (px_v rfl)) (px_nil))) rfl)
 (w_call (r__layers graph1 number2) rfl trivial fun v5 =>
 (w_p px_escRo
 (w_p (px_toIt (it_L (eL eI) (xs := v5)))
 (w_fl (e0 := (eL eI)) (eb := eI) eI rfl rfl
 (fun x6 => fl_m (tg_fz rfl) (w_mbmp (w_p (px_iSeq (px_esc (px_v rfl)) (it_L eI (xs := x6)))
 (w_endI rfl))) (fun g q => at_rm2 (by decide) (fun i hi => (lk_cons_ne (fun z => hi (by subst z; decide))).trans (rfl)) q) (fun x7 => lc_m (tg_fz rfl) (fun g q => at_rm (q) (rms_no (by decide))) (w_endP (px_mb (px_v rfl) px_escR) rfl)))
 (fun l8 => w_p px_escAo
 (w_gN (tg_ow rfl)
 (w_sas
 (w_sIf (w_p (px_test (px_B (px_callB (px_consA (px_pk (px_vo rfl)) (px_nil)) rfl (po_lenL eI (xs := l8))) (px_c) rfl rfl (po_gt)))
 (w_if
 (w_raise trivial)
 (w_nilS (w_ret (w_as (w_as (w_as (w_lcU (w_as (w_s (sx_esc rfl rfl)
 (w_p (px_toIt (it_L eI (xs := l8)))
 (w_map (e0 := eI) (eT (eT eI)) rfl rfl
 (fun x9 => lc_m (tg_fz rfl) (fun g q => at_rm (q) (rms_no (by decide))) (w_as (w_p (px_chkN (px_cons (px_esc (px_v rfl)) (px_cons (px_esc (px_v rfl)) (px_nil))) rfl)
 (w_call (r__standard graph1 x9) rfl trivial fun v10 =>
 (w_endP px_escR rfl)))))
 (fun l11 => w_p px_pkRo
 (w_as (w_p px_nil
 (w_p px_push
 (w_opN rfl (ot_minD (eT (eT eI)) (xs := l11)) fun v12 =>
 (w_retF fun g q => .inl rfl)))))))))))))))))))))))))))))))))))))))))))))

def t_q_told (which1 : Int) (graph2 : (List (List Int))) (number3 : Int) : T D :=
  tTry (if (decide (which1 = 0)) = true then (tb (t_standard graph2 number3) fun v4 =>
  .ok ((eT (eT eI)) v4))
  else (tb (t_least_form graph2 number3) fun v5 =>
  .ok ((eT (eT eI)) v5))) ["BadNumber", "NotGraph", "TooLarge"] fun e =>
  if subE e.c "NotGraph" = true then tnx (.ok (eS [103, 114, 97, 112, 104])) else if subE e.c "BadNumber" = true then tnx (.ok (eS [110, 117, 109, 98, 101, 114])) else if subE e.c "TooLarge" = true then tnx (.ok (eS [108, 97, 114, 103, 101])) else .ex e
theorem r_q_told (which1 : Int) (graph2 : (List (List Int))) (number3 : Int) : RF f_q_told [eI which1, (eT (eT eI)) graph2, eI number3] (t_q_told which1 graph2 number3) (rF eD) := by
  unfold t_q_told f_q_told b_q_told
  exact rf_body rfl (fun _ => rfl)
    (w_last
 (w_exit (fun b => w_try (Ly := [])
 (w_last
 (w_sas
 (w_sIf (w_p (px_test (px_B (px_v rfl) (px_c) rfl rfl (po_eqI)))
 (w_if
 (w_ret (w_as (w_p (px_chkN (px_cons (px_esc (px_v rfl)) (px_cons (px_esc (px_v rfl)) (px_nil))) rfl)
 (w_call (r_standard graph2 number3) rfl trivial fun v4 =>
 (w_retF fun g q => ⟨nofun, .inl rfl⟩)))))
 (w_nilS (w_ret (w_as (w_p (px_chkN (px_cons (px_esc (px_v rfl)) (px_cons (px_esc (px_v rfl)) (px_nil))) rfl)
 (w_call (r_least_form graph2 number3) rfl trivial fun v5 =>
 (w_retF fun g q => ⟨nofun, .inl rfl⟩)))))))))))
 (fun e => h_cons (w_last
 (w_ret (w_p (px_cs (y := [103, 114, 97, 112, 104]))
 (w_retF fun g q => ⟨nofun, .inl rfl⟩))))
 (h_cons (w_last
 (w_ret (w_p (px_cs (y := [110, 117, 109, 98, 101, 114]))
 (w_retF fun g q => ⟨nofun, .inl rfl⟩))))
 (h_cons (w_last
 (w_ret (w_p (px_cs (y := [108, 97, 114, 103, 101]))
 (w_retF fun g q => ⟨nofun, .inl rfl⟩))))
 (h_nil trivial)))))))

def t_parts (graph1 : (List (List Int))) : T (List (List Int)) :=
  tb (t_check_graph graph1) fun v2 =>
  tb (tIdx graph1 0) fun v3 =>
  tb (tRng 0 (v3.length : Int)) fun r4 =>
  tb (tfold r4 (([], []) : ((Dct Int Bool) × (List (List Int)))) fun (s30 : ((Dct Int Bool) × (List (List Int)))) (x5 : Int) =>
  tb (if (!dhas s30.1 x5) = true then (tb (t__layers graph1 x5) fun v40 =>
  tb (tFl v40 (fun (x41 : (List Int)) => tb (.ok x41) fun y => .ok (some y)) fun (x41 : (List Int)) (x42 : Int) =>
  tb (.ok x42) fun y => .ok (some y)) fun l43 =>
  tb (.ok (srt l43 : (List Int))) fun part44 =>
  tb (tfold part44 (s30.1 : ((Dct Int Bool))) fun (s46 : ((Dct Int Bool))) (x45 : Int) =>
  tb (tDPut s46 x45 true) fun met47 =>
  .ok met47) fun s46 =>
  tb (tApd s30.2 part44) fun found48 =>
  .ok (s46, found48)) else (.ok (s30.1, s30.2)) : T ((Dct Int Bool) × (List (List Int)))) fun s49 =>
  .ok (s49.1, s49.2)) fun s30 =>
  .ok s30.2
theorem r_parts (graph1 : (List (List Int))) : RF f_parts [(eT (eT eI)) graph1] (t_parts graph1) (rL (eL eI)) := by
  unfold t_parts f_parts b_parts
  exact rf_body rfl (fun _ => rfl)
    (w_last
 (w_sas
 (w_expr (w_as (w_p (px_chkN (px_cons (px_esc (px_v rfl)) (px_nil)) rfl)
 (w_call (r_check_graph graph1) rfl trivial fun v2 =>
 (w_sas
 (w_asg (w_p (px_eAo (px_newK))
 (w_gN (tg_ow rfl)
 (w_sas
 (w_asg (w_p (px_eAo (px_lst (px_nil) rfl rfl))
 (w_gN (tg_ow rfl)
 (w_sas
 (w_for (w_as (w_as (w_as (w_as (w_as (w_as (w_as (w_p (px_pk (px_v rfl))
 (w_as (w_p (px_pk (px_c))
 (w_op2 rfl rfl (ot_ixT (eT eI) (xs := graph1)) fun v3 =>
 (w_p px_pkRf
 (w_as (w_p px_nil
 (w_p px_push
 (w_p (px_opN rfl (po_lenT eI (xs := v3)))
 (w_p px_escR
 (w_as (w_p px_nil
 (w_p px_push
 (w_rng1 fun r4 =>
 (w_fold (e := eI) (LS := fun s30 : ((Dct Int Bool) × (List (List Int))) => [(0, .fz ((eT (eT eI)) graph1)), (1, .ow false ((oKI eBl) s30.1)), (2, .ow false ((oL (eL eI)) s30.2))]) rfl ⟨rfl, rfl, rfl, trivial⟩
 (fun s30 x5 => w_gN (tg_fz rfl)
 (w_last
 (w_blk (LS := fun s49 : ((Dct Int Bool) × (List (List Int))) => [(0, .fz ((eT (eT eI)) graph1)), (1, .ow false ((oKI eBl) s49.1)), (2, .ow false ((oL (eL eI)) s49.2))])
 (w_last (w_sIf (w_p (px_test (px_B (px_v rfl) (px_vo rfl) rfl rfl (po_dninI eBl (d := s30.1) (k := x5))))
 (w_if
 (w_sas
 (w_asg (w_as (w_as (w_as (w_as (w_lc2U (w_as (w_as (w_as (w_p (px_chkN (px_cons (px_esc (px_v rfl)) (px_cons (px_esc (px_v rfl)) (px_nil))) rfl)
 (w_call (r__layers graph1 x5) rfl trivial fun v40 =>
 (w_p px_escRo
 (w_p (px_toIt (it_L (eL eI) (xs := v40)))
 (w_fl (e0 := (eL eI)) (eb := eI) eI rfl rfl
 (fun x41 => fl_m (tg_fz rfl) (w_mbmp (w_p (px_iSeq (px_esc (px_v rfl)) (it_L eI (xs := x41)))
 (w_endI rfl))) (fun g q => at_rm2 (by decide) (fun i hi => (lk_cons_ne (fun z => hi (by subst z; decide))).trans (rfl)) q) (fun x42 => lc_m (tg_fz rfl) (fun g q => at_rm (q) (rms_no (by decide))) (w_endP (px_mb (px_v rfl) px_escR) rfl)))
 (fun l43 => w_p px_pkRo
 (w_as (w_p px_nil
 (w_p px_push
 (w_p (px_opN rfl (po_sortHI (xs := l43)))
 (w_p px_escAo
 (w_letS (f := (rL eI)) rfl fun part44 =>
  w_gN (tg_ow rfl)
 (w_sas
 (w_for (w_as (w_s (sx_esc rfl rfl)
 (w_p (px_toIt (it_L eI (xs := part44)))
 (w_fold (e := eI) (LS := fun s46 : ((Dct Int Bool)) => [(0, .fz ((eT (eT eI)) graph1)), (2, .ow false ((oL (eL eI)) s30.2)), (4, .fz ((eL eI) part44)), (1, .ow false ((oKI eBl) s46))]) rfl ⟨rfl, rfl, rfl, rfl, trivial⟩
 (fun s46 x45 => w_gN (tg_fz rfl)
 (w_last
 (w_set (w_p (px_esc (px_c))
 (w_p (px_vo rfl) (w_p (px_pk (px_v rfl))
 (w_opSet rfl rfl (os_putI eBl (d := s46) (k := x45) (a := true)) rfl fun met47 => w_nil fun g q => ⟨trivial, q.sub ⟨rfl, rfl, rfl, rfl, trivial⟩⟩)))))))
 (fun s46 => w_expr (w_as (w_p (px_vo rfl) (w_as (w_p (px_chkT rfl rfl) (w_as (w_p (px_cons (px_esc (px_v rfl)) (px_nil))
 (w_opMut rfl rfl (om_apd (eL eI) (xs := s30.2) (x := part44)) rfl fun found48 =>
 (w_nil fun g q => ⟨rfl, q.sub ⟨rfl, rfl, rfl, trivial⟩⟩)))))))))))))))))))))))))))))))))))))
 (w_nilS (w_nil fun g q => ⟨rfl, q.sub ⟨rfl, rfl, rfl, trivial⟩⟩))))))
 (fun s49 => w_nil fun g q => ⟨trivial, q.sub ⟨rfl, rfl, rfl, trivial⟩⟩))))
 (fun s30 => w_ret (w_p (px_vo rfl)
 (w_retA rfl fun g q => .inl rfl)))))))))))))))))))))))))))))))))))))))))

def t_law (script1 : (List Int)) : T Bool :=
  tb (t_q_cell script1 0) fun v2 =>
  tb (.ok ((1 + (v2 % 12)) : Int)) fun size3 =>
  tb (t_q_cell script1 1) fun v4 =>
  tb (t_q_cell script1 2) fun v5 =>
  tb (t_q_rows v4 v5 size3) fun v6 =>
  tb (t_q_cell script1 3) fun v7 =>
  tb (tMod v7 size3) fun v8 =>
  tb (t_q_standard v6 v8) fun v9 =>
  tb (t_q_part v6 v8) fun v10 =>
  tb (tMap v10 fun (x11 : Int) =>
  tb (t_q_standard v6 x11) fun v12 =>
  .ok v12) fun l13 =>
  tb (tMinD (eT (eT eI)) l13) fun v14 =>
  tb (t_q_told 0 v6 v8) fun v15 =>
  tb (tRepr (eD v15)) fun v16 =>
  tb (tRepr ((eT (eT eI)) v9)) fun v17 =>
  tb ((if (!decide ((v16 : S) = v17)) = true then .ok true else (tb (t_q_told 1 v6 v8) fun v18 =>
  tb (tRepr (eD v18)) fun v19 =>
  tb (tRepr ((eT (eT eI)) v14)) fun v20 =>
  .ok (!decide ((v19 : S) = v20))) : T Bool)) fun v21 =>
  if v21 = true then (.ok false)
  else (tb (t_q_cell script1 4) fun v22 =>
  tb (t_q_arranged v22 size3) fun v23 =>
  tb (tfold v6 ([] : ((List (List Int)))) fun (s35 : ((List (List Int)))) (x24 : (List Int)) =>
  tb (tRepL ([0] : List Int) size3) fun v36 =>
  tb (tRng 0 size3) fun r37 =>
  tb (tfold r37 (v36 : ((List Int))) fun (s39 : ((List Int))) (x38 : Int) =>
  tb (tIdx x24 x38) fun v40 =>
  tb (tIdx v23 v40) fun v41 =>
  tb (tIdx v23 x38) fun v42 =>
  tb (tSet s39 v42 v41) fun entries43 =>
  .ok entries43) fun s39 =>
  tb (tApd s35 s39) fun turned44 =>
  .ok turned44) fun s35 =>
  tb (tIdx v23 v8) fun v45 =>
  tb (t_q_told 0 s35 v45) fun v46 =>
  tb (tNeD v46 ((eT (eT eI)) v9)) fun v47 =>
  tb ((if v47 = true then .ok true else (tb (tIdx v23 v8) fun v48 =>
  tb (t_q_told 1 s35 v48) fun v49 =>
  tb (tNeD v49 ((eT (eT eI)) v14)) fun v50 =>
  .ok v50) : T Bool)) fun v51 =>
  if v51 = true then (.ok false)
  else (tb (t_q_cell script1 1) fun v52 =>
  tb (t_q_cell script1 5) fun v53 =>
  tb (t_q_rows v52 v53 size3) fun v54 =>
  tb (t_parts v54) fun v55 =>
  tlp (tfor v55 (() : Unit) fun (s57 : Unit) (x56 : (List Int)) =>
  tb (tMap x56 fun (x58 : Int) =>
  tb (t_q_told 0 v54 x58) fun v59 =>
  tb (tCast (eT (eT eI)) v59) fun v60 =>
  .ok v60) fun l61 =>
  tb (tInE (eT (eT eI)) v9 l61) fun v62 =>
  tb (tIdx x56 0) fun v63 =>
  tb (t_q_told 1 v54 v63) fun v64 =>
  tb (tEqD v64 ((eT (eT eI)) v14)) fun v65 =>
  if (!decide (v62 = v65)) = true then (.ok (.rt false))
  else .ok (.nx ())) fun s57 =>
  tb (tLrg 1 101) fun v66 =>
  tb (tCat v66 ([0] : List Int)) fun v67 =>
  tb (t_q_told 1 [v67] 0) fun v68 =>
  tb (tNeD v68 (eS [108, 97, 114, 103, 101])) fun v69 =>
  tb ((if v69 = true then .ok true else (tb (t_q_told 0 [v67] 5) fun v70 =>
  tb (t_q_told 0 [v67] 0) fun v71 =>
  tb (tNeD v70 v71) fun v72 =>
  .ok v72) : T Bool)) fun v73 =>
  if v73 = true then (.ok false)
  else (tb (tRng 0 2) fun r74 =>
  tlp (tfor r74 (() : Unit) fun (s76 : Unit) (x75 : Int) =>
  tb (t_q_told x75 v6 size3) fun v77 =>
  tb (tNeD v77 (eS [110, 117, 109, 98, 101, 114])) fun v78 =>
  tb ((if v78 = true then .ok true else (tb (t_q_told x75 [[(0, 0).1, (0, 0).2]] 9) fun v79 =>
  tb (tNeD v79 (eS [103, 114, 97, 112, 104])) fun v80 =>
  .ok v80) : T Bool)) fun v81 =>
  if v81 = true then (.ok (.rt false))
  else .ok (.nx ())) fun s76 =>
  .ok true)))
theorem r_law (script1 : (List Int)) : RF f_law [eX script1] (t_law script1) (rF eBl) := by
  unfold t_law f_law b_law
  exact rf_body rfl (fun _ => rfl)
    (w_last
 (w_sas
 (w_asg (w_as (w_as (w_p (px_pk (px_c))
 (w_as (w_as (w_as (w_as (w_as (w_p (px_chkN (px_cons (px_esc (px_v rfl)) (px_cons (px_esc (px_c)) (px_nil))) rfl)
 (w_call (r_q_cell script1 0) rfl trivial fun v2 =>
 (w_p px_pkR
 (w_as (w_p (px_pk (px_c))
 (w_p (px_op2 rfl rfl (po_mod (y := 12)))
 (w_p px_pkR
 (w_p (px_op2 rfl rfl (po_addI))
 (w_p px_escA
 (w_letS (f := (rF eI)) rfl fun size3 =>
  w_gN (tg_fz rfl)
 (w_sas
 (w_asg (w_as (w_as (w_as (w_as (w_as (w_as (w_p (px_chkN (px_cons (px_esc (px_v rfl)) (px_cons (px_esc (px_c)) (px_nil))) rfl)
 (w_call (r_q_cell script1 1) rfl trivial fun v4 =>
 (w_p px_escR
 (w_as (w_as (w_as (w_as (w_p (px_chkN (px_cons (px_esc (px_v rfl)) (px_cons (px_esc (px_c)) (px_nil))) rfl)
 (w_call (r_q_cell script1 2) rfl trivial fun v5 =>
 (w_p px_escR
 (w_as (w_as (w_p (px_esc (px_v rfl))
 (w_as (w_p px_nil
 (w_p px_push
 (w_p px_push
 (w_p px_push
 (w_p (px_chkL rfl)
 (w_call (r_q_rows v4 v5 size3) rfl trivial fun v6 =>
 (w_p px_escA
 (w_gN (tg_fz rfl)
 (w_sas
 (w_asg (w_as (w_as (w_as (w_as (w_p (px_chkN (px_cons (px_esc (px_v rfl)) (px_cons (px_esc (px_c)) (px_nil))) rfl)
 (w_call (r_q_cell script1 3) rfl trivial fun v7 =>
 (w_p px_pkR
 (w_as (w_p (px_pk (px_v rfl))
 (w_op2 rfl rfl (ot_mod) fun v8 =>
 (w_p px_escA
 (w_gN (tg_fz rfl)
 (w_sas
 (w_asg (w_as (w_as (w_p (px_chkN (px_cons (px_esc (px_v rfl)) (px_cons (px_esc (px_v rfl)) (px_nil))) rfl)
 (w_call (r_q_standard v6 v8) rfl trivial fun v9 =>
 (w_p px_escA
 (w_gN (tg_fz rfl)
 (w_sas
 (w_asg (w_as (w_as (w_as (w_as (w_lcU (w_as (w_as (w_as (w_p (px_chkN (px_cons (px_esc (px_v rfl)) (px_cons (px_esc (px_v rfl)) (px_nil))) rfl)
 (w_call (r_q_part v6 v8) rfl trivial fun v10 =>
 (w_p px_escRo
 (w_p (px_toIt (it_L eI (xs := v10)))
 (w_map (e0 := eI) (eT (eT eI)) rfl rfl
 (fun x11 => lc_m (tg_fz rfl) (fun g q => at_rm (q) (rms_no (by decide))) (w_as (w_p (px_chkN (px_cons (px_esc (px_v rfl)) (px_cons (px_esc (px_v rfl)) (px_nil))) rfl)
 (w_call (r_q_standard v6 x11) rfl trivial fun v12 =>
 (w_endP px_escR rfl)))))
 (fun l13 => w_p px_pkRo
 (w_as (w_p px_nil
 (w_p px_push
 (w_opN rfl (ot_minD (eT (eT eI)) (xs := l13)) fun v14 =>
 (w_p px_escA
 (w_gN (tg_fz rfl)
 (w_sas
 (w_sIf (w_tOrT (w_as (w_as (w_as (w_as (w_as (w_as (w_as (w_p (px_chkN (px_cons (px_esc (px_c)) (px_cons (px_esc (px_wk (e := (eT (eW eI))) (a := v6) (px_v rfl))) (px_cons (px_esc (px_v rfl)) (px_nil)))) rfl)
 (w_call (r_q_told 0 v6 v8) rfl trivial fun v15 =>
 (w_p px_pkRf
 (w_as (w_p px_nil
 (w_p px_push
 (w_opN rfl (ot_repr (d := eD v15)) fun v16 =>
 (w_p px_pkR
 (w_as (w_as (w_as (w_p (px_cons (px_pk (px_v rfl)) (px_nil))
 (w_opN rfl (ot_repr (d := (eT (eT eI)) v9)) fun v17 =>
 (w_p px_pkR
 (w_p (px_op2 rfl rfl (po_neS (s := v16) (t := v17)))
 (w_p px_toB
 (w_tif (f := fun v => v) (LL := fun _ => _) (w_endM) (w_mbmp (w_as (w_as (w_as (w_as (w_as (w_as (w_as (w_p (px_chkN (px_cons (px_esc (px_c)) (px_cons (px_esc (px_wk (e := (eT (eW eI))) (a := v6) (px_v rfl))) (px_cons (px_esc (px_v rfl)) (px_nil)))) rfl)
 (w_call (r_q_told 1 v6 v8) rfl trivial fun v18 =>
 (w_p px_pkRf
 (w_as (w_p px_nil
 (w_p px_push
 (w_opN rfl (ot_repr (d := eD v18)) fun v19 =>
 (w_p px_pkR
 (w_as (w_as (w_as (w_p (px_cons (px_pk (px_v rfl)) (px_nil))
 (w_opN rfl (ot_repr (d := (eT (eT eI)) v14)) fun v20 =>
 (w_p px_pkR
 (w_p (px_op2 rfl rfl (po_neS (s := v19) (t := v20)))
 (w_p px_toB
 (w_endM))))))))))))))))))))))))) fun v21 =>
 (w_if
 (w_ret (w_p (px_c)
 (w_retF fun g q => .inl rfl)))
 (w_nilS (w_sas
 (w_asg (w_as (w_as (w_as (w_as (w_as (w_as (w_p (px_chkN (px_cons (px_esc (px_v rfl)) (px_cons (px_esc (px_c)) (px_nil))) rfl)
 (w_call (r_q_cell script1 4) rfl trivial fun v22 =>
 (w_p px_escR
 (w_as (w_as (w_p (px_esc (px_v rfl))
 (w_as (w_p px_nil
 (w_p px_push
 (w_p px_push
 (w_p (px_chkL rfl)
 (w_call (r_q_arranged v22 size3) rfl trivial fun v23 =>
 (w_p px_escA
 (w_gN (tg_fz rfl)
 (w_sas
 (w_asg (w_p (px_eAo (px_lst (px_nil) rfl rfl))
 (w_gN (tg_ow rfl)
 (w_sas
 (w_for (w_p (px_iSeq (px_esc (px_v rfl)) (it_T (eW eI) (xs := v6)))
 (w_fold (e := (eW eI)) (LS := fun s35 : ((List (List Int))) => [(0, .fz (eX script1)), (1, .fz (eI size3)), (2, .fz ((eT (eW eI)) v6)), (3, .fz (eI v8)), (4, .fz ((eT (eT eI)) v9)), (5, .fz ((eT (eT eI)) v14)), (6, .fz ((eW eI) v23)), (7, .ow false ((oL (eT eI)) s35))]) rfl ⟨rfl, rfl, rfl, rfl, rfl, rfl, rfl, rfl, trivial⟩
 (fun s35 x24 => w_gN (tg_fz rfl)
 (w_last
 (w_sas
 (w_asg (w_as (w_as (w_p (px_pk (px_lst (px_cons (px_esc (px_c)) (px_nil)) rfl rfl))
 (w_as (w_p (px_pk (px_v rfl))
 (w_op2 rfl rfl (ot_repL eI (xs := ([0] : List Int))) fun v36 =>
 (w_p px_escAo
 (w_gN (tg_ow rfl)
 (w_sas
 (w_for (w_as (w_p (px_cons (px_esc (px_v rfl)) (px_nil))
 (w_rng1 fun r37 =>
 (w_fold (e := eI) (LS := fun s39 : ((List Int)) => [(0, .fz (eX script1)), (1, .fz (eI size3)), (2, .fz ((eT (eW eI)) v6)), (3, .fz (eI v8)), (4, .fz ((eT (eT eI)) v9)), (5, .fz ((eT (eT eI)) v14)), (6, .fz ((eW eI) v23)), (7, .ow false ((oL (eT eI)) s35)), (8, .fz ((eW eI) x24)), (9, .ow false ((oL eI) s39))]) rfl ⟨rfl, rfl, rfl, rfl, rfl, rfl, rfl, rfl, rfl, rfl, trivial⟩
 (fun s39 x38 => w_gN (tg_fz rfl)
 (w_last
 (w_set (w_as (w_as (w_p (px_pk (px_wk (e := (eW eI)) (a := v23) (px_v rfl)))
 (w_as (w_as (w_as (w_p (px_pk (px_wk (e := (eW eI)) (a := x24) (px_v rfl)))
 (w_as (w_p (px_pk (px_v rfl))
 (w_op2 rfl rfl (ot_ixT eI (xs := x24)) fun v40 =>
 (w_p px_pkR
 (w_op2 rfl rfl (ot_ixT eI (xs := v23)) fun v41 =>
 (w_p px_escR
 (w_p (px_vo rfl) (w_as (w_as (w_p (px_pk (px_wk (e := (eW eI)) (a := v23) (px_v rfl)))
 (w_as (w_p (px_pk (px_v rfl))
 (w_op2 rfl rfl (ot_ixT eI (xs := v23)) fun v42 =>
 (w_p px_pkR
 (w_opSet rfl rfl (os_set eI (xs := s39)) rfl fun entries43 => w_nil fun g q => ⟨trivial, q.sub ⟨rfl, rfl, rfl, rfl, rfl, rfl, rfl, rfl, rfl, rfl, trivial⟩⟩)))))))))))))))))))))))))
 (fun s39 => w_expr (w_as (w_p (px_vo rfl) (w_as (w_p (px_chkT rfl rfl) (w_as (w_p (px_cons (px_esc (px_callB (px_consA (px_pk (px_vo rfl)) (px_nil)) rfl (po_tupL eI (xs := s39)))) (px_nil))
 (w_opMut rfl rfl (om_apd (eT eI) (xs := s35) (x := s39)) rfl fun turned44 =>
 (w_nil fun g q => ⟨trivial, q.sub ⟨rfl, rfl, rfl, rfl, rfl, rfl, rfl, rfl, trivial⟩⟩)))))))))))))))))))))))))))
 (fun s35 => w_sas
 (w_sIf (w_tOrT (w_as (w_as (w_as (w_as (w_as (w_as (w_p (px_esc (px_c))
 (w_as (w_as (w_p (px_esc (px_callB (px_consA (px_pk (px_vo rfl)) (px_nil)) rfl (po_tupL (eT eI) (xs := s35))))
 (w_as (w_as (w_as (w_as (w_p (px_pk (px_wk (e := (eW eI)) (a := v23) (px_v rfl)))
 (w_as (w_p (px_pk (px_v rfl))
 (w_op2 rfl rfl (ot_ixT eI (xs := v23)) fun v45 =>
 (w_p px_escR
 (w_as (w_p px_nil
 (w_p px_push
 (w_p px_push
 (w_p px_push
 (w_p (px_chkL rfl)
 (w_call (r_q_told 0 s35 v45) rfl trivial fun v46 =>
 (w_p px_pkR
 (w_as (w_p (px_pk (px_v rfl))
 (w_op2 rfl rfl (ot_neD (a := v46) (b := ((eT (eT eI)) v9))) fun v47 =>
 (w_p px_toB
 (w_tif (f := fun v => v) (LL := fun _ => _) (w_endM) (w_mbmp (w_as (w_as (w_as (w_as (w_as (w_as (w_p (px_esc (px_c))
 (w_as (w_as (w_p (px_esc (px_callB (px_consA (px_pk (px_vo rfl)) (px_nil)) rfl (po_tupL (eT eI) (xs := s35))))
 (w_as (w_as (w_as (w_as (w_p (px_pk (px_wk (e := (eW eI)) (a := v23) (px_v rfl)))
 (w_as (w_p (px_pk (px_v rfl))
 (w_op2 rfl rfl (ot_ixT eI (xs := v23)) fun v48 =>
 (w_p px_escR
 (w_as (w_p px_nil
 (w_p px_push
 (w_p px_push
 (w_p px_push
 (w_p (px_chkL rfl)
 (w_call (r_q_told 1 s35 v48) rfl trivial fun v49 =>
 (w_p px_pkR
 (w_as (w_p (px_pk (px_v rfl))
 (w_op2 rfl rfl (ot_neD (a := v49) (b := ((eT (eT eI)) v14))) fun v50 =>
 (w_p px_toB
 (w_endM))))))))))))))))))))))))))))))))) fun v51 =>
 (w_if
 (w_ret (w_p (px_c)
 (w_retF fun g q => .inl rfl)))
 (w_nilS (w_sas
 (w_asg (w_as (w_as (w_as (w_as (w_as (w_as (w_p (px_chkN (px_cons (px_esc (px_v rfl)) (px_cons (px_esc (px_c)) (px_nil))) rfl)
 (w_call (r_q_cell script1 1) rfl trivial fun v52 =>
 (w_p px_escR
 (w_as (w_as (w_as (w_as (w_p (px_chkN (px_cons (px_esc (px_v rfl)) (px_cons (px_esc (px_c)) (px_nil))) rfl)
 (w_call (r_q_cell script1 5) rfl trivial fun v53 =>
 (w_p px_escR
 (w_as (w_as (w_p (px_esc (px_v rfl))
 (w_as (w_p px_nil
 (w_p px_push
 (w_p px_push
 (w_p px_push
 (w_p (px_chkL rfl)
 (w_call (r_q_rows v52 v53 size3) rfl trivial fun v54 =>
 (w_p px_escA
 (w_gN (tg_fz rfl)
 (w_sas
 (w_for (w_as (w_as (w_as (w_p (px_chkN (px_cons (px_esc (px_wk (e := (eT (eW eI))) (a := v54) (px_v rfl))) (px_nil)) rfl)
 (w_call (r_parts v54) rfl trivial fun v55 =>
 (w_p px_escRo
 (w_p (px_toIt (it_L (eL eI) (xs := v55)))
 (w_forT (e := (eL eI)) (LS := fun s57 : Unit => [(1, .fz (eI size3)), (2, .fz ((eT (eW eI)) v6)), (4, .fz ((eT (eT eI)) v9)), (5, .fz ((eT (eT eI)) v14)), (11, .fz ((eT (eW eI)) v54))]) rfl ⟨rfl, rfl, rfl, rfl, rfl, trivial⟩
 (fun s57 x56 => w_gN (tg_fz rfl)
 (w_last
 (w_sas
 (w_asg (w_as (w_as (w_p (px_pk (px_v rfl))
 (w_as (w_as (w_lcU (w_p (px_iSeq (px_esc (px_v rfl)) (it_L eI (xs := x56)))
 (w_map (e0 := eI) (eT (eT eI)) rfl rfl
 (fun x58 => lc_m (tg_fz rfl) (fun g q => at_rm (q) (rms_no (by decide))) (w_as (w_p (px_chkN (px_cons (px_esc (px_c)) (px_cons (px_esc (px_wk (e := (eT (eW eI))) (a := v54) (px_v rfl))) (px_cons (px_esc (px_v rfl)) (px_nil)))) rfl)
 (w_call (r_q_told 0 v54 x58) rfl trivial fun v59 =>
 (w_cast (e := (eT (eT eI))) (d := v59) fun v60 hc => by
 subst hc
 exact (w_endP px_escR rfl))))))
 (fun l61 => w_p px_pkR
 (w_op2 rfl rfl (ot_inE (eT (eT eI)) (x := v9) (xs := l61)) fun v62 =>
 (w_p px_escA
 (w_gN (tg_fz rfl)
 (w_sIf (w_as (w_as (w_p (px_pk (px_v rfl))
 (w_as (w_as (w_as (w_as (w_as (w_as (w_as (w_p (px_esc (px_c))
 (w_as (w_as (w_p (px_esc (px_wk (e := (eT (eW eI))) (a := v54) (px_v rfl)))
 (w_as (w_as (w_as (w_as (w_p (px_pk (px_v rfl))
 (w_as (w_p (px_pk (px_c))
 (w_op2 rfl rfl (ot_ixL eI (xs := x56)) fun v63 =>
 (w_p px_escR
 (w_as (w_p px_nil
 (w_p px_push
 (w_p px_push
 (w_p px_push
 (w_p (px_chkL rfl)
 (w_call (r_q_told 1 v54 v63) rfl trivial fun v64 =>
 (w_p px_pkR
 (w_as (w_p (px_pk (px_v rfl))
 (w_op2 rfl rfl (ot_eqD (a := v64) (b := ((eT (eT eI)) v14))) fun v65 =>
 (w_p px_pkR
 (w_p (px_op2 rfl rfl (po_neB))
 (w_p px_toB
 (w_if
 (w_ret (w_p (px_c)
 (w_retF fun g q => ⟨trivial, .inl rfl⟩)))
 (w_nilS (w_nil fun g q => ⟨trivial, q.sub ⟨rfl, rfl, rfl, rfl, rfl, trivial⟩⟩)))))))))))))))))))))))))))))))))))))))))))))))))))))))))
 (fun s57 => w_sas
 (w_asg (w_as (w_as (w_as (w_as (w_as (w_as (w_as (w_as (w_as (w_as (w_p (px_pk (px_c))
 (w_as (w_p (px_pk (px_c))
 (w_op2 rfl rfl (ot_lrg2) fun v66 =>
 (w_p px_pkR
 (w_as (w_p (px_pk (px_lst (px_cons (px_esc (px_c)) (px_nil)) rfl rfl))
 (w_op2 rfl rfl (ot_catL eI (xs := v66) (ys := ([0] : List Int))) fun v67 =>
 (w_p px_pkRo
 (w_as (w_p px_nil
 (w_p px_push
 (w_p (px_opN rfl (po_tupL eI (xs := v67)))
 (w_p px_escR
 (w_as (w_p px_nil
 (w_p px_push
 (w_p (px_mkTup rfl rfl)
 (w_p px_escA
 (w_gN (tg_fz rfl)
 (w_sas
 (w_sIf (w_tOrT (w_as (w_as (w_as (w_as (w_p (px_chkN (px_cons (px_esc (px_c)) (px_cons (px_esc (px_v rfl)) (px_cons (px_esc (px_c)) (px_nil)))) rfl)
 (w_call (r_q_told 1 [v67] 0) rfl trivial fun v68 =>
 (w_p px_pkR
 (w_as (w_p (px_pk (px_cs (y := [108, 97, 114, 103, 101])))
 (w_op2 rfl rfl (ot_neD (a := v68) (b := (eS [108, 97, 114, 103, 101]))) fun v69 =>
 (w_p px_toB
 (w_tif (f := fun v => v) (LL := fun _ => _) (w_endM) (w_mbmp (w_as (w_as (w_as (w_as (w_p (px_chkN (px_cons (px_esc (px_c)) (px_cons (px_esc (px_v rfl)) (px_cons (px_esc (px_c)) (px_nil)))) rfl)
 (w_call (r_q_told 0 [v67] 5) rfl trivial fun v70 =>
 (w_p px_pkR
 (w_as (w_as (w_as (w_p (px_chkN (px_cons (px_esc (px_c)) (px_cons (px_esc (px_v rfl)) (px_cons (px_esc (px_c)) (px_nil)))) rfl)
 (w_call (r_q_told 0 [v67] 0) rfl trivial fun v71 =>
 (w_p px_pkR
 (w_op2 rfl rfl (ot_neD (a := v70) (b := v71)) fun v72 =>
 (w_p px_toB
 (w_endM))))))))))))))))) fun v73 =>
 (w_if
 (w_ret (w_p (px_c)
 (w_retF fun g q => .inl rfl)))
 (w_nilS (w_sas
 (w_for (w_as (w_p (px_cons (px_esc (px_c)) (px_nil))
 (w_rng1 fun r74 =>
 (w_forT (e := eI) (LS := fun s76 : Unit => [(1, .fz (eI size3)), (2, .fz ((eT (eW eI)) v6))]) rfl ⟨rfl, rfl, trivial⟩
 (fun s76 x75 => w_gN (tg_fz rfl)
 (w_last
 (w_sIf (w_tOrT (w_as (w_as (w_as (w_as (w_p (px_chkN (px_cons (px_esc (px_v rfl)) (px_cons (px_esc (px_wk (e := (eT (eW eI))) (a := v6) (px_v rfl))) (px_cons (px_esc (px_v rfl)) (px_nil)))) rfl)
 (w_call (r_q_told x75 v6 size3) rfl trivial fun v77 =>
 (w_p px_pkR
 (w_as (w_p (px_pk (px_cs (y := [110, 117, 109, 98, 101, 114])))
 (w_op2 rfl rfl (ot_neD (a := v77) (b := (eS [110, 117, 109, 98, 101, 114]))) fun v78 =>
 (w_p px_toB
 (w_tif (f := fun v => v) (LL := fun _ => _) (w_endM) (w_mbmp (w_as (w_as (w_as (w_as (w_p (px_chkN (px_cons (px_esc (px_v rfl)) (px_cons (px_esc (px_tup (px_cons (px_esc (px_tup (px_cons (px_esc (px_c)) (px_cons (px_esc (px_c)) (px_nil))) rfl rfl)) (px_nil)) rfl rfl)) (px_cons (px_esc (px_c)) (px_nil)))) rfl)
 (w_call (r_q_told x75 [[(0, 0).1, (0, 0).2]] 9) rfl trivial fun v79 =>
 (w_p px_pkR
 (w_as (w_p (px_pk (px_cs (y := [103, 114, 97, 112, 104])))
 (w_op2 rfl rfl (ot_neD (a := v79) (b := (eS [103, 114, 97, 112, 104]))) fun v80 =>
 (w_p px_toB
 (w_endM))))))))))))) fun v81 =>
 (w_if
 (w_ret (w_p (px_c)
 (w_retF fun g q => ⟨trivial, .inl rfl⟩)))
 (w_nilS (w_nil fun g q => ⟨trivial, q.sub ⟨rfl, rfl, trivial⟩⟩)))))))))))))))))))
 (fun s76 => w_ret (w_p (px_c)
 (w_retF fun g q => .inl rfl)))))))))))))))))))))))))))))))))))))))))))))))))))))))))))))))))))))))))))))))))))))))))))))))))))))))))))))))))))))))))))))))))))))))))))))))))))))))))))))))))))))))))))))))))))))))))))))))))))))))))))))))))))))))))))))))))))))))))))))))))))))))))))))))))))))))))))))))))))))))))))))))))
end
end Law

namespace Law
open DL PySem PySem.Spec L2
/-! drawn numbers, arrangements, machines, strings of the law -/
def Dr (m : Int) (xs : List Int) : Prop := ∀ x ∈ xs, 0 ≤ x ∧ x < m
theorem Dr.get {m : Int} {xs : List Int} (h : Dr m xs) {i : Nat} {x : Int} (e : xs[i]? = some x) : 0 ≤ x ∧ x < m := h x (List.mem_of_getElem? e)
theorem cell_ok (ns : List Int) (k : Int) (h0 : 0 ≤ k) : Ok (t_q_cell ns k) (fun _ => True) := by
  unfold t_q_cell
  refine ok_if (fun c => ?_) fun _ => ok_ok trivial
  rw [tb_eta]
  exact ok_imp (tIdx_ok h0 (by simpa using c)) fun _ _ => trivial
theorem erase_perm {α : Type} : ∀ (L : List α) (k : Nat) (h : k < L.length), (L[k] :: L.eraseIdx k).Perm L
  | a :: r, 0, _ => .refl _
  | a :: r, k + 1, h => (List.Perm.swap a (r[k]'(by simpa using h)) (r.eraseIdx k)).trans ((erase_perm r k (by simpa using h)).cons a)
theorem arranged_ok {v m : Int} (h0 : 1 ≤ m) (h1 : m ≤ 1000) : Ok (t_q_arranged v m) (fun xs => xs.Perm (rngL 0 m)) := by
  unfold t_q_arranged
  rw [tLrg_eq ⟨by omega, by omega, by omega, by omega, by omega⟩, tb_ok, tRng_eq (by decide) (by decide) (by omega) (by omega), tb_ok]
  refine ok_tb (tfold_okN (fun i s => s.2.2.length + i = m.toNat ∧ s.2.1.length = i ∧ (s.2.2 ++ s.2.1).Perm (rngL 0 m)) ⟨by show (rngL 0 m).length + 0 = _; rw [rngL_len]; omega, rfl, by simp⟩ ?_) ?_
  · intro i x s hx ⟨hl, hl2, hp⟩
    obtain ⟨rfl, hi⟩ := rngL_get hx
    have hpos : 0 < (s.2.2.length : Int) := by omega
    rw [tMod_eq hpos, tb_ok, tFdiv_eq hpos (by omega), tb_ok]
    have e0 := Int.emod_nonneg s.1 (show (s.2.2.length : Int) ≠ 0 by omega)
    have e1 := Int.emod_lt_of_pos s.1 hpos
    generalize s.1 % (s.2.2.length : Int) = a at e0 e1
    have hlt : a.toNat < s.2.2.length := by omega
    rw [tIdx_int e0 (List.getElem?_eq_getElem hlt), tb_ok, tApd_eq (by omega), tb_ok]
    have ec : cutL s.2.2 none (some a) ++ cutL s.2.2 (some (a + 1)) none = s.2.2.eraseIdx a.toNat := by
      rw [cutL_to _ _ e0, cutL_from _ _ (by omega), List.eraseIdx_eq_take_drop_succ, show (a + 1).toNat = a.toNat + 1 by omega]
    rw [tCat_eq (by have := cutL_len s.2.2 none (some a); have := cutL_len s.2.2 (some (a + 1)) none; omega), tb_ok, ec]
    refine ok_ok ⟨?_, by simp [hl2], ?_⟩
    · show (s.2.2.eraseIdx a.toNat).length + (i + 1) = _
      rw [List.length_eraseIdx, if_pos hlt]; omega
    · show (s.2.2.eraseIdx a.toNat ++ (s.2.1 ++ [s.2.2[a.toNat]])).Perm _
      refine List.Perm.trans ?_ hp
      rw [← List.append_assoc]
      refine List.perm_append_comm.trans ?_
      show ((s.2.2[a.toNat] :: s.2.2.eraseIdx a.toNat) ++ s.2.1).Perm _
      exact List.Perm.append_right _ (erase_perm _ _ hlt)
  · intro s ⟨hl, _, hp⟩
    rw [rngL_len] at hl
    have : s.2.2 = [] := List.eq_nil_of_length_eq_zero (by omega)
    rw [this] at hp
    exact ok_ok hp
/-! checks -/
/-- not too large to be looked at -/
def Sm (m : Mac) : Prop := m.2.length ≤ 100000 ∧ ∀ r ∈ m.2, r.length ≤ 100000
theorem getD_at' {α : Type} {l : List α} {i : Nat} {d : α} (h : i < l.length) : l[i]? = some (l.getD i d) := by rw [List.getD_eq_getElem?_getD, List.getElem?_eq_getElem h]; rfl
/-! tries, checks -/
theorem try_ok {ρ : Type} {v : ρ} {ns : List Str} {h : Ex → T ρ} : tTry (.ok v) ns h = .ok v := by unfold tTry; rfl
theorem try_ex {ρ : Type} {e : Ex} {ns : List Str} {h : Ex → T ρ} (m : e.c ∈ ns) : tTry (.ex e) ns h = h e := by unfold tTry; exact if_pos m
theorem ne_self {k : Nat} {d : D} (h : Shp k d) (hk : k ≤ 64 := by decide) : tNeD d d = .ok false := by
  rw [tNeD_eq (okEq_of h h hk), PySem.SeqAt.eqv_refl _ h.2.1]; rfl
theorem tLIx_eq {xs : List Int} {x : Int} (h : x ∈ xs) : tLIx xs x = .ok ((xs.idxOf x : Nat) : Int) := by
  unfold tLIx
  have hl : xs.findIdx (fun y => y == x) < xs.length := List.findIdx_lt_length_of_exists ⟨x, h, by simp⟩
  have e : xs.findIdx? (fun y => y == x) = some (xs.findIdx fun y => y == x) := by
    rw [List.findIdx?_eq_some_iff_findIdx_eq]; exact ⟨hl, rfl⟩
  rw [e]; rfl

/-! levels: the program and the law -/
theorem tFl_eq {α β γ : Type} {F : α → T (Option (List β))} {f : α → β → T (Option γ)} (ys : α → List β) (g : α → β → γ) {xs : List α} (hl : xs.length ≤ 16777216) (h1 : ∀ x ∈ xs, F x = .ok (some (ys x))) (h2 : ∀ x ∈ xs, ∀ y ∈ ys x, f x y = .ok (some (g x y)))
    (hs : (xs.flatMap fun x => (ys x).map (g x)).length ≤ 16777216) : tFl xs F f = .ok (xs.flatMap fun x => (ys x).map (g x)) := by
  have key : ∀ (xs : List α) (m : Nat), (∀ x ∈ xs, F x = .ok (some (ys x))) → (∀ x ∈ xs, ∀ y ∈ ys x, f x y = .ok (some (g x y))) → m + (xs.flatMap fun x => (ys x).map (g x)).length ≤ 16777216 → tflA F f xs m = .ok (xs.flatMap fun x => (ys x).map (g x)) := by
    intro xs
    induction xs with
    | nil => intro m _ _ _; rfl
    | cons x xs ih =>
      intro m h1 h2 hs
      rw [List.flatMap_cons, List.length_append, List.length_map] at hs
      unfold tflA
      rw [h1 x List.mem_cons_self, tnx_ok, tb_ok]
      dsimp only
      rw [if_pos (by omega), tfmA_eq (g := fun y => some (g x y)) (h2 x List.mem_cons_self), tb_ok, show ((ys x).filterMap fun y => some (g x y)) = (ys x).map (g x) from congrFun List.filterMap_eq_map' _]
      rw [ih _ (fun z hz => h1 z (List.mem_cons_of_mem _ hz)) (fun z hz => h2 z (List.mem_cons_of_mem _ hz)) (by rw [List.length_map]; omega), tb_ok, List.flatMap_cons]
  unfold tFl
  rw [if_pos hl]
  exact key xs 0 h1 h2 (by omega)
/-! the graph of a level -/
def grV (m : Mac) (ws : List S) (n : Nat) : List (List Int) := ws.map fun v => lvN m v n
theorem is_graph_at {g : List (List Int)} {N : Nat} (g1 : 1 ≤ g.length) (g6 : g.length ≤ 6) (n1 : 1 ≤ N) (n2 : N ≤ 1024) (hp : ∀ r ∈ g, r.Perm (rngL 0 (N : Int))) : t_is_graph g = .ok true := by
  have key : Ok (t_is_graph g) (fun b => b = true) := by
    unfold t_is_graph
    have rl : ∀ r ∈ g, r.length = N := fun r hr => by have := (hp r hr).length_eq; rw [rngL_len] at this; omega
    have e0 := getD_at' (l := g) (i := 0) (d := []) (by omega)
    have h0 := rl _ (List.mem_of_getElem? e0)
    have i0 : tIdx g 0 = .ok (g.getD 0 []) := tIdx_int (by decide) e0
    have c1 : (!((decide (1 ≤ (g.length : Int))) && (decide ((g.length : Int) ≤ 6)))) = false := by rw [decide_eq_true (by omega), decide_eq_true (by omega)]; rfl
    have c2 : (!((decide (1 ≤ ((g.getD 0 []).length : Int))) && (decide (((g.getD 0 []).length : Int) ≤ 1024)))) = false := by rw [decide_eq_true (by omega), decide_eq_true (by omega)]; rfl
    rw [c1, if_neg (by decide), i0, tb_ok, tb_ok, c2, if_neg (by decide), tMap_eq (fun _ => true) (by omega) fun r hr => by
      rw [tb_ok, h0, tLrg_eq ⟨by omega, by omega, by omega, by omega, by omega⟩, tb_ok, srt_rng.mpr (hp r hr), tEqE_eq (okEq_of (k := 2) (shp_L (k := 1) _ fun _ _ => shp_int _) (shp_L (k := 1) _ fun _ _ => shp_int _)), tb_ok, decide_eq_true rfl], tb_ok]
    refine ok_ok ?_
    rw [List.all_map, List.all_eq_true]
    intro x _; rfl
  obtain ⟨b, e, rfl⟩ := key
  exact e
/-! graphs: balls, layers, parts -/
/-! arrangements -/
def atL (p : List Int) (x : Int) : Int := p.getD x.toNat 0
theorem atL_get {p : List Int} {k : Int} (h : p.Perm (rngL 0 k)) {x : Int} (x0 : 0 ≤ x) (x1 : x < k) : p[x.toNat]? = some (atL p x) ∧ 0 ≤ atL p x ∧ atL p x < k := by
  have hl := h.length_eq
  rw [rngL_len] at hl
  have hx : x.toNat < p.length := by omega
  have e : p[x.toNat]? = some (atL p x) := by unfold atL; rw [List.getD_eq_getElem?_getD, List.getElem?_eq_getElem hx]; rfl
  exact ⟨e, rngL_mem.mp (h.subset (List.mem_of_getElem? e))⟩
theorem atL_inj {p : List Int} {k : Int} (h : p.Perm (rngL 0 k)) {x y : Int} (x0 : 0 ≤ x) (x1 : x < k) (y0 : 0 ≤ y) (y1 : y < k) (e : atL p x = atL p y) : x = y := by
  obtain ⟨lx, gx⟩ := List.getElem?_eq_some_iff.mp (atL_get h x0 x1).1
  obtain ⟨ly, gy⟩ := List.getElem?_eq_some_iff.mp (atL_get h y0 y1).1
  have := (List.getElem_inj (Perm.ndp h)).mp (gx.trans (e.trans gy.symm))
  omega
theorem atL_onto {p : List Int} {k : Int} (h : p.Perm (rngL 0 k)) {y : Int} (y0 : 0 ≤ y) (y1 : y < k) : ∃ x, 0 ≤ x ∧ x < k ∧ atL p x = y := by
  have hy : y ∈ p := h.symm.subset (rngL_mem.mpr ⟨y0, y1⟩)
  obtain ⟨i, hi, e⟩ := List.getElem_of_mem hy
  have hl := h.length_eq
  rw [rngL_len] at hl
  refine ⟨i, by omega, by omega, ?_⟩
  unfold atL
  rw [Int.toNat_natCast, List.getD_eq_getElem?_getD, List.getElem?_eq_getElem hi, e]; rfl
theorem tIdx_at {p : List Int} {k : Int} (h : p.Perm (rngL 0 k)) {x : Int} (x0 : 0 ≤ x) (x1 : x < k) : tIdx p x = .ok (atL p x) := tIdx_int x0 (atL_get h x0 x1).1
abbrev Grf := List (List Int)
abbrev InN (N : Nat) (x : Int) : Prop := 0 ≤ x ∧ x < (N : Int)
def GOk (N : Nat) (g : Grf) : Prop := ∀ r ∈ g, r.Perm (rngL 0 (N : Int))
def Adj (N : Nat) (g : Grf) (x y : Int) : Prop := InN N y ∧ ∃ r ∈ g, atL r x = y ∨ atL r y = x
def Bl (N : Nat) (g : Grf) (s : Int) : Nat → Int → Prop
  | 0, x => x = s
  | n + 1, x => Bl N g s n x ∨ ∃ y, Bl N g s n y ∧ Adj N g y x
def Lay (N : Nat) (g : Grf) (s : Int) : Nat → Int → Prop
  | 0, x => x = s
  | n + 1, x => Bl N g s (n + 1) x ∧ ¬ Bl N g s n x
def Cn (N : Nat) (g : Grf) (s x : Int) : Prop := ∃ r, Bl N g s r x
section
variable {N : Nat} {g : Grf} {s x y : Int}
theorem Adj.symm (hx : InN N x) (h : Adj N g x y) : Adj N g y x := ⟨hx, let ⟨r, hr, e⟩ := h.2; ⟨r, hr, e.symm⟩⟩
theorem Bl.In (hs : InN N s) : ∀ {n : Nat} {x : Int}, Bl N g s n x → InN N x
  | 0, x, h => by rw [show x = s from h]; exact hs
  | n + 1, x, .inl h => Bl.In hs h
  | n + 1, x, .inr ⟨y, _, h⟩ => h.1
theorem Bl.up {n : Nat} : ∀ d : Nat, Bl N g s n x → Bl N g s (n + d) x
  | 0, h => h
  | d + 1, h => .inl (Bl.up d h)
theorem Bl.mono {i j : Nat} (h : i ≤ j) (b : Bl N g s i x) : Bl N g s j x := by
  have := b.up (j - i)
  rwa [show i + (j - i) = j by omega] at this
theorem Lay.bl : ∀ {n : Nat}, Lay N g s n x → Bl N g s n x
  | 0, h => h
  | _ + 1, h => h.1
theorem bl_lay {n : Nat} (h : Bl N g s n x) : ∃ j, j ≤ n ∧ Lay N g s j x := by
  induction n with
  | zero => exact ⟨0, Nat.le_refl _, h⟩
  | succ n ih =>
    by_cases c : Bl N g s n x
    · obtain ⟨j, a, b⟩ := ih c
      exact ⟨j, by omega, b⟩
    · exact ⟨n + 1, Nat.le_refl _, h, c⟩
theorem lay_min {n j : Nat} (h : Lay N g s n x) (b : Bl N g s j x) : n ≤ j := by
  cases n with
  | zero => exact Nat.zero_le _
  | succ n =>
    rcases Nat.lt_or_ge j (n + 1) with q | q
    · exact absurd (b.mono (j := n) (by omega)) h.2
    · exact q
theorem bl_stable {i : Nat} (h : ∀ x, ¬ Lay N g s (i + 1) x) : ∀ (r : Nat) (x : Int), Bl N g s r x → Bl N g s i x
  | 0, x, b => b.mono (Nat.zero_le _)
  | r + 1, x, b => by
    rcases b with b | ⟨y, b, a⟩
    · exact bl_stable h r x b
    · by_cases c : Bl N g s i x
      · exact c
      · exact absurd ⟨.inr ⟨y, bl_stable h r y b, a⟩, c⟩ (h x)
theorem Bl.trans {n : Nat} (h : Bl N g s n x) : ∀ (r : Nat) (y : Int), Bl N g x r y → Bl N g s (n + r) y
  | 0, y, b => by rw [show y = x from b]; exact h
  | r + 1, y, .inl b => .inl (Bl.trans h r y b)
  | r + 1, y, .inr ⟨z, b, a⟩ => .inr ⟨z, Bl.trans h r z b, a⟩
theorem Bl.symm (hs : InN N s) : ∀ (n : Nat) (x : Int), Bl N g s n x → Bl N g x n s
  | 0, x, b => by rw [show x = s from b]; rfl
  | n + 1, x, .inl b => .inl (Bl.symm hs n x b)
  | n + 1, x, .inr ⟨y, b, a⟩ => by
    have b1 : Bl N g x 1 y := .inr ⟨x, rfl, a.symm (b.In hs)⟩
    have := b1.trans n s (Bl.symm hs n y b)
    rwa [Nat.add_comm] at this
theorem Cn.refl : Cn N g s s := ⟨0, rfl⟩
theorem Cn.symm (hs : InN N s) (h : Cn N g s x) : Cn N g x s := h.elim fun n b => ⟨n, Bl.symm hs n x b⟩
theorem Cn.trans (h : Cn N g s x) (k : Cn N g x y) : Cn N g s y := let ⟨n, a⟩ := h; let ⟨r, b⟩ := k; ⟨n + r, a.trans r y b⟩
theorem Cn.In (hs : InN N s) (h : Cn N g s x) : InN N x := h.elim fun _ b => b.In hs
theorem Cn.adj (h : Cn N g s x) (a : Adj N g x y) : Cn N g s y := h.elim fun n b => ⟨n + 1, .inr ⟨x, b, a⟩⟩
end
/-! numbers with a property -/
open Classical in
noncomputable def fil (N : Nat) (p : Int → Prop) : List Int := (rngL 0 (N : Int)).filter fun x => decide (p x)
section
variable {N : Nat} {p q : Int → Prop}
theorem fil_mem {x : Int} : x ∈ fil N p ↔ InN N x ∧ p x := by
  classical
  unfold fil
  rw [List.mem_filter, rngL_mem, decide_eq_true_eq]
theorem fil_nd : (fil N p).Nodup := (rngL_nodup 0 (N : Int)).filter _
theorem fil_srt {F : List Int} (nd : F.Nodup) (h : ∀ x, x ∈ F ↔ InN N x ∧ p x) : srt F = fil N p := by
  have pm : (fil N p).Perm F := (List.perm_ext_iff_of_nodup fil_nd nd).mpr fun x => by rw [fil_mem, h]
  exact (srt_of pm ((rngL_sorted 0 (N : Int)).filter _)).symm
theorem fil_congr (h : ∀ x, InN N x → (p x ↔ q x)) : fil N p = fil N q := by
  classical
  unfold fil
  refine List.filter_congr fun x hx => ?_
  exact decide_eq_decide.mpr (h x (rngL_mem.mp hx))
theorem fil_len : (fil N p).length ≤ N := by
  have := List.length_filter_le (fun x => @decide (p x) (Classical.propDecidable _)) (rngL 0 (N : Int))
  rw [rngL_len] at this
  unfold fil
  omega
theorem cnt_map {M : Nat} (f : Int → Int) (h : ∀ y, InN M y → q y → ∃ x, InN N x ∧ p x ∧ f x = y) : (fil M q).length ≤ (fil N p).length := by
  have := nd_le (l := fil M q) (c := (fil N p).map f) fil_nd fun y hy => by
    obtain ⟨a, b⟩ := fil_mem.mp hy
    obtain ⟨x, c, d, e⟩ := h y a b
    exact List.mem_map.mpr ⟨x, fil_mem.mpr ⟨c, d⟩, e⟩
  rwa [List.length_map] at this
theorem map_nd {α β : Type} {f : α → β} : ∀ {xs : List α}, xs.Nodup → (∀ x ∈ xs, ∀ y ∈ xs, f x = f y → x = y) → (xs.map f).Nodup
  | [], _, _ => List.nodup_nil
  | x :: xs, nd, h => by
    rw [List.nodup_cons] at nd
    rw [List.map_cons, List.nodup_cons]
    refine ⟨fun hm => ?_, map_nd nd.2 fun a ha b hb => h a (List.mem_cons_of_mem _ ha) b (List.mem_cons_of_mem _ hb)⟩
    obtain ⟨y, hy, e⟩ := List.mem_map.mp hm
    have := h y (List.mem_cons_of_mem _ hy) x List.mem_cons_self e
    exact nd.1 (this ▸ hy)
end
/-! a graph over a graph -/
structure Ov (k : Int) (N M : Nat) (g h : Grf) : Prop where
  k0 : 2 ≤ k
  gl : g.length = h.length
  nm : (N : Int) = k * (M : Int)
  gk : GOk N g
  hk : GOk M h
  e : ∀ (i : Nat) (r b : List Int), g[i]? = some r → h[i]? = some b → ∀ x, InN N x → atL r x / k = atL b (x / k)
section
variable {k : Int} {N M : Nat} {g h : Grf}
theorem Ov.dv (o : Ov k N M g h) {x : Int} (hx : InN N x) : InN M (x / k) := by
  have k0 := o.k0
  have nm := o.nm
  refine ⟨Int.ediv_nonneg hx.1 (by omega), ?_⟩
  refine Int.ediv_lt_of_lt_mul (by omega) ?_
  rw [Int.mul_comm, ← nm]; exact hx.2
theorem Ov.rows (o : Ov k N M g h) {b : List Int} (hb : b ∈ h) : ∃ r ∈ g, r.Perm (rngL 0 (N : Int)) ∧ b.Perm (rngL 0 (M : Int)) ∧ ∀ x, InN N x → atL r x / k = atL b (x / k) := by
  obtain ⟨i, hi⟩ := List.getElem?_of_mem hb
  have hl : i < g.length := by rw [o.gl]; exact (List.getElem?_eq_some_iff.mp hi).1
  have e := List.getElem?_eq_getElem hl
  exact ⟨_, List.mem_of_getElem? e, o.gk _ (List.mem_of_getElem? e), o.hk _ hb, o.e i _ _ e hi⟩
theorem Ov.rows' (o : Ov k N M g h) {r : List Int} (hr : r ∈ g) : ∃ b ∈ h, r.Perm (rngL 0 (N : Int)) ∧ b.Perm (rngL 0 (M : Int)) ∧ ∀ x, InN N x → atL r x / k = atL b (x / k) := by
  obtain ⟨i, hi⟩ := List.getElem?_of_mem hr
  have hl : i < h.length := by rw [← o.gl]; exact (List.getElem?_eq_some_iff.mp hi).1
  have e := List.getElem?_eq_getElem hl
  exact ⟨_, List.mem_of_getElem? e, o.gk _ hr, o.hk _ (List.mem_of_getElem? e), o.e i _ _ hi e⟩
theorem Ov.proj (o : Ov k N M g h) {x y : Int} (hx : InN N x) (a : Adj N g x y) : Adj M h (x / k) (y / k) := by
  obtain ⟨hy, r, hr, e⟩ := a
  obtain ⟨b, hb, _, _, q⟩ := o.rows' hr
  refine ⟨o.dv hy, b, hb, ?_⟩
  rcases e with e | e
  · left; rw [← q x hx, e]
  · right; rw [← q y hy, e]
theorem Ov.lift (o : Ov k N M g h) {x y' : Int} (hx : InN N x) (a : Adj M h (x / k) y') : ∃ x', Adj N g x x' ∧ x' / k = y' := by
  obtain ⟨hy, b, hb, e⟩ := a
  obtain ⟨r, hr, pr, pb, q⟩ := o.rows hb
  rcases e with e | e
  · obtain ⟨_, a0, a1⟩ := atL_get pr hx.1 hx.2
    exact ⟨atL r x, ⟨⟨a0, a1⟩, r, hr, .inl rfl⟩, by rw [q x hx, e]⟩
  · obtain ⟨x', b0, b1, ex⟩ := atL_onto pr hx.1 hx.2
    refine ⟨x', ⟨⟨b0, b1⟩, r, hr, .inr ex⟩, ?_⟩
    have d1 := o.dv (x := x') ⟨b0, b1⟩
    exact atL_inj pb d1.1 d1.2 hy.1 hy.2 (by rw [← q x' ⟨b0, b1⟩, ex, e])
theorem Ov.bproj (o : Ov k N M g h) {s : Int} (hs : InN N s) : ∀ (n : Nat) (x : Int), Bl N g s n x → Bl M h (s / k) n (x / k)
  | 0, x, b => by rw [show x = s from b]; rfl
  | n + 1, x, .inl b => .inl (Ov.bproj o hs n x b)
  | n + 1, x, .inr ⟨y, b, a⟩ => .inr ⟨y / k, Ov.bproj o hs n y b, o.proj (b.In hs) a⟩
theorem Ov.blift (o : Ov k N M g h) {s : Int} (hs : InN N s) : ∀ (n : Nat) (y : Int), Bl M h (s / k) n y → ∃ x, Bl N g s n x ∧ x / k = y
  | 0, y, b => ⟨s, rfl, Eq.symm b⟩
  | n + 1, y, .inl b => let ⟨x, a, e⟩ := Ov.blift o hs n y b; ⟨x, .inl a, e⟩
  | n + 1, y, .inr ⟨z, b, a⟩ => by
    obtain ⟨x, c, rfl⟩ := Ov.blift o hs n z b
    obtain ⟨x', d, e⟩ := o.lift (c.In hs) a
    exact ⟨x', .inr ⟨x, c, d⟩, e⟩
theorem Ov.balls (o : Ov k N M g h) {s : Int} (hs : InN N s) (n : Nat) : (fil M (Bl M h (s / k) n)).length ≤ (fil N (Bl N g s n)).length := cnt_map (fun x => x / k) fun y _ b => by
  obtain ⟨x, c, e⟩ := o.blift hs n y b
  exact ⟨x, c.In hs, c, e⟩
theorem Ov.cn (o : Ov k N M g h) {s : Int} (hs : InN N s) {y : Int} : Cn M h (s / k) y ↔ ∃ x, Cn N g s x ∧ x / k = y := ⟨fun ⟨n, b⟩ => let ⟨x, a, e⟩ := o.blift hs n y b; ⟨x, ⟨n, a⟩, e⟩, fun ⟨x, ⟨n, b⟩, e⟩ => ⟨n, e ▸ o.bproj hs n x b⟩⟩
/-- the numbers of a part over one -/
def Fb (N : Nat) (g : Grf) (k s y : Int) (x : Int) : Prop := Cn N g s x ∧ x / k = y
theorem Ov.few (o : Ov k N M g h) (s y : Int) : ((fil N (Fb N g k s y)).length : Int) ≤ k := by
  have k0 := o.k0
  have nd : ((fil N (Fb N g k s y)).map fun x => x % k).Nodup := map_nd fil_nd fun x hx z hz e => by
    have a := (fil_mem.mp hx).2.2
    have b := (fil_mem.mp hz).2.2
    have e1 := Int.emod_add_mul_ediv x k
    have e2 := Int.emod_add_mul_ediv z k
    rw [← e1, ← e2, a, b, e]
  have := nd_le (c := rngL 0 k) nd fun t ht => by
    obtain ⟨x, _, rfl⟩ := List.mem_map.mp ht
    exact rngL_mem.mpr ⟨Int.emod_nonneg _ (by omega), Int.emod_lt_of_pos _ (by omega)⟩
  rw [List.length_map, rngL_len] at this
  omega
end

/-! the program on graphs -/
theorem atL_set {b : List Int} {a x y : Int} (ha : 0 ≤ a) (h1 : a < b.length) (hx : 0 ≤ x) : atL (b.set a.toNat y) x = if x = a then y else atL b x := by
  unfold atL
  rw [List.getD_eq_getElem?_getD, List.getElem?_set, List.getD_eq_getElem?_getD]
  by_cases c : x = a
  · subst c
    rw [if_pos rfl, if_pos (by omega), if_pos rfl]; rfl
  · rw [if_neg (by omega), if_neg c]
theorem tSet_int {b : List Int} {a y : Int} (ha : 0 ≤ a) (h1 : a < b.length) : tSet b a y = .ok (b.set a.toNat y) := by
  have := tSet_nat (xs := b) (i := a.toNat) (x := y) (by omega)
  rw [show ((a.toNat : Nat) : Int) = a by omega] at this
  exact this
theorem tIdx_len {b : List Int} {N : Nat} (hl : b.length = N) {x : Int} (hx : InN N x) : tIdx b x = .ok (atL b x) := tIdx_int hx.1 (by
  have h0 := hx.1
  have h1 := hx.2
  unfold atL
  rw [List.getD_eq_getElem?_getD, List.getElem?_eq_getElem (by omega)]; rfl)
theorem perm_len {r : List Int} {N : Nat} (h : r.Perm (rngL 0 (N : Int))) : r.length = N := by
  have := h.length_eq
  rw [rngL_len] at this; omega
theorem lastE {α : Type} {l : List α} {x : α} {n : Nat} (h : l[n]? = some x) (hl : l.length = n + 1) : tIdx l (-1 : Int) = .ok x := by
  refine tIdx_neg (by decide) (by omega) ?_
  rw [show ((-1 : Int) + (l.length : Int)).toNat = n by omega]; exact h
theorem cutL_neg1 {α : Type} (xs : List α) : cutL xs none (some (-1)) = xs.dropLast := by
  unfold cutL
  have h : HT.sIx xs.length xs.length (some (-1)) = xs.length - 1 := by
    unfold HT.sIx
    simp only []
    rw [if_pos (by decide)]; omega
  rw [h, sIx_no, List.drop_zero, List.dropLast_eq_take, Nat.sub_zero]
section
variable {N : Nat} {g : Grf}
def Bks (N : Nat) (g bs : Grf) : Prop := bs.length = g.length ∧ ∀ (i : Nat) (r b : List Int), g[i]? = some r → bs[i]? = some b → b.length = N ∧ ∀ x, InN N x → atL b (atL r x) = x
theorem backs_ok (hg : GOk N g) (hN : N ≤ 1024) (g6 : g.length ≤ 12) : Ok (t__backs g) (Bks N g) := by
  unfold t__backs
  refine ok_tb (tfold_okN (fun n (s : Grf) => s.length = n ∧ ∀ (i : Nat) (r b : List Int), i < n → g[i]? = some r → s[i]? = some b → b.length = N ∧ ∀ x, InN N x → atL b (atL r x) = x) ⟨rfl, fun i r b h => by omega⟩ ?_) fun s ⟨h1, h2⟩ => ok_ok ⟨h1, fun i r b hr hb => h2 i r b (List.getElem?_eq_some_iff.mp hr).1 hr hb⟩
  intro i r s hr ⟨h1, h2⟩
  have hi := (List.getElem?_eq_some_iff.mp hr).1
  have pr := hg r (List.mem_of_getElem? hr)
  have rl := perm_len pr
  rw [tRepL_eq (by omega) (by omega) (by rw [List.length_singleton]; omega), tb_ok]
  refine ok_tb (tfold_okN (fun n (b : List Int) => b.length = N ∧ ∀ j : Nat, j < n → atL b (atL r (j : Int)) = (j : Int)) ⟨by rw [repL_len, List.length_singleton]; omega, fun j hj => by omega⟩ ?_) ?_
  · intro j q b hq ⟨b1, b2⟩
    obtain ⟨e1, e2⟩ := enumL_get hq
    have hj := (List.getElem?_eq_some_iff.mp e2).1
    have ga := (atL_get pr (x := (j : Int)) (by omega) (by omega)).1
    rw [Int.toNat_natCast, e2] at ga
    have eq2 : q.2 = atL r (j : Int) := Option.some.inj ga
    obtain ⟨_, a0, a1⟩ := atL_get pr (x := (j : Int)) (by omega) (by omega)
    rw [eq2, e1, tSet_int a0 (by omega), tb_ok]
    refine ok_ok ⟨by rw [List.length_set]; exact b1, fun t ht => ?_⟩
    obtain ⟨_, c0, c1⟩ := atL_get pr (x := (t : Int)) (by omega) (by omega)
    rw [atL_set a0 (by omega) c0]
    by_cases c : atL r (t : Int) = atL r (j : Int)
    · have := atL_inj pr (by omega) (by omega) (by omega) (by omega) c
      rw [if_pos c]; omega
    · rw [if_neg c]
      refine b2 t ?_
      rcases Nat.lt_or_ge t j with z | z
      · exact z
      · exact absurd (by rw [show t = j by omega]) c
  · intro b ⟨b1, b2⟩
    rw [enumL_len, rl] at b2
    rw [tApd_eq (by omega), tb_ok]
    refine ok_ok ⟨by simp [h1], fun j r' b' hj hr' hb' => ?_⟩
    rcases Nat.lt_or_ge j i with z | z
    · rw [List.getElem?_append_left (by omega)] at hb'
      exact h2 j r' b' z hr' hb'
    · have : j = i := by omega
      subst this
      rw [List.getElem?_append_right (by omega), h1, Nat.sub_self] at hb'
      rw [hr] at hr'
      cases hr'
      cases hb'
      refine ⟨b1, fun x hx => ?_⟩
      have := b2 x.toNat (by have := hx.1; have := hx.2; omega)
      rwa [show ((x.toNat : Nat) : Int) = x by have := hx.1; omega] at this
theorem steps_ok (hg : GOk N g) (hN : N ≤ 1024) (g6 : g.length ≤ 12) {bs : Grf} (hb : Bks N g bs) {x : Int} (hx : InN N x) : Ok (t__steps g bs x) (fun l => ∀ y, y ∈ l ↔ Adj N g x y) := by
  unfold t__steps
  refine ok_tb (tfold_okN (fun n (s : List Int) => s.length = 2 * n ∧ ∀ y, y ∈ s ↔ ∃ j, j < n ∧ ∃ r, g[j]? = some r ∧ InN N y ∧ (atL r x = y ∨ atL r y = x)) ⟨rfl, fun y => ⟨fun h => by simp at h, fun ⟨j, h, _⟩ => by omega⟩⟩ ?_) fun s ⟨_, h2⟩ => ok_ok fun y => ?_
  · intro i q s hq ⟨h1, h2⟩
    obtain ⟨hr, hbb⟩ := List.getElem?_zip_eq_some.mp hq
    have hi := (List.getElem?_eq_some_iff.mp hr).1
    have pr := hg q.1 (List.mem_of_getElem? hr)
    obtain ⟨bl, bk⟩ := hb.2 i q.1 q.2 hr hbb
    obtain ⟨_, a0, a1⟩ := atL_get pr hx.1 hx.2
    obtain ⟨x', c0, c1, ex⟩ := atL_onto pr hx.1 hx.2
    have eb : atL q.2 x = x' := by rw [← ex]; exact bk x' ⟨c0, c1⟩
    rw [tIdx_at pr hx.1 hx.2, tb_ok, tApd_eq (by omega), tb_ok, tIdx_len bl hx, tb_ok, tApd_eq (by rw [List.length_append, List.length_singleton]; omega), tb_ok, eb]
    refine ok_ok ⟨by simp [h1]; omega, fun y => ?_⟩
    rw [List.mem_append, List.mem_append, List.mem_singleton, List.mem_singleton, h2]
    constructor
    · rintro ((⟨j, hj, h⟩ | e) | e)
      · exact ⟨j, by omega, h⟩
      · subst e; exact ⟨i, by omega, q.1, hr, ⟨a0, a1⟩, .inl rfl⟩
      · subst e; exact ⟨i, by omega, q.1, hr, ⟨c0, c1⟩, .inr ex⟩
    · rintro ⟨j, hj, r, e, hy, h⟩
      rcases Nat.lt_or_ge j i with z | z
      · exact .inl (.inl ⟨j, z, r, e, hy, h⟩)
      · have : j = i := by omega
        subst this
        rw [hr] at e
        cases e
        rcases h with h | h
        · exact .inl (.inr h.symm)
        · exact .inr (atL_inj pr hy.1 hy.2 c0 c1 (h.trans ex.symm))
  · rw [h2]
    constructor
    · rintro ⟨j, _, r, e, hy, h⟩
      exact ⟨hy, r, List.mem_of_getElem? e, h⟩
    · rintro ⟨hy, r, hr, h⟩
      obtain ⟨j, hj⟩ := List.getElem?_of_mem hr
      refine ⟨j, ?_, r, hj, hy, h⟩
      rw [List.length_zip, hb.1, Nat.min_self]
      exact (List.getElem?_eq_some_iff.mp hj).1
theorem nd_lenN {L : List Int} (h : L.Nodup) (d : ∀ x ∈ L, InN N x) : L.length ≤ N := by
  have := nd_le (c := rngL 0 (N : Int)) h fun x hx => rngL_mem.mpr (d x hx)
  rw [rngL_len] at this; omega
noncomputable def lays (N : Nat) (g : Grf) (s : Int) (n : Nat) : List (List Int) := (List.range n).map fun j => fil N (Lay N g s j)
theorem lays_succ (s : Int) (n : Nat) : lays N g s (n + 1) = lays N g s n ++ [fil N (Lay N g s n)] := by unfold lays; rw [List.range_succ, List.map_append]; rfl
theorem lays_len (s : Int) (n : Nat) : (lays N g s n).length = n := by unfold lays; rw [List.length_map, List.length_range]
theorem lays_get (s : Int) {n i : Nat} (h : i < n) : (lays N g s n)[i]? = some (fil N (Lay N g s i)) := by unfold lays; rw [List.getElem?_map, List.getElem?_range h]; rfl
theorem lays_okN (hg : GOk N g) (hN : N ≤ 1024) (g6 : g.length ≤ 12) {s : Int} (hs : InN N s) : Ok (t__layers g s) (fun Ls => ∃ n, 1 ≤ n ∧ n ≤ N ∧ Ls = lays N g s n ∧ (∀ (r : Nat) (x : Int), Bl N g s r x → Bl N g s (n - 1) x) ∧ ∀ j, j < n → fil N (Lay N g s j) ≠ []) := by
  unfold t__layers
  refine ok_tb (backs_ok hg hN g6) fun bs hbs => ?_
  rw [tb_ok, tb_ok]
  refine ok_tlp (P := fun t => match t with
    | .dn (st : Dct Int Bool × List (List Int)) => ∃ i : Nat, st.2 = lays N g s (i + 1) ∧ fil N (Lay N g s i) = [] ∧ i ≤ N ∧ ∀ j, j < i → fil N (Lay N g s j) ≠ []
    | .rt (_ : List (List Int)) => False)
    (twh_ok (fun st : Dct Int Bool × List (List Int) => ∃ (i : Nat) (K : List Int), st.2 = lays N g s (i + 1) ∧ Kn st.1 K ∧ K.Nodup ∧ (∀ x, x ∈ K ↔ Bl N g s i x) ∧ i ≤ K.length ∧ (fil N (Lay N g s i) ≠ [] → i + 1 ≤ K.length) ∧ ∀ j, j < i → fil N (Lay N g s j) ≠ [])
      (fun st => 2000 - st.2.length) _ ⟨0, [s], ?_, Kn.one s, by simp, fun x => List.mem_singleton, Nat.zero_le _, fun _ => (by simp), fun j hj => by omega⟩ (by dsimp only; omega) ?_) ?_ fun r h => h.elim
  · show [[s]] = lays N g s 1
    have e : srt [s] = fil N (Lay N g s 0) := fil_srt (by simp) fun x => by
      rw [List.mem_singleton]
      exact ⟨fun e => ⟨e ▸ hs, e⟩, fun e => e.2⟩
    have e2 : [s] = srt [s] := srt_of (.refl _) (by simp)
    show _ = [fil N (Lay N g s 0)]
    rw [← e, ← e2]
  · rintro ⟨met, ls⟩ ⟨i, K, e, kn, nd, mem, l1, l2, lne⟩
    dsimp only at e kn ⊢
    subst e
    have inK : ∀ x ∈ K, InN N x := fun x hx => ((mem x).mp hx).In hs
    have kl := nd_lenN nd inK
    have la : tIdx (lays N g s (i + 1)) (-1 : Int) = .ok (fil N (Lay N g s i)) := lastE (lays_get s (by omega)) (lays_len s (i + 1))
    rw [la, tb_ok]
    refine ok_ok ⟨fun hf => ?_, fun ht => ?_⟩
    · refine ⟨i, rfl, ?_, by omega, lne⟩
      have : (fil N (Lay N g s i)).isEmpty = true := by
        cases q : (fil N (Lay N g s i)).isEmpty with
        | true => rfl
        | false => rw [q] at hf; cases hf
      exact List.isEmpty_iff.mp this
    · have ne : fil N (Lay N g s i) ≠ [] := fun q => by rw [q] at ht; cases ht
      have l3 := l2 ne
      rw [tb_ok]
      refine ok_tb (tfold_okN (fun n (st : Dct Int Bool × List Int) => Kn st.1 (K ++ st.2) ∧ (K ++ st.2).Nodup ∧ (∀ y ∈ st.2, ∃ z, Lay N g s i z ∧ Adj N g z y) ∧ ∀ (j : Nat) (z : Int), j < n → (fil N (Lay N g s i))[j]? = some z → ∀ y, Adj N g z y → y ∈ K ++ st.2) ⟨by rw [List.append_nil]; exact kn, by rw [List.append_nil]; exact nd, fun y h => by simp at h, fun j z h => by omega⟩ ?_) ?_
      · rintro n z ⟨d, F⟩ hz ⟨k1, k2, k3, k4⟩
        dsimp only at k1 k2 k3 k4 ⊢
        obtain ⟨zi, zl⟩ := fil_mem.mp (List.mem_of_getElem? hz)
        refine ok_tb (steps_ok hg hN g6 hbs zi) fun l hl => ?_
        refine ok_tb (P := fun st : Dct Int Bool × List Int => Kn st.1 (K ++ st.2) ∧ (K ++ st.2).Nodup ∧ (∀ y ∈ st.2, ∃ z, Lay N g s i z ∧ Adj N g z y) ∧ (∀ y ∈ K ++ F, y ∈ K ++ st.2) ∧ ∀ (m : Nat) (y : Int), m < l.length → l[m]? = some y → y ∈ K ++ st.2) (tfold_okN (fun n (st : Dct Int Bool × List Int) => Kn st.1 (K ++ st.2) ∧ (K ++ st.2).Nodup ∧ (∀ y ∈ st.2, ∃ z, Lay N g s i z ∧ Adj N g z y) ∧ (∀ y ∈ K ++ F, y ∈ K ++ st.2) ∧ ∀ (m : Nat) (y : Int), m < n → l[m]? = some y → y ∈ K ++ st.2) ⟨k1, k2, k3, fun y h => h, fun m y h => by omega⟩ ?_) ?_
        · rintro m y ⟨d2, F2⟩ hy ⟨m1, m2, m3, m4, m5⟩
          dsimp only at m1 m2 m3 m4 m5 ⊢
          have ay := (hl y).mp (List.mem_of_getElem? hy)
          have inF : ∀ x ∈ K ++ F2, InN N x := fun x hx => (List.mem_append.mp hx).elim (inK x) fun h => by obtain ⟨_, _, a⟩ := m3 x h; exact a.1
          have fl := nd_lenN m2 inF
          have fl2 := m1.len
          rw [List.length_append] at fl
          by_cases c : dhas d2 y = true
          · rw [c, if_neg (by decide), tb_ok]
            have hy2 := (m1.has y).mp c
            refine ok_ok ⟨m1, m2, m3, m4, fun m' y' hm' e' => ?_⟩
            rcases Nat.lt_or_ge m' m with q | q
            · exact m5 m' y' q e'
            · have : m' = m := by omega
              subst this
              rw [hy] at e'; cases e'; exact hy2
          · have c' : dhas d2 y = false := by simpa using c
            have hn : y ∉ K ++ F2 := fun h => c ((m1.has y).mpr h)
            rw [c', if_pos (by decide), tDPut_eq (by rw [List.length_append] at fl2; omega), tb_ok, tApd_eq (by omega), tb_ok, tb_ok]
            have ea : K ++ (F2 ++ [y]) = (K ++ F2) ++ [y] := (List.append_assoc ..).symm
            refine ok_ok ⟨⟨fun t => ?_, ?_⟩, ?_, fun t ht => ?_, fun t ht => ?_, fun m' y' hm' e' => ?_⟩
            · show dhas (dput d2 y true) t = true ↔ t ∈ K ++ (F2 ++ [y])
              rw [dhas_putG, m1.has, ea, List.mem_append (s := K ++ F2), List.mem_singleton]; exact Or.comm
            · show (dput d2 y true).length ≤ (K ++ (F2 ++ [y])).length
              have := dput_len d2 y true
              rw [ea, List.length_append (as := K ++ F2), List.length_singleton]; omega
            · show (K ++ (F2 ++ [y])).Nodup
              rw [ea, List.nodup_append]
              exact ⟨m2, by simp, fun a ha b hb => by rw [List.mem_singleton.mp hb]; intro e; exact hn (e ▸ ha)⟩
            · rcases List.mem_append.mp ht with q | q
              · exact m3 t q
              · rw [List.mem_singleton.mp q]; exact ⟨z, zl, ay⟩
            · show t ∈ K ++ (F2 ++ [y])
              rw [ea]; exact List.mem_append_left _ (m4 t ht)
            · show y' ∈ K ++ (F2 ++ [y])
              rw [ea]
              rcases Nat.lt_or_ge m' m with q | q
              · exact List.mem_append_left _ (m5 m' y' q e')
              · have : m' = m := by omega
                subst this
                rw [hy] at e'; cases e'; simp
        · rintro ⟨d2, F2⟩ ⟨m1, m2, m3, m4, m5⟩
          refine ok_ok ⟨m1, m2, m3, fun j z' hj e' y a => ?_⟩
          rcases Nat.lt_or_ge j n with q | q
          · exact m4 y (k4 j z' q e' y a)
          · have : j = n := by omega
            subst this
            rw [hz] at e'; cases e'
            obtain ⟨m, hm⟩ := List.getElem?_of_mem ((hl y).mpr a)
            exact m5 m y (List.getElem?_eq_some_iff.mp hm).1 hm
      · rintro ⟨d, F⟩ ⟨k1, k2, k3, k4⟩
        dsimp only at k1 k2 k3 k4 ⊢
        have inF : ∀ x ∈ K ++ F, InN N x := fun x hx => (List.mem_append.mp hx).elim (inK x) fun h => by obtain ⟨_, _, a⟩ := k3 x h; exact a.1
        have fl := nd_lenN k2 inF
        rw [List.length_append] at fl
        have memK : ∀ y, y ∈ K ++ F ↔ Bl N g s (i + 1) y := fun y => by
          constructor
          · intro h
            rcases List.mem_append.mp h with q | q
            · exact .inl ((mem y).mp q)
            · obtain ⟨z, a, b⟩ := k3 y q
              exact .inr ⟨z, a.bl, b⟩
          · rintro (b | ⟨z, b, a⟩)
            · exact List.mem_append_left _ ((mem y).mpr b)
            · obtain ⟨j, hj, hl⟩ := bl_lay b
              rcases Nat.lt_or_ge j i with q | q
              · have b2 : Bl N g s (j + 1) y := .inr ⟨z, hl.bl, a⟩
                exact List.mem_append_left _ ((mem y).mpr (b2.mono (by omega)))
              · have : j = i := by omega
                subst this
                obtain ⟨t, ht⟩ := List.getElem?_of_mem (fil_mem.mpr ⟨b.In hs, hl⟩)
                exact k4 t z (List.getElem?_eq_some_iff.mp ht).1 ht y a
        have nk := List.nodup_append.mp k2
        have memF : ∀ y, y ∈ F ↔ InN N y ∧ Lay N g s (i + 1) y := fun y => by
          constructor
          · intro h
            have h2 : y ∈ K ++ F := List.mem_append_right _ h
            exact ⟨inF y h2, (memK y).mp h2, fun b => nk.2.2 y ((mem y).mpr b) y h rfl⟩
          · rintro ⟨_, b, nb⟩
            rcases List.mem_append.mp ((memK y).mpr b) with q | q
            · exact absurd ((mem y).mp q) nb
            · exact q
        have es := fil_srt nk.2.1 memF
        have fe : (fil N (Lay N g s (i + 1))).length = F.length := by rw [← es]; exact (srt_perm F).length_eq
        rw [tApd_eq (by rw [lays_len]; omega), tb_ok]
        refine ok_ok ⟨⟨i + 1, K ++ F, ?_, k1, k2, memK, by rw [List.length_append]; omega, fun q => ?_, fun j hj => ?_⟩, ?_⟩
        · show lays N g s (i + 1) ++ [srt F] = _
          rw [es, ← lays_succ]
        · have := List.length_pos_iff.mpr q
          rw [List.length_append]; omega
        · rcases Nat.lt_or_ge j i with z | z
          · exact lne j z
          · rw [show j = i by omega]; exact ne
        · show 2000 - (lays N g s (i + 1) ++ [srt F]).length < 2000 - (lays N g s (i + 1)).length
          rw [List.length_append, lays_len, List.length_singleton]; omega
  · rintro ⟨d, ls⟩ ⟨i, e, em, hi, lne⟩
    dsimp only at e ⊢
    subst e
    have i1 : 1 ≤ i := by
      cases i with
      | zero =>
        have : s ∈ fil N (Lay N g s 0) := fil_mem.mpr ⟨hs, rfl⟩
        rw [em] at this; cases this
      | succ i => omega
    refine ok_ok ⟨i, i1, hi, ?_, ?_, lne⟩
    · rw [cutL_neg1, lays_succ, List.dropLast_concat]
    · obtain ⟨i', rfl⟩ : ∃ i', i = i' + 1 := ⟨i - 1, by omega⟩
      exact bl_stable fun x hx => by
        have : x ∈ fil N (Lay N g s (i' + 1)) := fil_mem.mpr ⟨hx.bl.In hs, hx⟩
        rw [em] at this; cases this
theorem lays_ok (hg : GOk N g) (hN : N ≤ 1024) (g6 : g.length ≤ 12) {s : Int} (hs : InN N s) : Ok (t__layers g s) (fun Ls => ∃ n, 1 ≤ n ∧ n ≤ N ∧ Ls = lays N g s n ∧ ∀ (r : Nat) (x : Int), Bl N g s r x → Bl N g s (n - 1) x) :=
  ok_imp (lays_okN hg hN g6 hs) fun Ls ⟨n, a, b, c, d, _⟩ => ⟨n, a, b, c, d⟩
end

/-! distance, layers, parts, over -/
structure GG (N : Nat) (g : Grf) : Prop where
  ok : GOk N g
  g1 : 1 ≤ g.length
  g6 : g.length ≤ 6
  n1 : 1 ≤ N
  n2 : N ≤ 1024
section
variable {N : Nat} {g : Grf}
theorem GG.chk (h : GG N g) : t_check_graph g = .ok () := by
  unfold t_check_graph
  rw [is_graph_at h.g1 h.g6 h.n1 h.n2 h.ok, tb_ok]; rfl
theorem GG.row0 (h : GG N g) : ∃ r, tIdx g 0 = .ok r ∧ r ∈ g ∧ r.length = N := by
  have e0 := List.getElem?_eq_getElem (show 0 < g.length from h.g1)
  exact ⟨_, tIdx_int (by decide) e0, List.mem_of_getElem? e0, perm_len (h.ok _ (List.mem_of_getElem? e0))⟩
theorem GG.num (h : GG N g) {x : Int} (hx : InN N x) : t_check_number g x = .ok () := by
  obtain ⟨r, e, _, l⟩ := h.row0
  unfold t_check_number
  rw [decide_eq_true hx.1, if_pos rfl, e, tb_ok, l, decide_eq_true hx.2, tb_ok]; rfl
theorem Cn.eq {s t : Int} (hs : InN N s) (h : Cn N g s t) : fil N (Cn N g t) = fil N (Cn N g s) := fil_congr fun x _ => ⟨fun k => h.trans k, fun k => (h.symm hs).trans k⟩
theorem flat_part {s : Int} (hs : InN N s) {n : Nat} (n1 : 1 ≤ n) (st : ∀ (r : Nat) (x : Int), Bl N g s r x → Bl N g s (n - 1) x) : srt ((lays N g s n).flatMap fun L => L.map fun x => x) = fil N (Cn N g s) ∧ ((lays N g s n).flatMap fun L => L.map fun x => x).length ≤ N := by
  have e : ((lays N g s n).flatMap fun L => L.map fun x => x) = (List.range n).flatMap fun j => fil N (Lay N g s j) := by
    unfold lays
    rw [List.flatMap_map]
    congr 1
    funext j
    exact List.map_id' _
  rw [e]
  have nd : ((List.range n).flatMap fun j => fil N (Lay N g s j)).Nodup := by
    rw [List.nodup_iff_pairwise_ne, List.pairwise_flatMap]
    refine ⟨fun j _ => List.nodup_iff_pairwise_ne.mp fil_nd, ?_⟩
    refine List.Pairwise.imp (fun {i j} hij x hx y hy exy => ?_) (List.pairwise_lt_range (n := n))
    subst exy
    have a := (fil_mem.mp hx).2
    have b := (fil_mem.mp hy).2
    have := lay_min b a.bl
    omega
  have mem : ∀ x, x ∈ ((List.range n).flatMap fun j => fil N (Lay N g s j)) ↔ InN N x ∧ Cn N g s x := fun x => by
    rw [List.mem_flatMap]
    constructor
    · rintro ⟨j, _, hj⟩
      obtain ⟨a, b⟩ := fil_mem.mp hj
      exact ⟨a, j, b.bl⟩
    · rintro ⟨a, r, b⟩
      obtain ⟨j, h1, h2⟩ := bl_lay (st r x b)
      exact ⟨j, List.mem_range.mpr (by omega), fil_mem.mpr ⟨a, h2⟩⟩
  exact ⟨fil_srt nd mem, nd_lenN nd fun x hx => ((mem x).mp hx).1⟩
theorem parts_at (h : GG N g) : Ok (t_parts g) (fun Ps => (∀ p ∈ Ps, ∃ s, InN N s ∧ p = fil N (Cn N g s)) ∧ (∀ s, InN N s → fil N (Cn N g s) ∈ Ps) ∧ Ps.length ≤ N) := by
  have n2 := h.n2
  obtain ⟨r0, e0, _, l0⟩ := h.row0
  unfold t_parts
  rw [h.chk, tb_ok, e0, tb_ok, l0, tRng_eq (by decide) (by decide) (by omega) (by omega), tb_ok]
  refine ok_tb (tfold_okN (fun n (st : Dct Int Bool × List (List Int)) => (∀ y, dhas st.1 y = true ↔ ∃ t : Nat, t < n ∧ t < N ∧ Cn N g (t : Int) y) ∧ st.1.length ≤ 1024 * n ∧ st.2.length ≤ n ∧ (∀ p ∈ st.2, ∃ s, InN N s ∧ p = fil N (Cn N g s)) ∧ ∀ t : Nat, t < n → t < N → fil N (Cn N g (t : Int)) ∈ st.2) ⟨fun y => ⟨fun q => by simp [dhas] at q, fun ⟨t, q, _⟩ => by omega⟩, by simp, by simp, fun p q => by simp at q, fun t q => by omega⟩ ?_) fun st ⟨_, _, a3, a4, a5⟩ => ok_ok ⟨a4, fun s hs => ?_, by rw [rngL_len] at a3; omega⟩
  · rintro i x ⟨d, Ps⟩ hx ⟨a1, a2, a3, a4, a5⟩
    obtain ⟨ex, hi⟩ := rngL_get hx
    obtain rfl : x = (i : Int) := by omega
    dsimp only at a1 a2 a3 a4 a5 ⊢
    have hiN : InN N (i : Int) := ⟨by omega, by omega⟩
    refine ok_tb (P := fun st : Dct Int Bool × List (List Int) => (∀ y, dhas st.1 y = true ↔ ∃ t : Nat, t < i + 1 ∧ t < N ∧ Cn N g (t : Int) y) ∧ st.1.length ≤ 1024 * (i + 1) ∧ st.2.length ≤ i + 1 ∧ (∀ p ∈ st.2, ∃ s, InN N s ∧ p = fil N (Cn N g s)) ∧ ∀ t : Nat, t < i + 1 → t < N → fil N (Cn N g (t : Int)) ∈ st.2) ?_ fun st hst => ok_ok hst
    by_cases c : dhas d (i : Int) = true
    · rw [c, if_neg (by decide)]
      obtain ⟨t0, b1, b2, b3⟩ := (a1 _).mp c
      have ht0 : InN N (t0 : Int) := ⟨by omega, by omega⟩
      refine ok_ok ⟨fun y => ?_, by dsimp only; omega, by dsimp only; omega, a4, fun t q1 q2 => ?_⟩
      · rw [a1]
        constructor
        · rintro ⟨t, q1, q2, q3⟩; exact ⟨t, by omega, q2, q3⟩
        · rintro ⟨t, q1, q2, q3⟩
          rcases Nat.lt_or_ge t i with z | z
          · exact ⟨t, z, q2, q3⟩
          · have : t = i := by omega
            subst this
            exact ⟨t0, b1, b2, b3.trans q3⟩
      · rcases Nat.lt_or_ge t i with z | z
        · exact a5 t z q2
        · have : t = i := by omega
          subst this
          rw [Cn.eq ht0 b3]
          exact a5 t0 b1 b2
    · have c' : dhas d (i : Int) = false := by simpa using c
      rw [c', if_pos (by decide)]
      refine ok_tb (lays_ok h.ok h.n2 (by have := h.g6; omega) hiN) fun Ls ⟨n, n1, nN, e, st⟩ => ?_
      subst e
      obtain ⟨f1, f2⟩ := flat_part hiN n1 st
      rw [tFl_eq (fun L : List Int => L) (fun (_ : List Int) (x : Int) => x) (by rw [lays_len]; omega) (fun L _ => by rw [tb_ok]) (fun L _ x _ => by rw [tb_ok]) (by omega), tb_ok, tb_ok, f1]
      have fl := fil_len (N := N) (p := Cn N g (i : Int))
      refine ok_tb (tfold_okN (fun n (d' : Dct Int Bool) => (∀ y, dhas d' y = true ↔ dhas d y = true ∨ ∃ m, m < n ∧ (fil N (Cn N g (i : Int)))[m]? = some y) ∧ d'.length ≤ d.length + n) ⟨fun y => ⟨.inl, fun q => q.elim id fun ⟨m, q, _⟩ => by omega⟩, Nat.le_refl _⟩ ?_) fun d' ⟨g1, g2⟩ => ?_
      · intro m y d' hy ⟨g1, g2⟩
        have hm := (List.getElem?_eq_some_iff.mp hy).1
        rw [tDPut_eq (by omega), tb_ok]
        refine ok_ok ⟨fun z => ?_, by have := dput_len d' y true; omega⟩
        rw [dhas_putG, g1]
        constructor
        · rintro (q | q | ⟨m', q1, q2⟩)
          · exact .inr ⟨m, by omega, by rw [q]; exact hy⟩
          · exact .inl q
          · exact .inr ⟨m', by omega, q2⟩
        · rintro (q | ⟨m', q1, q2⟩)
          · exact .inr (.inl q)
          · rcases Nat.lt_or_ge m' m with z' | z'
            · exact .inr (.inr ⟨m', z', q2⟩)
            · have : m' = m := by omega
              subst this
              rw [hy] at q2
              exact .inl (Option.some.inj q2).symm
      · rw [tApd_eq (by omega), tb_ok]
        refine ok_ok ⟨fun y => ?_, by dsimp only; omega, by dsimp only; rw [List.length_append, List.length_singleton]; omega, fun p hp => ?_, fun t q1 q2 => ?_⟩
        · show dhas d' y = true ↔ _
          rw [g1, a1]
          constructor
          · rintro (⟨t, q1, q2, q3⟩ | ⟨m, _, q2⟩)
            · exact ⟨t, by omega, q2, q3⟩
            · exact ⟨i, by omega, by omega, (fil_mem.mp (List.mem_of_getElem? q2)).2⟩
          · rintro ⟨t, q1, q2, q3⟩
            rcases Nat.lt_or_ge t i with z | z
            · exact .inl ⟨t, z, q2, q3⟩
            · have : t = i := by omega
              subst this
              obtain ⟨m, hm⟩ := List.getElem?_of_mem (fil_mem.mpr ⟨q3.In hiN, q3⟩)
              exact .inr ⟨m, (List.getElem?_eq_some_iff.mp hm).1, hm⟩
        · rcases List.mem_append.mp hp with q | q
          · exact a4 p q
          · exact ⟨_, hiN, List.mem_singleton.mp q⟩
        · show _ ∈ Ps ++ [_]
          rcases Nat.lt_or_ge t i with z | z
          · exact List.mem_append_left _ (a5 t z q2)
          · have : t = i := by omega
            subst this
            simp
  · have := a5 s.toNat (by rw [rngL_len]; have := hs.1; have := hs.2; omega) (by have := hs.1; have := hs.2; omega)
    rwa [show ((s.toNat : Nat) : Int) = s by have := hs.1; omega] at this
end
/-! over -/
theorem lst_at {r : List Int} {N : Nat} (hl : r.length = N) : r = (rngL 0 (N : Int)).map (atL r) := by
  apply List.ext_getElem?
  intro i
  rw [List.getElem?_map]
  by_cases hi : i < N
  · rw [rngL_at (by omega), List.getElem?_eq_getElem (by omega)]
    show _ = some (atL r ((0 : Int) + (i : Int)))
    unfold atL
    rw [show ((0 : Int) + (i : Int)).toNat = i by omega, List.getD_eq_getElem?_getD, List.getElem?_eq_getElem (by omega)]; rfl
  · rw [List.getElem?_eq_none (by omega), List.getElem?_eq_none (by rw [rngL_len]; omega)]; rfl
/-! law_k70: exact layers and parts -/
section
variable {N : Nat} {g : Grf}
open Classical in
noncomputable def prtL (N : Nat) (g : Grf) : Nat → List (List Int)
  | 0 => []
  | i + 1 => if ∃ p ∈ prtL N g i, (i : Int) ∈ p then prtL N g i else prtL N g i ++ [fil N (Cn N g (i : Int))]
/-! the law's own -/
theorem near_ok (hg : GOk N g) (g6 : g.length ≤ 12) {x : Int} (hx : InN N x) : Ok (t_q_near g x) (fun l => ∀ y, y ∈ l ↔ Adj N g x y) := by
  unfold t_q_near
  refine ok_tb (tfold_okN (fun n (s : List Int) => s.length = 2 * n ∧ ∀ y, y ∈ s ↔ ∃ j, j < n ∧ ∃ r, g[j]? = some r ∧ InN N y ∧ (atL r x = y ∨ atL r y = x)) ⟨rfl, fun y => ⟨fun h => by simp at h, fun ⟨j, h, _⟩ => by omega⟩⟩ ?_) fun s ⟨_, h2⟩ => ok_ok fun y => ?_
  · intro i r s hr ⟨h1, h2⟩
    have hi := (List.getElem?_eq_some_iff.mp hr).1
    have pr := hg r (List.mem_of_getElem? hr)
    have rl := perm_len pr
    obtain ⟨_, a0, a1⟩ := atL_get pr hx.1 hx.2
    have hm : x ∈ r := pr.symm.subset (rngL_mem.mpr hx)
    have il := List.idxOf_lt_length_of_mem hm
    have ea : atL r ((r.idxOf x : Nat) : Int) = x := by
      unfold atL
      rw [Int.toNat_natCast, List.getD_eq_getElem?_getD, List.getElem?_eq_getElem il, Option.getD_some, List.getElem_idxOf]
    have c0 : InN N ((r.idxOf x : Nat) : Int) := ⟨by omega, by omega⟩
    rw [tIdx_at pr hx.1 hx.2, tb_ok, tLIx_eq hm, tb_ok, tCat_eq (by show _ + 2 ≤ _; omega), tb_ok]
    refine ok_ok ⟨by simp [h1]; omega, fun y => ?_⟩
    rw [List.mem_append, h2]
    simp only [List.mem_cons, List.not_mem_nil, or_false]
    constructor
    · rintro (⟨j, hj, h⟩ | e | e)
      · exact ⟨j, by omega, h⟩
      · subst e; exact ⟨i, by omega, r, hr, ⟨a0, a1⟩, .inl rfl⟩
      · subst e; exact ⟨i, by omega, r, hr, c0, .inr ea⟩
    · rintro ⟨j, hj, r', e, hy, h⟩
      rcases Nat.lt_or_ge j i with z | z
      · exact .inl ⟨j, z, r', e, hy, h⟩
      · have : j = i := by omega
        subst this
        rw [hr] at e
        cases e
        rcases h with h | h
        · exact .inr (.inl h.symm)
        · exact .inr (.inr (atL_inj pr hy.1 hy.2 c0.1 c0.2 (h.trans ea.symm)))
  · rw [h2]
    constructor
    · rintro ⟨j, _, r, e, hy, h⟩
      exact ⟨hy, r, List.mem_of_getElem? e, h⟩
    · rintro ⟨hy, r, hr, h⟩
      obtain ⟨j, hj⟩ := List.getElem?_of_mem hr
      exact ⟨j, (List.getElem?_eq_some_iff.mp hj).1, r, hj, hy, h⟩
theorem q_layers_ok (h : GG N g) {s : Int} (hs : InN N s) : Ok (t_q_layers g s) (fun Ls => ∃ n, 1 ≤ n ∧ n ≤ N ∧ Ls = lays N g s n ∧ (∀ (r : Nat) (x : Int), Bl N g s r x → Bl N g s (n - 1) x) ∧ ∀ j, j < n → fil N (Lay N g s j) ≠ []) := by
  have hN := h.n2
  have hg := h.ok
  have g6 : g.length ≤ 12 := by have := h.g6; omega
  obtain ⟨r0, e0, _, l0⟩ := h.row0
  unfold t_q_layers
  rw [tb_ok, tb_ok, e0, tb_ok, l0, tRng_eq (by decide) (by decide) (by omega) (by omega), tb_ok]
  refine ok_tlp (P := fun t => match t with
    | .dn (st : List Int × List (List Int)) => ∃ n, 1 ≤ n ∧ n ≤ N ∧ st.2 = lays N g s n ∧ (∀ (r : Nat) (x : Int), Bl N g s r x → Bl N g s (n - 1) x) ∧ ∀ j, j < n → fil N (Lay N g s j) ≠ []
    | .rt (_ : List (List Int)) => False)
    (tfor_okN (fun i (st : List Int × List (List Int)) => st.2 = lays N g s (i + 1) ∧ st.1.Nodup ∧ (∀ x, x ∈ st.1 ↔ Bl N g s i x) ∧ i + 1 ≤ st.1.length ∧ ∀ j, j < i + 1 → fil N (Lay N g s j) ≠ []) _ ⟨?_, by simp, fun x => List.mem_singleton, by simp, fun j hj e => ?_⟩ ?_ ?_) (fun st hst => ok_ok hst) fun r h => h.elim
  · show [[s]] = lays N g s 1
    have e : srt [s] = fil N (Lay N g s 0) := fil_srt (by simp) fun x => by
      rw [List.mem_singleton]
      exact ⟨fun e => ⟨e ▸ hs, e⟩, fun e => e.2⟩
    have e2 : [s] = srt [s] := srt_of (.refl _) (by simp)
    show _ = [fil N (Lay N g s 0)]
    rw [← e, ← e2]
  · have hj0 : j = 0 := by omega
    subst hj0
    have : s ∈ fil N (Lay N g s 0) := fil_mem.mpr ⟨hs, rfl⟩
    rw [e] at this; cases this
  · rintro i x ⟨K, ls⟩ hx ⟨e, nd, mem, l1, lne⟩
    dsimp only at e nd mem l1 ⊢
    subst e
    have inK : ∀ x ∈ K, InN N x := fun x hx => ((mem x).mp hx).In hs
    have kl := nd_lenN nd inK
    have la : tIdx (lays N g s (i + 1)) (-1 : Int) = .ok (fil N (Lay N g s i)) := lastE (lays_get s (by omega)) (lays_len s (i + 1))
    rw [la, tb_ok]
    refine ok_tb (tfold_okN (fun n (st : List Int × List Int) => st.1 = K ++ st.2 ∧ (K ++ st.2).Nodup ∧ (∀ y ∈ st.2, ∃ z, Lay N g s i z ∧ Adj N g z y) ∧ ∀ (j : Nat) (z : Int), j < n → (fil N (Lay N g s i))[j]? = some z → ∀ y, Adj N g z y → y ∈ K ++ st.2) ⟨by rw [List.append_nil], by rw [List.append_nil]; exact nd, fun y h => by simp at h, fun j z h => by omega⟩ ?_) ?_
    · rintro n z ⟨d, F⟩ hz ⟨k1, k2, k3, k4⟩
      dsimp only at k1 k2 k3 k4 ⊢
      subst k1
      obtain ⟨zi, zl⟩ := fil_mem.mp (List.mem_of_getElem? hz)
      refine ok_tb (near_ok hg g6 zi) fun l hl => ?_
      refine ok_tb (P := fun st : List Int × List Int => st.1 = K ++ st.2 ∧ (K ++ st.2).Nodup ∧ (∀ y ∈ st.2, ∃ z, Lay N g s i z ∧ Adj N g z y) ∧ (∀ y ∈ K ++ F, y ∈ K ++ st.2) ∧ ∀ (m : Nat) (y : Int), m < l.length → l[m]? = some y → y ∈ K ++ st.2) (tfold_okN (fun n (st : List Int × List Int) => st.1 = K ++ st.2 ∧ (K ++ st.2).Nodup ∧ (∀ y ∈ st.2, ∃ z, Lay N g s i z ∧ Adj N g z y) ∧ (∀ y ∈ K ++ F, y ∈ K ++ st.2) ∧ ∀ (m : Nat) (y : Int), m < n → l[m]? = some y → y ∈ K ++ st.2) ⟨rfl, k2, k3, fun y h => h, fun m y h => by omega⟩ ?_) ?_
      · rintro m y ⟨d2, F2⟩ hy ⟨m1, m2, m3, m4, m5⟩
        dsimp only at m1 m2 m3 m4 m5 ⊢
        subst m1
        have ay := (hl y).mp (List.mem_of_getElem? hy)
        have inF : ∀ x ∈ K ++ F2, InN N x := fun x hx => (List.mem_append.mp hx).elim (inK x) fun h => by obtain ⟨_, _, a⟩ := m3 x h; exact a.1
        have fl := nd_lenN m2 inF
        have fl' := fl
        rw [List.length_append] at fl
        by_cases c : y ∈ K ++ F2
        · rw [decide_eq_true c, if_neg (by decide), tb_ok]
          refine ok_ok ⟨rfl, m2, m3, m4, fun m' y' hm' e' => ?_⟩
          rcases Nat.lt_or_ge m' m with q | q
          · exact m5 m' y' q e'
          · have : m' = m := by omega
            subst this
            rw [hy] at e'; cases e'; exact c
        · rw [decide_eq_false c, if_pos (by decide), tApd_eq (by omega), tb_ok, tApd_eq (by omega), tb_ok, tb_ok]
          have ea : K ++ (F2 ++ [y]) = (K ++ F2) ++ [y] := (List.append_assoc ..).symm
          refine ok_ok ⟨ea.symm, ?_, fun t ht => ?_, fun t ht => ?_, fun m' y' hm' e' => ?_⟩
          · show (K ++ (F2 ++ [y])).Nodup
            rw [ea, List.nodup_append]
            exact ⟨m2, by simp, fun a ha b hb => by rw [List.mem_singleton.mp hb]; intro e; exact c (e ▸ ha)⟩
          · rcases List.mem_append.mp ht with q | q
            · exact m3 t q
            · rw [List.mem_singleton.mp q]; exact ⟨z, zl, ay⟩
          · show t ∈ K ++ (F2 ++ [y])
            rw [ea]; exact List.mem_append_left _ (m4 t ht)
          · show y' ∈ K ++ (F2 ++ [y])
            rw [ea]
            rcases Nat.lt_or_ge m' m with q | q
            · exact List.mem_append_left _ (m5 m' y' q e')
            · have : m' = m := by omega
              subst this
              rw [hy] at e'; cases e'; simp
      · rintro ⟨d2, F2⟩ ⟨m1, m2, m3, m4, m5⟩
        refine ok_ok ⟨m1, m2, m3, fun j z' hj e' y a => ?_⟩
        rcases Nat.lt_or_ge j n with q | q
        · exact m4 y (k4 j z' q e' y a)
        · have : j = n := by omega
          subst this
          rw [hz] at e'; cases e'
          obtain ⟨m, hm⟩ := List.getElem?_of_mem ((hl y).mpr a)
          exact m5 m y (List.getElem?_eq_some_iff.mp hm).1 hm
    · rintro ⟨d, F⟩ ⟨k1, k2, k3, k4⟩
      dsimp only at k1 k2 k3 k4 ⊢
      subst k1
      have inF : ∀ x ∈ K ++ F, InN N x := fun x hx => (List.mem_append.mp hx).elim (inK x) fun h => by obtain ⟨_, _, a⟩ := k3 x h; exact a.1
      have fl := nd_lenN k2 inF
      rw [List.length_append] at fl
      have memK : ∀ y, y ∈ K ++ F ↔ Bl N g s (i + 1) y := fun y => by
        constructor
        · intro h
          rcases List.mem_append.mp h with q | q
          · exact .inl ((mem y).mp q)
          · obtain ⟨z, a, b⟩ := k3 y q
            exact .inr ⟨z, a.bl, b⟩
        · rintro (b | ⟨z, b, a⟩)
          · exact List.mem_append_left _ ((mem y).mpr b)
          · obtain ⟨j, hj, hl⟩ := bl_lay b
            rcases Nat.lt_or_ge j i with q | q
            · have b2 : Bl N g s (j + 1) y := .inr ⟨z, hl.bl, a⟩
              exact List.mem_append_left _ ((mem y).mpr (b2.mono (by omega)))
            · have : j = i := by omega
              subst this
              obtain ⟨t, ht⟩ := List.getElem?_of_mem (fil_mem.mpr ⟨b.In hs, hl⟩)
              exact k4 t z (List.getElem?_eq_some_iff.mp ht).1 ht y a
      have nk := List.nodup_append.mp k2
      have memF : ∀ y, y ∈ F ↔ InN N y ∧ Lay N g s (i + 1) y := fun y => by
        constructor
        · intro h
          have h2 : y ∈ K ++ F := List.mem_append_right _ h
          exact ⟨inF y h2, (memK y).mp h2, fun b => nk.2.2 y ((mem y).mpr b) y h rfl⟩
        · rintro ⟨_, b, nb⟩
          rcases List.mem_append.mp ((memK y).mpr b) with q | q
          · exact absurd ((mem y).mp q) nb
          · exact q
      have es := fil_srt nk.2.1 memF
      have fe : (fil N (Lay N g s (i + 1))).length = F.length := by rw [← es]; exact (srt_perm F).length_eq
      by_cases c : F.length = 0
      · rw [if_pos (by rw [c]; rfl)]
        refine ok_ok ⟨i + 1, by omega, by omega, rfl, ?_, lne⟩
        exact bl_stable fun x hx => by
          have : x ∈ fil N (Lay N g s (i + 1)) := fil_mem.mpr ⟨hx.bl.In hs, hx⟩
          rw [List.eq_nil_of_length_eq_zero (by omega : (fil N (Lay N g s (i + 1))).length = 0)] at this; cases this
      · rw [if_neg (by rw [decide_eq_true_eq]; omega), tApd_eq (by rw [lays_len]; omega), tb_ok]
        refine ok_ok ⟨?_, k2, memK, by rw [List.length_append]; omega, fun j hj => ?_⟩
        · show lays N g s (i + 1) ++ [srt F] = _
          rw [es, ← lays_succ]
        · rcases Nat.lt_or_ge j (i + 1) with z | z
          · exact lne j z
          · rw [show j = i + 1 by omega]
            intro e
            rw [e] at fe
            exact c fe.symm
  · rintro ⟨K, ls⟩ ⟨_, nd, mem, l1, _⟩
    exfalso
    have inK : ∀ x ∈ K, InN N x := fun x hx => ((mem x).mp hx).In hs
    have kl : K.length ≤ N := nd_lenN (L := K) nd inK
    have l2 : (rngL 0 (N : Int)).length + 1 ≤ K.length := l1
    rw [rngL_len] at l2
    omega
end

/-! standard forms, plain -/
def nb (g : Grf) (x : Int) : List Int := g.flatMap fun r => [atL r x, ((r.idxOf x : Nat) : Int)]
def adl (o : List Int) : List Int → List Int
  | [] => o
  | y :: l => adl (if y ∈ o then o else o ++ [y]) l
def orI (g : Grf) (s : Int) : Nat → List Int
  | 0 => [s]
  | i + 1 => match (orI g s i)[i]? with
    | some x => adl (orI g s i) (nb g x)
    | none => orI g s i
def stdF (g : Grf) (o : List Int) : List (List Int) := g.map fun r => o.map fun x => ((o.idxOf (atL r x) : Nat) : Int)
def stdS (N : Nat) (g : Grf) (s : Int) : List (List Int) := stdF g (orI g s N)
section
variable {N : Nat} {g : Grf} {s : Int}
theorem idx_at {r : List Int} (pr : r.Perm (rngL 0 (N : Int))) {x : Int} (hx : InN N x) : InN N ((r.idxOf x : Nat) : Int) ∧ atL r ((r.idxOf x : Nat) : Int) = x := by
  have hm : x ∈ r := pr.symm.subset (rngL_mem.mpr hx)
  have il := List.idxOf_lt_length_of_mem hm
  have rl := perm_len pr
  refine ⟨⟨by omega, by omega⟩, ?_⟩
  unfold atL
  rw [Int.toNat_natCast, List.getD_eq_getElem?_getD, List.getElem?_eq_getElem il, Option.getD_some, List.getElem_idxOf]
theorem nb_mem (hg : GOk N g) {x : Int} (hx : InN N x) (y : Int) : y ∈ nb g x ↔ Adj N g x y := by
  unfold nb
  rw [List.mem_flatMap]
  constructor
  · rintro ⟨r, hr, h⟩
    have pr := hg r hr
    obtain ⟨c0, c1⟩ := idx_at pr hx
    obtain ⟨_, a0, a1⟩ := atL_get pr hx.1 hx.2
    simp only [List.mem_cons, List.not_mem_nil, or_false] at h
    rcases h with rfl | rfl
    · exact ⟨⟨a0, a1⟩, r, hr, .inl rfl⟩
    · exact ⟨c0, r, hr, .inr c1⟩
  · rintro ⟨hy, r, hr, h⟩
    have pr := hg r hr
    obtain ⟨c0, c1⟩ := idx_at pr hx
    refine ⟨r, hr, ?_⟩
    simp only [List.mem_cons, List.not_mem_nil, or_false]
    rcases h with h | h
    · exact .inl h.symm
    · exact .inr (atL_inj pr hy.1 hy.2 c0.1 c0.2 (h.trans c1.symm))
theorem adl_ok : ∀ (l o : List Int), o.Nodup → (adl o l).Nodup ∧ (∃ t, adl o l = o ++ t) ∧ ∀ y, y ∈ adl o l ↔ y ∈ o ∨ y ∈ l
  | [], o, nd => ⟨nd, ⟨[], (List.append_nil o).symm⟩, fun y => ⟨.inl, fun h => h.elim id fun h => by cases h⟩⟩
  | z :: l, o, nd => by
    unfold adl
    by_cases c : z ∈ o
    · rw [if_pos c]
      obtain ⟨a, b, m⟩ := adl_ok l o nd
      refine ⟨a, b, fun y => ?_⟩
      rw [m, List.mem_cons]
      exact ⟨fun h => h.elim .inl fun h => .inr (.inr h), fun h => h.elim .inl fun h => h.elim (fun e => .inl (e ▸ c)) .inr⟩
    · rw [if_neg c]
      have nd2 : (o ++ [z]).Nodup := by
        rw [List.nodup_append]
        exact ⟨nd, by simp, fun a ha b hb => by rw [List.mem_singleton.mp hb]; intro e; exact c (e ▸ ha)⟩
      obtain ⟨a, ⟨t, e⟩, m⟩ := adl_ok l (o ++ [z]) nd2
      refine ⟨a, ⟨z :: t, by rw [e, List.append_assoc]; rfl⟩, fun y => ?_⟩
      rw [m, List.mem_append, List.mem_singleton, List.mem_cons]
      exact ⟨fun h => h.elim (fun h => h.elim .inl fun h => .inr (.inl h)) fun h => .inr (.inr h), fun h => h.elim (fun h => .inl (.inl h)) fun h => h.elim (fun h => .inl (.inr h)) .inr⟩
structure OrOk (N : Nat) (g : Grf) (s : Int) (i : Nat) (o : List Int) : Prop where
  nd : o.Nodup
  hd : s ∈ o
  cn : ∀ x ∈ o, Cn N g s x
  cl : ∀ (j : Nat) (x : Int), j < i → o[j]? = some x → ∀ y, Adj N g x y → y ∈ o
theorem orI_ok (hg : GOk N g) (hs : InN N s) : ∀ i, OrOk N g s i (orI g s i)
  | 0 => ⟨by simp [orI], by simp [orI], fun x hx => by rw [orI, List.mem_singleton] at hx; rw [hx]; exact Cn.refl, fun j x h => by omega⟩
  | i + 1 => by
    have h := orI_ok hg hs i
    unfold orI
    cases e : (orI g s i)[i]? with
    | none =>
      dsimp only
      refine ⟨h.nd, h.hd, h.cn, fun j x hj ej => h.cl j x ?_ ej⟩
      have h1 := (List.getElem?_eq_some_iff.mp ej).1
      have h2 := List.getElem?_eq_none_iff.mp e
      omega
    | some x =>
      dsimp only
      have hx := List.mem_of_getElem? e
      have cx := h.cn x hx
      have nm := nb_mem hg (cx.In hs)
      obtain ⟨a, ⟨t, et⟩, m⟩ := adl_ok (nb g x) (orI g s i) h.nd
      refine ⟨a, (m s).mpr (.inl h.hd), fun y hy => ?_, fun j z hj ej y ay => ?_⟩
      · rcases (m y).mp hy with q | q
        · exact h.cn y q
        · exact cx.adj ((nm y).mp q)
      · have il := (List.getElem?_eq_some_iff.mp e).1
        rcases Nat.lt_or_ge j i with q | q
        · have ej' : (orI g s i)[j]? = some z := by rw [et, List.getElem?_append_left (by omega)] at ej; exact ej
          exact (m y).mpr (.inl (h.cl j z q ej' y ay))
        · have hji : j = i := by omega
          subst hji
          have ej' : (orI g s j)[j]? = some z := by rw [et, List.getElem?_append_left il] at ej; exact ej
          rw [e] at ej'
          cases ej'
          exact (m y).mpr (.inr ((nm y).mpr ay))
theorem or_len (hg : GOk N g) (hs : InN N s) (i : Nat) : (orI g s i).length ≤ N := nd_lenN (orI_ok hg hs i).nd fun x hx => ((orI_ok hg hs i).cn x hx).In hs
theorem or_cl (hg : GOk N g) (hs : InN N s) {x y : Int} (hx : x ∈ orI g s N) (a : Adj N g x y) : y ∈ orI g s N := by
  obtain ⟨j, hj⟩ := List.getElem?_of_mem hx
  have := (List.getElem?_eq_some_iff.mp hj).1
  have := or_len hg hs N
  exact (orI_ok hg hs N).cl j x (by omega) hj y a
theorem or_mem (hg : GOk N g) (hs : InN N s) (x : Int) : x ∈ orI g s N ↔ Cn N g s x := by
  have key : ∀ (n : Nat) (x : Int), Bl N g s n x → x ∈ orI g s N := by
    intro n
    induction n with
    | zero => intro x b; rw [show x = s from b]; exact (orI_ok hg hs N).hd
    | succ n ih =>
      intro x b
      rcases b with b | ⟨y, b, a⟩
      · exact ih x b
      · exact or_cl hg hs (ih y b) a
  exact ⟨(orI_ok hg hs N).cn x, fun ⟨n, b⟩ => key n x b⟩
end
/-! renamings -/
structure Iso (N : Nat) (g h : Grf) (s : Int) (f : Int → Int) : Prop where
  gl : g.length = h.length
  hs : InN N s
  gk : GOk N g
  hk : GOk N h
  to : ∀ x, Cn N g s x → InN N (f x)
  inj : ∀ x y, Cn N g s x → Cn N g s y → f x = f y → x = y
  row : ∀ (i : Nat) (r r' : List Int), g[i]? = some r → h[i]? = some r' → ∀ x, Cn N g s x → atL r' (f x) = f (atL r x)
theorem flat_iso {f : Int → Int} {F F' : List Int → List Int} : ∀ {g h : Grf}, g.length = h.length → (∀ (i : Nat) (r r' : List Int), g[i]? = some r → h[i]? = some r' → F' r' = (F r).map f) → h.flatMap F' = (g.flatMap F).map f
  | [], [], _, _ => rfl
  | [], _ :: _, e, _ => by simp at e
  | _ :: _, [], e, _ => by simp at e
  | r :: g, r' :: h, e, k => by
    rw [List.flatMap_cons, List.flatMap_cons, List.map_append, k 0 r r' rfl rfl, flat_iso (by simpa using e) fun i r r' a b => k (i + 1) r r' a b]
theorem map_iso {α : Type} {F F' : List Int → α} : ∀ {g h : Grf}, g.length = h.length → (∀ (i : Nat) (r r' : List Int), g[i]? = some r → h[i]? = some r' → F' r' = F r) → h.map F' = g.map F
  | [], [], _, _ => rfl
  | [], _ :: _, e, _ => by simp at e
  | _ :: _, [], e, _ => by simp at e
  | r :: g, r' :: h, e, k => by
    rw [List.map_cons, List.map_cons, k 0 r r' rfl rfl, map_iso (by simpa using e) fun i r r' a b => k (i + 1) r r' a b]
theorem adl_iso {f : Int → Int} {P : Int → Prop} (inj : ∀ x y, P x → P y → f x = f y → x = y) : ∀ (l o : List Int), (∀ x ∈ l, P x) → (∀ x ∈ o, P x) → adl (o.map f) (l.map f) = (adl o l).map f
  | [], o, _, _ => rfl
  | z :: l, o, hl, ho => by
    have hz := hl z List.mem_cons_self
    have iff : f z ∈ o.map f ↔ z ∈ o := by
      rw [List.mem_map]
      exact ⟨fun ⟨x, hx, e⟩ => inj x z (ho x hx) hz e ▸ hx, fun h => ⟨z, h, rfl⟩⟩
    rw [List.map_cons]
    unfold adl
    by_cases c : z ∈ o
    · rw [if_pos c, if_pos (iff.mpr c)]
      exact adl_iso inj l o (fun x hx => hl x (List.mem_cons_of_mem _ hx)) ho
    · rw [if_neg c, if_neg fun q => c (iff.mp q), show o.map f ++ [f z] = (o ++ [z]).map f by rw [List.map_append]; rfl]
      exact adl_iso inj l (o ++ [z]) (fun x hx => hl x (List.mem_cons_of_mem _ hx)) fun x hx => (List.mem_append.mp hx).elim (ho x) fun q => by rw [List.mem_singleton.mp q]; exact hz
theorem idx_iso {f : Int → Int} : ∀ {o : List Int} {z : Int}, (∀ x ∈ o, f x = f z → x = z) → (o.map f).idxOf (f z) = o.idxOf z
  | [], z, _ => rfl
  | x :: o, z, h => by
    rw [List.map_cons, List.idxOf_cons, List.idxOf_cons]
    by_cases c : x = z
    · subst c; simp
    · have c' : ¬ f x = f z := fun q => c (h x List.mem_cons_self q)
      have e1 : (f x == f z) = false := by simpa using c'
      have e2 : (x == z) = false := by simpa using c
      rw [e1, e2, idx_iso fun y hy => h y (List.mem_cons_of_mem _ hy)]
section
variable {N : Nat} {g h : Grf} {s : Int} {f : Int → Int}
theorem Iso.nb (I : Iso N g h s f) {x : Int} (cx : Cn N g s x) : Law.nb h (f x) = (Law.nb g x).map f := by
  refine flat_iso I.gl fun i r r' e e' => ?_
  have pr := I.gk r (List.mem_of_getElem? e)
  have pr' := I.hk r' (List.mem_of_getElem? e')
  have hx := cx.In I.hs
  obtain ⟨c0, c1⟩ := idx_at pr hx
  have cz : Cn N g s ((r.idxOf x : Nat) : Int) := cx.adj ⟨c0, r, List.mem_of_getElem? e, .inr c1⟩
  have e1 := I.row i r r' e e' _ cx
  have e2 := I.row i r r' e e' _ cz
  rw [c1] at e2
  obtain ⟨d0, d1⟩ := idx_at pr' (I.to x cx)
  have fz := I.to _ cz
  have e3 := atL_inj pr' d0.1 d0.2 fz.1 fz.2 (d1.trans e2.symm)
  rw [e1, e3]; rfl
theorem Iso.or (I : Iso N g h s f) : ∀ i, orI h (f s) i = (orI g s i).map f
  | 0 => rfl
  | i + 1 => by
    have ih := Iso.or I i
    have ok := orI_ok I.gk I.hs i
    unfold orI
    rw [ih, List.getElem?_map]
    cases e : (orI g s i)[i]? with
    | none => rfl
    | some x =>
      have cx := ok.cn x (List.mem_of_getElem? e)
      show adl ((orI g s i).map f) (Law.nb h (f x)) = (adl (orI g s i) (Law.nb g x)).map f
      rw [I.nb cx]
      exact adl_iso (P := Cn N g s) I.inj _ _ (fun y hy => cx.adj ((nb_mem I.gk (cx.In I.hs) y).mp hy)) ok.cn
theorem Iso.std (I : Iso N g h s f) : stdS N h (f s) = stdS N g s := by
  unfold stdS stdF
  rw [I.or N]
  refine map_iso I.gl fun i r r' e e' => ?_
  rw [List.map_map]
  refine List.map_congr_left fun x hx => ?_
  have ok := orI_ok I.gk I.hs N
  have cx := ok.cn x hx
  have pr := I.gk r (List.mem_of_getElem? e)
  have hx' := cx.In I.hs
  obtain ⟨_, a0, a1⟩ := atL_get pr hx'.1 hx'.2
  have cy : Cn N g s (atL r x) := cx.adj ⟨⟨a0, a1⟩, r, List.mem_of_getElem? e, .inl rfl⟩
  show ((((orI g s N).map f).idxOf (atL r' (f x)) : Nat) : Int) = _
  rw [I.row i r r' e e' x cx, idx_iso fun y hy q => I.inj y _ (ok.cn y hy) cy q]
/-- the same from another number of the part -/
theorem Iso.at (I : Iso N g h s f) {x : Int} (cx : Cn N g s x) : Iso N g h x f := ⟨I.gl, cx.In I.hs, I.gk, I.hk, fun y cy => I.to y (cx.trans cy), fun y z cy cz => I.inj y z (cx.trans cy) (cx.trans cz), fun i r r' e e' y cy => I.row i r r' e e' y (cx.trans cy)⟩
end

/-! standard forms: the program and the law -/
section
variable {N : Nat} {g : Grf} {s : Int}
theorem adl_snoc (y : Int) : ∀ (l o : List Int), adl o (l ++ [y]) = if y ∈ adl o l then adl o l else adl o l ++ [y]
  | [], o => rfl
  | z :: l, o => by
    rw [List.cons_append]
    unfold adl
    exact adl_snoc y l _
theorem nb_len (g : Grf) (x : Int) : (nb g x).length = 2 * g.length := by
  unfold nb
  induction g with
  | nil => rfl
  | cons r g ih => rw [List.flatMap_cons, List.length_append, ih]; show 2 + 2 * g.length = 2 * (g.length + 1); omega
theorem nb_append (g h : Grf) (x : Int) : nb (g ++ h) x = nb g x ++ nb h x := by unfold nb; rw [List.flatMap_append]
theorem steps_eq (hg : GOk N g) (g6 : g.length ≤ 12) {bs : Grf} (hb : Bks N g bs) {x : Int} (hx : InN N x) : t__steps g bs x = .ok (nb g x) := by
  have key : Ok (t__steps g bs x) (fun l => l = nb g x) := by
    unfold t__steps
    refine ok_tb (tfold_okN (fun n (s : List Int) => s = nb (g.take n) x) rfl ?_) fun s hs => ok_ok (by rw [hs, List.length_zip, hb.1, Nat.min_self, List.take_length])
    intro i q s hq hs
    obtain ⟨hr, hbb⟩ := List.getElem?_zip_eq_some.mp hq
    have hi := (List.getElem?_eq_some_iff.mp hr).1
    have pr := hg q.1 (List.mem_of_getElem? hr)
    obtain ⟨bl, bk⟩ := hb.2 i q.1 q.2 hr hbb
    obtain ⟨c0, c1⟩ := idx_at pr hx
    have eb : atL q.2 x = ((q.1.idxOf x : Nat) : Int) := by
      have := bk _ c0
      rwa [c1] at this
    have tk : g.take (i + 1) = g.take i ++ [q.1] := by rw [List.take_add_one, hr]; rfl
    have nl := nb_len (g.take i) x
    rw [List.length_take] at nl
    rw [hs, tIdx_at pr hx.1 hx.2, tb_ok, tApd_eq (by omega), tb_ok, tIdx_len bl hx, tb_ok, tApd_eq (by rw [List.length_append, List.length_singleton]; omega), tb_ok, eb, tk, nb_append]
    refine ok_ok ?_
    rw [List.append_assoc]; rfl
  obtain ⟨l, e, rfl⟩ := key
  exact e
theorem near_eq (hg : GOk N g) (g6 : g.length ≤ 12) {x : Int} (hx : InN N x) : t_q_near g x = .ok (nb g x) := by
  have key : Ok (t_q_near g x) (fun l => l = nb g x) := by
    unfold t_q_near
    refine ok_tb (tfold_okN (fun n (s : List Int) => s = nb (g.take n) x) rfl ?_) fun s hs => ok_ok (by rw [hs, List.take_length])
    intro i r s hr hs
    have hi := (List.getElem?_eq_some_iff.mp hr).1
    have pr := hg r (List.mem_of_getElem? hr)
    have hm : x ∈ r := pr.symm.subset (rngL_mem.mpr hx)
    have tk : g.take (i + 1) = g.take i ++ [r] := by rw [List.take_add_one, hr]; rfl
    have nl := nb_len (g.take i) x
    rw [List.length_take] at nl
    rw [hs, tIdx_at pr hx.1 hx.2, tb_ok, tLIx_eq hm, tb_ok, tCat_eq (by show _ + 2 ≤ _; omega), tb_ok, tk, nb_append]
    exact ok_ok rfl
  obtain ⟨l, e, rfl⟩ := key
  exact e
theorem or_stay {i : Nat} (h : (orI g s i).length ≤ i) : ∀ d, orI g s (i + d) = orI g s i
  | 0 => rfl
  | d + 1 => by
    have ih := or_stay h d
    have e : orI g s (i + d + 1) = match (orI g s (i + d))[i + d]? with | some x => adl (orI g s (i + d)) (nb g x) | none => orI g s (i + d) := rfl
    show orI g s (i + d + 1) = _
    rw [e, ih, List.getElem?_eq_none (by omega)]
theorem or_step {i : Nat} {x : Int} (e : (orI g s i)[i]? = some x) : orI g s (i + 1) = adl (orI g s i) (nb g x) := by
  conv => lhs; unfold orI
  rw [e]
theorem adl_len (l o : List Int) (nd : o.Nodup) : o.length ≤ (adl o l).length := by
  obtain ⟨_, ⟨t, e⟩, _⟩ := adl_ok l o nd
  rw [e, List.length_append]; omega
/-- the table of an order -/
theorem tab_q (h : GG N g) (hs : InN N s) : (tMap g fun (x15 : (List Int)) => tb (tMap (orI g s N) fun (x16 : Int) => tb (tIdx x15 x16) fun v17 => tb (tLIx (orI g s N) v17) fun v18 => .ok v18) fun l19 => .ok l19) = .ok (stdS N g s) := by
  have n2 := h.n2
  have g6 := h.g6
  have ok := orI_ok h.ok hs N
  have ol := or_len h.ok hs N
  unfold stdS stdF
  refine tMap_eq _ (by omega) fun r hr => ?_
  have pr := h.ok r hr
  rw [tMap_eq (fun x => (((orI g s N).idxOf (atL r x) : Nat) : Int)) (by omega) fun x hx => by
    have hx' := (ok.cn x hx).In hs
    obtain ⟨_, a0, a1⟩ := atL_get pr hx'.1 hx'.2
    have hm : atL r x ∈ orI g s N := or_cl h.ok hs hx ⟨⟨a0, a1⟩, r, hr, .inl rfl⟩
    rw [tIdx_at pr hx'.1 hx'.2, tb_ok, tLIx_eq hm, tb_ok], tb_ok]
theorem q_standard_at (h : GG N g) (hs : InN N s) : t_q_standard g s = .ok (stdS N g s) := by
  have n2 := h.n2
  have g6 := h.g6
  obtain ⟨r0, e0, _, l0⟩ := h.row0
  have key : Ok (t_q_standard g s) (fun t => t = stdS N g s) := by
    unfold t_q_standard
    rw [tb_ok, e0, tb_ok, l0, tRng_eq (by decide) (by decide) (by omega) (by omega), tb_ok]
    refine ok_tlp (P := fun t => match t with
      | .dn (o : List Int) => o = orI g s N
      | .rt (_ : List (List Int)) => False) (tfor_okN (fun i (o : List Int) => o = orI g s i ∧ i ≤ o.length) _ ⟨rfl, by simp⟩ ?_ ?_) ?_ fun r h => h.elim
    · intro i x o hx ⟨ho, il⟩
      obtain ⟨ex, hi⟩ := rngL_get hx
      obtain rfl : x = (i : Int) := by omega
      subst ho
      have ok := orI_ok h.ok hs i
      have ol := or_len h.ok hs i
      by_cases c : (i : Int) = ((orI g s i).length : Int)
      · rw [decide_eq_true c, if_pos rfl]
        refine ok_ok ?_
        have := or_stay (g := g) (s := s) (i := i) (by omega) (N - i)
        rw [show i + (N - i) = N by omega] at this
        exact this.symm
      · rw [decide_eq_false c, if_neg (by decide)]
        have e := List.getElem?_eq_getElem (show i < (orI g s i).length by omega)
        generalize (orI g s i)[i] = y at e
        have hy := (ok.cn y (List.mem_of_getElem? e)).In hs
        have nl := nb_len g y
        rw [tIdx_nat e, tb_ok, near_eq h.ok (by omega) hy, tb_ok]
        refine ok_tb (tfold_okN (fun n (o : List Int) => o = adl (orI g s i) ((nb g y).take n)) rfl ?_) fun o ho => ?_
        · intro n z o hz ho
          have tk : (nb g y).take (n + 1) = (nb g y).take n ++ [z] := by rw [List.take_add_one, hz]; rfl
          rw [tk, adl_snoc, ← ho]
          have ob : o.length ≤ N := by
            obtain ⟨nd, _, m⟩ := adl_ok ((nb g y).take n) (orI g s i) ok.nd
            rw [ho]
            exact nd_lenN nd fun x hx => ((m x).mp hx).elim (fun q => (ok.cn x q).In hs) fun q => ((nb_mem h.ok hy x).mp (List.mem_of_mem_take q)).1
          by_cases c : z ∈ o
          · rw [decide_eq_true c, if_neg (by decide), if_pos c, tb_ok]; exact ok_ok rfl
          · rw [decide_eq_false c, if_pos (by decide), if_neg c, tApd_eq (by omega), tb_ok, tb_ok]; exact ok_ok rfl
        · rw [List.take_length] at ho
          have al := adl_len (nb g y) (orI g s i) ok.nd
          refine ok_ok ⟨by rw [ho, or_step e], by rw [ho]; omega⟩
    · intro o ⟨ho, _⟩
      rw [ho, rngL_len, show ((N : Int) - 0).toNat = N by omega]
    · intro o ho
      dsimp only at ho
      subst ho
      rw [tab_q h hs, tb_ok]
      exact ok_ok rfl
  obtain ⟨t, e, rfl⟩ := key
  exact e
end

/-! the program's standard form -/
def NmOk (d : Dct Int Int) (o : List Int) : Prop := (∀ y, dget d y = if y ∈ o then some ((o.idxOf y : Nat) : Int) else none) ∧ d.length ≤ o.length
theorem nm_put {d : Dct Int Int} {o : List Int} (h : NmOk d o) {y : Int} (hy : y ∉ o) : NmOk (dput d y (o.length : Int)) (o ++ [y]) := by
  refine ⟨fun z => ?_, ?_⟩
  · rw [dget_put]
    by_cases c : y = z
    · subst c
      rw [if_pos rfl, if_pos (by simp)]
      congr 1
      rw [List.idxOf_append, if_neg hy, List.idxOf_cons_self]; omega
    · rw [if_neg c, h.1]
      by_cases q : z ∈ o
      · rw [if_pos q, if_pos (List.mem_append_left _ q), List.idxOf_append, if_pos q]
      · rw [if_neg q, if_neg fun k => (List.mem_append.mp k).elim q fun k => c (List.mem_singleton.mp k).symm]
  · have := dput_len d y (o.length : Int)
    have := h.2
    rw [List.length_append, List.length_singleton]; omega
section
variable {N : Nat} {g : Grf} {s : Int}
theorem p_standard_at (h : GG N g) (hs : InN N s) : t__standard g s = .ok (stdS N g s) := by
  have n2 := h.n2
  have g6 := h.g6
  have key : Ok (t__standard g s) (fun t => t = stdS N g s) := by
    unfold t__standard
    refine ok_tb (backs_ok h.ok n2 (by omega)) fun bs hbs => ?_
    rw [tb_ok, tb_ok]
    refine ok_tlp (P := fun t => match t with
      | .dn (st : Dct Int Int × List Int × Int) => st.2.1 = orI g s N ∧ NmOk st.1 (orI g s N)
      | .rt (_ : List (List Int)) => False)
      (twh_ok (fun st : Dct Int Int × List Int × Int => ∃ i : Nat, st.2.2 = (i : Int) ∧ st.2.1 = orI g s i ∧ i ≤ (orI g s i).length ∧ NmOk st.1 (orI g s i)) (fun st => 2000 - st.2.2.toNat) _ ⟨0, rfl, rfl, by simp [orI], fun y => ?_, by simp [orI]⟩ (by dsimp only; omega) ?_) ?_ fun r h => h.elim
    · show dget [(s, 0)] y = if y ∈ [s] then _ else _
      by_cases c : y = s
      · subst c; simp [dget, orI]
      · rw [if_neg (by simpa using c)]
        have : ¬ s = y := fun q => c q.symm
        simp [dget, this]
    · rintro ⟨d, o, p⟩ ⟨i, ep, eo, il, nm⟩
      dsimp only at ep eo nm ⊢
      subst ep eo
      have ok := orI_ok h.ok hs i
      have ol := or_len h.ok hs i
      refine ok_ok ⟨fun hf => ?_, fun ht => ?_⟩
      · have hf' := of_decide_eq_false hf
        have := or_stay (g := g) (s := s) (i := i) (by omega) (N - i)
        rw [show i + (N - i) = N by omega] at this
        rw [this]
        exact ⟨rfl, nm⟩
      · have ht' := of_decide_eq_true ht
        have e := List.getElem?_eq_getElem (show i < (orI g s i).length by omega)
        generalize (orI g s i)[i] = y at e
        have hy := (ok.cn y (List.mem_of_getElem? e)).In hs
        have nl := nb_len g y
        rw [tIdx_nat e, tb_ok, steps_eq h.ok (by omega) hbs hy, tb_ok]
        refine ok_tb (tfold_okN (fun n (st : Dct Int Int × List Int) => st.2 = adl (orI g s i) ((nb g y).take n) ∧ NmOk st.1 st.2) ⟨rfl, nm⟩ ?_) ?_
        · rintro n z ⟨d, o⟩ hz ⟨ho, hd⟩
          dsimp only at ho hd ⊢
          have tk : (nb g y).take (n + 1) = (nb g y).take n ++ [z] := by rw [List.take_add_one, hz]; rfl
          rw [tk, adl_snoc, ← ho]
          have ob : o.length ≤ N := by
            obtain ⟨nd, _, m⟩ := adl_ok ((nb g y).take n) (orI g s i) ok.nd
            rw [ho]
            exact nd_lenN nd fun x hx => ((m x).mp hx).elim (fun q => (ok.cn x q).In hs) fun q => ((nb_mem h.ok hy x).mp (List.mem_of_mem_take q)).1
          have hdl := hd.2
          have dh : dhas d z = decide (z ∈ o) := by
            rw [dhas_get, hd.1 z]
            by_cases c : z ∈ o
            · rw [if_pos c, decide_eq_true c]; rfl
            · rw [if_neg c, decide_eq_false c]; rfl
          rw [dh]
          by_cases c : z ∈ o
          · rw [decide_eq_true c, if_neg (by decide), if_pos c, tb_ok]; exact ok_ok ⟨rfl, hd⟩
          · rw [decide_eq_false c, if_pos (by decide), if_neg c, tDPut_eq (by omega), tb_ok, tApd_eq (by omega), tb_ok, tb_ok]; exact ok_ok ⟨rfl, nm_put hd c⟩
        · rintro ⟨d, o⟩ ⟨ho, hd⟩
          dsimp only at ho hd ⊢
          rw [List.take_length] at ho
          have al := adl_len (nb g y) (orI g s i) ok.nd
          have es := or_step e
          rw [tb_ok]
          refine ok_ok ⟨⟨i + 1, by dsimp only; omega, by rw [es]; exact ho, by rw [es]; omega, by rw [es, ← ho]; exact hd⟩, ?_⟩
          show 2000 - ((i : Int) + 1).toNat < 2000 - ((i : Nat) : Int).toNat
          omega
    · rintro ⟨d, o, p⟩ ⟨eo, nm⟩
      dsimp only at eo nm ⊢
      subst eo
      have ok := orI_ok h.ok hs N
      have ol := or_len h.ok hs N
      have tab : (tMap g fun (x17 : (List Int)) => tb (tMap (orI g s N) fun (x18 : Int) => tb (tIdx x17 x18) fun v19 => tb (tDGet d v19) fun v20 => .ok v20) fun l21 => .ok l21) = .ok (stdS N g s) := by
        unfold stdS stdF
        refine tMap_eq _ (by omega) fun r hr => ?_
        have pr := h.ok r hr
        rw [tMap_eq (fun x => (((orI g s N).idxOf (atL r x) : Nat) : Int)) (by omega) fun x hx => by
          have hx' := (ok.cn x hx).In hs
          obtain ⟨_, a0, a1⟩ := atL_get pr hx'.1 hx'.2
          have hm : atL r x ∈ orI g s N := or_cl h.ok hs hx ⟨⟨a0, a1⟩, r, hr, .inl rfl⟩
          have hd := nm.1 (atL r x)
          rw [if_pos hm] at hd
          rw [tIdx_at pr hx'.1 hx'.2, tb_ok, tDGet_eq hd, tb_ok], tb_ok]
      rw [tab, tb_ok]
      exact ok_ok rfl
  obtain ⟨t, e, rfl⟩ := key
  exact e
end
/-! from equal forms to a renaming -/
section
variable {N : Nat} {g h : Grf} {s t : Int}
theorem or_hd (hg : GOk N g) (hs : InN N s) : ∀ i, (orI g s i)[0]? = some s
  | 0 => rfl
  | i + 1 => by
    have ih := or_hd hg hs i
    have ok := orI_ok hg hs i
    unfold orI
    cases e : (orI g s i)[i]? with
    | none => exact ih
    | some x =>
      obtain ⟨_, ⟨t, et⟩, _⟩ := adl_ok (nb g x) (orI g s i) ok.nd
      show (adl (orI g s i) (nb g x))[0]? = _
      rw [et, List.getElem?_append_left (List.getElem?_eq_some_iff.mp ih).1]
      exact ih
theorem std_iso (G : GG N g) (H : GG N h) (gl : g.length = h.length) (hs : InN N s) (ht : InN N t) (e : stdS N g s = stdS N h t) : ∃ f, Iso N g h s f ∧ f s = t ∧ ∀ y, Cn N h t y → ∃ x, Cn N g s x ∧ f x = y := by
  have okg := orI_ok G.ok hs N
  have okh := orI_ok H.ok ht N
  have row : ∀ (i : Nat) (r r' : List Int), g[i]? = some r → h[i]? = some r' → ((orI g s N).map fun x => (((orI g s N).idxOf (atL r x) : Nat) : Int)) = (orI h t N).map fun x => (((orI h t N).idxOf (atL r' x) : Nat) : Int) := fun i r r' er er' => by
    have q : (stdS N g s)[i]? = (stdS N h t)[i]? := by rw [e]
    unfold stdS stdF at q
    rw [List.getElem?_map, List.getElem?_map, er, er'] at q
    exact Option.some.inj q
  have len : (orI g s N).length = (orI h t N).length := by
    have q := congrArg List.length (row 0 _ _ (List.getElem?_eq_getElem (show 0 < g.length from G.g1)) (List.getElem?_eq_getElem (show 0 < h.length from H.g1)))
    rw [List.length_map, List.length_map] at q
    exact q
  let f : Int → Int := fun x => (orI h t N).getD ((orI g s N).idxOf x) 0
  have fat : ∀ i x, (orI g s N)[i]? = some x → (orI h t N)[i]? = some (f x) := fun i x ei => by
    obtain ⟨il, ex⟩ := List.getElem?_eq_some_iff.mp ei
    have ii := okg.nd.idxOf_getElem i il
    rw [ex] at ii
    show _ = some ((orI h t N).getD ((orI g s N).idxOf x) 0)
    rw [ii, List.getD_eq_getElem?_getD, List.getElem?_eq_getElem (by omega)]; rfl
  have memf : ∀ x, x ∈ orI g s N → f x ∈ orI h t N ∧ (orI h t N).idxOf (f x) = (orI g s N).idxOf x := fun x hx => by
    obtain ⟨i, ei⟩ := List.getElem?_of_mem hx
    have e2 := fat i x ei
    obtain ⟨il, ex⟩ := List.getElem?_eq_some_iff.mp ei
    obtain ⟨jl, ey⟩ := List.getElem?_eq_some_iff.mp e2
    have ii := okg.nd.idxOf_getElem i il
    have jj := okh.nd.idxOf_getElem i jl
    rw [ex] at ii
    rw [ey] at jj
    exact ⟨List.mem_of_getElem? e2, by rw [ii, jj]⟩
  have s0 : f s = t := by
    have e1 : (orI g s N)[0]? = some s := or_hd G.ok hs N
    have e2 : (orI h t N)[0]? = some t := or_hd H.ok ht N
    have := fat 0 s e1
    rw [e2] at this
    exact (Option.some.inj this).symm
  refine ⟨f, ⟨gl, hs, G.ok, H.ok, fun x cx => (okh.cn _ (memf x ((or_mem G.ok hs x).mpr cx)).1).In ht, fun x y cx cy q => ?_, fun i r r' er er' x cx => ?_⟩, s0, fun y cy => ?_⟩
  · have a := (memf x ((or_mem G.ok hs x).mpr cx)).2
    have b := (memf y ((or_mem G.ok hs y).mpr cy)).2
    have hx := (or_mem G.ok hs x).mpr cx
    have hy := (or_mem G.ok hs y).mpr cy
    have il := List.idxOf_lt_length_of_mem hx
    have jl := List.idxOf_lt_length_of_mem hy
    have e1 : (orI g s N)[(orI g s N).idxOf x] = x := List.getElem_idxOf il
    have e2 : (orI g s N)[(orI g s N).idxOf y] = y := List.getElem_idxOf jl
    have e3 : (orI g s N).idxOf x = (orI g s N).idxOf y := by rw [← a, ← b, q]
    rw [← e1, ← e2]
    simp only [e3]
  · have hx := (or_mem G.ok hs x).mpr cx
    obtain ⟨j, ej⟩ := List.getElem?_of_mem hx
    have q : ((orI g s N).map fun x => (((orI g s N).idxOf (atL r x) : Nat) : Int))[j]? = ((orI h t N).map fun x => (((orI h t N).idxOf (atL r' x) : Nat) : Int))[j]? := by rw [row i r r' er er']
    rw [List.getElem?_map, List.getElem?_map, ej, fat j x ej] at q
    have q2 : (((orI g s N).idxOf (atL r x) : Nat) : Int) = (((orI h t N).idxOf (atL r' (f x)) : Nat) : Int) := Option.some.inj q
    have pr := G.ok r (List.mem_of_getElem? er)
    have pr' := H.ok r' (List.mem_of_getElem? er')
    have hx' := cx.In hs
    obtain ⟨_, a0, a1⟩ := atL_get pr hx'.1 hx'.2
    have mx : atL r x ∈ orI g s N := or_cl G.ok hs hx ⟨⟨a0, a1⟩, r, List.mem_of_getElem? er, .inl rfl⟩
    obtain ⟨m1, m2⟩ := memf _ mx
    obtain ⟨n1, _⟩ := memf x hx
    have hy' := (okh.cn _ n1).In ht
    obtain ⟨_, b0, b1⟩ := atL_get pr' hy'.1 hy'.2
    have my : atL r' (f x) ∈ orI h t N := or_cl H.ok ht n1 ⟨⟨b0, b1⟩, r', List.mem_of_getElem? er', .inl rfl⟩
    have il := List.idxOf_lt_length_of_mem m1
    have jl := List.idxOf_lt_length_of_mem my
    have e1 : (orI h t N)[(orI h t N).idxOf (f (atL r x))] = f (atL r x) := List.getElem_idxOf il
    have e2 : (orI h t N)[(orI h t N).idxOf (atL r' (f x))] = atL r' (f x) := List.getElem_idxOf jl
    have e3 : (orI h t N).idxOf (f (atL r x)) = (orI h t N).idxOf (atL r' (f x)) := by rw [m2]; omega
    rw [← e1, ← e2]
    simp only [e3]
  · have hy := (or_mem H.ok ht y).mpr cy
    obtain ⟨j, ej⟩ := List.getElem?_of_mem hy
    have jl := (List.getElem?_eq_some_iff.mp ej).1
    have e1 := List.getElem?_eq_getElem (show j < (orI g s N).length by omega)
    have e2 := fat j _ e1
    rw [ej] at e2
    exact ⟨_, okg.cn _ (List.mem_of_getElem? e1), (Option.some.inj e2).symm⟩
end

/-! the least of a list of forms -/
open PySem.W PyProof.Rows in
theorem minD_ok : ∀ (xs : List PyData) (x : PyData), minD x xs ∈ x :: xs ∧ ∀ y ∈ x :: xs, dataLt y (minD x xs) = false
  | [], x => ⟨List.mem_singleton.mpr rfl, fun y hy => by rw [List.mem_singleton.mp hy]; exact lex_irrefl _⟩
  | y :: ys, x => by
    have e : minD x (y :: ys) = minD (if dataLt y x = true then y else x) ys := rfl
    by_cases c : dataLt y x = true
    · rw [if_pos c] at e
      obtain ⟨a, b⟩ := minD_ok ys y
      rw [e]
      refine ⟨List.mem_cons_of_mem _ a, fun z hz => ?_⟩
      rcases List.mem_cons.mp hz with rfl | hz
      · cases q : dataLt z (minD y ys) with
        | false => rfl
        | true =>
          have h1 := b y List.mem_cons_self
          have h2 : dataLt y (minD y ys) = true := lex_trans _ _ _ c q
          rw [h1] at h2; cases h2
      · exact b z hz
    · rw [if_neg c] at e
      obtain ⟨a, b⟩ := minD_ok ys x
      rw [e]
      have bx := b x List.mem_cons_self
      refine ⟨?_, fun z hz => ?_⟩
      · rcases List.mem_cons.mp a with q | q
        · rw [q]; exact List.mem_cons_self
        · exact List.mem_cons_of_mem _ (List.mem_cons_of_mem _ q)
      · rcases List.mem_cons.mp hz with rfl | hz
        · exact bx
        · rcases List.mem_cons.mp hz with rfl | hz
          · cases q : dataLt z (minD x ys) with
            | false => rfl
            | true =>
              rcases lex_negTrans _ (PySem.W.keyToks x) _ q with k | k
              · exact absurd k c
              · have k' : dataLt x (minD x ys) = true := k
                rw [bx] at k'; cases k'
          · exact b z (List.mem_cons_of_mem _ hz)
abbrev Fm := List (List Int)
abbrev eF : Fm → D := eT (eT eI)
def fLt (a b : Fm) : Bool := PySem.W.dataLt (eF a).py (eF b).py
theorem alike_int : ∀ xs ys : List Int, PySem.W.alikeAll (pyL (xs.map eI)) (pyL (ys.map eI)) = true
  | [], [] => rfl
  | [], _ :: _ => rfl
  | _ :: _, [] => rfl
  | x :: xs, y :: ys => by
    show (true && PySem.W.alikeAll (pyL (xs.map eI)) (pyL (ys.map eI))) = true
    rw [alike_int xs ys]; rfl
theorem alike_eT {α : Type} (e : α → D) (h : ∀ x y, PySem.W.alike (e x).py (e y).py = true) : ∀ xs ys : List α, PySem.W.alikeAll (pyL (xs.map e)) (pyL (ys.map e)) = true
  | [], [] => rfl
  | [], _ :: _ => rfl
  | _ :: _, [] => rfl
  | x :: xs, y :: ys => by
    show (PySem.W.alike (e x).py (e y).py && PySem.W.alikeAll (pyL (xs.map e)) (pyL (ys.map e))) = true
    rw [h x y, alike_eT e h xs ys]; rfl
theorem alike_F (a b : Fm) : PySem.W.alike (eF a).py (eF b).py = true := by
  show PySem.W.alike (.tuple (pyL (a.map (eT eI)))) (.tuple (pyL (b.map (eT eI)))) = true
  simp only [PySem.W.alike]
  exact alike_eT (eT eI) (fun x y => by
    show PySem.W.alike (.tuple (pyL (x.map eI))) (.tuple (pyL (y.map eI))) = true
    simp only [PySem.W.alike]
    exact alike_int x y) a b
theorem shp_F (a : Fm) : Shp 3 (eF a) := shp_T (k := 2) _ fun _ _ => shp_T (k := 1) _ fun _ _ => shp_int _
theorem eqv_F (a b : Fm) : PyData.eqv (eF a).py (eF b).py = decide (a = b) := EqE.eqv a b
theorem py_F {a b : Fm} (h : (eF a).py = (eF b).py) : a = b := by
  have e := eqv_F a b
  rw [h, PySem.SeqAt.eqv_refl _ (shp_F b).2.1] at e
  exact of_decide_eq_true e.symm
/-- the order is total -/
theorem fLt_total {a b : Fm} (h1 : fLt a b = false) (h2 : fLt b a = false) : a = b := by
  have tk := PyProof.Rows.lex_total _ _ h1 h2
  by_cases c : a = b
  · exact c
  · exfalso
    have ne : PyData.eqv (eF a).py (eF b).py = false := by rw [eqv_F, decide_eq_false c]
    have k := (PySem.W.toks_eqv _ _ (alike_F a b)).2 ne [] [Sum.inl 0]
    rw [tk, PySem.W.lex_pre, PyProof.Rows.lex_irrefl] at k
    cases k
theorem pyL_map {α : Type} (e : α → D) : ∀ xs : List α, pyL (xs.map e) = xs.map fun x => (e x).py
  | [] => rfl
  | x :: xs => by
    show (e x).py :: pyL (xs.map e) = _
    rw [pyL_map e xs]; rfl
theorem flat_F : ∀ xs : List Fm, flatL (xs.map eF) = true
  | [] => rfl
  | x :: xs => by
    show ((eF x).flat && flatL (xs.map eF)) = true
    rw [(shp_F x).1, flat_F xs]; rfl
theorem depth_F : ∀ xs : List Fm, PyData.depthAll (xs.map fun x => (eF x).py) ≤ 3
  | [] => Nat.zero_le _
  | x :: xs => by
    show max (PyData.depth (eF x).py) (PyData.depthAll (xs.map fun x => (eF x).py)) ≤ 3
    exact Nat.max_le.mpr ⟨(shp_F x).2.2, depth_F xs⟩
theorem okMin_F (xs : List Fm) : okMinD (xs.map eF) := by
  refine ⟨flat_F xs, ⟨fun p hp q hq => ?_, fun p hp e => ?_⟩, by rw [pyL_map]; exact Nat.le_trans (depth_F xs) (by decide), fun p hp q hq e => ?_⟩
  · rw [pyL_map] at hp hq
    obtain ⟨a, _, rfl⟩ := List.mem_map.mp hp
    obtain ⟨b, _, rfl⟩ := List.mem_map.mp hq
    exact alike_F a b
  · rw [pyL_map] at hp
    obtain ⟨a, _, rfl⟩ := List.mem_map.mp hp
    cases e
  · obtain ⟨a, _, rfl⟩ := List.mem_map.mp hp
    obtain ⟨b, _, rfl⟩ := List.mem_map.mp hq
    rw [py_F e]
theorem min_at {xs : List Fm} (hne : xs ≠ []) : ∃ y, tMinD eF xs = .ok y ∧ y ∈ xs ∧ ∀ z ∈ xs, fLt z y = false := by
  classical
  cases xs with
  | nil => exact absurd rfl hne
  | cons x r =>
    obtain ⟨m1, m2⟩ := minD_ok (pyL (r.map eF)) (eF x).py
    have e : (eF x).py :: pyL (r.map eF) = (x :: r).map fun x => (eF x).py := by rw [pyL_map]; rfl
    rw [e] at m1 m2
    obtain ⟨y, hy, ey⟩ := List.mem_map.mp m1
    unfold tMinD
    simp only
    rw [if_pos (okMin_F (x :: r))]
    cases q : (x :: r).find? (fun y => decide ((eF y).py = PySem.W.minD (eF x).py (pyL (r.map eF)))) with
    | none =>
      have := List.find?_eq_none.mp q y hy
      exact absurd (decide_eq_true ey) this
    | some y' =>
      have p' : (eF y').py = PySem.W.minD (eF x).py (pyL (r.map eF)) := by
        have z := List.find?_some q
        simpa using z
      refine ⟨y', rfl, List.mem_of_find?_eq_some q, fun z hz => ?_⟩
      unfold fLt
      rw [p']
      exact m2 _ (List.mem_map.mpr ⟨z, hz, rfl⟩)
theorem min_same {xs ys : List Fm} (hx : xs ≠ []) (h : ∀ z, z ∈ xs ↔ z ∈ ys) : tMinD eF xs = tMinD eF ys := by
  have hy : ys ≠ [] := fun e => by
    obtain ⟨z, hz⟩ := List.exists_mem_of_ne_nil _ hx
    rw [h z, e] at hz; cases hz
  obtain ⟨a, e1, a1, a2⟩ := min_at hx
  obtain ⟨b, e2, b1, b2⟩ := min_at hy
  rw [e1, e2, fLt_total (b2 a ((h a).mp a1)) (a2 b ((h b).mpr b1))]

/-! law_k71, the law: parts -/
abbrev sGr : S := [103, 114, 97, 112, 104]
abbrev sNu : S := [110, 117, 109, 98, 101, 114]
abbrev sLa : S := [108, 97, 114, 103, 101]
theorem rows_ok {c d size : Int} (s0 : 1 ≤ size) (s1 : size ≤ 30) : Ok (t_q_rows c d size) (fun g => GG size.toNat g ∧ g.length = (1 + c % 3).toNat) := by
  unfold t_q_rows
  rw [tRng_eq (by decide) (by decide) (by omega) (by omega), tb_ok]
  refine ok_tb (tfold_okN (fun i (s : Grf) => s.length = i ∧ ∀ r ∈ s, r.Perm (rngL 0 size)) ⟨rfl, fun r h => by simp at h⟩ ?_) fun s ⟨h1, h2⟩ => ok_ok ⟨⟨fun r hr => ?_, ?_, ?_, by omega, by omega⟩, ?_⟩
  · intro i x s hx ⟨h1, h2⟩
    obtain ⟨_, hi⟩ := rngL_get hx
    refine ok_tb (arranged_ok s0 (by omega)) fun r hr => ?_
    rw [tApd_eq (by omega), tb_ok]
    refine ok_ok ⟨by simp [h1], fun r' hr' => ?_⟩
    rcases List.mem_append.mp hr' with q | q
    · exact h2 r' q
    · rw [List.mem_singleton.mp q]; exact hr
  · rw [show ((size.toNat : Nat) : Int) = size by omega]; exact h2 r hr
  all_goals (rw [rngL_len] at h1; first | omega | (rw [h1]; congr 1; omega))
theorem bad_graph : t_is_graph [[0, 0]] = .ok false := by
  have i0 : tIdx ([[0, 0]] : Grf) 0 = .ok [0, 0] := tIdx_int (by decide) rfl
  have ns : ¬ srt [0, 0] = rngL 0 2 := fun e => by
    have := srt_rng.mp e
    have h1 : (1 : Int) ∈ ([0, 0] : List Int) := this.symm.subset (rngL_mem.mpr ⟨by decide, by decide⟩)
    simp at h1
  unfold t_is_graph
  rw [if_neg (by decide), i0, tb_ok, tb_ok, if_neg (by decide), tMap_eq (fun _ => false) (by decide) fun r hr => by
    rw [tb_ok, show (([0, 0] : List Int).length : Int) = 2 from rfl, tLrg_eq ⟨by omega, by omega, by omega, by omega, by omega⟩, tb_ok, List.mem_singleton.mp hr, tEqE_eq (okEq_of (k := 2) (shp_L (k := 1) _ fun _ _ => shp_int _) (shp_L (k := 1) _ fun _ _ => shp_int _)), tb_ok, decide_eq_false ns], tb_ok]
  rfl
section
variable {N : Nat} {g h : Grf} {s t : Int}
theorem GG.numB (h : GG N g) {x : Int} (hx : ¬ InN N x) : t_check_number g x = .ex ⟨"BadNumber", []⟩ := by
  obtain ⟨r, e, _, l⟩ := h.row0
  unfold t_check_number
  by_cases c : 0 ≤ x
  · rw [decide_eq_true c, if_pos rfl, e, tb_ok, l, decide_eq_false (fun q => hx ⟨c, q⟩), tb_ok]; rfl
  · rw [decide_eq_false c, if_neg (by decide), tb_ok]; rfl
theorem flat_id {Ls : List (List Int)} : (Ls.flatMap fun L => L.map fun x => x) = Ls.flatten := by
  rw [List.flatMap_def]
  congr 1
  exact (List.map_congr_left fun L _ => List.map_id' L).trans (List.map_id' Ls)
theorem cat_ok {Ls : List (List Int)} (hl : Ls.flatten.length ≤ 1024) : (tfold Ls ([] : ((List Int))) fun (s52 : ((List Int))) (x49 : (List Int)) => tb (tCat s52 x49) fun v53 => .ok v53) = .ok Ls.flatten := by
  refine tfold_eq (fun p => p.flatten) rfl fun p L r e => ?_
  have : Ls.flatten.length = (p ++ L :: r).flatten.length := by rw [e]
  rw [List.flatten_append, List.flatten_cons, List.length_append, List.length_append] at this
  rw [tCat_eq (by omega), tb_ok, List.flatten_append, List.flatten_singleton]
/-- all forms of a part -/
def fms (N : Nat) (g : Grf) (s : Int) : List Fm := (orI g s N).map (stdS N g)
theorem fms_mem (G : GG N g) (hs : InN N s) {z : Fm} : z ∈ fms N g s ↔ ∃ x, Cn N g s x ∧ stdS N g x = z := by
  unfold fms
  rw [List.mem_map]
  exact ⟨fun ⟨x, hx, e⟩ => ⟨x, (or_mem G.ok hs x).mp hx, e⟩, fun ⟨x, hx, e⟩ => ⟨x, (or_mem G.ok hs x).mpr hx, e⟩⟩
theorem fms_ne (G : GG N g) (hs : InN N s) : fms N g s ≠ [] := fun e => by
  have : stdS N g s ∈ fms N g s := (fms_mem G hs).mpr ⟨s, Cn.refl, rfl⟩
  rw [e] at this; cases this
theorem fms_same (G : GG N g) (H : GG N h) (gl : g.length = h.length) (hs : InN N s) (ht : InN N t) (e : stdS N g s = stdS N h t) (z : Fm) : z ∈ fms N g s ↔ z ∈ fms N h t := by
  obtain ⟨f, I, fs, sur⟩ := std_iso G H gl hs ht e
  rw [fms_mem G hs, fms_mem H ht]
  constructor
  · rintro ⟨x, cx, e⟩
    refine ⟨f x, ?_, by rw [(I.at cx).std]; exact e⟩
    rw [← or_mem H.ok ht, ← fs, I.or N]
    exact List.mem_map_of_mem ((or_mem G.ok hs x).mpr cx)
  · rintro ⟨y, cy, e⟩
    obtain ⟨x, cx, rfl⟩ := sur y cy
    exact ⟨x, cx, by rw [← (I.at cx).std]; exact e⟩
theorem fms_part (G : GG N g) (hs : InN N s) (c : Cn N g s t) (z : Fm) : z ∈ fms N g t ↔ z ∈ fms N g s := by
  rw [fms_mem G (c.In hs), fms_mem G hs]
  exact ⟨fun ⟨x, cx, e⟩ => ⟨x, c.trans cx, e⟩, fun ⟨x, cx, e⟩ => ⟨x, (c.symm hs).trans cx, e⟩⟩
theorem min_part (G : GG N g) (hs : InN N s) {L : List Int} (mem : ∀ x, x ∈ L ↔ Cn N g s x) : tMinD eF (L.map (stdS N g)) = tMinD eF (fms N g s) := by
  refine min_same (fun e => ?_) fun z => ?_
  · have : stdS N g s ∈ L.map (stdS N g) := List.mem_map_of_mem ((mem s).mpr Cn.refl)
    rw [e] at this; cases this
  · rw [fms_mem G hs, List.mem_map]
    exact ⟨fun ⟨x, hx, e⟩ => ⟨x, (mem x).mp hx, e⟩, fun ⟨x, hx, e⟩ => ⟨x, (mem x).mpr hx, e⟩⟩
theorem flat_mem (hs : InN N s) {n : Nat} (n1 : 1 ≤ n) (st : ∀ (r : Nat) (x : Int), Bl N g s r x → Bl N g s (n - 1) x) (x : Int) : x ∈ (lays N g s n).flatten ↔ Cn N g s x := by
  have f1 := (flat_part hs n1 st).1
  rw [flat_id] at f1
  have := (srt_perm (lays N g s n).flatten).mem_iff (a := x)
  rw [f1, fil_mem] at this
  exact ⟨fun h => (this.mpr h).2, fun h => this.mp ⟨h.In hs, h⟩⟩
theorem least_at (G : GG N g) (hs : InN N s) (hN : N ≤ 100) : t_least_form g s = tMinD eF (fms N g s) := by
  have g6 := G.g6
  have hl := lays_ok G.ok G.n2 (by omega) hs
  obtain ⟨Ls, el, n, n1, nN, rfl, st⟩ := hl
  have f2 := (flat_part hs n1 st).2
  have mem := flat_mem hs n1 st
  unfold t_least_form
  rw [G.chk, tb_ok, G.num hs, tb_ok, el, tb_ok, tFl_eq (fun L : List Int => L) (fun (_ : List Int) (x : Int) => x) (by rw [lays_len]; omega) (fun L _ => by rw [tb_ok]) (fun L _ x _ => by rw [tb_ok]) (by omega), tb_ok]
  rw [flat_id] at f2 ⊢
  rw [if_neg (by rw [decide_eq_true_eq]; omega), tMap_eq (stdS N g) (by omega) fun x hx => by
    rw [p_standard_at G (((mem x).mp hx).In hs), tb_ok], tb_ok, tb_eta]
  exact min_part G hs mem
theorem q_part_at (G : GG N g) (hs : InN N s) : Ok (t_q_part g s) (fun L => (∀ x, x ∈ L ↔ Cn N g s x) ∧ L.length ≤ N) := by
  have n2 := G.n2
  unfold t_q_part
  refine ok_tb (q_layers_ok G hs) fun Ls ⟨n, n1, nN, e, st, _⟩ => ?_
  subst e
  have f2 := (flat_part hs n1 st).2
  rw [flat_id] at f2
  rw [cat_ok (by omega), tb_ok]
  exact ok_ok ⟨flat_mem hs n1 st, f2⟩
/-! told -/
theorem told0 {f : Fm} (e : t_standard g s = .ok f) : t_q_told 0 g s = .ok (eF f) := by
  unfold t_q_told
  rw [if_pos (by decide), e, tb_ok, try_ok]
theorem told1 {f : Fm} (e : t_least_form g s = .ok f) : t_q_told 1 g s = .ok (eF f) := by
  unfold t_q_told
  rw [if_neg (by decide), e, tb_ok, try_ok]
theorem std_at (G : GG N g) (hs : InN N s) : t_standard g s = .ok (stdS N g s) := by
  unfold t_standard
  rw [G.chk, tb_ok, G.num hs, tb_ok, p_standard_at G hs, tb_ok]
theorem told_x {w : Int} {c : Str} {r : S} (e0 : t_standard g s = .ex ⟨c, []⟩) (e1 : t_least_form g s = .ex ⟨c, []⟩) (hc : c = "NotGraph" ∧ r = sGr ∨ c = "BadNumber" ∧ r = sNu) : t_q_told w g s = .ok (eS r) := by
  unfold t_q_told
  rw [e0, e1]
  have k : ∀ b : Bool, (if b = true then (tb (.ex ⟨c, []⟩ : T Fm) fun v4 => .ok ((eT (eT eI)) v4)) else (tb (.ex ⟨c, []⟩ : T Fm) fun v5 => .ok ((eT (eT eI)) v5)) : T D) = .ex ⟨c, []⟩ := fun b => by cases b <;> rfl
  rw [k]
  rcases hc with ⟨rfl, rfl⟩ | ⟨rfl, rfl⟩
  · rw [try_ex (by decide), if_pos (by decide)]; rfl
  · rw [try_ex (by decide), if_neg (by decide), if_pos (by decide)]; rfl
theorem told_nu (G : GG N g) (hx : ¬ InN N s) {w : Int} : t_q_told w g s = .ok (eS sNu) := told_x (by unfold t_standard; rw [G.chk, tb_ok, G.numB hx]; rfl) (by unfold t_least_form; rw [G.chk, tb_ok, G.numB hx]; rfl) (.inr ⟨rfl, rfl⟩)
theorem told_gr {w : Int} : t_q_told w [[0, 0]] s = .ok (eS sGr) := by
  have c : t_check_graph [[0, 0]] = .ex ⟨"NotGraph", []⟩ := by unfold t_check_graph; rw [bad_graph, tb_ok]; rfl
  exact told_x (by unfold t_standard; rw [c]; rfl) (by unfold t_least_form; rw [c]; rfl) (.inl ⟨rfl, rfl⟩)
theorem rp_F (hN : N ≤ 12) (G : GG N g) (hs : InN N s) : Rp (6 * (12 * (40 + 1) + 1)) 3 (eF (stdS N g s)) := by
  have ol := or_len G.ok hs N
  have g6 := G.g6
  unfold stdS stdF
  refine rp_T (k := 2) (fun l hl => ?_) (by rw [List.length_map]; exact g6)
  obtain ⟨r, hr, rfl⟩ := List.mem_map.mp hl
  refine rp_T (k := 1) (fun x hx => ?_) (by rw [List.length_map]; omega)
  obtain ⟨y, hy, rfl⟩ := List.mem_map.mp hx
  have := List.idxOf_le_length (a := atL r y) (l := orI g s N)
  exact rp_int _ (by omega)
end

/-! encoders tell apart -/
theorem inst_int (a b : Int) : eI a = eI b → a = b := fun h => by injection h
theorem map_injG {α : Type} {e : α → D} (he : ∀ x y, e x = e y → x = y) : ∀ {xs ys : List α}, xs.map e = ys.map e → xs = ys
  | [], [], _ => rfl
  | [], _ :: _, h => by cases h
  | _ :: _, [], h => by cases h
  | x :: xs, y :: ys, h => by
    rw [List.map_cons, List.map_cons] at h
    injection h with h1 h2
    rw [he _ _ h1, map_injG he h2]
theorem eT_inj {α : Type} {e : α → D} (he : ∀ x y, e x = e y → x = y) (a b : List α) (h : (eT e) a = (eT e) b) : a = b := by
  have h1 : D.tup (a.map e) = D.tup (b.map e) := h
  injection h1 with h1
  exact map_injG he h1
/-! law_k71, joined -/
section
variable {N : Nat} {g : Grf} {s : Int}
theorem turned_ok {q : List Int} (G : GG N g) (hq : q.Perm (rngL 0 (N : Int))) : Ok (tfold g ([] : ((List (List Int)))) fun (s35 : ((List (List Int)))) (x24 : (List Int)) =>
  tb (tRepL ([0] : List Int) (N : Int)) fun v36 => tb (tRng 0 (N : Int)) fun r37 =>
  tb (tfold r37 (v36 : ((List Int))) fun (s39 : ((List Int))) (x38 : Int) => tb (tIdx x24 x38) fun v40 => tb (tIdx q v40) fun v41 => tb (tIdx q x38) fun v42 => tb (tSet s39 v42 v41) fun entries43 => .ok entries43) fun s39 =>
  tb (tApd s35 s39) fun turned44 => .ok turned44) (fun g' => g'.length = g.length ∧ ∀ (i : Nat) (r r' : List Int), g[i]? = some r → g'[i]? = some r' → r'.length = N ∧ ∀ x, InN N x → atL r' (atL q x) = atL q (atL r x)) := by
  have n2 := G.n2
  have g6 := G.g6
  refine ok_imp (tfold_okN (fun n (s : Grf) => s.length = n ∧ ∀ (i : Nat) (r r' : List Int), i < n → g[i]? = some r → s[i]? = some r' → r'.length = N ∧ ∀ x, InN N x → atL r' (atL q x) = atL q (atL r x)) ⟨rfl, fun i r r' h => by omega⟩ ?_) fun g' ⟨a, b⟩ => ⟨a, fun i r r' er er' => b i r r' (List.getElem?_eq_some_iff.mp er).1 er er'⟩
  intro i r s hr ⟨h1, h2⟩
  have hi := (List.getElem?_eq_some_iff.mp hr).1
  have pr := G.ok r (List.mem_of_getElem? hr)
  rw [tRepL_eq (by omega) (by omega) (by rw [List.length_singleton]; omega), tb_ok, tRng_eq (by decide) (by decide) (by omega) (by omega), tb_ok]
  refine ok_tb (tfold_okN (fun n (b : List Int) => b.length = N ∧ ∀ j : Nat, j < n → atL b (atL q (j : Int)) = atL q (atL r (j : Int))) ⟨by rw [repL_len, List.length_singleton]; omega, fun j hj => by omega⟩ ?_) ?_
  · intro j x b hx ⟨b1, b2⟩
    obtain ⟨ex, hj⟩ := rngL_get hx
    obtain rfl : x = (j : Int) := by omega
    obtain ⟨_, a0, a1⟩ := atL_get pr (x := (j : Int)) (by omega) (by omega)
    obtain ⟨_, c0, c1⟩ := atL_get hq (x := (j : Int)) (by omega) (by omega)
    rw [tIdx_at pr (by omega) (by omega), tb_ok, tIdx_at hq a0 a1, tb_ok, tIdx_at hq (by omega) (by omega), tb_ok, tSet_int c0 (by omega), tb_ok]
    refine ok_ok ⟨by rw [List.length_set]; exact b1, fun t ht => ?_⟩
    obtain ⟨_, d0, d1⟩ := atL_get hq (x := (t : Int)) (by omega) (by omega)
    rw [atL_set c0 (by omega) d0]
    by_cases c : atL q (t : Int) = atL q (j : Int)
    · have := atL_inj hq (by omega) (by omega) (by omega) (by omega) c
      rw [if_pos c, show (t : Int) = (j : Int) from this]
    · rw [if_neg c]
      refine b2 t ?_
      rcases Nat.lt_or_ge t j with z | z
      · exact z
      · exact absurd (by rw [show t = j by omega]) c
  · intro b ⟨b1, b2⟩
    rw [rngL_len] at b2
    rw [tApd_eq (by omega), tb_ok]
    refine ok_ok ⟨by simp [h1], fun j r' b' hj hr' hb' => ?_⟩
    rcases Nat.lt_or_ge j i with z | z
    · rw [List.getElem?_append_left (by omega)] at hb'
      exact h2 j r' b' z hr' hb'
    · have : j = i := by omega
      subst this
      rw [List.getElem?_append_right (by omega), h1, Nat.sub_self] at hb'
      rw [hr] at hr'
      cases hr'
      cases hb'
      refine ⟨b1, fun x hx => ?_⟩
      have h0 := hx.1
      have h3 := hx.2
      have := b2 x.toNat (by omega)
      rwa [show ((x.toNat : Nat) : Int) = x by omega] at this
theorem turned_gg {q : List Int} (G : GG N g) (hq : q.Perm (rngL 0 (N : Int))) {g' : Grf} (gl : g'.length = g.length) (k : ∀ (i : Nat) (r r' : List Int), g[i]? = some r → g'[i]? = some r' → r'.length = N ∧ ∀ x, InN N x → atL r' (atL q x) = atL q (atL r x)) (hs : InN N s) : GG N g' ∧ Iso N g g' s (atL q) := by
  have qi : ∀ x, InN N x → InN N (atL q x) := fun x hx => (atL_get hq hx.1 hx.2).2
  have ok : GOk N g' := fun r' hr' => by
    obtain ⟨i, er'⟩ := List.getElem?_of_mem hr'
    obtain ⟨r0, er⟩ : ∃ r0, g[i]? = some r0 := ⟨_, List.getElem?_eq_getElem (show i < g.length by have := (List.getElem?_eq_some_iff.mp er').1; omega)⟩
    obtain ⟨l, kk⟩ := k i _ r' er er'
    have pr := G.ok _ (List.mem_of_getElem? er)
    rw [lst_at l]
    have ri : ∀ x, InN N x → InN N (atL r0 x) := fun x hx => (atL_get pr hx.1 hx.2).2
    refine perm_of (map_nd (rngL_nodup 0 (N : Int)) fun y hy z hz e => ?_) (by rw [List.length_map, rngL_len]; omega) fun z hz => ?_
    · have hy := rngL_mem.mp hy
      have hz := rngL_mem.mp hz
      obtain ⟨y', y0, y1, rfl⟩ := atL_onto hq hy.1 hy.2
      obtain ⟨z', z0, z1, rfl⟩ := atL_onto hq hz.1 hz.2
      rw [kk y' ⟨y0, y1⟩, kk z' ⟨z0, z1⟩] at e
      have r1 := ri y' ⟨y0, y1⟩
      have r2 := ri z' ⟨z0, z1⟩
      have e2 := atL_inj hq r1.1 r1.2 r2.1 r2.2 e
      rw [atL_inj pr y0 y1 z0 z1 e2]
    · obtain ⟨y, hy, rfl⟩ := List.mem_map.mp hz
      have hy := rngL_mem.mp hy
      obtain ⟨y', y0, y1, rfl⟩ := atL_onto hq hy.1 hy.2
      rw [kk y' ⟨y0, y1⟩]
      exact qi _ (ri y' ⟨y0, y1⟩)
  exact ⟨⟨ok, by rw [gl]; exact G.g1, by rw [gl]; exact G.g6, G.n1, G.n2⟩, gl.symm, hs, G.ok, ok, fun x cx => qi x (cx.In hs), fun x y cx cy e => atL_inj hq (cx.In hs).1 (cx.In hs).2 (cy.In hs).1 (cy.In hs).2 e, fun i r r' er er' x cx => (k i r r' er er').2 x (cx.In hs)⟩
end
/-! the ring -/
def rr : List Int := rngL 1 101 ++ [0]
theorem rr_perm : rr.Perm (rngL 0 ((101 : Nat) : Int)) := by
  have e : rngL 0 ((101 : Nat) : Int) = 0 :: rngL 1 101 := by decide +kernel
  rw [e]
  exact List.perm_append_comm
theorem rr_at {x : Int} (hx : InN 101 x) : atL rr x = (x + 1) % 101 := by
  have key : ∀ j : Nat, j < 101 → rr.getD j 0 = ((j : Int) + 1) % 101 := by decide +kernel
  have h0 := hx.1
  have h1 := hx.2
  have := key x.toNat (by omega)
  unfold atL
  rw [this, show ((x.toNat : Nat) : Int) = x by omega]
theorem rr_gg : GG 101 [rr] := ⟨fun r hr => by rw [List.mem_singleton.mp hr]; exact rr_perm, by simp, by simp, by decide, by decide⟩
theorem z101 : InN 101 0 := ⟨by decide, by decide⟩
theorem rr_cn : ∀ j : Nat, j < 101 → Cn 101 [rr] 0 (j : Int)
  | 0, _ => Cn.refl
  | j + 1, h => (rr_cn j (by omega)).adj ⟨⟨by omega, by omega⟩, rr, by simp, .inl (by rw [rr_at ⟨by omega, by omega⟩]; omega)⟩
theorem rr_large : t_q_told 1 [rr] 0 = .ok (eS sLa) := by
  have e : t_least_form [rr] 0 = .ex ⟨"TooLarge", []⟩ := by
    obtain ⟨Ls, el, n, n1, nN, rfl, st⟩ := lays_ok rr_gg.ok rr_gg.n2 (by simp) z101
    obtain ⟨f1, f2⟩ := flat_part z101 n1 st
    unfold t_least_form
    rw [rr_gg.chk, tb_ok, rr_gg.num z101, tb_ok, el, tb_ok, tFl_eq (fun L : List Int => L) (fun (_ : List Int) (x : Int) => x) (by rw [lays_len]; omega) (fun L _ => by rw [tb_ok]) (fun L _ x _ => by rw [tb_ok]) (by omega), tb_ok]
    have pl := (srt_perm ((lays 101 [rr] 0 n).flatMap fun L => L.map fun x => x)).length_eq
    rw [f1] at pl
    have big := nd_le (l := rngL 0 ((101 : Nat) : Int)) (c := fil 101 (Cn 101 [rr] 0)) (rngL_nodup _ _) fun x hx => by
      have hx := rngL_mem.mp hx
      have := rr_cn x.toNat (by omega)
      rw [show ((x.toNat : Nat) : Int) = x by omega] at this
      exact fil_mem.mpr ⟨hx, this⟩
    rw [rngL_len] at big
    rw [if_pos (by rw [decide_eq_true_eq]; omega)]
  unfold t_q_told
  rw [if_neg (by decide), e]
  show tTry (.ex ⟨"TooLarge", []⟩) _ _ = _
  rw [try_ex (by decide), if_neg (by decide), if_neg (by decide), if_pos (by decide)]; rfl
theorem rr_rot : stdS 101 [rr] 5 = stdS 101 [rr] 0 := by
  have I : Iso 101 [rr] [rr] 0 (fun x => (x + 5) % 101) := ⟨rfl, z101, rr_gg.ok, rr_gg.ok, fun x _ => ⟨by omega, by omega⟩, fun x y cx cy e => by
    have h1 := cx.In z101
    have h2 := cy.In z101
    have a := h1.1; have b := h1.2; have c := h2.1; have d := h2.2
    omega, fun i r r' er er' x cx => by
    have hx := cx.In z101
    have hi : i = 0 := by have := (List.getElem?_eq_some_iff.mp er).1; simpa using this
    subst hi
    cases er
    cases er'
    rw [rr_at hx, rr_at ⟨by omega, by omega⟩]; omega⟩
  exact I.std
theorem law_okP (ns : List Int) (hns : ns.length ≤ 63) : Ok (t_law ns) (fun b => b = true) := by
  unfold t_law
  refine ok_tb (cell_ok ns 0 (by decide)) fun c0 _ => ?_
  rw [tb_ok]
  obtain ⟨c1, hc1, _⟩ := cell_ok ns 1 (by decide)
  rw [hc1, tb_ok]
  refine ok_tb (cell_ok ns 2 (by decide)) fun c2 _ => ?_
  obtain ⟨N, hN⟩ : ∃ N : Nat, 1 + c0 % 12 = (N : Int) := ⟨(1 + c0 % 12).toNat, by omega⟩
  rw [hN]
  have N1 : 1 ≤ N := by omega
  have N12 : N ≤ 12 := by omega
  refine ok_tb (rows_ok (by omega) (by omega)) fun g ⟨G, gl⟩ => ?_
  rw [Int.toNat_natCast] at G
  refine ok_tb (cell_ok ns 3 (by decide)) fun c3 _ => ?_
  rw [tMod_eq (by omega), tb_ok]
  have hs : InN N (c3 % (N : Int)) := ⟨Int.emod_nonneg _ (by omega), Int.emod_lt_of_pos _ (by omega)⟩
  generalize c3 % (N : Int) = s at hs
  rw [q_standard_at G hs, tb_ok]
  refine ok_tb (q_part_at G hs) fun L ⟨mem, ll⟩ => ?_
  rw [tMap_eq (stdS N g) (by omega) fun x hx => by rw [q_standard_at G (((mem x).mp hx).In hs), tb_ok], tb_ok]
  obtain ⟨m, em, m1, m2⟩ := min_at (fms_ne G hs)
  have emL := min_part G hs mem
  rw [em] at emL
  have lf := least_at G hs (by omega)
  rw [em] at lf
  obtain ⟨xm, cxm, exm⟩ := (fms_mem G hs).mp m1
  obtain ⟨p1, hp1⟩ : ∃ r, tRepr (eF (stdS N g s)) = .ok r := ⟨_, tRepr_eq (rp_F N12 G hs)⟩
  obtain ⟨p2, hp2⟩ : ∃ r, tRepr (eF m) = .ok r := by rw [← exm]; exact ⟨_, tRepr_eq (rp_F N12 G (cxm.In hs))⟩
  have hp1' : tRepr (eD (eF (stdS N g s))) = .ok p1 := hp1
  have hp2' : tRepr (eD (eF m)) = .ok p2 := hp2
  rw [emL, tb_ok, told0 (std_at G hs), tb_ok, hp1', tb_ok, tb_ok, decide_eq_true rfl, if_neg (by decide), told1 lf, tb_ok, hp2', tb_ok, tb_ok, decide_eq_true rfl, tb_ok, if_neg (by decide)]
  refine ok_tb (cell_ok ns 4 (by decide)) fun c4 _ => ?_
  refine ok_tb (arranged_ok (by omega) (by omega)) fun q hq => ?_
  refine ok_tb (turned_ok G hq) fun g' ⟨gl', k⟩ => ?_
  obtain ⟨G', I⟩ := turned_gg G hq gl' k hs
  obtain ⟨_, qs0, qs1⟩ := atL_get hq hs.1 hs.2
  have hqs : InN N (atL q s) := ⟨qs0, qs1⟩
  have es := I.std
  have ms : tMinD eF (fms N g' (atL q s)) = .ok m := by
    rw [← em]
    exact (min_same (fms_ne G hs) (fms_same G G' gl'.symm hs hqs es.symm)).symm
  have lf' := least_at G' hqs (by omega)
  rw [ms] at lf'
  rw [tIdx_at hq hs.1 hs.2, tb_ok, told0 (std_at G' hqs), tb_ok, es, ne_self (shp_F _), tb_ok, if_neg (by decide), tb_ok, told1 lf', tb_ok, ne_self (shp_F _), tb_ok, tb_ok, if_neg (by decide), tb_ok]
  refine ok_tb (cell_ok ns 5 (by decide)) fun c5 _ => ?_
  refine ok_tb (rows_ok (by omega) (by omega)) fun h ⟨H, hl⟩ => ?_
  rw [Int.toNat_natCast] at H
  have ghl : g.length = h.length := by rw [gl, hl]
  refine ok_tb (parts_at H) fun Ps ⟨a1, _, _⟩ => ?_
  refine ok_tlp (P := fun t => match t with | .dn (_ : Unit) => True | .rt (_ : Bool) => False) (tfor_okN (fun _ _ => True) _ trivial (fun i p u hp _ => ?_) fun s _ => trivial) (fun _ _ => ?_) fun r h => h.elim
  · obtain ⟨t, ht, rfl⟩ := a1 p (List.mem_of_getElem? hp)
    have fl := fil_len (N := N) (p := Cn N h t)
    have tm : t ∈ fil N (Cn N h t) := fil_mem.mpr ⟨ht, Cn.refl⟩
    rw [tMap_eq (stdS N h) (by omega) fun x hx => by
      rw [told0 (std_at H (fil_mem.mp hx).1), tb_ok, tCast_ok (eT_inj (eT_inj inst_int)), tb_ok], tb_ok]
    have inE : tInE eF (stdS N g s) ((fil N (Cn N h t)).map (stdS N h)) = .ok (decide (stdS N g s ∈ (fil N (Cn N h t)).map (stdS N h))) := by
      unfold tInE
      rw [if_pos (okEq_of (k := 4) (shp_mono (shp_F _)) (shp_L (k := 3) _ fun y _ => shp_F y))]
      exact congrArg T.ok (decide_eq_decide.mpr Iff.rfl)
    rw [inE, tb_ok]
    obtain ⟨t0, e0⟩ : ∃ t0, (fil N (Cn N h t))[0]? = some t0 := ⟨_, List.getElem?_eq_getElem (List.length_pos_of_mem tm)⟩
    obtain ⟨ht0, ct0⟩ := fil_mem.mp (List.mem_of_getElem? e0)
    obtain ⟨m', em', m1', _⟩ := min_at (fms_ne H ht0)
    have lf2 := least_at H ht0 (by omega)
    rw [em'] at lf2
    have eqD : tEqD (eF m') (eF m) = .ok (decide (m' = m)) := by
      rw [tEqD_eq (okEq_of (shp_F _) (shp_F _))]
      exact congrArg T.ok (eqv_F m' m)
    rw [tIdx_int (by decide) e0, tb_ok, told1 lf2, tb_ok, eqD, tb_ok]
    have iff : stdS N g s ∈ (fil N (Cn N h t)).map (stdS N h) ↔ m' = m := by
      rw [List.mem_map]
      constructor
      · rintro ⟨x, hx, ex⟩
        obtain ⟨hx1, cx⟩ := fil_mem.mp hx
        have c2 : Cn N h t0 x := (ct0.symm ht).trans cx
        have k1 := min_same (fms_ne G hs) (fms_same G H ghl hs hx1 ex.symm)
        have k2 := min_same (fms_ne H hx1) (fms_part H ht0 c2)
        rw [em, k2, em'] at k1
        injection k1 with k1
        exact k1.symm
      · intro e
        subst e
        obtain ⟨y, cy, ey⟩ := (fms_mem H ht0).mp m1'
        have hy := cy.In ht0
        have hxm := cxm.In hs
        have k1 := (fms_same G H ghl hxm hy (exm.trans ey.symm) (stdS N g s)).mp ((fms_mem G hxm).mpr ⟨s, cxm.symm hs, rfl⟩)
        obtain ⟨z, cz, ez⟩ := (fms_mem H hy).mp k1
        have c3 : Cn N h t z := (ct0.trans cy).trans cz
        exact ⟨z, fil_mem.mpr ⟨c3.In ht, c3⟩, ez⟩
    rw [decide_eq_decide.mpr iff, decide_eq_true rfl, if_neg (by decide)]
    exact ok_ok trivial
  have st5 := std_at rr_gg (s := 5) ⟨by decide, by decide⟩
  have st0 := std_at rr_gg (s := 0) z101
  have sl : Shp 1 (eS sLa) := shp_str (by intro c hc; simp at hc; omega)
  have sn : Shp 1 (eS sNu) := shp_str (by intro c hc; simp at hc; omega)
  have sg : Shp 1 (eS sGr) := shp_str (by intro c hc; simp at hc; omega)
  rw [tLrg_eq ⟨by omega, by omega, by omega, by omega, by omega⟩, tb_ok, tCat_eq (by rw [rngL_len]; decide), tb_ok]
  show Ok (tb (t_q_told 1 [rr] 0) _) _
  rw [rr_large, tb_ok, ne_self sl, tb_ok, if_neg (by decide)]
  show Ok (tb (tb (t_q_told 0 [rr] 5) _) _) _
  rw [told0 st5, tb_ok]
  show Ok (tb (tb (t_q_told 0 [rr] 0) _) _) _
  rw [told0 st0, tb_ok, rr_rot, ne_self (shp_F _), tb_ok, tb_ok, if_neg (by decide), tRng_eq (by decide) (by decide) (by decide) (by decide), tb_ok]
  refine ok_tlp (P := fun t => match t with | .dn (_ : Unit) => True | .rt (_ : Bool) => False) (tfor_okN (fun _ _ => True) _ trivial (fun i x u hx _ => ?_) fun s _ => trivial) (fun _ _ => ok_ok rfl) fun r h => h.elim
  have oN : ¬ InN N (N : Int) := fun q => by have := q.2; omega
  rw [told_nu G oN, tb_ok, ne_self sn, tb_ok, if_neg (by decide)]
  show Ok (tb (tb (t_q_told x [[0, 0]] 9) _) _) _
  rw [told_gr, tb_ok, ne_self sg, tb_ok, tb_ok, if_neg (by decide)]
  exact ok_ok trivial
theorem law_ok (ns : List Int) (h : ns.length ≤ 63) : t_law ns = .ok true := by
  obtain ⟨b, e, rfl⟩ := law_okP ns h
  exact e
theorem law_good (ns : List Int) (h : ns.length ≤ 63) : f_law none [.scr ns] = .ok (.fz (.bl true)) none := (r_law ns).good (law_ok ns h)

-- dropped: check_string_ok check_wide_ok chk_all chk_noM chk_noW chk_ok chk_ws distance_at graph_at has_digits_ok is_row_ok is_wide_ok layers_at layers_atN listed_ok machine_ok over_at over_len over_size q_graph_at q_strings_ok string_at_at string_at_big string_ok und_q values_ok
end Law

set_option maxHeartbeats 4000000
namespace Law
open DL PySem PySem.Spec L2
theorem room_rep {k : Nat} {A : Around} (r : Room k A) : A.units + 128 < cLine := by have := r.un; omega
theorem hu65_of {k : Nat} {A : Around} (r : Room k A) : A.units + 65 < cLine := by have := r.un; omega
theorem hu_of {k : Nat} {A : Around} (r : Room k A) : A.units + 1 < cLine := by have := r.un; omega
def topS (i : Nat) : Stmt := PySem.Challenge.pw_leafturner_k71_standard_forms_of_parts.main.body.getD i (.Pass ⟨0, 0, 0, 0⟩)
abbrev s_q_cell : Stmt := topS 20
abbrev N_q_cell : List Str := ["_law_script", "_law_k"]
theorem sc_q_cell : FnScope ["_law_script", "_law_k"] ["_law_script", "_law_k"] (defScope s_q_cell) := ⟨rfl, rfl, rfl, by decide +kernel, rfl, by decide +kernel, by decide +kernel⟩
abbrev s_q_arranged : Stmt := topS 22
abbrev N_q_arranged : List Str := ["_law_value", "_law_size", "_law_left", "_law_row", "_law_k", "_law_at"]
theorem sc_q_arranged : FnScope ["_law_value", "_law_size", "_law_left", "_law_row", "_law_k", "_law_at"] ["_law_value", "_law_size"] (defScope s_q_arranged) := ⟨rfl, rfl, rfl, by decide +kernel, rfl, by decide +kernel, by decide +kernel⟩
abbrev s_q_rows : Stmt := topS 23
abbrev N_q_rows : List Str := ["_law_cell_here", "_law_second", "_law_size", "_law_rows_here", "_law_k"]
theorem sc_q_rows : FnScope ["_law_cell_here", "_law_second", "_law_size", "_law_rows_here", "_law_k"] ["_law_cell_here", "_law_second", "_law_size"] (defScope s_q_rows) := ⟨rfl, rfl, rfl, by decide +kernel, rfl, by decide +kernel, by decide +kernel⟩
abbrev s_q_near : Stmt := topS 24
abbrev N_q_near : List Str := ["_law_graph", "_law_number", "_law_found", "_law_row"]
theorem sc_q_near : FnScope ["_law_graph", "_law_number", "_law_found", "_law_row"] ["_law_graph", "_law_number"] (defScope s_q_near) := ⟨rfl, rfl, rfl, by decide +kernel, rfl, by decide +kernel, by decide +kernel⟩
abbrev s_q_standard : Stmt := topS 26
abbrev N_q_standard : List Str := ["_law_graph", "_law_number", "_law_order", "_law_place", "_law_other", "_law_row", "_law_one"]
theorem sc_q_standard : FnScope ["_law_graph", "_law_number", "_law_order", "_law_place", "_law_other", "_law_row", "_law_one"] ["_law_graph", "_law_number"] (defScope s_q_standard) := ⟨rfl, rfl, rfl, by decide +kernel, rfl, by decide +kernel, by decide +kernel⟩
abbrev s_q_layers : Stmt := topS 25
abbrev N_q_layers : List Str := ["_law_graph", "_law_number", "_law_met", "_law_layers_here", "_law_step", "_law_later", "_law_one", "_law_other"]
theorem sc_q_layers : FnScope ["_law_graph", "_law_number", "_law_met", "_law_layers_here", "_law_step", "_law_later", "_law_one", "_law_other"] ["_law_graph", "_law_number"] (defScope s_q_layers) := ⟨rfl, rfl, rfl, by decide +kernel, rfl, by decide +kernel, by decide +kernel⟩
abbrev s_q_part : Stmt := topS 28
abbrev N_q_part : List Str := ["_law_graph", "_law_number", "_law_part_here", "_law_layer"]
theorem sc_q_part : FnScope ["_law_graph", "_law_number", "_law_part_here", "_law_layer"] ["_law_graph", "_law_number"] (defScope s_q_part) := ⟨rfl, rfl, rfl, by decide +kernel, rfl, by decide +kernel, by decide +kernel⟩
abbrev s_is_graph : Stmt := topS 9
abbrev N_is_graph : List Str := ["graph", "row"]
theorem sc_is_graph : FnScope ["graph", "row"] ["graph"] (defScope s_is_graph) := ⟨rfl, rfl, rfl, by decide +kernel, rfl, by decide +kernel, by decide +kernel⟩
abbrev s_check_graph : Stmt := topS 10
abbrev N_check_graph : List Str := ["graph"]
theorem sc_check_graph : FnScope ["graph"] ["graph"] (defScope s_check_graph) := ⟨rfl, rfl, rfl, by decide +kernel, rfl, by decide +kernel, by decide +kernel⟩
abbrev s_check_number : Stmt := topS 11
abbrev N_check_number : List Str := ["graph", "number"]
theorem sc_check_number : FnScope ["graph", "number"] ["graph", "number"] (defScope s_check_number) := ⟨rfl, rfl, rfl, by decide +kernel, rfl, by decide +kernel, by decide +kernel⟩
abbrev s__backs : Stmt := topS 13
abbrev N__backs : List Str := ["graph", "found", "row", "back", "number", "entry"]
theorem sc__backs : FnScope ["graph", "found", "row", "back", "number", "entry"] ["graph"] (defScope s__backs) := ⟨rfl, rfl, rfl, by decide +kernel, rfl, by decide +kernel, by decide +kernel⟩
abbrev s__steps : Stmt := topS 12
abbrev N__steps : List Str := ["graph", "backs", "number", "found", "row", "back"]
theorem sc__steps : FnScope ["graph", "backs", "number", "found", "row", "back"] ["graph", "backs", "number"] (defScope s__steps) := ⟨rfl, rfl, rfl, by decide +kernel, rfl, by decide +kernel, by decide +kernel⟩
abbrev s__standard : Stmt := topS 16
abbrev N__standard : List Str := ["graph", "number", "backs", "names", "order", "place", "other", "row", "one"]
theorem sc__standard : FnScope ["graph", "number", "backs", "names", "order", "place", "other", "row", "one"] ["graph", "number"] (defScope s__standard) := ⟨rfl, rfl, rfl, by decide +kernel, rfl, by decide +kernel, by decide +kernel⟩
abbrev s_standard : Stmt := topS 17
abbrev N_standard : List Str := ["graph", "number"]
theorem sc_standard : FnScope ["graph", "number"] ["graph", "number"] (defScope s_standard) := ⟨rfl, rfl, rfl, by decide +kernel, rfl, by decide +kernel, by decide +kernel⟩
abbrev s__layers : Stmt := topS 14
abbrev N__layers : List Str := ["graph", "number", "backs", "met", "layers", "following", "one", "other"]
theorem sc__layers : FnScope ["graph", "number", "backs", "met", "layers", "following", "one", "other"] ["graph", "number"] (defScope s__layers) := ⟨rfl, rfl, rfl, by decide +kernel, rfl, by decide +kernel, by decide +kernel⟩
abbrev s_least_form : Stmt := topS 18
abbrev N_least_form : List Str := ["graph", "number", "part", "layer", "one"]
theorem sc_least_form : FnScope ["graph", "number", "part", "layer", "one"] ["graph", "number"] (defScope s_least_form) := ⟨rfl, rfl, rfl, by decide +kernel, rfl, by decide +kernel, by decide +kernel⟩
abbrev s_q_told : Stmt := topS 27
abbrev N_q_told : List Str := ["_law_which", "_law_graph", "_law_number"]
theorem sc_q_told : FnScope ["_law_which", "_law_graph", "_law_number"] ["_law_which", "_law_graph", "_law_number"] (defScope s_q_told) := ⟨rfl, rfl, rfl, by decide +kernel, rfl, by decide +kernel, by decide +kernel⟩
abbrev s_parts : Stmt := topS 15
abbrev N_parts : List Str := ["graph", "met", "found", "number", "part", "one", "layer"]
theorem sc_parts : FnScope ["graph", "met", "found", "number", "part", "one", "layer"] ["graph"] (defScope s_parts) := ⟨rfl, rfl, rfl, by decide +kernel, rfl, by decide +kernel, by decide +kernel⟩
abbrev s_law : Stmt := topS 29
abbrev N_law : List Str := ["_law_script", "_law_size", "_law_graph", "_law_number", "_law_form", "_law_least", "_law_q", "_law_turned", "_law_row", "_law_entries", "_law_one", "_law_second", "_law_part_here", "_law_has", "_law_ring", "_law_which"]
theorem sc_law : FnScope ["_law_script", "_law_size", "_law_graph", "_law_number", "_law_form", "_law_least", "_law_q", "_law_turned", "_law_row", "_law_entries", "_law_one", "_law_second", "_law_part_here", "_law_has", "_law_ring", "_law_which"] ["_law_script"] (defScope s_law) := ⟨rfl, rfl, rfl, by decide +kernel, rfl, by decide +kernel, by decide +kernel⟩
structure Tx (K : PySem.W.Frag) (mg : Str → Option Value) where
  cls : Str → Value
  a_q_cell : Addr
  fd_q_cell : FuncData
  F_q_cell : Fun K "_law_cell" "_law_cell" s_q_cell a_q_cell fd_q_cell
  m_q_cell : mg "_law_cell" = some (.ref a_q_cell)
  b_q_cell : Binds K fd_q_cell ["_law_script", "_law_k"] []
  a_q_arranged : Addr
  fd_q_arranged : FuncData
  F_q_arranged : Fun K "_law_arranged" "_law_arranged" s_q_arranged a_q_arranged fd_q_arranged
  m_q_arranged : mg "_law_arranged" = some (.ref a_q_arranged)
  b_q_arranged : Binds K fd_q_arranged ["_law_value", "_law_size"] []
  a_q_rows : Addr
  fd_q_rows : FuncData
  F_q_rows : Fun K "_law_rows" "_law_rows" s_q_rows a_q_rows fd_q_rows
  m_q_rows : mg "_law_rows" = some (.ref a_q_rows)
  b_q_rows : Binds K fd_q_rows ["_law_cell_here", "_law_second", "_law_size"] []
  a_q_near : Addr
  fd_q_near : FuncData
  F_q_near : Fun K "_law_near" "_law_near" s_q_near a_q_near fd_q_near
  m_q_near : mg "_law_near" = some (.ref a_q_near)
  b_q_near : Binds K fd_q_near ["_law_graph", "_law_number"] []
  a_q_standard : Addr
  fd_q_standard : FuncData
  F_q_standard : Fun K "_law_standard" "_law_standard" s_q_standard a_q_standard fd_q_standard
  m_q_standard : mg "_law_standard" = some (.ref a_q_standard)
  b_q_standard : Binds K fd_q_standard ["_law_graph", "_law_number"] []
  a_q_layers : Addr
  fd_q_layers : FuncData
  F_q_layers : Fun K "_law_layers" "_law_layers" s_q_layers a_q_layers fd_q_layers
  m_q_layers : mg "_law_layers" = some (.ref a_q_layers)
  b_q_layers : Binds K fd_q_layers ["_law_graph", "_law_number"] []
  a_q_part : Addr
  fd_q_part : FuncData
  F_q_part : Fun K "_law_part" "_law_part" s_q_part a_q_part fd_q_part
  m_q_part : mg "_law_part" = some (.ref a_q_part)
  b_q_part : Binds K fd_q_part ["_law_graph", "_law_number"] []
  a_is_graph : Addr
  fd_is_graph : FuncData
  F_is_graph : Fun K "is_graph" "is_graph" s_is_graph a_is_graph fd_is_graph
  m_is_graph : mg "is_graph" = some (.ref a_is_graph)
  b_is_graph : Binds K fd_is_graph ["graph"] []
  a_check_graph : Addr
  fd_check_graph : FuncData
  F_check_graph : Fun K "check_graph" "check_graph" s_check_graph a_check_graph fd_check_graph
  m_check_graph : mg "check_graph" = some (.ref a_check_graph)
  b_check_graph : Binds K fd_check_graph ["graph"] []
  a_check_number : Addr
  fd_check_number : FuncData
  F_check_number : Fun K "check_number" "check_number" s_check_number a_check_number fd_check_number
  m_check_number : mg "check_number" = some (.ref a_check_number)
  b_check_number : Binds K fd_check_number ["graph", "number"] []
  a__backs : Addr
  fd__backs : FuncData
  F__backs : Fun K "_backs" "_backs" s__backs a__backs fd__backs
  m__backs : mg "_backs" = some (.ref a__backs)
  b__backs : Binds K fd__backs ["graph"] []
  a__steps : Addr
  fd__steps : FuncData
  F__steps : Fun K "_steps" "_steps" s__steps a__steps fd__steps
  m__steps : mg "_steps" = some (.ref a__steps)
  b__steps : Binds K fd__steps ["graph", "backs", "number"] []
  a__standard : Addr
  fd__standard : FuncData
  F__standard : Fun K "_standard" "_standard" s__standard a__standard fd__standard
  m__standard : mg "_standard" = some (.ref a__standard)
  b__standard : Binds K fd__standard ["graph", "number"] []
  a_standard : Addr
  fd_standard : FuncData
  F_standard : Fun K "standard" "standard" s_standard a_standard fd_standard
  m_standard : mg "standard" = some (.ref a_standard)
  b_standard : Binds K fd_standard ["graph", "number"] []
  a__layers : Addr
  fd__layers : FuncData
  F__layers : Fun K "_layers" "_layers" s__layers a__layers fd__layers
  m__layers : mg "_layers" = some (.ref a__layers)
  b__layers : Binds K fd__layers ["graph", "number"] []
  a_least_form : Addr
  fd_least_form : FuncData
  F_least_form : Fun K "least_form" "least_form" s_least_form a_least_form fd_least_form
  m_least_form : mg "least_form" = some (.ref a_least_form)
  b_least_form : Binds K fd_least_form ["graph", "number"] []
  a_q_told : Addr
  fd_q_told : FuncData
  F_q_told : Fun K "_law_told" "_law_told" s_q_told a_q_told fd_q_told
  m_q_told : mg "_law_told" = some (.ref a_q_told)
  b_q_told : Binds K fd_q_told ["_law_which", "_law_graph", "_law_number"] []
  a_parts : Addr
  fd_parts : FuncData
  F_parts : Fun K "parts" "parts" s_parts a_parts fd_parts
  m_parts : mg "parts" = some (.ref a_parts)
  b_parts : Binds K fd_parts ["graph"] []
  a_law : Addr
  fd_law : FuncData
  F_law : Fun K "law" "law" s_law a_law fd_law
  m_law : mg "law" = some (.ref a_law)
  b_law : Binds K fd_law ["_law_script"] []
  C_BadNumber : Addr
  g_BadNumber : mg "BadNumber" = some (.ref C_BadNumber)
  x_BadNumber : PySem.W.excIn K C_BadNumber [.type "ValueError", .type "Exception", .type "BaseException", .type "object"] "ValueError.__new__" = true
  k_BadNumber : PySem.W.keepIn K (.ref C_BadNumber) = true
  s_BadNumber : PySem.W.subIn K (.ref C_BadNumber) (.type "BaseException") = some true
  t_BadNumber : PySem.W.typeIn K (.ref C_BadNumber) = some (.type "type")
  c_BadNumber : cls "BadNumber" = .ref C_BadNumber
  w_BadNumber : PySem.W.nsIn K mainGlobals "BadNumber" = some (some (.ref C_BadNumber))
  C_NotGraph : Addr
  g_NotGraph : mg "NotGraph" = some (.ref C_NotGraph)
  x_NotGraph : PySem.W.excIn K C_NotGraph [.type "ValueError", .type "Exception", .type "BaseException", .type "object"] "ValueError.__new__" = true
  k_NotGraph : PySem.W.keepIn K (.ref C_NotGraph) = true
  s_NotGraph : PySem.W.subIn K (.ref C_NotGraph) (.type "BaseException") = some true
  t_NotGraph : PySem.W.typeIn K (.ref C_NotGraph) = some (.type "type")
  c_NotGraph : cls "NotGraph" = .ref C_NotGraph
  w_NotGraph : PySem.W.nsIn K mainGlobals "NotGraph" = some (some (.ref C_NotGraph))
  C_TooLarge : Addr
  g_TooLarge : mg "TooLarge" = some (.ref C_TooLarge)
  x_TooLarge : PySem.W.excIn K C_TooLarge [.type "ValueError", .type "Exception", .type "BaseException", .type "object"] "ValueError.__new__" = true
  k_TooLarge : PySem.W.keepIn K (.ref C_TooLarge) = true
  s_TooLarge : PySem.W.subIn K (.ref C_TooLarge) (.type "BaseException") = some true
  t_TooLarge : PySem.W.typeIn K (.ref C_TooLarge) = some (.type "type")
  c_TooLarge : cls "TooLarge" = .ref C_TooLarge
  w_TooLarge : PySem.W.nsIn K mainGlobals "TooLarge" = some (some (.ref C_TooLarge))
  e_BadNumber_BadNumber : PySem.W.exmOne K (.ref C_BadNumber) (.ref C_BadNumber) = some (subE "BadNumber" "BadNumber")
  e_BadNumber_NotGraph : PySem.W.exmOne K (.ref C_BadNumber) (.ref C_NotGraph) = some (subE "BadNumber" "NotGraph")
  e_BadNumber_TooLarge : PySem.W.exmOne K (.ref C_BadNumber) (.ref C_TooLarge) = some (subE "BadNumber" "TooLarge")
  e_NotGraph_BadNumber : PySem.W.exmOne K (.ref C_NotGraph) (.ref C_BadNumber) = some (subE "NotGraph" "BadNumber")
  e_NotGraph_NotGraph : PySem.W.exmOne K (.ref C_NotGraph) (.ref C_NotGraph) = some (subE "NotGraph" "NotGraph")
  e_NotGraph_TooLarge : PySem.W.exmOne K (.ref C_NotGraph) (.ref C_TooLarge) = some (subE "NotGraph" "TooLarge")
  e_TooLarge_BadNumber : PySem.W.exmOne K (.ref C_TooLarge) (.ref C_BadNumber) = some (subE "TooLarge" "BadNumber")
  e_TooLarge_NotGraph : PySem.W.exmOne K (.ref C_TooLarge) (.ref C_NotGraph) = some (subE "TooLarge" "NotGraph")
  e_TooLarge_TooLarge : PySem.W.exmOne K (.ref C_TooLarge) (.ref C_TooLarge) = some (subE "TooLarge" "TooLarge")
  n_all : mg "all" = none
  n_enumerate : mg "enumerate" = none
  n_len : mg "len" = none
  n_list : mg "list" = none
  n_min : mg "min" = none
  n_range : mg "range" = none
  n_repr : mg "repr" = none
  n_sorted : mg "sorted" = none
  n_tuple : mg "tuple" = none
  n_zip : mg "zip" = none
  tok_MOST_IN_PART : Tok
  v_MOST_IN_PART : mg "MOST_IN_PART" = some (.int 100 tok_MOST_IN_PART)
  tok_MOST_NUMBERS : Tok
  v_MOST_NUMBERS : mg "MOST_NUMBERS" = some (.int 1024 tok_MOST_NUMBERS)
  tok_MOST_ROWS : Tok
  v_MOST_ROWS : mg "MOST_ROWS" = some (.int 6 tok_MOST_ROWS)
section
variable {P : Program} {w : World} {K : PySem.W.Frag} {mg : Str → Option Value} {base : Heap}
theorem ok_q_cell (T : Tx K mg) : FnG P w K mg base 1 T.a_q_cell T.fd_q_cell ["_law_script", "_law_k"] (spD ⟨K, w⟩ T.cls none 2 f_q_cell) :=
  fn_D none T.F_q_cell sc_q_cell (by decide) fun cdv A outer s H E hr gd Y hc =>
    ds_cons (ds_if (dt_cmp (od_ltG hr.units) (de_var) (de_callB cd_len (by rfl) T.n_len PySem.boot_len (da_cons (de_pk (de_var)) (da_nil))) (nomark _)) (ds_one (ds_ret (de_ix (de_var) (de_var)))) (ds_nil))
    (ds_one (ds_ret (de_int)))
theorem ok_q_arranged (T : Tx K mg) : FnG P w K mg base 1 T.a_q_arranged T.fd_q_arranged ["_law_value", "_law_size"] (spD ⟨K, w⟩ T.cls none 2 f_q_arranged) :=
  fn_D none T.F_q_arranged sc_q_arranged (by decide) fun cdv A outer s H E hr gd Y hc =>
    ds_cons (ds_asg (de_lrg1 rfl (by rfl) T.n_list (by rfl) T.n_range (de_var)) (dg_name sc_q_arranged.nd))
    (ds_cons (ds_asg (de_lst (da_nil)) (dg_name sc_q_arranged.nd))
    (ds_cons (ds_for (passes_of rfl) rfl (di_rng1 (by rfl) T.n_range (da_cons (de_esc (de_var)) (da_nil))) (dg_name sc_q_arranged.nd) (ds_cons (ds_asg (de_bin od_mod (de_var) (de_callB cd_len (by rfl) T.n_len PySem.boot_len (da_cons (de_pk (de_var)) (da_nil)))) (dg_name sc_q_arranged.nd))
    (ds_cons (ds_asg (de_bin od_fdiv (de_var) (de_callB cd_len (by rfl) T.n_len PySem.boot_len (da_cons (de_pk (de_var)) (da_nil)))) (dg_name sc_q_arranged.nd))
    (ds_cons (ds_expr (de_mut (by decide) PySem.F.plainAttrs_list PySem.F.slot_list_append PySem.F.type_list_append ud_append (de_var) (da_cons (de_esc (de_ix (de_var) (de_var))) (da_nil))))
    (ds_one (ds_asg (de_bin od_add (de_sl (de_var) (do_none) (do_some (de_var))) (de_sl (de_var) (do_some (de_bin od_add (de_var) (de_int))) (do_none))) (dg_name sc_q_arranged.nd)))))))
    (ds_one (ds_ret (de_callTy cd_tupleX (by rfl) T.n_tuple PyProof.Rows.boot_tuple (da_cons (de_pk (de_var)) (da_nil)))))))
theorem ok_q_rows (T : Tx K mg) : FnG P w K mg base 2 T.a_q_rows T.fd_q_rows ["_law_cell_here", "_law_second", "_law_size"] (spD ⟨K, w⟩ T.cls none 3 f_q_rows) :=
  fn_D none T.F_q_rows sc_q_rows (by decide) fun cdv A outer s H E hr gd Y hc =>
    ds_cons (ds_asg (de_lst (da_nil)) (dg_name sc_q_rows.nd))
    (ds_cons (ds_for (passes_of rfl) rfl (di_rng1 (by rfl) T.n_range (da_cons (de_esc (de_bin od_add (de_int) (de_bin od_mod (de_var) (de_int)))) (da_nil))) (dg_name sc_q_rows.nd) (ds_one (ds_expr (de_mut (by decide) PySem.F.plainAttrs_list PySem.F.slot_list_append PySem.F.type_list_append ud_append (de_var) (da_cons (de_esc (de_call (ok_q_arranged T) (hr.mono (by decide)) gd (by rfl) T.m_q_arranged T.F_q_arranged.kp T.b_q_arranged (takes_of rfl rfl rfl rfl) hc (da_cons (de_esc (de_bin od_add (de_bin od_add (de_bin od_fdiv (de_var) (de_int)) (de_bin od_mul (de_int) (de_var))) (de_var))) (da_cons (de_esc (de_var)) (da_nil))))) (da_nil))))))
    (ds_one (ds_ret (de_callTy cd_tuple (by rfl) T.n_tuple PyProof.Rows.boot_tuple (da_cons (de_pk (de_var)) (da_nil))))))
theorem ok_q_near (T : Tx K mg) : FnG P w K mg base 1 T.a_q_near T.fd_q_near ["_law_graph", "_law_number"] (spD ⟨K, w⟩ T.cls none 2 f_q_near) :=
  fn_D none T.F_q_near sc_q_near (by decide) fun cdv A outer s H E hr gd Y hc =>
    ds_cons (ds_asg (de_lst (da_nil)) (dg_name sc_q_near.nd))
    (ds_cons (ds_for (passes_of rfl) rfl (di_seq (de_var)) (dg_name sc_q_near.nd) (ds_one (ds_asg (de_bin od_add (de_var) (de_lst (da_cons (de_esc (de_ix (de_wk (de_var)) (de_var))) (da_cons (de_esc (de_methU PySem.F.plainAttrs_tuple PySem.F.slot_tuple_index PySem.F.type_tuple_index md_indexU (de_var) (da_cons (de_pk (de_var)) (da_nil)))) (da_nil))))) (dg_name sc_q_near.nd))))
    (ds_one (ds_ret (de_var))))
theorem ok_q_standard (T : Tx K mg) : FnG P w K mg base 2 T.a_q_standard T.fd_q_standard ["_law_graph", "_law_number"] (spD ⟨K, w⟩ T.cls none 2 f_q_standard) :=
  fn_D none T.F_q_standard sc_q_standard (by decide) fun cdv A outer s H E hr gd Y hc =>
    ds_cons (ds_asg (de_lst (da_cons (de_esc (de_var)) (da_nil))) (dg_name sc_q_standard.nd))
    (ds_cons (ds_aft 2 (ds_for (passes_of rfl) rfl (di_rng1 (by rfl) T.n_range (da_cons (de_esc (de_callB cd_len (by rfl) T.n_len PySem.boot_len (da_cons (de_pk (de_wk (de_ix (de_var) (de_int)))) (da_nil)))) (da_nil))) (dg_name sc_q_standard.nd) (ds_cons (ds_if (dt_cmp (od_eq hr.units) (de_var) (de_callB cd_len (by rfl) T.n_len PySem.boot_len (da_cons (de_pk (de_var)) (da_nil))) (nomark _)) (ds_one (ds_break)) (ds_nil))
    (ds_one (ds_for (passes_of rfl) rfl (di_seq (de_call (ok_q_near T) (hr.mono (by decide)) gd (by rfl) T.m_q_near T.F_q_near.kp T.b_q_near (takes_of rfl rfl rfl rfl) hc (da_cons (de_esc (de_var)) (da_cons (de_esc (de_ix (de_var) (de_var))) (da_nil))))) (dg_name sc_q_standard.nd) (ds_one (ds_if (dt_cmp od_notin (de_var) (de_var) (by with_unfolding_all rfl)) (ds_one (ds_expr (de_mut (by decide) PySem.F.plainAttrs_list PySem.F.slot_list_append PySem.F.type_list_append ud_append (de_var) (da_cons (de_esc (de_var)) (da_nil))))) (ds_nil))))))))
    (ds_one (ds_ret (de_callTy cd_tuple (by rfl) T.n_tuple PyProof.Rows.boot_tuple (da_cons (de_pk (de_lc [("_law_row", 5)] rfl sc_q_standard.nd (blkOk_by (N := N_q_standard) (sc := defScope s_q_standard) (by decide +kernel)) (di_seq (de_var)) (fun Z1 hZ1 s H C cl fp => dg_name sc_q_standard.nd) (fun Z1 hZ1 s H C cl fp => dts_nil) (fun Z1 hZ1 s H C cl fp => de_callTy cd_tuple (by rfl) T.n_tuple PyProof.Rows.boot_tuple (da_cons (de_pk (de_lc [("_law_one", 6)] rfl sc_q_standard.nd (blkOk_in (N := N_q_standard) (by decide +kernel)) (di_seq (de_var)) (fun Z2 hZ2 s H C cl fp => dg_name sc_q_standard.nd) (fun Z2 hZ2 s H C cl fp => dts_nil) (fun Z2 hZ2 s H C cl fp => de_meth (by decide) PySem.F.plainAttrs_list PySem.F.slot_list_index PySem.F.type_list_index md_indexL (de_var) (da_cons (de_pk (de_ix (de_wk (de_var)) (de_var))) (da_nil))))) (da_nil))))) (da_nil))))))
theorem ok_q_layers (T : Tx K mg) : FnG P w K mg base 2 T.a_q_layers T.fd_q_layers ["_law_graph", "_law_number"] (spD ⟨K, w⟩ T.cls none 2 f_q_layers) :=
  fn_D none T.F_q_layers sc_q_layers (by decide) fun cdv A outer s H E hr gd Y hc =>
    ds_cons (ds_asg (de_lst (da_cons (de_esc (de_var)) (da_nil))) (dg_name sc_q_layers.nd))
    (ds_cons (ds_asg (de_lst (da_cons (de_esc (de_lst (da_cons (de_esc (de_var)) (da_nil)))) (da_nil))) (dg_name sc_q_layers.nd))
    (ds_cons (ds_for (passes_of rfl) rfl (di_rng1 (by rfl) T.n_range (da_cons (de_esc (de_callB cd_len (by rfl) T.n_len PySem.boot_len (da_cons (de_pk (de_wk (de_ix (de_var) (de_int)))) (da_nil)))) (da_nil))) (dg_name sc_q_layers.nd) (ds_cons (ds_asg (de_lst (da_nil)) (dg_name sc_q_layers.nd))
    (ds_cons (ds_for (passes_of rfl) rfl (di_seq (de_ix (de_var) (de_neg (de_int)))) (dg_name sc_q_layers.nd) (ds_one (ds_for (passes_of rfl) rfl (di_seq (de_call (ok_q_near T) (hr.mono (by decide)) gd (by rfl) T.m_q_near T.F_q_near.kp T.b_q_near (takes_of rfl rfl rfl rfl) hc (da_cons (de_esc (de_var)) (da_cons (de_esc (de_var)) (da_nil))))) (dg_name sc_q_layers.nd) (ds_one (ds_if (dt_cmp od_notin (de_var) (de_var) (by with_unfolding_all rfl)) (ds_cons (ds_expr (de_mut (by decide) PySem.F.plainAttrs_list PySem.F.slot_list_append PySem.F.type_list_append ud_append (de_var) (da_cons (de_esc (de_var)) (da_nil))))
    (ds_one (ds_expr (de_mut (by decide) PySem.F.plainAttrs_list PySem.F.slot_list_append PySem.F.type_list_append ud_append (de_var) (da_cons (de_esc (de_var)) (da_nil)))))) (ds_nil))))))
    (ds_cons (ds_if (dt_cmp (od_eq hr.units) (de_callB cd_len (by rfl) T.n_len PySem.boot_len (da_cons (de_pk (de_var)) (da_nil))) (de_int) (nomark _)) (ds_one (ds_break)) (ds_nil))
    (ds_one (ds_expr (de_mut (by decide) PySem.F.plainAttrs_list PySem.F.slot_list_append PySem.F.type_list_append ud_append (de_var) (da_cons (de_esc (de_callB cd_sortH (by rfl) T.n_sorted PyProof.Rows.boot_sorted (da_cons (de_pk (de_var)) (da_nil)))) (da_nil)))))))))
    (ds_one (ds_ret (de_var)))))
theorem ok_q_part (T : Tx K mg) : FnG P w K mg base 3 T.a_q_part T.fd_q_part ["_law_graph", "_law_number"] (spD ⟨K, w⟩ T.cls none 2 f_q_part) :=
  fn_D none T.F_q_part sc_q_part (by decide) fun cdv A outer s H E hr gd Y hc =>
    ds_cons (ds_asg (de_lst (da_nil)) (dg_name sc_q_part.nd))
    (ds_cons (ds_for (passes_of rfl) rfl (di_seq (de_call (ok_q_layers T) (hr.mono (by decide)) gd (by rfl) T.m_q_layers T.F_q_layers.kp T.b_q_layers (takes_of rfl rfl rfl rfl) hc (da_cons (de_esc (de_var)) (da_cons (de_esc (de_var)) (da_nil))))) (dg_name sc_q_part.nd) (ds_one (ds_asg (de_bin od_add (de_var) (de_var)) (dg_name sc_q_part.nd))))
    (ds_one (ds_ret (de_var))))
theorem ok_is_graph (T : Tx K mg) : FnG P w K mg base 1 T.a_is_graph T.fd_is_graph ["graph"] (spD ⟨K, w⟩ T.cls none 1 f_is_graph) :=
  fn_D none T.F_is_graph sc_is_graph (by decide) fun cdv A outer s H E hr gd Y hc =>
    ds_cons (ds_if (dt_w (dw_or (dt_not (dt_chain od_le od_le (de_int) (de_callB cd_len (by rfl) T.n_len PySem.boot_len (da_cons (de_pk (de_var)) (da_nil))) ((de_gI T.v_MOST_ROWS)))) (dw_or1 (dt_not (dt_chain od_le od_le (de_int) (de_callB cd_len (by rfl) T.n_len PySem.boot_len (da_cons (de_pk (de_ix (de_var) (de_int))) (da_nil))) ((de_gI T.v_MOST_NUMBERS))))))) (ds_one (ds_ret (de_bl))) (ds_nil))
    (ds_one (ds_ret (de_callB (cd_all rfl) (by rfl) T.n_all PyProof.Rows.boot_all (da_cons (de_pk (de_lc [("row", 1)] rfl sc_is_graph.nd (blkOk_by (N := N_is_graph) (sc := defScope s_is_graph) (by decide +kernel)) (di_seq (de_var)) (fun Z1 hZ1 s H C cl fp => dg_name sc_is_graph.nd) (fun Z1 hZ1 s H C cl fp => dts_nil) (fun Z1 hZ1 s H C cl fp => de_cmp (od_eq hr.units) (de_callB cd_sortH (by rfl) T.n_sorted PyProof.Rows.boot_sorted (da_cons (de_pk (de_var)) (da_nil))) (de_lrg1 rfl (by rfl) T.n_list (by rfl) T.n_range (de_callB cd_len (by rfl) T.n_len PySem.boot_len (da_cons (de_pk (de_ix (de_var) (de_int))) (da_nil)))) (nomark _)))) (da_nil)))))
theorem ok_check_graph (T : Tx K mg) : FnG P w K mg base 2 T.a_check_graph T.fd_check_graph ["graph"] (spD ⟨K, w⟩ T.cls none 1 f_check_graph) :=
  fn_D none T.F_check_graph sc_check_graph (by decide) fun cdv A outer s H E hr gd Y hc =>
    ds_one (ds_if (dt_not (dt_truth (de_call (ok_is_graph T) (hr.mono (by decide)) gd (by rfl) T.m_is_graph T.F_is_graph.kp T.b_is_graph (takes_of rfl rfl rfl rfl) hc (da_cons (de_esc (de_var)) (da_nil))))) (ds_one (ds_raise rfl (takes_of rfl rfl rfl rfl) PySem.F.excBase_ValueError T.x_NotGraph T.g_NotGraph T.k_NotGraph T.s_NotGraph T.t_NotGraph (by rw [hc]; exact T.c_NotGraph))) (ds_nil))
theorem ok_check_number (T : Tx K mg) : FnG P w K mg base 1 T.a_check_number T.fd_check_number ["graph", "number"] (spD ⟨K, w⟩ T.cls none 2 f_check_number) :=
  fn_D none T.F_check_number sc_check_number (by decide) fun cdv A outer s H E hr gd Y hc =>
    ds_one (ds_if (dt_not (dt_chain od_le (od_ltG hr.units) (de_int) (de_var) (de_callB cd_len (by rfl) T.n_len PySem.boot_len (da_cons (de_pk (de_ix (de_var) (de_int))) (da_nil))))) (ds_one (ds_raise rfl (takes_of rfl rfl rfl rfl) PySem.F.excBase_ValueError T.x_BadNumber T.g_BadNumber T.k_BadNumber T.s_BadNumber T.t_BadNumber (by rw [hc]; exact T.c_BadNumber))) (ds_nil))
theorem ok__backs (T : Tx K mg) : FnG P w K mg base 1 T.a__backs T.fd__backs ["graph"] (spD ⟨K, w⟩ T.cls none 1 f__backs) :=
  fn_D none T.F__backs sc__backs (by decide) fun cdv A outer s H E hr gd Y hc =>
    ds_cons (ds_asg (de_lst (da_nil)) (dg_name sc__backs.nd))
    (ds_cons (ds_for (passes_of rfl) rfl (di_seq (de_var)) (dg_name sc__backs.nd) (ds_cons (ds_asg (de_bin od_mul (de_lst (da_cons (de_esc (de_int)) (da_nil))) (de_callB cd_len (by rfl) T.n_len PySem.boot_len (da_cons (de_pk (de_var)) (da_nil)))) (dg_name sc__backs.nd))
    (ds_cons (ds_for (passes_of rfl) rfl (di_en (by rfl) T.n_enumerate (da_cons (de_esc (de_var)) (da_nil))) (dg_un rfl (dgs_cons (dg_name sc__backs.nd) (dgs_cons (dg_name sc__backs.nd) (dgs_nil)))) (ds_one (ds_set sd_list (de_var) (de_var) (de_var))))
    (ds_one (ds_expr (de_mut (by decide) PySem.F.plainAttrs_list PySem.F.slot_list_append PySem.F.type_list_append ud_append (de_var) (da_cons (de_esc (de_var)) (da_nil))))))))
    (ds_one (ds_ret (de_var))))
theorem ok__steps (T : Tx K mg) : FnG P w K mg base 1 T.a__steps T.fd__steps ["graph", "backs", "number"] (spD ⟨K, w⟩ T.cls none 3 f__steps) :=
  fn_D none T.F__steps sc__steps (by decide) fun cdv A outer s H E hr gd Y hc =>
    ds_cons (ds_asg (de_lst (da_nil)) (dg_name sc__steps.nd))
    (ds_cons (ds_for (passes_of rfl) rfl (di_zpM (by rfl) T.n_zip (da_cons (de_esc (de_var)) (da_cons (de_esc (de_var)) (da_nil)))) (dg_un rfl (dgs_cons (dg_name sc__steps.nd) (dgs_cons (dg_name sc__steps.nd) (dgs_nil)))) (ds_cons (ds_expr (de_mut (by decide) PySem.F.plainAttrs_list PySem.F.slot_list_append PySem.F.type_list_append ud_append (de_var) (da_cons (de_esc (de_ix (de_var) (de_var))) (da_nil))))
    (ds_one (ds_expr (de_mut (by decide) PySem.F.plainAttrs_list PySem.F.slot_list_append PySem.F.type_list_append ud_append (de_var) (da_cons (de_esc (de_ix (de_var) (de_var))) (da_nil)))))))
    (ds_one (ds_ret (de_var))))
theorem ok__standard (T : Tx K mg) : FnG P w K mg base 2 T.a__standard T.fd__standard ["graph", "number"] (spD ⟨K, w⟩ T.cls none 2 f__standard) :=
  fn_D none T.F__standard sc__standard (by decide) fun cdv A outer s H E hr gd Y hc =>
    ds_cons (ds_aft 2 (ds_asg (de_call (ok__backs T) (hr.mono (by decide)) gd (by rfl) T.m__backs T.F__backs.kp T.b__backs (takes_of rfl rfl rfl rfl) hc (da_cons (de_esc (de_var)) (da_nil))) (dg_name sc__standard.nd)))
    (ds_cons (ds_asg (de_dict1 (fun Z1 hZ1 => de_var) (fun Z1 hZ1 => de_int)) (dg_name sc__standard.nd))
    (ds_cons (ds_asg (de_lst (da_cons (de_esc (de_var)) (da_nil))) (dg_name sc__standard.nd))
    (ds_cons (ds_asg (de_int) (dg_name sc__standard.nd))
    (ds_cons (ds_aft 4 (ds_while (passes_of rfl) (dt_cmp (od_ltG hr.units) (de_var) (de_callB cd_len (by rfl) T.n_len PySem.boot_len (da_cons (de_pk (de_var)) (da_nil))) (nomark _)) (ds_cons (ds_for (passes_of rfl) rfl (di_seq (de_call (ok__steps T) (hr.mono (by decide)) gd (by rfl) T.m__steps T.F__steps.kp T.b__steps (takes_of rfl rfl rfl rfl) hc (da_cons (de_esc (de_var)) (da_cons (de_esc (de_var)) (da_cons (de_esc (de_ix (de_var) (de_var))) (da_nil)))))) (dg_name sc__standard.nd) (ds_one (ds_if (dt_dnin (hu_of hr) (de_var) (de_var)) (ds_cons (ds_set (sd_dk (hu_of hr)) (de_var) (de_var) (de_callB cd_len (by rfl) T.n_len PySem.boot_len (da_cons (de_pk (de_var)) (da_nil))))
    (ds_one (ds_expr (de_mut (by decide) PySem.F.plainAttrs_list PySem.F.slot_list_append PySem.F.type_list_append ud_append (de_var) (da_cons (de_esc (de_var)) (da_nil)))))) (ds_nil))))
    (ds_one (ds_aug sc__standard.nd ipd_add (de_int))))))
    (ds_one (ds_ret (de_callTy cd_tuple (by rfl) T.n_tuple PyProof.Rows.boot_tuple (da_cons (de_pk (de_lc [("row", 7)] rfl sc__standard.nd (blkOk_by (N := N__standard) (sc := defScope s__standard) (by decide +kernel)) (di_seq (de_var)) (fun Z2 hZ2 s H C cl fp => dg_name sc__standard.nd) (fun Z2 hZ2 s H C cl fp => dts_nil) (fun Z2 hZ2 s H C cl fp => de_callTy cd_tuple (by rfl) T.n_tuple PyProof.Rows.boot_tuple (da_cons (de_pk (de_lc [("one", 8)] rfl sc__standard.nd (blkOk_in (N := N__standard) (by decide +kernel)) (di_seq (de_var)) (fun Z3 hZ3 s H C cl fp => dg_name sc__standard.nd) (fun Z3 hZ3 s H C cl fp => dts_nil) (fun Z3 hZ3 s H C cl fp => de_dget (hu_of hr) (de_var) (de_ix (de_var) (de_var)) (by exact fun _ _ => rfl)))) (da_nil))))) (da_nil)))))))))
theorem ok_standard (T : Tx K mg) : FnG P w K mg base 3 T.a_standard T.fd_standard ["graph", "number"] (spD ⟨K, w⟩ T.cls none 2 f_standard) :=
  fn_D none T.F_standard sc_standard (by decide) fun cdv A outer s H E hr gd Y hc =>
    ds_cons (ds_expr (de_call (ok_check_graph T) (hr.mono (by decide)) gd (by rfl) T.m_check_graph T.F_check_graph.kp T.b_check_graph (takes_of rfl rfl rfl rfl) hc (da_cons (de_esc (de_var)) (da_nil))))
    (ds_cons (ds_expr (de_call (ok_check_number T) (hr.mono (by decide)) gd (by rfl) T.m_check_number T.F_check_number.kp T.b_check_number (takes_of rfl rfl rfl rfl) hc (da_cons (de_esc (de_var)) (da_cons (de_esc (de_var)) (da_nil)))))
    (ds_one (ds_ret (de_call (ok__standard T) (hr.mono (by decide)) gd (by rfl) T.m__standard T.F__standard.kp T.b__standard (takes_of rfl rfl rfl rfl) hc (da_cons (de_esc (de_var)) (da_cons (de_esc (de_var)) (da_nil)))))))
theorem ok__layers (T : Tx K mg) : FnG P w K mg base 2 T.a__layers T.fd__layers ["graph", "number"] (spD ⟨K, w⟩ T.cls none 2 f__layers) :=
  fn_D none T.F__layers sc__layers (by decide) fun cdv A outer s H E hr gd Y hc =>
    ds_cons (ds_aft 2 (ds_asg (de_call (ok__backs T) (hr.mono (by decide)) gd (by rfl) T.m__backs T.F__backs.kp T.b__backs (takes_of rfl rfl rfl rfl) hc (da_cons (de_esc (de_var)) (da_nil))) (dg_name sc__layers.nd)))
    (ds_cons (ds_asg (de_dict1 (fun Z1 hZ1 => de_var) (fun Z1 hZ1 => de_bl)) (dg_name sc__layers.nd))
    (ds_cons (ds_asg (de_lst (da_cons (de_esc (de_lst (da_cons (de_esc (de_var)) (da_nil)))) (da_nil))) (dg_name sc__layers.nd))
    (ds_cons (ds_while (passes_of rfl) (dt_truth (de_ix (de_var) (de_neg (de_int)))) (ds_cons (ds_asg (de_lst (da_nil)) (dg_name sc__layers.nd))
    (ds_cons (ds_for (passes_of rfl) rfl (di_seq (de_ix (de_var) (de_neg (de_int)))) (dg_name sc__layers.nd) (ds_one (ds_for (passes_of rfl) rfl (di_seq (de_call (ok__steps T) (hr.mono (by decide)) gd (by rfl) T.m__steps T.F__steps.kp T.b__steps (takes_of rfl rfl rfl rfl) hc (da_cons (de_esc (de_var)) (da_cons (de_esc (de_var)) (da_cons (de_esc (de_var)) (da_nil)))))) (dg_name sc__layers.nd) (ds_one (ds_if (dt_dnin (hu_of hr) (de_var) (de_var)) (ds_cons (ds_set (sd_dk (hu_of hr)) (de_var) (de_var) (de_bl))
    (ds_one (ds_expr (de_mut (by decide) PySem.F.plainAttrs_list PySem.F.slot_list_append PySem.F.type_list_append ud_append (de_var) (da_cons (de_esc (de_var)) (da_nil)))))) (ds_nil))))))
    (ds_one (ds_expr (de_mut (by decide) PySem.F.plainAttrs_list PySem.F.slot_list_append PySem.F.type_list_append ud_append (de_var) (da_cons (de_esc (de_callB cd_sortH (by rfl) T.n_sorted PyProof.Rows.boot_sorted (da_cons (de_pk (de_var)) (da_nil)))) (da_nil))))))))
    (ds_one (ds_ret (de_sl (de_var) (do_none) (do_some (de_neg (de_int)))))))))
theorem ok_least_form (T : Tx K mg) : FnG P w K mg base 3 T.a_least_form T.fd_least_form ["graph", "number"] (spD ⟨K, w⟩ T.cls none 2 f_least_form) :=
  fn_D none T.F_least_form sc_least_form (by decide) fun cdv A outer s H E hr gd Y hc =>
    ds_cons (ds_expr (de_call (ok_check_graph T) (hr.mono (by decide)) gd (by rfl) T.m_check_graph T.F_check_graph.kp T.b_check_graph (takes_of rfl rfl rfl rfl) hc (da_cons (de_esc (de_var)) (da_nil))))
    (ds_cons (ds_expr (de_call (ok_check_number T) (hr.mono (by decide)) gd (by rfl) T.m_check_number T.F_check_number.kp T.b_check_number (takes_of rfl rfl rfl rfl) hc (da_cons (de_esc (de_var)) (da_cons (de_esc (de_var)) (da_nil)))))
    (ds_cons (ds_setLc2 [("layer", 3), ("one", 4)] [4] rfl sc_least_form.nd (blkOk_by (N := N_least_form) (sc := defScope s_least_form) (by decide +kernel)) (di_seq (de_call (ok__layers T) (hr.mono (by decide)) gd (by rfl) T.m__layers T.F__layers.kp T.b__layers (takes_of rfl rfl rfl rfl) hc (da_cons (de_esc (de_var)) (da_cons (de_esc (de_var)) (da_nil))))) (fun Z1 hZ1 s H C cl fp => dg_name sc_least_form.nd) (fun Z1 hZ1 s H C cl fp => dts_nil) (fun Z1 hZ1 s H C cl fp => di_seq (de_var)) (fun Z1 hZ1 s H C cl fp => dg_name sc_least_form.nd) (fun Z1 hZ1 s H C cl fp => dts_nil) (fun Z1 hZ1 s H C cl fp => de_var) (sw_true rfl rfl rfl (by decide +kernel)))
    (ds_cons (ds_if (dt_cmp od_gt (de_callB cd_len (by rfl) T.n_len PySem.boot_len (da_cons (de_pk (de_var)) (da_nil))) ((de_gI T.v_MOST_IN_PART)) (nomark _)) (ds_one (ds_raise rfl (takes_of rfl rfl rfl rfl) PySem.F.excBase_ValueError T.x_TooLarge T.g_TooLarge T.k_TooLarge T.s_TooLarge T.t_TooLarge (by rw [hc]; exact T.c_TooLarge))) (ds_nil))
    (ds_one (ds_ret (de_callB (cd_minD rfl (hu65_of hr)) (by rfl) T.n_min PyProof.Rows.boot_min (da_cons (de_pk (de_lc [("one", 4)] rfl sc_least_form.nd (blkOk_by (N := N_least_form) (sc := defScope s_least_form) (by decide +kernel)) (di_seq (de_var)) (fun Z2 hZ2 s H C cl fp => dg_name sc_least_form.nd) (fun Z2 hZ2 s H C cl fp => dts_nil) (fun Z2 hZ2 s H C cl fp => de_call (ok__standard T) (hr.mono (by decide)) gd (by rfl) T.m__standard T.F__standard.kp T.b__standard takes0 (hZ2.trans hc) (da_cons (de_esc (de_var)) (da_cons (de_esc (de_var)) (da_nil)))))) (da_nil))))))))
theorem ok_q_told (T : Tx K mg) : FnG P w K mg base 4 T.a_q_told T.fd_q_told ["_law_which", "_law_graph", "_law_number"] (spD ⟨K, w⟩ T.cls none 3 f_q_told) :=
  fn_D none T.F_q_told sc_q_told (by decide) fun cdv A outer s H E hr gd Y hc =>
    ds_one (ds_try ["BadNumber", "NotGraph", "TooLarge"] rfl rfl (takes_of rfl rfl rfl rfl) (fun c hm h hh => AllE.mem (AllE.mem (l := (["BadNumber", "NotGraph", "TooLarge"] : List Str)) (p := fun (c : Str) => AllE (["NotGraph", "BadNumber", "TooLarge"] : List Str) fun (h : Str) => PySem.W.exmOne K (Y.cls c) (Y.cls h) = some (subE c h)) ⟨⟨by show PySem.W.exmOne K (Y.cls _) (Y.cls _) = some _; rw [hc, T.c_BadNumber, T.c_NotGraph]; exact T.e_BadNumber_NotGraph, by show PySem.W.exmOne K (Y.cls _) (Y.cls _) = some _; rw [hc, T.c_BadNumber]; exact T.e_BadNumber_BadNumber, by show PySem.W.exmOne K (Y.cls _) (Y.cls _) = some _; rw [hc, T.c_BadNumber, T.c_TooLarge]; exact T.e_BadNumber_TooLarge, trivial⟩, ⟨by show PySem.W.exmOne K (Y.cls _) (Y.cls _) = some _; rw [hc, T.c_NotGraph]; exact T.e_NotGraph_NotGraph, by show PySem.W.exmOne K (Y.cls _) (Y.cls _) = some _; rw [hc, T.c_NotGraph, T.c_BadNumber]; exact T.e_NotGraph_BadNumber, by show PySem.W.exmOne K (Y.cls _) (Y.cls _) = some _; rw [hc, T.c_NotGraph, T.c_TooLarge]; exact T.e_NotGraph_TooLarge, trivial⟩, ⟨by show PySem.W.exmOne K (Y.cls _) (Y.cls _) = some _; rw [hc, T.c_TooLarge, T.c_NotGraph]; exact T.e_TooLarge_NotGraph, by show PySem.W.exmOne K (Y.cls _) (Y.cls _) = some _; rw [hc, T.c_TooLarge, T.c_BadNumber]; exact T.e_TooLarge_BadNumber, by show PySem.W.exmOne K (Y.cls _) (Y.cls _) = some _; rw [hc, T.c_TooLarge]; exact T.e_TooLarge_TooLarge, trivial⟩, trivial⟩ c hm) h hh) (fun W1 pn xe tk1 hp1 => ds_cons (ds_if (dt_cmp (od_eq hr.units) (de_var) (de_int) (nomark _)) (ds_one (ds_ret (de_call (ok_standard T) (hr.mono (by decide)) gd (by rfl) T.m_standard T.F_standard.kp T.b_standard tk1 hc (da_cons (de_esc (de_var)) (da_cons (de_esc (de_var)) (da_nil)))))) (ds_nil))
    (ds_one (ds_ret (de_call (ok_least_form T) (hr.mono (by decide)) gd (by rfl) T.m_least_form T.F_least_form.kp T.b_least_form tk1 hc (da_cons (de_esc (de_var)) (da_cons (de_esc (de_var)) (da_nil))))))) (Hds.cons ⟨by rfl, by decide, .inl (by rw [hc, T.c_NotGraph]; exact T.g_NotGraph)⟩ (fun a oe pn => ds_one (ds_ret (de_str))) (Hds.cons ⟨by rfl, by decide, .inl (by rw [hc, T.c_BadNumber]; exact T.g_BadNumber)⟩ (fun a oe pn => ds_one (ds_ret (de_str))) (Hds.cons ⟨by rfl, by decide, .inl (by rw [hc, T.c_TooLarge]; exact T.g_TooLarge)⟩ (fun a oe pn => ds_one (ds_ret (de_str))) (Hds.nil)))))
theorem ok_parts (T : Tx K mg) : FnG P w K mg base 3 T.a_parts T.fd_parts ["graph"] (spD ⟨K, w⟩ T.cls none 1 f_parts) :=
  fn_D none T.F_parts sc_parts (by decide) fun cdv A outer s H E hr gd Y hc =>
    ds_cons (ds_expr (de_call (ok_check_graph T) (hr.mono (by decide)) gd (by rfl) T.m_check_graph T.F_check_graph.kp T.b_check_graph (takes_of rfl rfl rfl rfl) hc (da_cons (de_esc (de_var)) (da_nil))))
    (ds_cons (ds_asg (de_newK) (dg_name sc_parts.nd))
    (ds_cons (ds_asg (de_lst (da_nil)) (dg_name sc_parts.nd))
    (ds_cons (ds_for (passes_of rfl) rfl (di_rng1 (by rfl) T.n_range (da_cons (de_esc (de_callB cd_len (by rfl) T.n_len PySem.boot_len (da_cons (de_pk (de_ix (de_var) (de_int))) (da_nil)))) (da_nil))) (dg_name sc_parts.nd) (ds_one (ds_if (dt_dnin (hu_of hr) (de_var) (de_var)) (ds_cons (ds_asg (de_callB cd_sortH (by rfl) T.n_sorted PyProof.Rows.boot_sorted (da_cons (de_pk (de_lc2 [("layer", 6), ("one", 5)] [5] rfl sc_parts.nd (blkOk_by (N := N_parts) (sc := defScope s_parts) (by decide +kernel)) (di_seq (de_call (ok__layers T) (hr.mono (by decide)) gd (by rfl) T.m__layers T.F__layers.kp T.b__layers (takes_of rfl rfl rfl rfl) hc (da_cons (de_esc (de_var)) (da_cons (de_esc (de_var)) (da_nil))))) (fun Z1 hZ1 s H C cl fp => dg_name sc_parts.nd) (fun Z1 hZ1 s H C cl fp => dts_nil) (fun Z1 hZ1 s H C cl fp => di_seq (de_var)) (fun Z1 hZ1 s H C cl fp => dg_name sc_parts.nd) (fun Z1 hZ1 s H C cl fp => dts_nil) (fun Z1 hZ1 s H C cl fp => de_var))) (da_nil))) (dg_name sc_parts.nd))
    (ds_cons (ds_for (passes_of rfl) rfl (di_seq (de_var)) (dg_name sc_parts.nd) (ds_one (ds_set (sd_dk (hu_of hr)) (de_var) (de_var) (de_bl))))
    (ds_one (ds_expr (de_mut (by decide) PySem.F.plainAttrs_list PySem.F.slot_list_append PySem.F.type_list_append ud_append (de_var) (da_cons (de_esc (de_var)) (da_nil))))))) (ds_nil))))
    (ds_one (ds_ret (de_var))))))
theorem ok_law (T : Tx K mg) : FnG P w K mg base 5 T.a_law T.fd_law ["_law_script"] (spD ⟨K, w⟩ T.cls none 1 f_law) :=
  fn_D none T.F_law sc_law (by decide) fun cdv A outer s H E hr gd Y hc =>
    ds_cons (ds_asg (de_bin od_add (de_int) (de_bin od_mod (de_call (ok_q_cell T) (hr.mono (by decide)) gd (by rfl) T.m_q_cell T.F_q_cell.kp T.b_q_cell (takes_of rfl rfl rfl rfl) hc (da_cons (de_esc (de_var)) (da_cons (de_esc (de_int)) (da_nil)))) (de_int))) (dg_name sc_law.nd))
    (ds_cons (ds_asg (de_call (ok_q_rows T) (hr.mono (by decide)) gd (by rfl) T.m_q_rows T.F_q_rows.kp T.b_q_rows (takes_of rfl rfl rfl rfl) hc (da_cons (de_esc (de_call (ok_q_cell T) (hr.mono (by decide)) gd (by rfl) T.m_q_cell T.F_q_cell.kp T.b_q_cell (takes_of rfl rfl rfl rfl) hc (da_cons (de_esc (de_var)) (da_cons (de_esc (de_int)) (da_nil))))) (da_cons (de_esc (de_call (ok_q_cell T) (hr.mono (by decide)) gd (by rfl) T.m_q_cell T.F_q_cell.kp T.b_q_cell (takes_of rfl rfl rfl rfl) hc (da_cons (de_esc (de_var)) (da_cons (de_esc (de_int)) (da_nil))))) (da_cons (de_esc (de_var)) (da_nil))))) (dg_name sc_law.nd))
    (ds_cons (ds_asg (de_bin od_mod (de_call (ok_q_cell T) (hr.mono (by decide)) gd (by rfl) T.m_q_cell T.F_q_cell.kp T.b_q_cell (takes_of rfl rfl rfl rfl) hc (da_cons (de_esc (de_var)) (da_cons (de_esc (de_int)) (da_nil)))) (de_var)) (dg_name sc_law.nd))
    (ds_cons (ds_asg (de_call (ok_q_standard T) (hr.mono (by decide)) gd (by rfl) T.m_q_standard T.F_q_standard.kp T.b_q_standard (takes_of rfl rfl rfl rfl) hc (da_cons (de_esc (de_var)) (da_cons (de_esc (de_var)) (da_nil)))) (dg_name sc_law.nd))
    (ds_cons (ds_asg (de_callB (cd_minD rfl (hu65_of hr)) (by rfl) T.n_min PyProof.Rows.boot_min (da_cons (de_pk (de_lc [("_law_one", 10)] rfl sc_law.nd (blkOk_by (N := N_law) (sc := defScope s_law) (by decide +kernel)) (di_seq (de_call (ok_q_part T) (hr.mono (by decide)) gd (by rfl) T.m_q_part T.F_q_part.kp T.b_q_part (takes_of rfl rfl rfl rfl) hc (da_cons (de_esc (de_var)) (da_cons (de_esc (de_var)) (da_nil))))) (fun Z1 hZ1 s H C cl fp => dg_name sc_law.nd) (fun Z1 hZ1 s H C cl fp => dts_nil) (fun Z1 hZ1 s H C cl fp => de_call (ok_q_standard T) (hr.mono (by decide)) gd (by rfl) T.m_q_standard T.F_q_standard.kp T.b_q_standard takes0 (hZ1.trans hc) (da_cons (de_esc (de_var)) (da_cons (de_esc (de_var)) (da_nil)))))) (da_nil))) (dg_name sc_law.nd))
    (ds_cons (ds_if (dt_w (dw_or (dt_cmp (od_ne hr.units) (de_callB (cd_repr gd (room_rep hr)) (by rfl) T.n_repr PyProof.Rows.boot_repr (da_cons (de_pk (de_call (ok_q_told T) (hr.mono (by decide)) gd (by rfl) T.m_q_told T.F_q_told.kp T.b_q_told (takes_of rfl rfl rfl rfl) hc (da_cons (de_esc (de_int)) (da_cons (de_esc (de_wk (de_var))) (da_cons (de_esc (de_var)) (da_nil)))))) (da_nil))) (de_callB (cd_repr gd (room_rep hr)) (by rfl) T.n_repr PyProof.Rows.boot_repr (da_cons (de_pk (de_var)) (da_nil))) (nomark _)) (dw_or1 (dt_cmp (od_ne hr.units) (de_callB (cd_repr gd (room_rep hr)) (by rfl) T.n_repr PyProof.Rows.boot_repr (da_cons (de_pk (de_call (ok_q_told T) (hr.mono (by decide)) gd (by rfl) T.m_q_told T.F_q_told.kp T.b_q_told (takes_of rfl rfl rfl rfl) hc (da_cons (de_esc (de_int)) (da_cons (de_esc (de_wk (de_var))) (da_cons (de_esc (de_var)) (da_nil)))))) (da_nil))) (de_callB (cd_repr gd (room_rep hr)) (by rfl) T.n_repr PyProof.Rows.boot_repr (da_cons (de_pk (de_var)) (da_nil))) (nomark _))))) (ds_one (ds_ret (de_bl))) (ds_nil))
    (ds_cons (ds_asg (de_call (ok_q_arranged T) (hr.mono (by decide)) gd (by rfl) T.m_q_arranged T.F_q_arranged.kp T.b_q_arranged (takes_of rfl rfl rfl rfl) hc (da_cons (de_esc (de_call (ok_q_cell T) (hr.mono (by decide)) gd (by rfl) T.m_q_cell T.F_q_cell.kp T.b_q_cell (takes_of rfl rfl rfl rfl) hc (da_cons (de_esc (de_var)) (da_cons (de_esc (de_int)) (da_nil))))) (da_cons (de_esc (de_var)) (da_nil)))) (dg_name sc_law.nd))
    (ds_cons (ds_asg (de_lst (da_nil)) (dg_name sc_law.nd))
    (ds_cons (ds_for (passes_of rfl) rfl (di_seq (de_var)) (dg_name sc_law.nd) (ds_cons (ds_asg (de_bin od_mul (de_lst (da_cons (de_esc (de_int)) (da_nil))) (de_var)) (dg_name sc_law.nd))
    (ds_cons (ds_for (passes_of rfl) rfl (di_rng1 (by rfl) T.n_range (da_cons (de_esc (de_var)) (da_nil))) (dg_name sc_law.nd) (ds_one (ds_set sd_list (de_var) (de_ix (de_wk (de_var)) (de_var)) (de_ix (de_wk (de_var)) (de_ix (de_wk (de_var)) (de_var))))))
    (ds_one (ds_expr (de_mut (by decide) PySem.F.plainAttrs_list PySem.F.slot_list_append PySem.F.type_list_append ud_append (de_var) (da_cons (de_esc (de_callTy cd_tuple (by rfl) T.n_tuple PyProof.Rows.boot_tuple (da_cons (de_pk (de_var)) (da_nil)))) (da_nil))))))))
    (ds_cons (ds_if (dt_w (dw_or (dt_cmp (od_ne hr.units) (de_call (ok_q_told T) (hr.mono (by decide)) gd (by rfl) T.m_q_told T.F_q_told.kp T.b_q_told (takes_of rfl rfl rfl rfl) hc (da_cons (de_esc (de_int)) (da_cons (de_esc (de_callTy cd_tuple (by rfl) T.n_tuple PyProof.Rows.boot_tuple (da_cons (de_pk (de_var)) (da_nil)))) (da_cons (de_esc (de_ix (de_wk (de_var)) (de_var))) (da_nil))))) (de_var) (nomark _)) (dw_or1 (dt_cmp (od_ne hr.units) (de_call (ok_q_told T) (hr.mono (by decide)) gd (by rfl) T.m_q_told T.F_q_told.kp T.b_q_told (takes_of rfl rfl rfl rfl) hc (da_cons (de_esc (de_int)) (da_cons (de_esc (de_callTy cd_tuple (by rfl) T.n_tuple PyProof.Rows.boot_tuple (da_cons (de_pk (de_var)) (da_nil)))) (da_cons (de_esc (de_ix (de_wk (de_var)) (de_var))) (da_nil))))) (de_var) (nomark _))))) (ds_one (ds_ret (de_bl))) (ds_nil))
    (ds_cons (ds_asg (de_call (ok_q_rows T) (hr.mono (by decide)) gd (by rfl) T.m_q_rows T.F_q_rows.kp T.b_q_rows (takes_of rfl rfl rfl rfl) hc (da_cons (de_esc (de_call (ok_q_cell T) (hr.mono (by decide)) gd (by rfl) T.m_q_cell T.F_q_cell.kp T.b_q_cell (takes_of rfl rfl rfl rfl) hc (da_cons (de_esc (de_var)) (da_cons (de_esc (de_int)) (da_nil))))) (da_cons (de_esc (de_call (ok_q_cell T) (hr.mono (by decide)) gd (by rfl) T.m_q_cell T.F_q_cell.kp T.b_q_cell (takes_of rfl rfl rfl rfl) hc (da_cons (de_esc (de_var)) (da_cons (de_esc (de_int)) (da_nil))))) (da_cons (de_esc (de_var)) (da_nil))))) (dg_name sc_law.nd))
    (ds_cons (ds_for (passes_of rfl) rfl (di_seq (de_call (ok_parts T) (hr.mono (by decide)) gd (by rfl) T.m_parts T.F_parts.kp T.b_parts (takes_of rfl rfl rfl rfl) hc (da_cons (de_esc (de_wk (de_var))) (da_nil)))) (dg_name sc_law.nd) (ds_cons (ds_asg (de_cmp (od_inD (hu65_of hr)) (de_var) (de_lc [("_law_one", 10)] rfl sc_law.nd (blkOk_by (N := N_law) (sc := defScope s_law) (by decide +kernel)) (di_seq (de_var)) (fun Z2 hZ2 s H C cl fp => dg_name sc_law.nd) (fun Z2 hZ2 s H C cl fp => dts_nil) (fun Z2 hZ2 s H C cl fp => de_call (ok_q_told T) (hr.mono (by decide)) gd (by rfl) T.m_q_told T.F_q_told.kp T.b_q_told takes0 (hZ2.trans hc) (da_cons (de_esc (de_int)) (da_cons (de_esc (de_wk (de_var))) (da_cons (de_esc (de_var)) (da_nil)))))) (by with_unfolding_all rfl)) (dg_name sc_law.nd))
    (ds_one (ds_if (dt_cmp (od_ne hr.units) (de_var) (de_cmp (od_eq hr.units) (de_call (ok_q_told T) (hr.mono (by decide)) gd (by rfl) T.m_q_told T.F_q_told.kp T.b_q_told (takes_of rfl rfl rfl rfl) hc (da_cons (de_esc (de_int)) (da_cons (de_esc (de_wk (de_var))) (da_cons (de_esc (de_ix (de_var) (de_int))) (da_nil))))) (de_var) (nomark _)) (nomark _)) (ds_one (ds_ret (de_bl))) (ds_nil)))))
    (ds_cons (ds_asg (de_tup (da_cons (de_esc (de_callTy cd_tuple (by rfl) T.n_tuple PyProof.Rows.boot_tuple (da_cons (de_pk (de_bin od_add (de_lrg2 rfl (by rfl) T.n_list (by rfl) T.n_range (de_int) (de_int)) (de_lst (da_cons (de_esc (de_int)) (da_nil))))) (da_nil)))) (da_nil))) (dg_name sc_law.nd))
    (ds_cons (ds_if (dt_w (dw_or (dt_cmp (od_ne hr.units) (de_call (ok_q_told T) (hr.mono (by decide)) gd (by rfl) T.m_q_told T.F_q_told.kp T.b_q_told (takes_of rfl rfl rfl rfl) hc (da_cons (de_esc (de_int)) (da_cons (de_esc (de_var)) (da_cons (de_esc (de_int)) (da_nil))))) (de_str) (nomark _)) (dw_or1 (dt_cmp (od_ne hr.units) (de_call (ok_q_told T) (hr.mono (by decide)) gd (by rfl) T.m_q_told T.F_q_told.kp T.b_q_told (takes_of rfl rfl rfl rfl) hc (da_cons (de_esc (de_int)) (da_cons (de_esc (de_var)) (da_cons (de_esc (de_int)) (da_nil))))) (de_call (ok_q_told T) (hr.mono (by decide)) gd (by rfl) T.m_q_told T.F_q_told.kp T.b_q_told (takes_of rfl rfl rfl rfl) hc (da_cons (de_esc (de_int)) (da_cons (de_esc (de_var)) (da_cons (de_esc (de_int)) (da_nil))))) (nomark _))))) (ds_one (ds_ret (de_bl))) (ds_nil))
    (ds_cons (ds_for (passes_of rfl) rfl (di_rng1 (by rfl) T.n_range (da_cons (de_esc (de_int)) (da_nil))) (dg_name sc_law.nd) (ds_one (ds_if (dt_w (dw_or (dt_cmp (od_ne hr.units) (de_call (ok_q_told T) (hr.mono (by decide)) gd (by rfl) T.m_q_told T.F_q_told.kp T.b_q_told (takes_of rfl rfl rfl rfl) hc (da_cons (de_esc (de_var)) (da_cons (de_esc (de_wk (de_var))) (da_cons (de_esc (de_var)) (da_nil))))) (de_str) (nomark _)) (dw_or1 (dt_cmp (od_ne hr.units) (de_call (ok_q_told T) (hr.mono (by decide)) gd (by rfl) T.m_q_told T.F_q_told.kp T.b_q_told (takes_of rfl rfl rfl rfl) hc (da_cons (de_esc (de_var)) (da_cons (de_esc (de_tup (da_cons (de_esc (de_tup (da_cons (de_esc (de_int)) (da_cons (de_esc (de_int)) (da_nil))))) (da_nil)))) (da_cons (de_esc (de_int)) (da_nil))))) (de_str) (nomark _))))) (ds_one (ds_ret (de_bl))) (ds_nil))))
    (ds_one (ds_ret (de_bl)))))))))))))))))
end
end Law

namespace Law
open DL PySem PySem.Spec L2
/-! the facts of the top -/
set_option maxHeartbeats 0 in
theorem all_mk {P : Program} {w : World} {K : PySem.W.Frag} {h : Heap} {mg : Str → Option Value} {fa : Addr} (X : K.In h) (G : h.Ns mainGlobals mg) (hfa : mg "law" = some (.ref fa))
    {f0 : Addr} {od0 an0 : Option Addr} {sl0 : Array (Option Value)} {oc0 kV0 dc0 pm0 cd0 ct0 : Value}
    {f1 : Addr} {od1 an1 : Option Addr} {sl1 : Array (Option Value)} {oc1 kV1 dc1 pm1 cd1 ct1 : Value}
    {f2 : Addr} {od2 an2 : Option Addr} {sl2 : Array (Option Value)} {oc2 kV2 dc2 pm2 cd2 ct2 : Value}
    {f3 : Addr} {od3 an3 : Option Addr} {sl3 : Array (Option Value)} {oc3 kV3 dc3 pm3 cd3 ct3 : Value}
    {f4 : Addr} {od4 an4 : Option Addr} {sl4 : Array (Option Value)} {oc4 kV4 dc4 pm4 cd4 ct4 : Value}
    {f5 : Addr} {od5 an5 : Option Addr} {sl5 : Array (Option Value)} {oc5 kV5 dc5 pm5 cd5 ct5 : Value}
    {f6 : Addr} {od6 an6 : Option Addr} {sl6 : Array (Option Value)} {oc6 kV6 dc6 pm6 cd6 ct6 : Value}
    {f7 : Addr} {od7 an7 : Option Addr} {sl7 : Array (Option Value)} {oc7 kV7 dc7 pm7 cd7 ct7 : Value}
    {f8 : Addr} {od8 an8 : Option Addr} {sl8 : Array (Option Value)} {oc8 kV8 dc8 pm8 cd8 ct8 : Value}
    {f9 : Addr} {od9 an9 : Option Addr} {sl9 : Array (Option Value)} {oc9 kV9 dc9 pm9 cd9 ct9 : Value}
    {f10 : Addr} {od10 an10 : Option Addr} {sl10 : Array (Option Value)} {oc10 kV10 dc10 pm10 cd10 ct10 : Value}
    {f11 : Addr} {od11 an11 : Option Addr} {sl11 : Array (Option Value)} {oc11 kV11 dc11 pm11 cd11 ct11 : Value}
    {f12 : Addr} {od12 an12 : Option Addr} {sl12 : Array (Option Value)} {oc12 kV12 dc12 pm12 cd12 ct12 : Value}
    {f13 : Addr} {od13 an13 : Option Addr} {sl13 : Array (Option Value)} {oc13 kV13 dc13 pm13 cd13 ct13 : Value}
    {f14 : Addr} {od14 an14 : Option Addr} {sl14 : Array (Option Value)} {oc14 kV14 dc14 pm14 cd14 ct14 : Value}
    {f15 : Addr} {od15 an15 : Option Addr} {sl15 : Array (Option Value)} {oc15 kV15 dc15 pm15 cd15 ct15 : Value}
    {f16 : Addr} {od16 an16 : Option Addr} {sl16 : Array (Option Value)} {oc16 kV16 dc16 pm16 cd16 ct16 : Value}
    {f17 : Addr} {od17 an17 : Option Addr} {sl17 : Array (Option Value)} {oc17 kV17 dc17 pm17 cd17 ct17 : Value}
    {f18 : Addr} {od18 an18 : Option Addr} {sl18 : Array (Option Value)} {oc18 kV18 dc18 pm18 cd18 ct18 : Value}
    {C_BadNumber : Addr}
    {C_NotGraph : Addr}
    {C_TooLarge : Addr}
    {tok_MOST_IN_PART : Tok}
    {tok_MOST_NUMBERS : Tok}
    {tok_MOST_ROWS : Tok}
    (a0 : PySem.W.nsIn K mainGlobals "_law_cell" = some (some (.ref f0)))
    (l0 : K.lookup f0 = some ⟨oc0, od0, .func (PySem.W.fnOf "_law_cell" "_law_cell" (defArgs s_q_cell) (defBody s_q_cell) (defScope s_q_cell) .none kV0 dc0 pm0 an0 cd0 ct0), sl0⟩)
    (c0 : PySem.W.codeIn K cd0 "_law_cell" = true)
    (k0 : PySem.W.keepIn K (.ref f0) = true)
    (a1 : PySem.W.nsIn K mainGlobals "_law_arranged" = some (some (.ref f1)))
    (l1 : K.lookup f1 = some ⟨oc1, od1, .func (PySem.W.fnOf "_law_arranged" "_law_arranged" (defArgs s_q_arranged) (defBody s_q_arranged) (defScope s_q_arranged) .none kV1 dc1 pm1 an1 cd1 ct1), sl1⟩)
    (c1 : PySem.W.codeIn K cd1 "_law_arranged" = true)
    (k1 : PySem.W.keepIn K (.ref f1) = true)
    (a2 : PySem.W.nsIn K mainGlobals "_law_rows" = some (some (.ref f2)))
    (l2 : K.lookup f2 = some ⟨oc2, od2, .func (PySem.W.fnOf "_law_rows" "_law_rows" (defArgs s_q_rows) (defBody s_q_rows) (defScope s_q_rows) .none kV2 dc2 pm2 an2 cd2 ct2), sl2⟩)
    (c2 : PySem.W.codeIn K cd2 "_law_rows" = true)
    (k2 : PySem.W.keepIn K (.ref f2) = true)
    (a3 : PySem.W.nsIn K mainGlobals "_law_near" = some (some (.ref f3)))
    (l3 : K.lookup f3 = some ⟨oc3, od3, .func (PySem.W.fnOf "_law_near" "_law_near" (defArgs s_q_near) (defBody s_q_near) (defScope s_q_near) .none kV3 dc3 pm3 an3 cd3 ct3), sl3⟩)
    (c3 : PySem.W.codeIn K cd3 "_law_near" = true)
    (k3 : PySem.W.keepIn K (.ref f3) = true)
    (a4 : PySem.W.nsIn K mainGlobals "_law_standard" = some (some (.ref f4)))
    (l4 : K.lookup f4 = some ⟨oc4, od4, .func (PySem.W.fnOf "_law_standard" "_law_standard" (defArgs s_q_standard) (defBody s_q_standard) (defScope s_q_standard) .none kV4 dc4 pm4 an4 cd4 ct4), sl4⟩)
    (c4 : PySem.W.codeIn K cd4 "_law_standard" = true)
    (k4 : PySem.W.keepIn K (.ref f4) = true)
    (a5 : PySem.W.nsIn K mainGlobals "_law_layers" = some (some (.ref f5)))
    (l5 : K.lookup f5 = some ⟨oc5, od5, .func (PySem.W.fnOf "_law_layers" "_law_layers" (defArgs s_q_layers) (defBody s_q_layers) (defScope s_q_layers) .none kV5 dc5 pm5 an5 cd5 ct5), sl5⟩)
    (c5 : PySem.W.codeIn K cd5 "_law_layers" = true)
    (k5 : PySem.W.keepIn K (.ref f5) = true)
    (a6 : PySem.W.nsIn K mainGlobals "_law_part" = some (some (.ref f6)))
    (l6 : K.lookup f6 = some ⟨oc6, od6, .func (PySem.W.fnOf "_law_part" "_law_part" (defArgs s_q_part) (defBody s_q_part) (defScope s_q_part) .none kV6 dc6 pm6 an6 cd6 ct6), sl6⟩)
    (c6 : PySem.W.codeIn K cd6 "_law_part" = true)
    (k6 : PySem.W.keepIn K (.ref f6) = true)
    (a7 : PySem.W.nsIn K mainGlobals "is_graph" = some (some (.ref f7)))
    (l7 : K.lookup f7 = some ⟨oc7, od7, .func (PySem.W.fnOf "is_graph" "is_graph" (defArgs s_is_graph) (defBody s_is_graph) (defScope s_is_graph) .none kV7 dc7 pm7 an7 cd7 ct7), sl7⟩)
    (c7 : PySem.W.codeIn K cd7 "is_graph" = true)
    (k7 : PySem.W.keepIn K (.ref f7) = true)
    (a8 : PySem.W.nsIn K mainGlobals "check_graph" = some (some (.ref f8)))
    (l8 : K.lookup f8 = some ⟨oc8, od8, .func (PySem.W.fnOf "check_graph" "check_graph" (defArgs s_check_graph) (defBody s_check_graph) (defScope s_check_graph) .none kV8 dc8 pm8 an8 cd8 ct8), sl8⟩)
    (c8 : PySem.W.codeIn K cd8 "check_graph" = true)
    (k8 : PySem.W.keepIn K (.ref f8) = true)
    (a9 : PySem.W.nsIn K mainGlobals "check_number" = some (some (.ref f9)))
    (l9 : K.lookup f9 = some ⟨oc9, od9, .func (PySem.W.fnOf "check_number" "check_number" (defArgs s_check_number) (defBody s_check_number) (defScope s_check_number) .none kV9 dc9 pm9 an9 cd9 ct9), sl9⟩)
    (c9 : PySem.W.codeIn K cd9 "check_number" = true)
    (k9 : PySem.W.keepIn K (.ref f9) = true)
    (a10 : PySem.W.nsIn K mainGlobals "_backs" = some (some (.ref f10)))
    (l10 : K.lookup f10 = some ⟨oc10, od10, .func (PySem.W.fnOf "_backs" "_backs" (defArgs s__backs) (defBody s__backs) (defScope s__backs) .none kV10 dc10 pm10 an10 cd10 ct10), sl10⟩)
    (c10 : PySem.W.codeIn K cd10 "_backs" = true)
    (k10 : PySem.W.keepIn K (.ref f10) = true)
    (a11 : PySem.W.nsIn K mainGlobals "_steps" = some (some (.ref f11)))
    (l11 : K.lookup f11 = some ⟨oc11, od11, .func (PySem.W.fnOf "_steps" "_steps" (defArgs s__steps) (defBody s__steps) (defScope s__steps) .none kV11 dc11 pm11 an11 cd11 ct11), sl11⟩)
    (c11 : PySem.W.codeIn K cd11 "_steps" = true)
    (k11 : PySem.W.keepIn K (.ref f11) = true)
    (a12 : PySem.W.nsIn K mainGlobals "_standard" = some (some (.ref f12)))
    (l12 : K.lookup f12 = some ⟨oc12, od12, .func (PySem.W.fnOf "_standard" "_standard" (defArgs s__standard) (defBody s__standard) (defScope s__standard) .none kV12 dc12 pm12 an12 cd12 ct12), sl12⟩)
    (c12 : PySem.W.codeIn K cd12 "_standard" = true)
    (k12 : PySem.W.keepIn K (.ref f12) = true)
    (a13 : PySem.W.nsIn K mainGlobals "standard" = some (some (.ref f13)))
    (l13 : K.lookup f13 = some ⟨oc13, od13, .func (PySem.W.fnOf "standard" "standard" (defArgs s_standard) (defBody s_standard) (defScope s_standard) .none kV13 dc13 pm13 an13 cd13 ct13), sl13⟩)
    (c13 : PySem.W.codeIn K cd13 "standard" = true)
    (k13 : PySem.W.keepIn K (.ref f13) = true)
    (a14 : PySem.W.nsIn K mainGlobals "_layers" = some (some (.ref f14)))
    (l14 : K.lookup f14 = some ⟨oc14, od14, .func (PySem.W.fnOf "_layers" "_layers" (defArgs s__layers) (defBody s__layers) (defScope s__layers) .none kV14 dc14 pm14 an14 cd14 ct14), sl14⟩)
    (c14 : PySem.W.codeIn K cd14 "_layers" = true)
    (k14 : PySem.W.keepIn K (.ref f14) = true)
    (a15 : PySem.W.nsIn K mainGlobals "least_form" = some (some (.ref f15)))
    (l15 : K.lookup f15 = some ⟨oc15, od15, .func (PySem.W.fnOf "least_form" "least_form" (defArgs s_least_form) (defBody s_least_form) (defScope s_least_form) .none kV15 dc15 pm15 an15 cd15 ct15), sl15⟩)
    (c15 : PySem.W.codeIn K cd15 "least_form" = true)
    (k15 : PySem.W.keepIn K (.ref f15) = true)
    (a16 : PySem.W.nsIn K mainGlobals "_law_told" = some (some (.ref f16)))
    (l16 : K.lookup f16 = some ⟨oc16, od16, .func (PySem.W.fnOf "_law_told" "_law_told" (defArgs s_q_told) (defBody s_q_told) (defScope s_q_told) .none kV16 dc16 pm16 an16 cd16 ct16), sl16⟩)
    (c16 : PySem.W.codeIn K cd16 "_law_told" = true)
    (k16 : PySem.W.keepIn K (.ref f16) = true)
    (a17 : PySem.W.nsIn K mainGlobals "parts" = some (some (.ref f17)))
    (l17 : K.lookup f17 = some ⟨oc17, od17, .func (PySem.W.fnOf "parts" "parts" (defArgs s_parts) (defBody s_parts) (defScope s_parts) .none kV17 dc17 pm17 an17 cd17 ct17), sl17⟩)
    (c17 : PySem.W.codeIn K cd17 "parts" = true)
    (k17 : PySem.W.keepIn K (.ref f17) = true)
    (a18 : PySem.W.nsIn K mainGlobals "law" = some (some (.ref f18)))
    (l18 : K.lookup f18 = some ⟨oc18, od18, .func (PySem.W.fnOf "law" "law" (defArgs s_law) (defBody s_law) (defScope s_law) .none kV18 dc18 pm18 an18 cd18 ct18), sl18⟩)
    (c18 : PySem.W.codeIn K cd18 "law" = true)
    (k18 : PySem.W.keepIn K (.ref f18) = true)
    (g_BadNumber : PySem.W.nsIn K mainGlobals "BadNumber" = some (some (.ref C_BadNumber)))
    (x_BadNumber : PySem.W.excIn K C_BadNumber [.type "ValueError", .type "Exception", .type "BaseException", .type "object"] "ValueError.__new__" = true)
    (k_BadNumber : PySem.W.keepIn K (.ref C_BadNumber) = true)
    (s_BadNumber : PySem.W.subIn K (.ref C_BadNumber) (.type "BaseException") = some true)
    (t_BadNumber : PySem.W.typeIn K (.ref C_BadNumber) = some (.type "type"))
    (g_NotGraph : PySem.W.nsIn K mainGlobals "NotGraph" = some (some (.ref C_NotGraph)))
    (x_NotGraph : PySem.W.excIn K C_NotGraph [.type "ValueError", .type "Exception", .type "BaseException", .type "object"] "ValueError.__new__" = true)
    (k_NotGraph : PySem.W.keepIn K (.ref C_NotGraph) = true)
    (s_NotGraph : PySem.W.subIn K (.ref C_NotGraph) (.type "BaseException") = some true)
    (t_NotGraph : PySem.W.typeIn K (.ref C_NotGraph) = some (.type "type"))
    (g_TooLarge : PySem.W.nsIn K mainGlobals "TooLarge" = some (some (.ref C_TooLarge)))
    (x_TooLarge : PySem.W.excIn K C_TooLarge [.type "ValueError", .type "Exception", .type "BaseException", .type "object"] "ValueError.__new__" = true)
    (k_TooLarge : PySem.W.keepIn K (.ref C_TooLarge) = true)
    (s_TooLarge : PySem.W.subIn K (.ref C_TooLarge) (.type "BaseException") = some true)
    (t_TooLarge : PySem.W.typeIn K (.ref C_TooLarge) = some (.type "type"))
    (e_BadNumber_BadNumber : PySem.W.exmOne K (.ref C_BadNumber) (.ref C_BadNumber) = some true)
    (e_BadNumber_NotGraph : PySem.W.exmOne K (.ref C_BadNumber) (.ref C_NotGraph) = some false)
    (e_BadNumber_TooLarge : PySem.W.exmOne K (.ref C_BadNumber) (.ref C_TooLarge) = some false)
    (e_NotGraph_BadNumber : PySem.W.exmOne K (.ref C_NotGraph) (.ref C_BadNumber) = some false)
    (e_NotGraph_NotGraph : PySem.W.exmOne K (.ref C_NotGraph) (.ref C_NotGraph) = some true)
    (e_NotGraph_TooLarge : PySem.W.exmOne K (.ref C_NotGraph) (.ref C_TooLarge) = some false)
    (e_TooLarge_BadNumber : PySem.W.exmOne K (.ref C_TooLarge) (.ref C_BadNumber) = some false)
    (e_TooLarge_NotGraph : PySem.W.exmOne K (.ref C_TooLarge) (.ref C_NotGraph) = some false)
    (e_TooLarge_TooLarge : PySem.W.exmOne K (.ref C_TooLarge) (.ref C_TooLarge) = some true)
    (n_all : PySem.W.nsIn K mainGlobals "all" = some none)
    (n_enumerate : PySem.W.nsIn K mainGlobals "enumerate" = some none)
    (n_len : PySem.W.nsIn K mainGlobals "len" = some none)
    (n_list : PySem.W.nsIn K mainGlobals "list" = some none)
    (n_min : PySem.W.nsIn K mainGlobals "min" = some none)
    (n_range : PySem.W.nsIn K mainGlobals "range" = some none)
    (n_repr : PySem.W.nsIn K mainGlobals "repr" = some none)
    (n_sorted : PySem.W.nsIn K mainGlobals "sorted" = some none)
    (n_tuple : PySem.W.nsIn K mainGlobals "tuple" = some none)
    (n_zip : PySem.W.nsIn K mainGlobals "zip" = some none)
    (v_MOST_IN_PART : PySem.W.nsIn K mainGlobals "MOST_IN_PART" = some (some (.int 100 tok_MOST_IN_PART)))
    (v_MOST_NUMBERS : PySem.W.nsIn K mainGlobals "MOST_NUMBERS" = some (some (.int 1024 tok_MOST_NUMBERS)))
    (v_MOST_ROWS : PySem.W.nsIn K mainGlobals "MOST_ROWS" = some (some (.int 6 tok_MOST_ROWS)))
    : ∃ (fd : FuncData) (cls : Str → Value), (∀ (s : Shared) (v : Value), BindsTo s fd ⟨[v], []⟩ [("_law_script", v)]) ∧ ∀ base : Heap, K.In base → base.Ns mainGlobals mg → FnG P w K mg base 5 fa fd ["_law_script"] (spD ⟨K, w⟩ cls none 1 f_law) := by
  have e := hfa.symm.trans (PySem.W.mg_of X G a18)
  cases e
  have F0 := fun_mk (st := s_q_cell) l0 c0 k0
  have b0 := F0.binds (ps := ["_law_script", "_law_k"]) fun _ _ _ _ _ _ us hl => match us, hl with | [_, _], _ => rfl
  have F1 := fun_mk (st := s_q_arranged) l1 c1 k1
  have b1 := F1.binds (ps := ["_law_value", "_law_size"]) fun _ _ _ _ _ _ us hl => match us, hl with | [_, _], _ => rfl
  have F2 := fun_mk (st := s_q_rows) l2 c2 k2
  have b2 := F2.binds (ps := ["_law_cell_here", "_law_second", "_law_size"]) fun _ _ _ _ _ _ us hl => match us, hl with | [_, _, _], _ => rfl
  have F3 := fun_mk (st := s_q_near) l3 c3 k3
  have b3 := F3.binds (ps := ["_law_graph", "_law_number"]) fun _ _ _ _ _ _ us hl => match us, hl with | [_, _], _ => rfl
  have F4 := fun_mk (st := s_q_standard) l4 c4 k4
  have b4 := F4.binds (ps := ["_law_graph", "_law_number"]) fun _ _ _ _ _ _ us hl => match us, hl with | [_, _], _ => rfl
  have F5 := fun_mk (st := s_q_layers) l5 c5 k5
  have b5 := F5.binds (ps := ["_law_graph", "_law_number"]) fun _ _ _ _ _ _ us hl => match us, hl with | [_, _], _ => rfl
  have F6 := fun_mk (st := s_q_part) l6 c6 k6
  have b6 := F6.binds (ps := ["_law_graph", "_law_number"]) fun _ _ _ _ _ _ us hl => match us, hl with | [_, _], _ => rfl
  have F7 := fun_mk (st := s_is_graph) l7 c7 k7
  have b7 := F7.binds (ps := ["graph"]) fun _ _ _ _ _ _ us hl => match us, hl with | [_], _ => rfl
  have F8 := fun_mk (st := s_check_graph) l8 c8 k8
  have b8 := F8.binds (ps := ["graph"]) fun _ _ _ _ _ _ us hl => match us, hl with | [_], _ => rfl
  have F9 := fun_mk (st := s_check_number) l9 c9 k9
  have b9 := F9.binds (ps := ["graph", "number"]) fun _ _ _ _ _ _ us hl => match us, hl with | [_, _], _ => rfl
  have F10 := fun_mk (st := s__backs) l10 c10 k10
  have b10 := F10.binds (ps := ["graph"]) fun _ _ _ _ _ _ us hl => match us, hl with | [_], _ => rfl
  have F11 := fun_mk (st := s__steps) l11 c11 k11
  have b11 := F11.binds (ps := ["graph", "backs", "number"]) fun _ _ _ _ _ _ us hl => match us, hl with | [_, _, _], _ => rfl
  have F12 := fun_mk (st := s__standard) l12 c12 k12
  have b12 := F12.binds (ps := ["graph", "number"]) fun _ _ _ _ _ _ us hl => match us, hl with | [_, _], _ => rfl
  have F13 := fun_mk (st := s_standard) l13 c13 k13
  have b13 := F13.binds (ps := ["graph", "number"]) fun _ _ _ _ _ _ us hl => match us, hl with | [_, _], _ => rfl
  have F14 := fun_mk (st := s__layers) l14 c14 k14
  have b14 := F14.binds (ps := ["graph", "number"]) fun _ _ _ _ _ _ us hl => match us, hl with | [_, _], _ => rfl
  have F15 := fun_mk (st := s_least_form) l15 c15 k15
  have b15 := F15.binds (ps := ["graph", "number"]) fun _ _ _ _ _ _ us hl => match us, hl with | [_, _], _ => rfl
  have F16 := fun_mk (st := s_q_told) l16 c16 k16
  have b16 := F16.binds (ps := ["_law_which", "_law_graph", "_law_number"]) fun _ _ _ _ _ _ us hl => match us, hl with | [_, _, _], _ => rfl
  have F17 := fun_mk (st := s_parts) l17 c17 k17
  have b17 := F17.binds (ps := ["graph"]) fun _ _ _ _ _ _ us hl => match us, hl with | [_], _ => rfl
  have F18 := fun_mk (st := s_law) l18 c18 k18
  have b18 := F18.binds (ps := ["_law_script"]) fun _ _ _ _ _ _ us hl => match us, hl with | [_], _ => rfl
  let cls : Str → Value := fun s => (([("BadNumber", Value.ref C_BadNumber), ("NotGraph", Value.ref C_NotGraph), ("TooLarge", Value.ref C_TooLarge)] : List (Str × Value)).lookup s).getD .none
  let T : Tx K mg := {
    cls := cls
    a_q_cell := f0, fd_q_cell := _, F_q_cell := F0, m_q_cell := PySem.W.mg_of X G a0, b_q_cell := b0
    a_q_arranged := f1, fd_q_arranged := _, F_q_arranged := F1, m_q_arranged := PySem.W.mg_of X G a1, b_q_arranged := b1
    a_q_rows := f2, fd_q_rows := _, F_q_rows := F2, m_q_rows := PySem.W.mg_of X G a2, b_q_rows := b2
    a_q_near := f3, fd_q_near := _, F_q_near := F3, m_q_near := PySem.W.mg_of X G a3, b_q_near := b3
    a_q_standard := f4, fd_q_standard := _, F_q_standard := F4, m_q_standard := PySem.W.mg_of X G a4, b_q_standard := b4
    a_q_layers := f5, fd_q_layers := _, F_q_layers := F5, m_q_layers := PySem.W.mg_of X G a5, b_q_layers := b5
    a_q_part := f6, fd_q_part := _, F_q_part := F6, m_q_part := PySem.W.mg_of X G a6, b_q_part := b6
    a_is_graph := f7, fd_is_graph := _, F_is_graph := F7, m_is_graph := PySem.W.mg_of X G a7, b_is_graph := b7
    a_check_graph := f8, fd_check_graph := _, F_check_graph := F8, m_check_graph := PySem.W.mg_of X G a8, b_check_graph := b8
    a_check_number := f9, fd_check_number := _, F_check_number := F9, m_check_number := PySem.W.mg_of X G a9, b_check_number := b9
    a__backs := f10, fd__backs := _, F__backs := F10, m__backs := PySem.W.mg_of X G a10, b__backs := b10
    a__steps := f11, fd__steps := _, F__steps := F11, m__steps := PySem.W.mg_of X G a11, b__steps := b11
    a__standard := f12, fd__standard := _, F__standard := F12, m__standard := PySem.W.mg_of X G a12, b__standard := b12
    a_standard := f13, fd_standard := _, F_standard := F13, m_standard := PySem.W.mg_of X G a13, b_standard := b13
    a__layers := f14, fd__layers := _, F__layers := F14, m__layers := PySem.W.mg_of X G a14, b__layers := b14
    a_least_form := f15, fd_least_form := _, F_least_form := F15, m_least_form := PySem.W.mg_of X G a15, b_least_form := b15
    a_q_told := f16, fd_q_told := _, F_q_told := F16, m_q_told := PySem.W.mg_of X G a16, b_q_told := b16
    a_parts := f17, fd_parts := _, F_parts := F17, m_parts := PySem.W.mg_of X G a17, b_parts := b17
    a_law := fa, fd_law := _, F_law := F18, m_law := PySem.W.mg_of X G a18, b_law := b18
    C_BadNumber := C_BadNumber, g_BadNumber := PySem.W.mg_of X G g_BadNumber, x_BadNumber := x_BadNumber, k_BadNumber := k_BadNumber, s_BadNumber := s_BadNumber, t_BadNumber := t_BadNumber, c_BadNumber := by rfl, w_BadNumber := g_BadNumber
    C_NotGraph := C_NotGraph, g_NotGraph := PySem.W.mg_of X G g_NotGraph, x_NotGraph := x_NotGraph, k_NotGraph := k_NotGraph, s_NotGraph := s_NotGraph, t_NotGraph := t_NotGraph, c_NotGraph := by rfl, w_NotGraph := g_NotGraph
    C_TooLarge := C_TooLarge, g_TooLarge := PySem.W.mg_of X G g_TooLarge, x_TooLarge := x_TooLarge, k_TooLarge := k_TooLarge, s_TooLarge := s_TooLarge, t_TooLarge := t_TooLarge, c_TooLarge := by rfl, w_TooLarge := g_TooLarge
    e_BadNumber_BadNumber := e_BadNumber_BadNumber
    e_BadNumber_NotGraph := e_BadNumber_NotGraph
    e_BadNumber_TooLarge := e_BadNumber_TooLarge
    e_NotGraph_BadNumber := e_NotGraph_BadNumber
    e_NotGraph_NotGraph := e_NotGraph_NotGraph
    e_NotGraph_TooLarge := e_NotGraph_TooLarge
    e_TooLarge_BadNumber := e_TooLarge_BadNumber
    e_TooLarge_NotGraph := e_TooLarge_NotGraph
    e_TooLarge_TooLarge := e_TooLarge_TooLarge
    n_all := PySem.W.mg_none_of X G n_all
    n_enumerate := PySem.W.mg_none_of X G n_enumerate
    n_len := PySem.W.mg_none_of X G n_len
    n_list := PySem.W.mg_none_of X G n_list
    n_min := PySem.W.mg_none_of X G n_min
    n_range := PySem.W.mg_none_of X G n_range
    n_repr := PySem.W.mg_none_of X G n_repr
    n_sorted := PySem.W.mg_none_of X G n_sorted
    n_tuple := PySem.W.mg_none_of X G n_tuple
    n_zip := PySem.W.mg_none_of X G n_zip
    tok_MOST_IN_PART := tok_MOST_IN_PART, v_MOST_IN_PART := PySem.W.mg_of X G v_MOST_IN_PART
    tok_MOST_NUMBERS := tok_MOST_NUMBERS, v_MOST_NUMBERS := PySem.W.mg_of X G v_MOST_NUMBERS
    tok_MOST_ROWS := tok_MOST_ROWS, v_MOST_ROWS := PySem.W.mg_of X G v_MOST_ROWS
  }
  exact ⟨_, cls, fun s v => .of_eq rfl, fun base _ _ => ok_law T⟩
end Law
open PySem PySem.W PyProof.Rows in
set_option maxRecDepth 100000 in
set_option maxHeartbeats 0 in
theorem PySem.Challenge.cw_leafturner_k71_standard_forms_of_parts_holds : PySem.Challenge.rw_leafturner_k71_standard_forms_of_parts.Holds := by
  w_on; o_law; k_head; (case hw => w_witness2)
  k_fill
  refine DL.walk_law (l := PySem.Challenge.rw_leafturner_k71_standard_forms_of_parts) (k := 5) (x := "_law_script") rfl rfl ⟨rfl, by decide, by decide⟩ (fun w h Y => PySem.W.kIn_of Y) Law.law_good ?F
  case F =>
    intro w mg fa h KX G hmg
    refine' Law.all_mk KX G hmg ?a0 ?l0 ?c0 ?k0 ?a1 ?l1 ?c1 ?k1 ?a2 ?l2 ?c2 ?k2 ?a3 ?l3 ?c3 ?k3 ?a4 ?l4 ?c4 ?k4 ?a5 ?l5 ?c5 ?k5 ?a6 ?l6 ?c6 ?k6 ?a7 ?l7 ?c7 ?k7 ?a8 ?l8 ?c8 ?k8 ?a9 ?l9 ?c9 ?k9 ?a10 ?l10 ?c10 ?k10 ?a11 ?l11 ?c11 ?k11 ?a12 ?l12 ?c12 ?k12 ?a13 ?l13 ?c13 ?k13 ?a14 ?l14 ?c14 ?k14 ?a15 ?l15 ?c15 ?k15 ?a16 ?l16 ?c16 ?k16 ?a17 ?l17 ?c17 ?k17 ?a18 ?l18 ?c18 ?k18 ?g_BadNumber ?x_BadNumber ?k_BadNumber ?s_BadNumber ?t_BadNumber ?g_NotGraph ?x_NotGraph ?k_NotGraph ?s_NotGraph ?t_NotGraph ?g_TooLarge ?x_TooLarge ?k_TooLarge ?s_TooLarge ?t_TooLarge ?e_BadNumber_BadNumber ?e_BadNumber_NotGraph ?e_BadNumber_TooLarge ?e_NotGraph_BadNumber ?e_NotGraph_NotGraph ?e_NotGraph_TooLarge ?e_TooLarge_BadNumber ?e_TooLarge_NotGraph ?e_TooLarge_TooLarge ?n_all ?n_enumerate ?n_len ?n_list ?n_min ?n_range ?n_repr ?n_sorted ?n_tuple ?n_zip ?v_MOST_IN_PART ?v_MOST_NUMBERS ?v_MOST_ROWS
    (case a0 => k_is)
    (case l0 => k_is)
    (case c0 => k_is)
    (case k0 => k_is)
    (case a1 => k_is)
    (case l1 => k_is)
    (case c1 => k_is)
    (case k1 => k_is)
    (case a2 => k_is)
    (case l2 => k_is)
    (case c2 => k_is)
    (case k2 => k_is)
    (case a3 => k_is)
    (case l3 => k_is)
    (case c3 => k_is)
    (case k3 => k_is)
    (case a4 => k_is)
    (case l4 => k_is)
    (case c4 => k_is)
    (case k4 => k_is)
    (case a5 => k_is)
    (case l5 => k_is)
    (case c5 => k_is)
    (case k5 => k_is)
    (case a6 => k_is)
    (case l6 => k_is)
    (case c6 => k_is)
    (case k6 => k_is)
    (case a7 => k_is)
    (case l7 => k_is)
    (case c7 => k_is)
    (case k7 => k_is)
    (case a8 => k_is)
    (case l8 => k_is)
    (case c8 => k_is)
    (case k8 => k_is)
    (case a9 => k_is)
    (case l9 => k_is)
    (case c9 => k_is)
    (case k9 => k_is)
    (case a10 => k_is)
    (case l10 => k_is)
    (case c10 => k_is)
    (case k10 => k_is)
    (case a11 => k_is)
    (case l11 => k_is)
    (case c11 => k_is)
    (case k11 => k_is)
    (case a12 => k_is)
    (case l12 => k_is)
    (case c12 => k_is)
    (case k12 => k_is)
    (case a13 => k_is)
    (case l13 => k_is)
    (case c13 => k_is)
    (case k13 => k_is)
    (case a14 => k_is)
    (case l14 => k_is)
    (case c14 => k_is)
    (case k14 => k_is)
    (case a15 => k_is)
    (case l15 => k_is)
    (case c15 => k_is)
    (case k15 => k_is)
    (case a16 => k_is)
    (case l16 => k_is)
    (case c16 => k_is)
    (case k16 => k_is)
    (case a17 => k_is)
    (case l17 => k_is)
    (case c17 => k_is)
    (case k17 => k_is)
    (case a18 => k_is)
    (case l18 => k_is)
    (case c18 => k_is)
    (case k18 => k_is)
    (case g_BadNumber => k_is)
    (case x_BadNumber => k_exc)
    (case k_BadNumber => k_is)
    (case s_BadNumber => k_is)
    (case t_BadNumber => k_is)
    (case g_NotGraph => k_is)
    (case x_NotGraph => k_exc)
    (case k_NotGraph => k_is)
    (case s_NotGraph => k_is)
    (case t_NotGraph => k_is)
    (case g_TooLarge => k_is)
    (case x_TooLarge => k_exc)
    (case k_TooLarge => k_is)
    (case s_TooLarge => k_is)
    (case t_TooLarge => k_is)
    (case e_BadNumber_BadNumber => kts_exm)
    (case e_BadNumber_NotGraph => kts_exm)
    (case e_BadNumber_TooLarge => kts_exm)
    (case e_NotGraph_BadNumber => kts_exm)
    (case e_NotGraph_NotGraph => kts_exm)
    (case e_NotGraph_TooLarge => kts_exm)
    (case e_TooLarge_BadNumber => kts_exm)
    (case e_TooLarge_NotGraph => kts_exm)
    (case e_TooLarge_TooLarge => kts_exm)
    (case n_all => k_is)
    (case n_enumerate => k_is)
    (case n_len => k_is)
    (case n_list => k_is)
    (case n_min => k_is)
    (case n_range => k_is)
    (case n_repr => k_is)
    (case n_sorted => k_is)
    (case n_tuple => k_is)
    (case n_zip => k_is)
    (case v_MOST_IN_PART => k_is)
    (case v_MOST_NUMBERS => k_is)
    (case v_MOST_ROWS => k_is)
