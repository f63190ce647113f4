import PyProof.Rows.All
import HandS.ForMost
import HandS.Exc
import HandS.TryOnly
import HandS.TryMany
import HandS.ExcOwn
import HandS.WordsExc
import HandS.CallSlots
import HandS.IsInst
import HandS.SortInts
import HandS.TupAny
import HandS.TupMul
import HandS.RaiseMore
import HandS.StrMore
import HandS.Style
import HandS.SetFor
import HandS.Replace
import KE.KSortedM
import HandS.Walk
import HandS.EndBits
import HandS.Conv
import PyProof.ReprLen
import Wide.All
import OpenK.AllK
import Wide.FinOn
import PySem.Challenge.RW_leafturner_k88_words_of_lines
set_option Elab.async false
set_option linter.all false
set_option maxRecDepth 100000
/-! The data layer: what a def computes, as a Lean function over plain data; heaps are hidden once and for all. -/
namespace DL
open PySem PySem.Spec L2

/-- plain data -/
inductive D where
  | non | bl (b : Bool) | int (i : Int) | str (s : Str)
  | tup (xs : List D) | lst (xs : List D)
  | dk (kvs : List (Key × D)) | dt (kvs : List (List Key × D))
  /-- the script -/
  | scr (ns : List Int)

/-- what an owned object holds -/
inductive O where
  | ls (xs : List D) | dk (kvs : List (Key × D)) | dt (kvs : List (List Key × D))
def O.d : O → D
  | .ls xs => .lst xs
  | .dk kvs => .dk kvs
  | .dt kvs => .dt kvs
/-- a slot: frozen data, or an owned object (lent: it is the caller's) -/
inductive Sl where
  | fz (d : D) | ow (lent : Bool) (o : O)
abbrev G := List (Option Sl)
/-- a result: frozen data, a new owned object, the object of a slot -/
inductive R where
  | fz (d : D) | ow (o : O) | at (i : Nat)
/-- an exception: its class's name, its own fields -/
structure Ex where
  c : Str
  p : List (Str × D) := []
inductive Rs (α : Type) where
  | ok (a : α) (g : G) | ex (e : Ex) (g : G) | bad
abbrev M (α : Type) := G → Rs α
inductive Fl where
  | nx | rt (r : R) | bk | ct

def Rs.andThen {α β : Type} (x : Rs α) (k : α → G → Rs β) : Rs β :=
  match x with
  | .ok a g => k a g
  | .ex e g => .ex e g
  | .bad => .bad
@[simp] theorem then_ok {α β : Type} (a : α) (g : G) (k : α → G → Rs β) : (Rs.ok a g).andThen k = k a g := rfl
@[simp] theorem then_ex {α β : Type} (e : Ex) (g : G) (k : α → G → Rs β) : (Rs.ex e g : Rs α).andThen k = .ex e g := rfl
@[simp] theorem then_bad {α β : Type} (k : α → G → Rs β) : (Rs.bad : Rs α).andThen k = .bad := rfl
def mb {α β : Type} (m : M α) (k : α → M β) : M β := fun g => (m g).andThen k
def mp {α : Type} (a : α) : M α := fun g => .ok a g

section
variable (K : PySem.W.Frag)
mutual
/-- v is the data d, read in the frozen heap F -/
def Is (F : Hp) (v : V) : D → Prop
  | .non => v = .non
  | .bl b => v = .bl b
  | .int i => v = .int i
  | .str s => v = .str s ∧ s.length ≤ sizeLine
  | .tup ds => ∃ a vs, v = .ref a ∧ SqT K F a vs ∧ ds.length ≤ sizeLine ∧ IsL F vs ds
  | .lst ds => ∃ a vs, v = .ref a ∧ F a = some (.lst vs) ∧ ds.length ≤ sizeLine ∧ IsL F vs ds
  | .dk kvs => ∃ a ks, v = .ref a ∧ F a = some (.dK ks) ∧ kvs.length ≤ sizeLine ∧ IsK F ks kvs
  | .dt kvs => ∃ a ks, v = .ref a ∧ F a = some (.dT ks) ∧ kvs.length ≤ sizeLine ∧ IsT F ks kvs
  | .scr ns => ∃ a, v = .ref a ∧ SqL K F a (ns.map V.int) ∧ ns.length ≤ sizeLine
def IsL (F : Hp) (vs : List V) : List D → Prop
  | [] => vs = []
  | d :: ds => ∃ v r, vs = v :: r ∧ Is F v d ∧ IsL F r ds
def IsK (F : Hp) (ks : List (Key × V)) : List (Key × D) → Prop
  | [] => ks = []
  | (k, d) :: kvs => ∃ v r, ks = (k, v) :: r ∧ Is F v d ∧ IsK F r kvs
def IsT (F : Hp) (ks : List (List Key × V)) : List (List Key × D) → Prop
  | [] => ks = []
  | (k, d) :: kvs => ∃ v r, ks = (k, v) :: r ∧ Is F v d ∧ IsT F r kvs
end
/-- the object at a holds o -/
def OwAt (F H : Hp) (a : Addr) : O → Prop
  | .ls ds => ∃ vs, H a = some (.lst vs) ∧ ds.length ≤ sizeLine ∧ IsL K F vs ds
  | .dk kvs => ∃ ks, H a = some (.dK ks) ∧ kvs.length ≤ sizeLine ∧ IsK K F ks kvs
  | .dt kvs => ∃ ks, H a = some (.dT ks) ∧ kvs.length ≤ sizeLine ∧ IsT K F ks kvs
end

section
variable {K : PySem.W.Frag}
theorem sqT_mono {F F' : Hp} (h : Same F F') {a : Addr} {xs : List V} (q : SqT K F a xs) : SqT K F' a xs := by
  rcases q with r | r
  · rcases r with r | ⟨o, r⟩
    · exact .inl (.inl (h _ _ r))
    · exact .inl (.inr ⟨o, h _ _ r⟩)
  · exact .inr r
mutual
theorem Is.mono {F F' : Hp} (h : Same F F') : ∀ (d : D) (v : V), Is K F v d → Is K F' v d
  | .non, _, q => q
  | .bl _, _, q => q
  | .int _, _, q => q
  | .str _, _, q => q
  | .tup ds, _, ⟨a, vs, e, s, z, q⟩ => ⟨a, vs, e, sqT_mono h s, z, IsL.mono h ds vs q⟩
  | .lst ds, _, ⟨a, vs, e, s, z, q⟩ => ⟨a, vs, e, h _ _ s, z, IsL.mono h ds vs q⟩
  | .dk kvs, _, ⟨a, vs, e, s, z, q⟩ => ⟨a, vs, e, h _ _ s, z, IsK.mono h kvs vs q⟩
  | .dt kvs, _, ⟨a, vs, e, s, z, q⟩ => ⟨a, vs, e, h _ _ s, z, IsT.mono h kvs vs q⟩
  | .scr ns, _, ⟨a, e, s, z⟩ => ⟨a, e, h.seq s, z⟩
theorem IsL.mono {F F' : Hp} (h : Same F F') : ∀ (ds : List D) (vs : List V), IsL K F vs ds → IsL K F' vs ds
  | [], _, q => q
  | d :: ds, _, ⟨v, r, e, q, t⟩ => ⟨v, r, e, Is.mono h d v q, IsL.mono h ds r t⟩
theorem IsK.mono {F F' : Hp} (h : Same F F') : ∀ (ds : List (Key × D)) (vs : List (Key × V)), IsK K F vs ds → IsK K F' vs ds
  | [], _, q => q
  | (_, d) :: ds, _, ⟨v, r, e, q, t⟩ => ⟨v, r, e, Is.mono h d v q, IsK.mono h ds r t⟩
theorem IsT.mono {F F' : Hp} (h : Same F F') : ∀ (ds : List (List Key × D)) (vs : List (List Key × V)), IsT K F vs ds → IsT K F' vs ds
  | [], _, q => q
  | (_, d) :: ds, _, ⟨v, r, e, q, t⟩ => ⟨v, r, e, Is.mono h d v q, IsT.mono h ds r t⟩
end
theorem OwAt.mono {F F' H H' : Hp} {a : Addr} {o : O} (h : Same F F') (e : H' a = H a) (q : OwAt K F H a o) : OwAt K F' H' a o := by
  cases o with
  | ls ds => obtain ⟨vs, x, z, y⟩ := q; exact ⟨vs, e.trans x, z, IsL.mono h _ _ y⟩
  | dk ds => obtain ⟨vs, x, z, y⟩ := q; exact ⟨vs, e.trans x, z, IsK.mono h _ _ y⟩
  | dt ds => obtain ⟨vs, x, z, y⟩ := q; exact ⟨vs, e.trans x, z, IsT.mono h _ _ y⟩
theorem OwAt.some {F H : Hp} {a : Addr} {o : O} (q : OwAt K F H a o) : ∃ u, H a = some u ∧ Mut (some u) := by
  cases o with
  | ls ds => obtain ⟨vs, x, _⟩ := q; exact ⟨_, x, trivial⟩
  | dk ds => obtain ⟨vs, x, _⟩ := q; exact ⟨_, x, trivial⟩
  | dt ds => obtain ⟨vs, x, _⟩ := q; exact ⟨_, x, trivial⟩
/-- frozen -/
theorem OwAt.freeze {F F' H : Hp} {a : Addr} {o : O} (h : Same F F') (e : F' a = H a) (q : OwAt K F H a o) : Is K F' (.ref a) o.d := by
  cases o with
  | ls ds => obtain ⟨vs, x, z, y⟩ := q; exact ⟨a, vs, rfl, e.trans x, z, IsL.mono h _ _ y⟩
  | dk ds => obtain ⟨vs, x, z, y⟩ := q; exact ⟨a, vs, rfl, e.trans x, z, IsK.mono h _ _ y⟩
  | dt ds => obtain ⟨vs, x, z, y⟩ := q; exact ⟨a, vs, rfl, e.trans x, z, IsT.mono h _ _ y⟩
theorem IsL.length {F : Hp} : ∀ {ds : List D} {vs : List V}, IsL K F vs ds → vs.length = ds.length
  | [], _, e => by rw [show _ = [] from e]; rfl
  | d :: ds, _, ⟨v, r, e, _, t⟩ => by rw [e, List.length_cons, List.length_cons, IsL.length t]
theorem IsL.get {F : Hp} : ∀ {ds : List D} {vs : List V} {i : Nat} {d : D}, IsL K F vs ds → ds[i]? = some d → ∃ v, vs[i]? = some v ∧ Is K F v d
  | [], _, _, _, _, h => by simp at h
  | d :: ds, _, 0, d', ⟨v, r, e, q, t⟩, h => by
    have : d = d' := by simpa using h
    subst this; subst e; exact ⟨v, rfl, q⟩
  | d :: ds, _, i + 1, d', ⟨v, r, e, q, t⟩, h => by
    subst e
    obtain ⟨u, h1, h2⟩ := IsL.get (i := i) t (by simpa using h)
    exact ⟨u, by simpa using h1, h2⟩
theorem IsL.get' {F : Hp} : ∀ {ds : List D} {vs : List V} {i : Nat} {v : V}, IsL K F vs ds → vs[i]? = some v → ∃ d, ds[i]? = some d ∧ Is K F v d
  | [], _, _, _, q, h => by rw [show _ = [] from q] at h; simp at h
  | d :: ds, _, 0, v', ⟨v, r, e, q, t⟩, h => by
    subst e
    have : v = v' := by simpa using h
    subst this; exact ⟨d, rfl, q⟩
  | d :: ds, _, i + 1, v', ⟨v, r, e, q, t⟩, h => by
    subst e
    obtain ⟨u, h1, h2⟩ := IsL.get' (i := i) t (by simpa using h)
    exact ⟨u, by simpa using h1, h2⟩
theorem IsL.append {F : Hp} : ∀ {ds es : List D} {vs us : List V}, IsL K F vs ds → IsL K F us es → IsL K F (vs ++ us) (ds ++ es)
  | [], _, _, _, e, q => by rw [show _ = [] from e]; exact q
  | d :: ds, es, _, us, ⟨v, r, e, q, t⟩, q' => by subst e; exact ⟨v, r ++ us, rfl, q, IsL.append t q'⟩
theorem IsL.take {F : Hp} : ∀ {ds : List D} {vs : List V} (n : Nat), IsL K F vs ds → IsL K F (vs.take n) (ds.take n)
  | _, _, 0, _ => by simp [IsL]
  | [], _, n + 1, e => by rw [show _ = [] from e]; exact rfl
  | d :: ds, _, n + 1, ⟨v, r, e, q, t⟩ => by subst e; exact ⟨v, r.take n, rfl, q, IsL.take n t⟩
theorem IsL.drop {F : Hp} : ∀ {ds : List D} {vs : List V} (n : Nat), IsL K F vs ds → IsL K F (vs.drop n) (ds.drop n)
  | _, _, 0, q => q
  | [], _, n + 1, e => by rw [show _ = [] from e]; exact rfl
  | d :: ds, _, n + 1, ⟨v, r, e, q, t⟩ => by subst e; exact IsL.drop n t
theorem IsL.reverse {F : Hp} : ∀ {ds : List D} {vs : List V}, IsL K F vs ds → IsL K F vs.reverse ds.reverse
  | [], _, e => by rw [show _ = [] from e]; exact rfl
  | d :: ds, _, ⟨v, r, e, q, t⟩ => by
    subst e; rw [List.reverse_cons, List.reverse_cons]
    exact IsL.append (IsL.reverse t) ⟨v, [], rfl, q, rfl⟩
theorem IsL.set {F : Hp} : ∀ {ds : List D} {vs : List V} (i : Nat) {v : V} {d : D}, IsL K F vs ds → Is K F v d → IsL K F (vs.set i v) (ds.set i d)
  | [], _, _, _, _, e, _ => by rw [show _ = [] from e]; exact rfl
  | d :: ds, _, 0, v', d', ⟨v, r, e, q, t⟩, q' => by subst e; exact ⟨v', r, rfl, q', t⟩
  | d :: ds, _, i + 1, v', d', ⟨v, r, e, q, t⟩, q' => by subst e; exact ⟨v, r.set i v', rfl, q, IsL.set i t q'⟩
theorem IsL.one {F : Hp} {v : V} {d : D} (q : Is K F v d) : IsL K F [v] [d] := ⟨v, [], rfl, q, rfl⟩
theorem IsL.replicate {F : Hp} {v : V} {d : D} (q : Is K F v d) : ∀ n : Nat, IsL K F (List.replicate n v) (List.replicate n d)
  | 0 => rfl
  | n + 1 => ⟨v, List.replicate n v, rfl, q, IsL.replicate q n⟩
theorem IsL.ints {F : Hp} : ∀ ns : List Int, IsL K F (ns.map V.int) (ns.map D.int)
  | [] => rfl
  | n :: ns => ⟨.int n, ns.map V.int, rfl, rfl, IsL.ints ns⟩
theorem IsL.ints' {F : Hp} : ∀ (ns : List Int) (vs : List V), IsL K F vs (ns.map D.int) → vs = ns.map V.int
  | [], _, e => e
  | n :: ns, _, ⟨v, r, e, q, t⟩ => by subst e; rw [show v = .int n from q, IsL.ints' ns r t]; rfl
end

/-! ### the state -/
/-- a def's entry: what must stand, what was frozen, all that was tracked; how classes of errors are called -/
structure Ent where
  B : Hp
  F0 : Hp
  H0 : Hp
  cls : Str → Value
  /-- the lent object -/
  la : Option Addr := none
structure Rel (K : PySem.W.Frag) (Y : Ent) (σ : St) (H : Hp) (g : G) (F : Hp) : Prop where
  sub : Same F H
  base : Same Y.F0 F
  keep : Same Y.B H
  dom : ∀ a, Y.H0 a ≠ none → H a ≠ none
  fr : ∀ a, F a ≠ none → Y.F0 a ≠ none ∨ Y.H0 a = none
  len : σ.length = g.length
  fz : ∀ (i : Nat) (d : D), g[i]? = some (some (.fz d)) → ∃ v, σ[i]? = some (some v) ∧ Is K F v d
  ow : ∀ (i : Nat) (l : Bool) (o : O), g[i]? = some (some (.ow l o)) → ∃ a, σ[i]? = some (some (.ref a)) ∧ OwAt K F H a o ∧ F a = none ∧ Y.B a = none ∧ (l = false → Y.H0 a = none) ∧ (l = true → Y.la = some a)
  inj : ∀ (i j : Nat) (l : Bool) (o : O) (l' : Bool) (o' : O) (a : Addr), i ≠ j → g[i]? = some (some (.ow l o)) → g[j]? = some (some (.ow l' o')) → σ[i]? = some (some (.ref a)) → σ[j]? ≠ some (some (.ref a))
/-- what a result is -/
def RV (K : PySem.W.Frag) (Y : Ent) (σ : St) (F H : Hp) (g : G) (v : V) : R → Prop
  | .fz d => Is K F v d
  | .at i => σ[i]? = some (some v)
  | .ow o => ∃ a, v = .ref a ∧ OwAt K F H a o ∧ F a = none ∧ Y.B a = none ∧ Y.H0 a = none ∧ ∀ (i : Nat) (l : Bool) (o' : O), g[i]? = some (some (.ow l o')) → σ[i]? ≠ some (some (.ref a))
/-- an exception's own dict -/
def XD (K : PySem.W.Frag) (F H : Hp) (d : Option Addr) (p : List (Str × D)) : Prop :=
  match p with
  | [] => d = none
  | p => ∃ a fs, d = some a ∧ H a = some (.xd fs) ∧ ∀ f x, p.lookup f = some x → ∃ v, fs.lookup f = some v ∧ Is K F v x
/-- what is wanted of an evaluation's end -/
def Post {α : Type} (K : PySem.W.Frag) (Y : Ent) (W : WX) (σ : St) (F : Hp) (J : α → G → Hp → Hp → Prop) : Rs α → Prop
  | .bad => False
  | .ok a g => ∀ H' F', Rel K Y σ H' g F' → Same F F' → J a g H' F'
  | .ex e g => ∀ d H' F', Rel K Y σ H' g F' → Same F F' → XD K F' H' d e.p → W (Y.cls e.c) d σ H'
theorem Post.bind {α β : Type} {K : PySem.W.Frag} {Y : Ent} {W : WX} {σ : St} {F : Hp} {J : β → G → Hp → Hp → Prop} {x : Rs α} {k : α → G → Rs β} (h : Post K Y W σ F J (x.andThen k)) :
    Post K Y W σ F (fun a g _ F' => Post K Y W σ F' J (k a g)) x := by
  cases x with
  | bad => exact h
  | ex e g => exact h
  | ok a g =>
    intro H1 F1 r s
    have h' : Post K Y W σ F J (k a g) := h
    revert h'
    cases k a g with
    | bad => exact id
    | ok b g2 => exact fun h' H2 F2 r2 s2 => h' H2 F2 r2 (s.trans s2)
    | ex e g2 => exact fun h' d H2 F2 r2 s2 => h' d H2 F2 r2 (s.trans s2)
theorem Post.imp {α : Type} {K : PySem.W.Frag} {Y : Ent} {W : WX} {σ : St} {F : Hp} {J J' : α → G → Hp → Hp → Prop} {x : Rs α} (h : Post K Y W σ F J x)
    (i : ∀ a g H' F', Rel K Y σ H' g F' → Same F F' → J a g H' F' → J' a g H' F') : Post K Y W σ F J' x := by
  cases x with
  | bad => exact h
  | ex e g => exact h
  | ok a g => exact fun H1 F1 r s => i a g H1 F1 r s (h H1 F1 r s)

def JV (K : PySem.W.Frag) (Y : Ent) (σ : St) (Q : VK) : R → G → Hp → Hp → Prop := fun r g H' F' => ∀ v, RV K Y σ F' H' g v r → Q v H'
def JB (Q : Bool → Hp → Prop) : Bool → G → Hp → Hp → Prop := fun b _ H' _ => Q b H'
def RVs (K : PySem.W.Frag) (Y : Ent) (σ : St) (F H : Hp) (g : G) : List V → List R → Prop
  | vs, [] => vs = []
  | vs, r :: rs => ∃ v us, vs = v :: us ∧ RV K Y σ F H g v r ∧ RVs K Y σ F H g us rs
def JA (K : PySem.W.Frag) (Y : Ent) (σ : St) (Q : List V → Hp → Prop) : List R → G → Hp → Hp → Prop := fun rs g H' F' => ∀ vs, RVs K Y σ F' H' g vs rs → Q vs H'

def tD (K : PySem.W.Frag) (Y : Ent) (W : WX) (f : M R) : TE := fun σ H Q => ∃ g F, Rel K Y σ H g F ∧ Post K Y W σ F (JV K Y σ Q) (f g)
def tT (K : PySem.W.Frag) (Y : Ent) (W : WX) (f : M Bool) : TT := fun σ H Q => ∃ g F, Rel K Y σ H g F ∧ Post K Y W σ F (JB Q) (f g)
def tA (K : PySem.W.Frag) (Y : Ent) (W : WX) (f : M (List R)) : TA := fun σ H Q => ∃ g F, Rel K Y σ H g F ∧ Post K Y W σ F (JA K Y σ Q) (f g)

/-- an expression computes f; a test; arguments -/
def DE (X : Cx) (Y : Ent) (W : WX) (e : Expr) (f : M R) : Prop := PE X e (tD X.K Y W f)
def DT (X : Cx) (Y : Ent) (W : WX) (e : Expr) (f : M Bool) : Prop := PT X e (tT X.K Y W f)
def DW (X : Cx) (Y : Ent) (W : WX) (e : Expr) (f : M Bool) : Prop := PW X e (tT X.K Y W f)
def DA (X : Cx) (Y : Ent) (W : WX) (es : List Expr) (f : M (List R)) : Prop := PA X es (tA X.K Y W f)

theorem pe_mono {X : Cx} {e : Expr} {t t' : TE} (h : PE X e t) (i : ∀ σ H Q, t' σ H Q → t σ H Q) : PE X e t' := ⟨fun pins s σ H Q I q => h.run pins s σ H Q I (i σ H Q q)⟩
theorem pt_mono {X : Cx} {e : Expr} {t t' : TT} (h : PT X e t) (i : ∀ σ H Q, t' σ H Q → t σ H Q) : PT X e t' := ⟨fun pins s σ H Q I q => h.run pins s σ H Q I (i σ H Q q)⟩
theorem pw_mono {X : Cx} {e : Expr} {t t' : TT} (h : PW X e t) (i : ∀ σ H Q, t' σ H Q → t σ H Q) : PW X e t' := ⟨fun w pins s σ H Q I q => h.run w pins s σ H Q I (i σ H Q q)⟩
theorem pa_mono {X : Cx} {e : List Expr} {t t' : TA} (h : PA X e t) (i : ∀ σ H Q, t' σ H Q → t σ H Q) : PA X e t' := ⟨fun p pins s σ H Q I q => h.run p pins s σ H Q I (i σ H Q q)⟩
theorem ps_mono {X : Cx} {e : Stmt} {t t' : TS} (h : PS X e t) (i : ∀ D σ H, t' D σ H → t D σ H) : PS X e t' := ⟨fun pins s σ H D I q => h.run pins s σ H D I (i D σ H q)⟩
theorem pss_mono {X : Cx} {e : List Stmt} {t t' : TS} (h : PSs X e t) (i : ∀ D σ H, t' D σ H → t D σ H) : PSs X e t' := ⟨fun pins s σ H D I q => h.run pins s σ H D I (i D σ H q)⟩
theorem pg_mono {X : Cx} {e : Expr} {t t' : TG} (h : PG X e t) (i : ∀ v σ H Q, t' v σ H Q → t v σ H Q) : PG X e t' := ⟨fun pins s σ H v u Q I r q => h.run pins s σ H v u Q I r (i v σ H Q q)⟩

section
variable {K : PySem.W.Frag} {Y : Ent} {σ : St} {H H' F F' : Hp} {g : G}
theorem Rel.own (r : Rel K Y σ H g F) {i : Nat} {l : Bool} {o : O} (e : g[i]? = some (some (.ow l o))) {v : V} (hv : σ[i]? = some (some v)) : ∃ a, v = .ref a ∧ OwAt K F H a o ∧ F a = none ∧ Y.B a = none ∧ (l = false → Y.H0 a = none) ∧ (l = true → Y.la = some a) := by
  obtain ⟨a, h1, h2⟩ := r.ow i l o e
  rw [hv] at h1
  exact ⟨a, Option.some.inj (Option.some.inj h1), h2⟩
/-- a step that keeps all that was tracked: new frozen things are new -/
structure Ext (F H F' H' : Hp) : Prop where
  hh : Same H H'
  ff : Same F F'
  fh : Same F' H'
  nw : ∀ a, F' a ≠ none → F a ≠ none ∨ H a = none
theorem Ext.refl (h : Same F H) : Ext F H F H := ⟨Same.refl _, Same.refl _, h, fun _ q => .inl q⟩
theorem Ext.none (x : Ext F H F' H') {a : Addr} (h1 : H a ≠ none) (h2 : F a = none) : F' a = none := by
  cases e : F' a with
  | none => rfl
  | some u => exact (x.nw a (by rw [e]; simp)).elim (fun q => absurd h2 q) (fun q => absurd q h1)
theorem Same.eq {H H' : Hp} (s : Same H H') {a : Addr} (h : H a ≠ none) : H' a = H a := by
  cases e : H a with
  | none => exact absurd e h
  | some u => exact s _ _ e
theorem Same.ne {H H' : Hp} (s : Same H H') {a : Addr} (h : H a ≠ none) : H' a ≠ none := by rw [Same.eq s h]; exact h
theorem OwAt.ne {a : Addr} {o : O} (q : OwAt K F H a o) : H a ≠ none := by obtain ⟨u, e, _⟩ := q.some; rw [e]; simp
theorem Rel.ext (r : Rel K Y σ H g F) (x : Ext F H F' H') : Rel K Y σ H' g F' where
  sub := x.fh
  base := r.base.trans x.ff
  keep := r.keep.trans x.hh
  dom := fun a h => Same.ne x.hh (r.dom a h)
  fr := fun a h => (x.nw a h).elim (r.fr a) fun q => .inr (by
    cases e : Y.H0 a with
    | none => rfl
    | some u => exact absurd q (r.dom a (by rw [e]; simp)))
  len := r.len
  fz := fun i d e => let ⟨v, h1, h2⟩ := r.fz i d e; ⟨v, h1, h2.mono x.ff⟩
  ow := fun i l o e => let ⟨a, h1, h2, h3, h4⟩ := r.ow i l o e; ⟨a, h1, h2.mono x.ff (Same.eq x.hh h2.ne), x.none h2.ne h3, h4⟩
  inj := r.inj
theorem upd_none {H : Hp} {a b : Addr} {o : HO} (h : upd H a o b = none) : b ≠ a ∧ H b = none := by
  by_cases e : b = a
  · subst e; rw [upd_same] at h; cases h
  · exact ⟨e, by rw [upd_ne e] at h; exact h⟩
theorem same_new {H : Hp} {p : Addr} {o : HO} (h : H p = none) : Same H (upd H p o) := fun b x e => by rw [upd_ne (ne_of_none e h)]; exact e
/-- an object of our own is frozen -/
theorem Rel.freezeAt (r : Rel K Y σ H g F) {a : Addr} {u : HO} (hu : H a = some u) (hf : F a = none) (h0 : Y.H0 a = none) {g' : G} (hl : g'.length = g.length)
    (hz : ∀ (i : Nat) (d : D), g'[i]? = some (some (.fz d)) → g[i]? = some (some (.fz d)) ∨ ∃ v, σ[i]? = some (some v) ∧ Is K (upd F a u) v d)
    (ho : ∀ (i : Nat) (l : Bool) (o : O), g'[i]? = some (some (.ow l o)) → g[i]? = some (some (.ow l o)) ∧ σ[i]? ≠ some (some (.ref a))) : Rel K Y σ H g' (upd F a u) ∧ Same F (upd F a u) := by
  have s : Same F (upd F a u) := same_new hf
  refine ⟨⟨fun b x e => ?_, r.base.trans s, r.keep, r.dom, fun b h => ?_, r.len.trans hl.symm, fun i d e => ?_, fun i l o e => ?_, fun i j l o l' o' b hij e1 e2 => r.inj i j l o l' o' b hij (ho i l o e1).1 (ho j l' o' e2).1⟩, s⟩
  · by_cases q : b = a
    · subst q; rw [upd_same] at e; rw [hu]; exact e
    · rw [upd_ne q] at e; exact r.sub _ _ e
  · by_cases q : b = a
    · subst q; exact .inr h0
    · rw [upd_ne q] at h; exact r.fr b h
  · rcases hz i d e with q | q
    · obtain ⟨v, h1, h2⟩ := r.fz i d q
      exact ⟨v, h1, h2.mono s⟩
    · exact q
  · obtain ⟨q, n⟩ := ho i l o e
    obtain ⟨b, h1, h2, h3, h4⟩ := r.ow i l o q
    have nb : b ≠ a := fun z => n (z ▸ h1)
    exact ⟨b, h1, h2.mono s rfl, by rw [upd_ne nb]; exact h3, h4⟩
theorem get_set {g : G} {i j : Nat} {x y : Option Sl} (h : (g.set i x)[j]? = some y) : (j = i ∧ x = y) ∨ (j ≠ i ∧ g[j]? = some y) := by
  by_cases e : j = i
  · subst e
    by_cases l : j < g.length
    · rw [List.getElem?_set_self l] at h; exact .inl ⟨rfl, Option.some.inj h⟩
    · rw [List.getElem?_eq_none (by rw [List.length_set]; omega)] at h; cases h
  · rw [List.getElem?_set_ne (Ne.symm e)] at h; exact .inr ⟨e, h⟩
theorem Rel.freezeSlot (r : Rel K Y σ H g F) {i : Nat} {o : O} (e : g[i]? = some (some (.ow false o))) {v : V} (hv : σ[i]? = some (some v)) :
    ∃ F', Rel K Y σ H (g.set i (some (.fz o.d))) F' ∧ Same F F' ∧ Is K F' v o.d := by
  obtain ⟨a, rfl, h2, h3, h4, h5⟩ := r.own e hv
  obtain ⟨u, hu, _⟩ := h2.some
  have s : Same F (upd F a u) := same_new h3
  have q : Is K (upd F a u) (.ref a) o.d := h2.freeze s (by rw [upd_same, hu])
  obtain ⟨r', s'⟩ := r.freezeAt (a := a) (u := u) hu h3 (h5.1 rfl) (g' := g.set i (some (.fz o.d))) (List.length_set ..) (fun j d ej => by
      rcases get_set ej with ⟨rfl, e'⟩ | ⟨_, e'⟩
      · cases e'; exact .inr ⟨_, hv, q⟩
      · exact .inl e') (fun j l o' ej => by
      rcases get_set ej with ⟨rfl, e'⟩ | ⟨n, e'⟩
      · cases e'
      · exact ⟨e', fun z => r.inj j i _ _ _ _ a n e' e z hv⟩)
  exact ⟨_, r', s', q⟩
theorem Rel.freezeTmp (r : Rel K Y σ H g F) {o : O} {v : V} (hv : RV K Y σ F H g v (.ow o)) : ∃ F', Rel K Y σ H g F' ∧ Same F F' ∧ Is K F' v o.d := by
  obtain ⟨a, rfl, h2, h3, h4, h5, h6⟩ := hv
  obtain ⟨u, hu, _⟩ := h2.some
  have s : Same F (upd F a u) := same_new h3
  obtain ⟨r', s'⟩ := r.freezeAt (a := a) (u := u) hu h3 h5 (g' := g) rfl (fun j d ej => .inl ej) (fun j l o' ej => ⟨ej, h6 j l o' ej⟩)
  exact ⟨_, r', s', h2.freeze s (by rw [upd_same, hu])⟩
end

/-! ### freezing on the way -/
/-- an owned new object is frozen -/
def pkR : R → M R := fun r g => match r with
  | .ow o => .ok (.fz o.d) g
  | r => .ok r g
def pk (f : M R) : M R := mb f pkR
/-- .. a slot's object too -/
def escR : R → M R := fun r g => match r with
  | .ow o => .ok (.fz o.d) g
  | .fz d => .ok (.fz d) g
  | .at i => match g[i]? with
    | some (some (.ow false o)) => .ok (.fz o.d) (g.set i (some (.fz o.d)))
    | some (some (.fz d)) => .ok (.fz d) g
    | _ => .bad
def esc (f : M R) : M R := mb f escR
theorem Post.pkR {K : PySem.W.Frag} {Y : Ent} {W : WX} {σ : St} {H F : Hp} {Q : VK} {r : R} {g : G} {v : V} (h : Post K Y W σ F (JV K Y σ Q) (pkR r g)) (rl : Rel K Y σ H g F) (hv : RV K Y σ F H g v r) : Q v H := by
  cases r with
  | fz d => exact h H F rl (Same.refl _) v hv
  | «at» i => exact h H F rl (Same.refl _) v hv
  | ow o =>
    obtain ⟨F', r', s', q⟩ := rl.freezeTmp hv
    exact h H F' r' s' v q
theorem Post.escR {K : PySem.W.Frag} {Y : Ent} {W : WX} {σ : St} {H F : Hp} {Q : VK} {r : R} {g : G} {v : V} (h : Post K Y W σ F (JV K Y σ Q) (escR r g)) (rl : Rel K Y σ H g F) (hv : RV K Y σ F H g v r) : Q v H := by
  cases r with
  | fz d => exact h H F rl (Same.refl _) v hv
  | ow o =>
    obtain ⟨F', r', s', q⟩ := rl.freezeTmp hv
    exact h H F' r' s' v q
  | «at» i =>
    unfold DL.escR at h
    simp only at h
    split at h
    · rename_i o e
      obtain ⟨F', r', s', q⟩ := rl.freezeSlot e hv
      exact h H F' r' s' v q
    · rename_i d e
      obtain ⟨u, h1, h2⟩ := rl.fz i d e
      rw [show σ[i]? = some (some v) from hv] at h1
      cases h1
      exact h H F rl (Same.refl _) v h2
    · exact h.elim
theorem de_pk {X : Cx} {Y : Ent} {W : WX} {e : Expr} {f : M R} (h : DE X Y W e f) : DE X Y W e (pk f) :=
  pe_mono h fun σ H Q ⟨g, F, r, p⟩ => ⟨g, F, r, p.bind.imp fun a g' H' F' r' s' q v hv => q.pkR r' hv⟩
theorem de_esc {X : Cx} {Y : Ent} {W : WX} {e : Expr} {f : M R} (h : DE X Y W e f) : DE X Y W e (esc f) :=
  pe_mono h fun σ H Q ⟨g, F, r, p⟩ => ⟨g, F, r, p.bind.imp fun a g' H' F' r' s' q v hv => q.escR r' hv⟩
end DL

namespace DL
open PySem PySem.Spec L2

/-! ### contents and results -/
def cont (g : G) : R → Option D
  | .fz d => some d
  | .at i => match g[i]? with
    | some (some (.ow _ o)) => some o.d
    | some (some (.fz d)) => some d
    | _ => none
  | .ow _ => none
/-- the value v holds d now -/
def CV (K : PySem.W.Frag) (F H : Hp) (v : V) (d : D) : Prop := Is K F v d ∨ ∃ a o, v = .ref a ∧ OwAt K F H a o ∧ o.d = d
def CVs (K : PySem.W.Frag) (F H : Hp) : List V → List D → Prop
  | vs, [] => vs = []
  | vs, d :: ds => ∃ v us, vs = v :: us ∧ CV K F H v d ∧ CVs K F H us ds
def RP (K : PySem.W.Frag) (F H : Hp) (Q : VK) : R → Prop
  | .fz d => ∀ v H' F', Ext F H F' H' → Is K F' v d → Q v H'
  | .ow o => ∀ a H' F', Ext F H F' H' → OwAt K F' H' a o → F' a = none → H a = none → Q (.ref a) H'
  | .at _ => False
section
variable {K : PySem.W.Frag} {Y : Ent} {σ : St} {H F F' : Hp} {g : G} {W : WX} {Q : VK}
theorem Rel.cv (r : Rel K Y σ H g F) {v : V} {x : R} {d : D} (hv : RV K Y σ F H g v x) (h : cont g x = some d) : CV K F H v d := by
  cases x with
  | fz e => exact .inl (by rw [show e = d from Option.some.inj h] at hv; exact hv)
  | ow o => cases h
  | «at» i =>
    unfold cont at h
    simp only at h
    split at h
    · rename_i l o e
      obtain ⟨a, rfl, q, _⟩ := r.own e hv
      exact .inr ⟨a, o, rfl, q, Option.some.inj h⟩
    · rename_i e' e
      obtain ⟨u, h1, h2⟩ := r.fz i e' e
      rw [show σ[i]? = some (some v) from hv] at h1
      cases h1
      exact .inl (by rw [← Option.some.inj h]; exact h2)
    · cases h
theorem RV.keep {H' : Hp} {g' : G} {v : V} {x : R} (s : Same F F') (h : RV K Y σ F H g v x) (hc : ∀ o, x ≠ .ow o) : RV K Y σ F' H' g' v x := by
  cases x with
  | fz e => exact Is.mono s _ _ h
  | «at» i => exact h
  | ow o => exact absurd rfl (hc o)
theorem cont_ne {x : R} {d : D} (h : cont g x = some d) : ∀ o, x ≠ .ow o := fun o e => by subst e; cases h
theorem Post.rp {r : R} (hr : ∀ i, r ≠ .at i) (rl : Rel K Y σ H g F) (p : ∀ H' F', Rel K Y σ H' g F' → Same F F' → JV K Y σ Q r g H' F') : RP K F H Q r := by
  cases r with
  | fz d => exact fun v H' F' x q => p H' F' (rl.ext x) x.ff v q
  | «at» i => exact absurd rfl (hr i)
  | ow o =>
    refine fun a H' F' x q h1 h2 => p H' F' (rl.ext x) x.ff (.ref a) ⟨a, rfl, q, h1, ?_, ?_, fun i l o' e z => ?_⟩
    · cases e : Y.B a with
      | none => rfl
      | some u => rw [rl.keep _ _ e] at h2; cases h2
    · cases e : Y.H0 a with
      | none => rfl
      | some u => exact absurd h2 (rl.dom a (by rw [e]; simp))
    · obtain ⟨b, h3, h4, _⟩ := rl.ow i l o' e
      rw [z] at h3
      cases h3
      exact h4.ne h2
theorem RP.now {v : V} {d : D} (s : Same F H) (h : RP K F H Q (.fz d)) (q : Is K F v d) : Q v H := h v H F (Ext.refl s) q
theorem none_of_same {a : Addr} (s : Same F H) (h : H a = none) : F a = none := by
  cases e : F a with
  | none => rfl
  | some u => rw [s _ _ e] at h; cases h
theorem ext_tup {p : Addr} {vs : List V} (s : Same F H) (hp : H p = none) : Ext F H (upd F p (.tup vs)) (upd H p (.tup vs)) :=
  ⟨same_new hp, same_new (none_of_same s hp), fun b o e => by
    by_cases q : b = p
    · subst q; rw [upd_same] at e ⊢; exact e
    · rw [upd_ne q] at e ⊢; exact s _ _ e, fun a h => by
    by_cases q : a = p
    · subst q; exact .inr hp
    · rw [upd_ne q] at h; exact .inl h⟩
theorem RP.tup {p : Addr} {vs : List V} {ds : List D} (s : Same F H) (h : RP K F H Q (.fz (.tup ds))) (q : IsL K F vs ds) (hz : ds.length ≤ sizeLine) (hp : H p = none) : Q (.ref p) (upd H p (.tup vs)) :=
  h (.ref p) _ _ (ext_tup s hp) ⟨p, vs, rfl, SqT.of upd_same, hz, IsL.mono (same_new (none_of_same s hp)) _ _ q⟩
theorem ext_own {p : Addr} {u : HO} (s : Same F H) (hp : H p = none) : Ext F H F (upd H p u) :=
  ⟨same_new hp, Same.refl _, s.trans (same_new hp), fun a h => .inl h⟩
theorem RP.ls {p : Addr} {vs : List V} {ds : List D} (s : Same F H) (h : RP K F H Q (.ow (.ls ds))) (q : IsL K F vs ds) (hz : ds.length ≤ sizeLine) (hp : H p = none) : Q (.ref p) (upd H p (.lst vs)) :=
  h p _ _ (ext_own s hp) ⟨vs, upd_same, hz, q⟩ (none_of_same s hp) hp
/-! inversions -/
theorem CV.int {v : V} {i : Int} (h : CV K F H v (.int i)) : v = .int i := by
  rcases h with h | ⟨a, o, _, _, e⟩
  · exact h
  · cases o <;> cases e
theorem CV.bl {v : V} {i : Bool} (h : CV K F H v (.bl i)) : v = .bl i := by
  rcases h with h | ⟨a, o, _, _, e⟩
  · exact h
  · cases o <;> cases e
theorem CV.non {v : V} (h : CV K F H v .non) : v = .non := by
  rcases h with h | ⟨a, o, _, _, e⟩
  · exact h
  · cases o <;> cases e
theorem CV.str {v : V} {z : Str} (h : CV K F H v (.str z)) : v = .str z ∧ z.length ≤ sizeLine := by
  rcases h with h | ⟨a, o, _, _, e⟩
  · exact h
  · cases o <;> cases e
theorem CV.tup {v : V} {ds : List D} (h : CV K F H v (.tup ds)) : ∃ a vs, v = .ref a ∧ SqT K F a vs ∧ ds.length ≤ sizeLine ∧ IsL K F vs ds := by
  rcases h with h | ⟨a, o, _, _, e⟩
  · exact h
  · cases o <;> cases e
theorem CV.scr {v : V} {ns : List Int} (h : CV K F H v (.scr ns)) : ∃ a, v = .ref a ∧ SqL K F a (ns.map V.int) ∧ ns.length ≤ sizeLine := by
  rcases h with h | ⟨a, o, _, _, e⟩
  · exact h
  · cases o <;> cases e
theorem CV.lst {v : V} {ds : List D} (s : Same F H) (h : CV K F H v (.lst ds)) : ∃ a vs, v = .ref a ∧ H a = some (.lst vs) ∧ ds.length ≤ sizeLine ∧ IsL K F vs ds := by
  rcases h with h | ⟨a, o, e1, q, e⟩
  · obtain ⟨a, vs, e, q, z, t⟩ := h
    exact ⟨a, vs, e, s _ _ q, z, t⟩
  · cases o with
    | ls xs => cases e; obtain ⟨vs, h1, h2, h3⟩ := q; exact ⟨a, vs, e1, h1, h2, h3⟩
    | dk xs => cases e
    | dt xs => cases e
theorem CVs.one {vs : List V} {d : D} (h : CVs K F H vs [d]) : ∃ v, vs = [v] ∧ CV K F H v d := by
  obtain ⟨v, us, rfl, q, e⟩ := h
  exact ⟨v, by rw [show us = [] from e], q⟩
theorem CVs.two {vs : List V} {d e : D} (h : CVs K F H vs [d, e]) : ∃ v u, vs = [v, u] ∧ CV K F H v d ∧ CV K F H u e := by
  obtain ⟨v, us, rfl, q, t⟩ := h
  obtain ⟨u, rfl, q2⟩ := CVs.one t
  exact ⟨v, u, rfl, q, q2⟩
end

/-! ### names, constants -/
def eVar (i : Nat) : M R := fun g => match g[i]? with
  | some (some (.fz d)) => .ok (.fz d) g
  | some (some (.ow _ _)) => .ok (.at i) g
  | _ => .bad
def eC (d : D) : M R := fun g => .ok (.fz d) g
section
variable {X : Cx} {Y : Ent} {W : WX} {pos : Pos}
theorem de_var {i : Nat} {x : Str} (hN : X.N[i]? = some x := by rfl) (hv : Vis X.env.scope x := by first | exact Or.inl rfl | exact Or.inr (Or.inl rfl) | exact Or.inr (Or.inr rfl))
    (hd : (x == ("__debug__" : Str)) = false := by decide) (hcd : (x == ("__classdict__" : Str)) = false := by decide) : DE X Y W (.Name x pos) (eVar i) := by
  refine pe_mono (pe_var hN hv hd hcd) fun σ H Q ⟨g, F, r, p⟩ => ?_
  unfold eVar at p
  split at p
  · rename_i d e
    obtain ⟨v, h1, h2⟩ := r.fz i d e
    exact ⟨v, h1, p H F r (Same.refl _) v h2⟩
  · rename_i l o e
    obtain ⟨a, h1, h2⟩ := r.ow i l o e
    exact ⟨_, h1, p H F r (Same.refl _) _ h1⟩
  · exact p.elim
theorem de_const {e : Expr} {v : V} {d : D} (h : PE X e (tC v)) (q : ∀ F, Is X.K F v d) : DE X Y W e (eC d) :=
  pe_mono h fun σ H Q ⟨g, F, r, p⟩ => p H F r (Same.refl _) v (q F)
theorem de_int {i : Int} {j : Nat} : DE X Y W (.Constant (.int i) j pos) (eC (.int i)) := de_const pe_int fun _ => rfl
theorem de_bl {b : Bool} {j : Nat} : DE X Y W (.Constant (.bool b) j pos) (eC (.bl b)) := de_const pe_bl fun _ => rfl
theorem de_non {j : Nat} : DE X Y W (.Constant .none j pos) (eC .non) := de_const pe_non fun _ => rfl
theorem de_str {x : Str} {j : Nat} (h : x.length ≤ sizeLine := by decide) : DE X Y W (.Constant (.str x) j pos) (eC (.str x)) := de_const pe_str fun _ => ⟨rfl, h⟩
/-- a constant of the module -/
theorem de_glob {x : Str} {v : V} {u : Value} {d : D} (hg : Gl X x) (hm : X.mg x = some u) (r : RelV v u) (q : ∀ F, Is X.K F v d) (hd : (x == ("__debug__" : Str)) = false := by decide) : DE X Y W (.Name x pos) (eC d) :=
  de_const (pe_glob hg hm r hd) q

/-! ### operators -/
def OpD (X : Cx) (f : Value → Value → Sem Value) (op : D → D → Option R) : Prop :=
  OpR X f fun x y H Q => ∃ F a b r, Same F H ∧ CV X.K F H x a ∧ CV X.K F H y b ∧ op a b = some r ∧ RP X.K F H Q r
def done : Option R → M R := fun o g => match o with
  | some (.fz d) => .ok (.fz d) g
  | some (.ow o) => .ok (.ow o) g
  | _ => .bad
theorem Post.done {K : PySem.W.Frag} {σ : St} {H F : Hp} {Q : VK} {g : G} {o : Option R} (h : Post K Y W σ F (JV K Y σ Q) (done o g)) (rl : Rel K Y σ H g F) : ∃ r, o = some r ∧ RP K F H Q r := by
  unfold DL.done at h
  split at h
  · exact ⟨_, rfl, Post.rp (fun _ e => nomatch e) rl h⟩
  · exact ⟨_, rfl, Post.rp (fun _ e => nomatch e) rl h⟩
  · exact h.elim
def op2 (op : D → D → Option R) (x y : R) : M R := fun g => match cont g x, cont g y with
  | some a, some b => done (op a b) g
  | _, _ => .bad
theorem Post.op2 {K : PySem.W.Frag} {σ : St} {H F : Hp} {Q : VK} {g : G} {op : D → D → Option R} {x y : R} (h : Post K Y W σ F (JV K Y σ Q) (op2 op x y g)) (rl : Rel K Y σ H g F) :
    ∃ a b r, cont g x = some a ∧ cont g y = some b ∧ op a b = some r ∧ RP K F H Q r := by
  unfold DL.op2 at h
  split at h
  · rename_i a b e1 e2
    obtain ⟨r, h1, h2⟩ := Post.done h rl
    exact ⟨a, b, r, e1, e2, h1, h2⟩
  · exact h.elim
def eB (op : D → D → Option R) (f k : M R) : M R := mb (pk f) fun x => mb (pk k) fun y => op2 op x y
theorem two_args {a b : Expr} {f k : M R} (ha : DE X Y W a f) (hb : DE X Y W b k) {op : D → D → Option R} {σ : St} {H : Hp} {Q : VK} (h : tD X.K Y W (eB op f k) σ H Q) :
    tD X.K Y W (pk f) σ H fun x H1 => tD X.K Y W (pk k) σ H1 fun y H2 => ∃ F a b r, Same F H2 ∧ CV X.K F H2 x a ∧ CV X.K F H2 y b ∧ op a b = some r ∧ RP X.K F H2 Q r := by
  obtain ⟨g, F, rl, p⟩ := h
  refine ⟨g, F, rl, (p.bind).imp fun x g1 H1 F1 r1 s1 q v hv => ⟨g1, F1, r1, (q.bind).imp fun y g2 H2 F2 r2 s2 q2 u hu => ?_⟩⟩
  obtain ⟨da, db, r, e1, e2, h1, h2⟩ := Post.op2 q2 r2
  exact ⟨F2, da, db, r, r2.sub, r2.cv (hv.keep s2 (cont_ne e1)) e1, r2.cv hu e2, h1, h2⟩
theorem de_bin {a b : Expr} {op : Operator} {bop : D → D → Option R} {f k : M R} (ho : OpD X (binaryOp op) bop) (ha : DE X Y W a f) (hb : DE X Y W b k) : DE X Y W (.BinOp a op b pos) (eB bop f k) :=
  pe_mono (pe_op ho (de_pk ha) (de_pk hb)) fun σ H Q h => two_args ha hb h
theorem de_cmp {a b : Expr} {op : CmpOp} {bop : D → D → Option R} {f k : M R} (ho : OpD X (compareOp op) bop) (ha : DE X Y W a f) (hb : DE X Y W b k) (hm : behindInMarks op b = false) : DE X Y W (.Compare a [op] [b] pos) (eB bop f k) :=
  pe_mono (pe_cmpR ho (de_pk ha) (de_pk hb) hm) fun σ H Q h => two_args ha hb h
/-- a value that is a bool, as a test -/
def toB (r : R) : M Bool := fun g => match r with
  | .fz (.bl b) => .ok b g
  | _ => .bad
def eTest (f : M R) : M Bool := mb f toB
theorem Post.toB {K : PySem.W.Frag} {σ : St} {H F : Hp} {Q : Bool → Hp → Prop} {g : G} {r : R} (h : Post K Y W σ F (JB Q) (toB r g)) (rl : Rel K Y σ H g F) : ∃ b, r = .fz (.bl b) ∧ Q b H := by
  unfold DL.toB at h
  split at h
  · exact ⟨_, rfl, h H F rl (Same.refl _)⟩
  · exact h.elim
theorem test_of {f : M R} {σ : St} {H : Hp} {Q : Bool → Hp → Prop} {K : PySem.W.Frag} (h : tT K Y W (eTest f) σ H Q) : tD K Y W f σ H fun x H' => ∃ c, x = .bl c ∧ Q c H' := by
  obtain ⟨g, F, rl, p⟩ := h
  refine ⟨g, F, rl, (p.bind).imp fun x g1 H1 F1 r1 s1 q v hv => ?_⟩
  obtain ⟨b, rfl, q2⟩ := Post.toB q r1
  exact ⟨b, hv, q2⟩
theorem dt_val {e : Expr} {f : M R} (h : DE X Y W e f) (he : ∀ whole, isTrue e X.env whole = (do let v ← whole; standAt e.pos; holding [v] (truthy v)) := by intro _; rfl) : DT X Y W e (eTest f) :=
  pt_mono (pt_val h he) fun σ H Q h => test_of h
theorem dt_cmp {a b : Expr} {op : CmpOp} {bop : D → D → Option R} {f k : M R} (ho : OpD X (compareOp op) bop) (ha : DE X Y W a f) (hb : DE X Y W b k) (hm : behindInMarks op b = false) : DT X Y W (.Compare a [op] [b] pos) (eTest (eB bop f k)) :=
  pt_mono (pt_cmpR ho (de_pk ha) (de_pk hb) hm) fun σ H Q h => two_args ha hb (test_of h)
/-- a op b op' c -/
def eCh (op op' : D → D → Option R) (f k j : M R) : M R := mb (pk f) fun x => mb (pk k) fun y => mb (op2 op x y) fun z => mb (toB z) fun t => if t = true then mb (pk j) fun w => op2 op' y w else eC (.bl false)
theorem chain_args {a b c : Expr} {f k j : M R} (ha : DE X Y W a f) (hb : DE X Y W b k) (hc : DE X Y W c j) {op op' : D → D → Option R} {σ : St} {H : Hp} {Q : VK} (h : tD X.K Y W (eCh op op' f k j) σ H Q) :
    tChain (fun x y H Q => ∃ F a b r, Same F H ∧ CV X.K F H x a ∧ CV X.K F H y b ∧ op a b = some r ∧ RP X.K F H Q r)
      (fun x y H Q => ∃ F a b r, Same F H ∧ CV X.K F H x a ∧ CV X.K F H y b ∧ op' a b = some r ∧ RP X.K F H Q r) (tD X.K Y W (pk f)) (tD X.K Y W (pk k)) (tD X.K Y W (pk j)) σ H Q := by
  obtain ⟨g, F, rl, p⟩ := h
  refine ⟨g, F, rl, (p.bind).imp fun x g1 H1 F1 r1 s1 q v hv => ⟨g1, F1, r1, (q.bind).imp fun y g2 H2 F2 r2 s2 q2 u hu => ?_⟩⟩
  have q3 := q2.bind
  have q4 : ∃ a b r, cont g2 x = some a ∧ cont g2 y = some b ∧ op a b = some r ∧ (∃ t, r = .fz (.bl t)) := by
    unfold DL.op2 at q3
    split at q3
    · rename_i a b e1 e2
      refine ⟨a, b, ?_⟩
      cases e : op a b with
      | none => rw [e] at q3; exact q3.elim
      | some r =>
        rw [e] at q3
        refine ⟨r, e1, e2, rfl, ?_⟩
        cases r with
        | «at» i => exact q3.elim
        | ow o =>
          have q3 : Post X.K Y W σ F2 (JV X.K Y σ Q) (mb (toB (.ow o)) (fun t => if t = true then mb (pk j) fun w => op2 op' y w else eC (.bl false)) g2) := q2 |> fun q2 => by
            have z : Post X.K Y W σ F2 (JV X.K Y σ Q) ((DL.op2 op x y g2).andThen fun z => mb (toB z) fun t => if t = true then mb (pk j) fun w => DL.op2 op' y w else eC (.bl false)) := q2
            unfold DL.op2 at z
            rw [e1, e2] at z
            simp only [e, done, then_ok] at z
            exact z
          exact q3.elim
        | fz d =>
          have z : Post X.K Y W σ F2 (JV X.K Y σ Q) ((DL.op2 op x y g2).andThen fun z => mb (toB z) fun t => if t = true then mb (pk j) fun w => DL.op2 op' y w else eC (.bl false)) := q2
          unfold DL.op2 at z
          rw [e1, e2] at z
          simp only [e, done, then_ok] at z
          cases d with
          | bl t => exact ⟨t, rfl⟩
          | non => exact z.elim
          | int _ => exact z.elim
          | str _ => exact z.elim
          | tup _ => exact z.elim
          | lst _ => exact z.elim
          | dk _ => exact z.elim
          | dt _ => exact z.elim
          | scr _ => exact z.elim
    · exact q3.elim
  obtain ⟨da, db, r, e1, e2, h1, t, rfl⟩ := q4
  have z : Post X.K Y W σ F2 (JV X.K Y σ Q) ((DL.op2 op x y g2).andThen fun z => mb (toB z) fun t => if t = true then mb (pk j) fun w => DL.op2 op' y w else eC (.bl false)) := q2
  unfold DL.op2 at z
  rw [e1, e2] at z
  simp only [h1, done, then_ok] at z
  have z2 : Post X.K Y W σ F2 (JV X.K Y σ Q) ((if t = true then mb (pk j) fun w => DL.op2 op' y w else eC (.bl false)) g2) := z
  refine ⟨F2, da, db, .fz (.bl t), r2.sub, r2.cv (hv.keep s2 (cont_ne e1)) e1, r2.cv hu e2, h1, fun v' H3 F3 x3 hv' => ⟨t, hv', ?_⟩⟩
  have r3 := r2.ext x3
  cases t with
  | false =>
    rw [if_neg Bool.false_ne_true] at z2 ⊢
    exact z2 H3 F3 r3 x3.ff _ rfl
  | true =>
    rw [if_pos rfl] at z2 ⊢
    refine ⟨g2, F3, r3, ?_⟩
    have z3 := Post.bind z2
    revert z3
    cases pk j g2 with
    | bad => exact id
    | ex e g' => exact fun z3 d H4 F4 r4 s4 => z3 d H4 F4 r4 (x3.ff.trans s4)
    | ok w g4 =>
      intro z3 H4 F4 r4 s4 w' hw'
      obtain ⟨da', db', r', e1', e2', h1', h2'⟩ := Post.op2 (z3 H4 F4 r4 (x3.ff.trans s4)) r4
      exact ⟨F4, da', db', r', r4.sub, r4.cv (hu.keep (x3.ff.trans s4) (cont_ne e1')) e1', r4.cv hw' e2', h1', h2'⟩
theorem de_chain {a b c : Expr} {op op' : CmpOp} {bop bop' : D → D → Option R} {f k j : M R} (ho : OpD X (compareOp op) bop) (ho' : OpD X (compareOp op') bop') (ha : DE X Y W a f) (hb : DE X Y W b k) (hc : DE X Y W c j)
    (hm : lastMarks [op, op'] [b, c] = false := by with_unfolding_all rfl) : DE X Y W (.Compare a [op, op'] [b, c] pos) (eCh bop bop' f k j) :=
  pe_mono (pe_chain ho ho' (de_pk ha) (de_pk hb) (de_pk hc) hm) fun σ H Q h => chain_args ha hb hc h
theorem dt_chain {a b c : Expr} {op op' : CmpOp} {bop bop' : D → D → Option R} {f k j : M R} (ho : OpD X (compareOp op) bop) (ho' : OpD X (compareOp op') bop') (ha : DE X Y W a f) (hb : DE X Y W b k) (hc : DE X Y W c j)
    (hm : lastMarks [op, op'] [b, c] = false := by with_unfolding_all rfl) : DT X Y W (.Compare a [op, op'] [b, c] pos) (eTest (eCh bop bop' f k j)) :=
  pt_mono (pt_chain ho ho' (de_pk ha) (de_pk hb) (de_pk hc) hm) fun σ H Q h => chain_args ha hb hc (test_of h)
end
end DL

namespace DL
open PySem PySem.Spec L2

/-! ### data as the library's data -/
mutual
def D.py : D → PyData
  | .non => .none
  | .bl b => .bool b
  | .int i => .int i
  | .str s => .str s
  | .tup ds => .tuple (pyL ds)
  | .lst ds => .list (pyL ds)
  | .dk _ => .dict []
  | .dt _ => .dict []
  | .scr _ => .none
def pyL : List D → List PyData
  | [] => []
  | d :: ds => d.py :: pyL ds
/-- no dicts in it -/
def D.flat : D → Bool
  | .tup ds => flatL ds
  | .lst ds => flatL ds
  | .dk _ => false
  | .dt _ => false
  | .scr _ => false
  | _ => true
def flatL : List D → Bool
  | [] => true
  | d :: ds => d.flat && flatL ds
end
theorem pyL_map : ∀ ds : List D, pyL ds = ds.map D.py
  | [] => rfl
  | d :: ds => by rw [pyL, pyL_map ds]; rfl
section
variable {K : PySem.W.Frag}
mutual
theorem Is.dp {F H : Hp} (h : Same F H) : ∀ (d : D) (v : V), d.flat = true → Is K F v d → Dp K H v d.py
  | .non, _, _, q => by rw [show _ = V.non from q]; exact .non
  | .bl b, _, _, q => by rw [show _ = V.bl b from q]; exact .bl b
  | .int i, _, _, q => by rw [show _ = V.int i from q]; exact .int i
  | .str s, _, _, q => by rw [show _ = V.str s from q.1]; exact .str s
  | .tup ds, _, f, ⟨a, vs, e, s, z, q⟩ => by rw [e]; exact .tup (sqT_mono h s) (IsL.dp h ds vs f q)
  | .lst ds, _, f, ⟨a, vs, e, s, z, q⟩ => by rw [e]; exact .lst (SqL.of (h _ _ s)) (IsL.dp h ds vs f q)
  | .dk _, _, f, _ => by cases f
  | .dt _, _, f, _ => by cases f
  | .scr _, _, f, _ => by cases f
theorem IsL.dp {F H : Hp} (h : Same F H) : ∀ (ds : List D) (vs : List V), flatL ds = true → IsL K F vs ds → DpAll K H vs (pyL ds)
  | [], _, _, q => by rw [show _ = [] from q]; exact .nil
  | d :: ds, _, f, ⟨v, r, e, q, t⟩ => by
    rw [flatL, Bool.and_eq_true] at f
    rw [e]; exact .cons (Is.dp h d v f.1 q) (IsL.dp h ds r f.2 t)
end
theorem CV.dp {F H : Hp} (s : Same F H) {v : V} {d : D} (f : d.flat = true) (h : CV K F H v d) : Dp K H v d.py := by
  rcases h with h | ⟨a, o, rfl, q, rfl⟩
  · exact Is.dp s _ _ f h
  · cases o with
    | ls ds => obtain ⟨vs, h1, h2, h3⟩ := q; exact .lst (SqL.of h1) (IsL.dp s ds vs f h3)
    | dk _ => cases f
    | dt _ => cases f
end

/-! ### the operators' meaning -/
def bAdd : D → D → Option R
  | .int i, .int j => some (.fz (.int (i + j)))
  | .str a, .str b => if a.length + b.length ≤ sizeLine then some (.fz (.str (a ++ b))) else none
  | .lst xs, .lst ys => if xs.length + ys.length ≤ sizeLine then some (.ow (.ls (xs ++ ys))) else none
  | .tup xs, .tup ys => if xs.length + ys.length ≤ sizeLine then some (.fz (.tup (xs ++ ys))) else none
  | _, _ => none
def bSub : D → D → Option R
  | .int i, .int j => some (.fz (.int (i - j)))
  | _, _ => none
def bMul : D → D → Option R
  | .int i, .int j => if (-(2 ^ 64) < i ∧ i < 2 ^ 64) ∨ (-(2 ^ 64) < j ∧ j < 2 ^ 64) then some (.fz (.int (i * j))) else none
  | .lst xs, .int k => if -(2 ^ 63) ≤ k ∧ k < 2 ^ 63 ∧ xs.length * k.toNat ≤ sizeLine then some (.ow (.ls (List.replicate k.toNat xs).flatten)) else none
  | .tup xs, .int k => if xs ≠ [] ∧ 2 ≤ k ∧ k ≤ 1000 ∧ xs.length ≤ 1000 ∧ xs.length * k.toNat ≤ sizeLine then some (.fz (.tup (List.replicate k.toNat xs).flatten)) else none
  | _, _ => none
def bFdiv : D → D → Option R
  | .int i, .int j => if 0 < j ∧ j < 1073741824 then some (.fz (.int (i / j))) else none
  | _, _ => none
def bMod : D → D → Option R
  | .int i, .int j => if 0 < j then some (.fz (.int (i % j))) else none
  | _, _ => none
def bPow : D → D → Option R
  | .int i, .int j => if 0 ≤ j ∧ j ≤ 1000000 ∧ i.natAbs < 2 ^ 64 then some (.fz (.int (i ^ j.toNat))) else none
  | _, _ => none
def okEq (a b : D) : Bool := a.flat && b.flat && SeqAt.shaped a.py && SeqAt.shaped b.py
def cEq : D → D → Option R
  | .int i, .int j => some (.fz (.bl (i == j)))
  | .str a, .str b => some (.fz (.bl (a == b)))
  | .bl a, .bl b => some (.fz (.bl (a == b)))
  | a, b => if okEq a b = true then some (.fz (.bl (PyData.eqv a.py b.py))) else none
def cNe : D → D → Option R
  | .int i, .int j => some (.fz (.bl (!(i == j))))
  | .str a, .str b => some (.fz (.bl (!(a == b))))
  | .bl a, .bl b => some (.fz (.bl (!(a == b))))
  | a, b => if okEq a b = true then some (.fz (.bl (!PyData.eqv a.py b.py))) else none
def cI (p : Int → Int → Bool) : D → D → Option R
  | .int i, .int j => some (.fz (.bl (p i j)))
  | _, _ => none
def cLt : D → D → Option R := cI fun i j => decide (i < j)
def cLe : D → D → Option R := cI fun i j => decide (i ≤ j)
def cGt : D → D → Option R := cI fun i j => decide (j < i)
def cGe : D → D → Option R := cI fun i j => decide (j ≤ i)
/-- a text within a text -/
def subS (i j : Str) : Bool := !(Builtin.Str.occurrences j i 0 j.length 1).isEmpty
def flatI : D → Bool
  | .non => true | .bl _ => true | .int _ => true | .str _ => true | _ => false
def toV : D → V
  | .non => .non | .bl b => .bl b | .int i => .int i | .str s => .str s | _ => .non
def memD (x : D) (xs : List D) : Bool := inV (toV x) (xs.map toV)
def hasK (k : Key) (kvs : List (Key × D)) : Bool := kvs.any fun kv => decide (kv.1 = k)
def cIn (neg : Bool) : D → D → Option R
  | .str i, .str j => some (.fz (.bl (if neg then !subS i j else subS i j)))
  | x, .lst xs => if flatI x && xs.all flatI then some (.fz (.bl (if neg then !memD x xs else memD x xs))) else none
  | x, .tup xs => if flatI x && xs.all flatI then some (.fz (.bl (if neg then !memD x xs else memD x xs))) else none
  | _, _ => none
def isNon : D → Bool
  | .non => true
  | _ => false
def cIsN (neg : Bool) : D → D → Option R
  | a, .non => some (.fz (.bl (if neg then !isNon a else isNon a)))
  | _, _ => none


theorem str_add_length (a b : Str) : (a ++ b).length = a.length + b.length := by
  show (a.cps ++ b.cps).size = _
  rw [Array.size_append]; rfl
theorem IsL.nil_iff {K : PySem.W.Frag} {F : Hp} {vs : List V} {ds : List D} (q : IsL K F vs ds) : vs = [] ↔ ds = [] := by
  have h := q.length
  cases vs <;> cases ds <;> simp_all
theorem IsL.rep {K : PySem.W.Frag} {F : Hp} {vs : List V} {ds : List D} (q : IsL K F vs ds) : ∀ k : Nat, IsL K F (List.replicate k vs).flatten (List.replicate k ds).flatten
  | 0 => rfl
  | k + 1 => by
    rw [List.replicate_succ, List.replicate_succ, List.flatten_cons, List.flatten_cons]
    exact IsL.append q (IsL.rep q k)
theorem rep_length {α : Type} (xs : List α) (k : Nat) : (List.replicate k xs).flatten.length = xs.length * k := by
  induction k with
  | zero => simp
  | succ k ih => rw [List.replicate_succ, List.flatten_cons, List.length_append, ih, Nat.mul_succ, Nat.add_comm]
section
variable {X : Cx}
theorem od_add : OpD X (binaryOp .Add) bAdd := by
  intro pins s σ H x y v u Q I rx ry ⟨F, a, b, r, sm, ha, hb, ho, hr⟩
  unfold bAdd at ho
  split at ho
  · cases ho; exact op_add pins s σ H x y v u Q I rx ry ⟨_, _, ha.int, hb.int, hr.now sm rfl⟩
  · split at ho
    · rename_i i j hz
      cases ho
      exact op_add_str pins s σ H x y v u Q I rx ry ⟨_, _, ha.str.1, hb.str.1, hz, hr.now sm ⟨rfl, by rw [str_add_length]; exact hz⟩⟩
    · cases ho
  · split at ho
    · rename_i xs ys hz
      cases ho
      obtain ⟨p, vs, rfl, h1, h2, h3⟩ := ha.lst sm
      obtain ⟨q, us, rfl, h4, h5, h6⟩ := hb.lst sm
      exact op_cat pins s σ H _ _ v u Q I rx ry ⟨p, q, vs, us, rfl, rfl, h1, h4, by rw [h3.length, h6.length]; exact hz, fun l hl => hr.ls sm (h3.append h6) (by rw [List.length_append]; exact hz) hl⟩
    · cases ho
  · split at ho
    · rename_i xs ys hz
      cases ho
      obtain ⟨p, vs, rfl, h1, h2, h3⟩ := ha.tup
      obtain ⟨q, us, rfl, h4, h5, h6⟩ := hb.tup
      refine op_catA pins s σ H _ _ v u Q I rx ry ⟨p, q, vs, us, rfl, rfl, sqT_mono sm h1, sqT_mono sm h4, by rw [h3.length, h6.length]; exact hz, fun e => ?_, fun _ e => ?_, fun _ _ l hl => hr.tup sm (h3.append h6) (by rw [List.length_append]; exact hz) hl⟩
      · have : xs = [] := h3.nil_iff.mp e
        subst this
        exact hr.now sm ⟨q, us, rfl, h4, h5, h6⟩
      · have : ys = [] := h6.nil_iff.mp e
        subst this
        rw [List.append_nil] at hr
        exact hr.now sm ⟨p, vs, rfl, h1, h2, h3⟩
    · cases ho
  · cases ho
theorem od_sub : OpD X (binaryOp .Sub) bSub := by
  intro pins s σ H x y v u Q I rx ry ⟨F, a, b, r, sm, ha, hb, ho, hr⟩
  unfold bSub at ho
  split at ho
  · cases ho; exact op_sub pins s σ H x y v u Q I rx ry ⟨_, _, ha.int, hb.int, hr.now sm rfl⟩
  · cases ho
theorem od_mul : OpD X (binaryOp .Mult) bMul := by
  intro pins s σ H x y v u Q I rx ry ⟨F, a, b, r, sm, ha, hb, ho, hr⟩
  unfold bMul at ho
  split at ho
  · split at ho
    · rename_i i j hz
      cases ho; exact op_mul pins s σ H x y v u Q I rx ry ⟨_, _, ha.int, hb.int, hz, hr.now sm rfl⟩
    · cases ho
  · split at ho
    · rename_i xs k hz
      cases ho
      obtain ⟨p, vs, rfl, h1, h2, h3⟩ := ha.lst sm
      exact op_rep pins s σ H _ _ v u Q I rx ry ⟨p, k, vs, rfl, hb.int, h1, hz.1, hz.2.1, by rw [h3.length]; exact hz.2.2, fun l hl => hr.ls sm (h3.rep _) (by rw [rep_length]; exact hz.2.2) hl⟩
    · cases ho
  · split at ho
    · rename_i xs k hz
      cases ho
      obtain ⟨p, vs, rfl, h1, h2, h3⟩ := ha.tup
      exact op_repT pins s σ H _ _ v u Q I rx ry ⟨p, k, vs, rfl, hb.int, sqT_mono sm h1, fun e => hz.1 (h3.nil_iff.mp e), hz.2.1, hz.2.2.1, by rw [h3.length]; exact hz.2.2.2.1, fun l hl => hr.tup sm (h3.rep _) (by rw [rep_length]; exact hz.2.2.2.2) hl⟩
    · cases ho
  · cases ho
theorem od_fdiv : OpD X (binaryOp .FloorDiv) bFdiv := by
  intro pins s σ H x y v u Q I rx ry ⟨F, a, b, r, sm, ha, hb, ho, hr⟩
  unfold bFdiv at ho
  split at ho
  · split at ho
    · rename_i i j hz
      cases ho; exact op_fdiv pins s σ H x y v u Q I rx ry ⟨_, _, ha.int, hb.int, hz, hr.now sm rfl⟩
    · cases ho
  · cases ho
theorem od_mod : OpD X (binaryOp .Mod) bMod := by
  intro pins s σ H x y v u Q I rx ry ⟨F, a, b, r, sm, ha, hb, ho, hr⟩
  unfold bMod at ho
  split at ho
  · split at ho
    · rename_i i j hz
      cases ho; exact op_mod pins s σ H x y v u Q I rx ry ⟨_, _, ha.int, hb.int, hz, hr.now sm rfl⟩
    · cases ho
  · cases ho
theorem od_pow : OpD X (binaryOp .Pow) bPow := by
  intro pins s σ H x y v u Q I rx ry ⟨F, a, b, r, sm, ha, hb, ho, hr⟩
  unfold bPow at ho
  split at ho
  · split at ho
    · rename_i i j hz
      cases ho; exact op_pow pins s σ H x y v u Q I rx ry ⟨_, _, ha.int, hb.int, hz, hr.now sm rfl⟩
    · cases ho
  · cases ho
theorem cI_case {p : Int → Int → Bool} {a b : D} {r : R} (h : cI p a b = some r) : ∃ i j, a = .int i ∧ b = .int j ∧ r = .fz (.bl (p i j)) := by
  unfold cI at h
  split at h
  · cases h; exact ⟨_, _, rfl, rfl, rfl⟩
  · cases h
theorem od_cI {p : Int → Int → Bool} {op : CmpOp} (h : OpR X (compareOp op) (rI0 fun i j => .bl (p i j))) : OpD X (compareOp op) (cI p) := by
  intro pins s σ H x y v u Q I rx ry ⟨F, a, b, r, sm, ha, hb, ho, hr⟩
  obtain ⟨i, j, rfl, rfl, rfl⟩ := cI_case ho
  exact h pins s σ H x y v u Q I rx ry ⟨_, _, ha.int, hb.int, hr.now sm rfl⟩
theorem od_lt : OpD X (compareOp .Lt) cLt := od_cI op_lt
theorem od_le : OpD X (compareOp .LtE) cLe := od_cI op_le
theorem od_gt : OpD X (compareOp .Gt) cGt := od_cI op_gt
theorem od_ge : OpD X (compareOp .GtE) cGe := od_cI op_ge
theorem okEq_cases {a b : D} (h : okEq a b = true) : a.flat = true ∧ b.flat = true ∧ SeqAt.shaped a.py = true ∧ SeqAt.shaped b.py = true := by
  unfold okEq at h
  rw [Bool.and_eq_true, Bool.and_eq_true, Bool.and_eq_true] at h
  exact ⟨h.1.1.1, h.1.1.2, h.1.2, h.2⟩
theorem od_eq (hu : X.A.units + 64 < cLine) : OpD X (compareOp .Eq) cEq := by
  intro pins s σ H x y v u Q I rx ry ⟨F, a, b, r, sm, ha, hb, ho, hr⟩
  unfold cEq at ho
  split at ho
  · cases ho; exact op_eq pins s σ H x y v u Q I rx ry (by rw [ha.int, hb.int]; exact ⟨rfl, by rw [dec_int]; exact hr.now sm rfl⟩)
  · cases ho; exact op_eq pins s σ H x y v u Q I rx ry (by rw [ha.str.1, hb.str.1]; exact ⟨rfl, by rw [dec_str]; exact hr.now sm rfl⟩)
  · cases ho; exact op_eq pins s σ H x y v u Q I rx ry (by rw [ha.bl, hb.bl]; exact ⟨rfl, by rw [dec_bl]; exact hr.now sm rfl⟩)
  · split at ho
    · rename_i hz
      obtain ⟨f1, f2, s1, s2⟩ := okEq_cases hz
      cases ho
      exact op_eqD hu pins s σ H x y v u Q I rx ry ⟨_, _, ha.dp sm f1, hb.dp sm f2, s1, s2, hr.now sm rfl⟩
    · cases ho
theorem od_ne (hu : X.A.units + 64 < cLine) : OpD X (compareOp .NotEq) cNe := by
  intro pins s σ H x y v u Q I rx ry ⟨F, a, b, r, sm, ha, hb, ho, hr⟩
  unfold cNe at ho
  split at ho
  · cases ho; exact op_ne pins s σ H x y v u Q I rx ry (by rw [ha.int, hb.int]; exact ⟨rfl, by rw [dec_int]; exact hr.now sm rfl⟩)
  · cases ho; exact op_ne pins s σ H x y v u Q I rx ry (by rw [ha.str.1, hb.str.1]; exact ⟨rfl, by rw [dec_str]; exact hr.now sm rfl⟩)
  · cases ho; exact op_ne pins s σ H x y v u Q I rx ry (by rw [ha.bl, hb.bl]; exact ⟨rfl, by rw [dec_bl]; exact hr.now sm rfl⟩)
  · split at ho
    · rename_i hz
      obtain ⟨f1, f2, s1, s2⟩ := okEq_cases hz
      cases ho
      exact op_neD hu pins s σ H x y v u Q I rx ry ⟨_, _, ha.dp sm f1, hb.dp sm f2, s1, s2, hr.now sm rfl⟩
    · cases ho
theorem isnon_dummy : True := trivial
theorem flatI_V {F H : Hp} {d : D} {v : V} {K : PySem.W.Frag} (f : flatI d = true) (h : CV K F H v d) : v = toV d ∧ flatV v = true := by
  cases d with
  | non => rw [h.non]; exact ⟨rfl, rfl⟩
  | bl b => rw [h.bl]; exact ⟨rfl, rfl⟩
  | int i => rw [h.int]; exact ⟨rfl, rfl⟩
  | str z => rw [h.str.1]; exact ⟨rfl, rfl⟩
  | tup _ => cases f
  | lst _ => cases f
  | dk _ => cases f
  | dt _ => cases f
  | scr _ => cases f
theorem flatI_L {F H : Hp} {K : PySem.W.Frag} : ∀ {ds : List D} {vs : List V}, ds.all flatI = true → IsL K F vs ds → vs = ds.map toV ∧ vs.all flatV = true
  | [], _, _, q => by rw [show _ = [] from q]; exact ⟨rfl, rfl⟩
  | d :: ds, _, f, ⟨v, r, e, q, t⟩ => by
    rw [List.all_cons, Bool.and_eq_true] at f
    obtain ⟨h1, h2⟩ := flatI_V (H := H) f.1 (.inl q)
    obtain ⟨h3, h4⟩ := flatI_L (H := H) f.2 t
    subst e
    exact ⟨by rw [List.map_cons, ← h1, ← h3], by rw [List.all_cons, h2, h4]; rfl⟩
theorem od_in (neg : Bool) : OpD X (compareOp (if neg then .NotIn else .In)) (cIn neg) := by
  intro pins s σ H x y v u Q I rx ry ⟨F, a, b, r, sm, ha, hb, ho, hr⟩
  have seq : ∀ (p : Addr) (vs : List V) (xs : List D), y = .ref p → (SqL X.K H p vs ∨ SqT X.K H p vs) → IsL X.K F vs xs → flatI a = true → xs.all flatI = true → r = .fz (.bl (if neg then !memD a xs else memD a xs)) →
      wpAny (model X.prog X.w) X.A (compareOp (if neg then .NotIn else .In) v u) (EP X pins σ Q) X.xe s := by
    intro p vs xs e hs hl f1 f2 er
    obtain ⟨e1, fl⟩ := flatI_V f1 ha
    obtain ⟨e2, fls⟩ := flatI_L (H := H) f2 hl
    subst er
    have q : rIn X.K neg x y H Q := ⟨p, vs, e, hs, fl, fls, by rw [e1, e2]; exact hr.now sm rfl⟩
    cases neg
    · exact op_in_seq pins s σ H x y v u Q I rx ry q
    · exact op_notIn_seq pins s σ H x y v u Q I rx ry q
  unfold cIn at ho
  split at ho
  · cases ho
    rename_i i j
    have q : Q (.bl (if neg then !subS i j else subS i j)) H := hr.now sm rfl
    cases neg
    · exact op_in_str pins s σ H x y v u Q I rx ry ⟨i, j, ha.str.1, hb.str.1, q⟩
    · exact op_notIn_str pins s σ H x y v u Q I rx ry ⟨i, j, ha.str.1, hb.str.1, q⟩
  · split at ho
    · rename_i xs hz
      rw [Bool.and_eq_true] at hz
      cases ho
      obtain ⟨p, vs, rfl, h1, h2, h3⟩ := hb.lst sm
      exact seq p vs xs rfl (.inl (SqL.of h1)) h3 hz.1 hz.2 rfl
    · cases ho
  · split at ho
    · rename_i xs hz
      rw [Bool.and_eq_true] at hz
      cases ho
      obtain ⟨p, vs, rfl, h1, h2, h3⟩ := hb.tup
      exact seq p vs xs rfl (.inr (sqT_mono sm h1)) h3 hz.1 hz.2 rfl
    · cases ho
  · cases ho
theorem isnon_V {F H : Hp} {d : D} {v : V} {K : PySem.W.Frag} (h : CV K F H v d) : decide (v = .non) = isNon d := by
  rcases h with h | ⟨a, o, rfl, _, rfl⟩
  · cases d with
    | non => rw [show v = .non from h]; rfl
    | bl b => rw [show v = .bl b from h]; rfl
    | int b => rw [show v = .int b from h]; rfl
    | str b => rw [show v = .str b from h.1]; rfl
    | tup b => obtain ⟨a, _, rfl, _⟩ := h; rfl
    | lst b => obtain ⟨a, _, rfl, _⟩ := h; rfl
    | dk b => obtain ⟨a, _, rfl, _⟩ := h; rfl
    | dt b => obtain ⟨a, _, rfl, _⟩ := h; rfl
    | scr b => obtain ⟨a, rfl, _⟩ := h; rfl
  · cases o <;> rfl
theorem od_isN (neg : Bool) : OpD X (compareOp (if neg then .IsNot else .Is)) (cIsN neg) := by
  intro pins s σ H x y v u Q I rx ry ⟨F, a, b, r, sm, ha, hb, ho, hr⟩
  unfold cIsN at ho
  split at ho
  · rw [← isnon_V ha] at ho
    cases ho
    cases neg
    · exact op_isN pins s σ H x y v u Q I rx ry ⟨hb.non, hr.now sm rfl⟩
    · exact op_notN pins s σ H x y v u Q I rx ry ⟨hb.non, hr.now sm rfl⟩
  · cases ho
end
end DL

namespace DL
open PySem PySem.Spec L2

/-! ### tests -/
def tAndM (f k : M Bool) : M Bool := mb f fun c => if c = true then k else mp false
def tOrM (f k : M Bool) : M Bool := mb f fun c => if c = true then mp true else k
def tNotM (f : M Bool) : M Bool := mb f fun c => mp (!c)
def vAnd (f k : M R) : M R := mb f fun x => mb (toB x) fun c => if c = true then k else eC (.bl false)
def vOr (f k : M R) : M R := mb f fun x => mb (toB x) fun c => if c = true then eC (.bl true) else k
def vNot (f : M R) : M R := mb f fun x => mb (toB x) fun c => eC (.bl (!c))
def eIf (c : M Bool) (f k : M R) : M R := mb c fun b => if b = true then f else k
def truD : D → Option Bool
  | .non => some false
  | .bl b => some b
  | .int i => some (i != 0)
  | .str s => some ((s.length : Int) != 0)
  | .tup xs => some (!xs.isEmpty)
  | .lst xs => some (!xs.isEmpty)
  | .dk kvs => some (!kvs.isEmpty)
  | .scr ns => some (!ns.isEmpty)
  | .dt _ => none
def toTru (x : R) : M Bool := fun g => match (cont g x).bind truD with
  | some b => .ok b g
  | none => .bad
def eTru (f : M R) : M Bool := mb (pk f) toTru

theorem Post.pb {α β : Type} {K : PySem.W.Frag} {Y : Ent} {W : WX} {σ : St} {F H : Hp} {J : β → G → Hp → Hp → Prop} {a : α} {k : α → G → Rs β} {g : G} (h : Post K Y W σ F J ((Rs.ok a g).andThen k)) : Post K Y W σ F J (k a g) := h
section
variable {X : Cx} {Y : Ent} {W : WX} {pos : Pos} {a b c e : Expr} {rest : List Expr}
theorem dw_and1 {f : M Bool} (ha : DT X Y W a f) : DW X Y W (.BoolOp .And [a] pos) f := pw_and1 ha
theorem dw_or1 {f : M Bool} (ha : DT X Y W a f) : DW X Y W (.BoolOp .Or [a] pos) f := pw_or1 ha
theorem dw_and {f k : M Bool} (ha : DT X Y W a f) (hb : DW X Y W (.BoolOp .And (b :: rest) pos) k) : DW X Y W (.BoolOp .And (a :: b :: rest) pos) (tAndM f k) :=
  pw_mono (pw_and ha hb) fun σ H Q ⟨g, F, r, p⟩ => ⟨g, F, r, (p.bind).imp fun c g1 H1 F1 r1 s1 q => by
    cases c with
    | true => exact ⟨g1, F1, r1, q⟩
    | false => exact q H1 F1 r1 (Same.refl _)⟩
theorem dw_or {f k : M Bool} (ha : DT X Y W a f) (hb : DW X Y W (.BoolOp .Or (b :: rest) pos) k) : DW X Y W (.BoolOp .Or (a :: b :: rest) pos) (tOrM f k) :=
  pw_mono (pw_or ha hb) fun σ H Q ⟨g, F, r, p⟩ => ⟨g, F, r, (p.bind).imp fun c g1 H1 F1 r1 s1 q => by
    cases c with
    | true => exact q H1 F1 r1 (Same.refl _)
    | false => exact ⟨g1, F1, r1, q⟩⟩
theorem dt_w {f : M Bool} (h : DW X Y W e f) : DT X Y W e f := PW.pt h
theorem dt_not {f : M Bool} (ha : DT X Y W a f) : DT X Y W (.UnaryOp .Not a pos) (tNotM f) :=
  pt_mono (pt_not ha) fun σ H Q ⟨g, F, r, p⟩ => ⟨g, F, r, (p.bind).imp fun c g1 H1 F1 r1 s1 q => q H1 F1 r1 (Same.refl _)⟩
theorem vbool {f : M R} {k : Bool → M R} {σ : St} {H : Hp} {Q : VK} {K : PySem.W.Frag} (h : tD K Y W (mb f fun x => mb (toB x) k) σ H Q) :
    tD K Y W f σ H fun x H1 => ∃ c, x = .bl c ∧ tD K Y W (k c) σ H1 Q := by
  obtain ⟨g, F, r, p⟩ := h
  refine ⟨g, F, r, (p.bind).imp fun x g1 H1 F1 r1 s1 q v hv => ?_⟩
  have q' : Post K Y W σ F1 (JV K Y σ Q) ((toB x g1).andThen k) := q
  unfold toB at q'
  split at q'
  · exact ⟨_, hv, g1, F1, r1, q'⟩
  · exact q'.elim
theorem de_one {op} {f : M R} (h : DE X Y W a f) : DE X Y W (.BoolOp op [a] pos) f := pe_one h
theorem de_and {f k : M R} (ha : DE X Y W a f) (hb : DE X Y W (.BoolOp .And (b :: rest) pos) k) : DE X Y W (.BoolOp .And (a :: b :: rest) pos) (vAnd f k) :=
  pe_mono (pe_and ha hb) fun σ H Q h => by
    obtain ⟨g, F, r, p⟩ := vbool h
    refine ⟨g, F, r, p.imp fun x g1 H1 F1 r1 s1 q v hv => ?_⟩
    obtain ⟨c, rfl, q2⟩ := q v hv
    refine ⟨c, rfl, ?_⟩
    cases c with
    | true => exact q2
    | false => obtain ⟨g2, F2, r2, p2⟩ := q2; exact p2 H1 F2 r2 (Same.refl _) _ rfl
theorem de_or {f k : M R} (ha : DE X Y W a f) (hb : DE X Y W (.BoolOp .Or (b :: rest) pos) k) : DE X Y W (.BoolOp .Or (a :: b :: rest) pos) (vOr f k) :=
  pe_mono (pe_or ha hb) fun σ H Q h => by
    obtain ⟨g, F, r, p⟩ := vbool h
    refine ⟨g, F, r, p.imp fun x g1 H1 F1 r1 s1 q v hv => ?_⟩
    obtain ⟨c, rfl, q2⟩ := q v hv
    refine ⟨c, rfl, ?_⟩
    cases c with
    | true => obtain ⟨g2, F2, r2, p2⟩ := q2; exact p2 H1 F2 r2 (Same.refl _) _ rfl
    | false => exact q2
theorem de_not {f : M R} (ha : DE X Y W a f) : DE X Y W (.UnaryOp .Not a pos) (vNot f) :=
  pe_mono (pe_not ha) fun σ H Q h => by
    obtain ⟨g, F, r, p⟩ := vbool h
    refine ⟨g, F, r, p.imp fun x g1 H1 F1 r1 s1 q v hv => ?_⟩
    obtain ⟨c, rfl, g2, F2, r2, p2⟩ := q v hv
    exact ⟨c, rfl, p2 H1 F2 r2 (Same.refl _) _ rfl⟩
theorem de_ifExp {t : M Bool} {f k : M R} (hc : DT X Y W c t) (ha : DE X Y W a f) (hb : DE X Y W b k) : DE X Y W (.IfExp c a b pos) (eIf t f k) :=
  pe_mono (pe_ifExp hc ha hb) fun σ H Q ⟨g, F, r, p⟩ => ⟨g, F, r, (p.bind).imp fun c g1 H1 F1 r1 s1 q => by
    cases c with
    | true => exact ⟨g1, F1, r1, q⟩
    | false => exact ⟨g1, F1, r1, q⟩⟩
theorem truV_of {K : PySem.W.Frag} {F H : Hp} {v : V} {d : D} {k : Bool} (sm : Same F H) (h : CV K F H v d) (e : truD d = some k) : TruV K v H k := by
  cases d with
  | non => rw [h.non]; exact (Option.some.inj e).symm
  | bl x => rw [h.bl]; exact (Option.some.inj e).symm
  | int x => rw [h.int]; exact (Option.some.inj e).symm
  | str x => rw [h.str.1]; exact ⟨h.str.2, (Option.some.inj e).symm⟩
  | tup xs =>
    obtain ⟨p, vs, rfl, h1, h2, h3⟩ := h.tup
    refine .inr (.inl ⟨vs, sqT_mono sm h1, ?_⟩)
    rw [← Option.some.inj e]
    have := h3.length
    cases vs <;> cases xs <;> simp_all
  | lst xs =>
    obtain ⟨p, vs, rfl, h1, h2, h3⟩ := h.lst sm
    refine .inl ⟨vs, SqL.of h1, ?_⟩
    rw [← Option.some.inj e]
    have := h3.length
    cases vs <;> cases xs <;> simp_all
  | scr ns =>
    obtain ⟨p, rfl, h1, h2⟩ := h.scr
    refine .inl ⟨_, sm.seq h1, ?_⟩
    rw [← Option.some.inj e]
    cases ns <;> rfl
  | dk kvs =>
    have len : ∀ {ks : List (Key × V)} {kvs : List (Key × D)}, IsK K F ks kvs → (!kvs.isEmpty) = !ks.isEmpty := fun {ks kvs} q => by
      cases kvs with
      | nil => rw [show ks = [] from q]; rfl
      | cons y r => obtain ⟨v, r', rfl, _⟩ := (show ∃ v r', ks = (y.1, v) :: r' ∧ _ from q); rfl
    rcases h with h | ⟨a, o, rfl, q, e'⟩
    · obtain ⟨a, ks, rfl, h1, h2, h3⟩ := h
      exact .inr (.inr ⟨ks, sm _ _ h1, by rw [← Option.some.inj e]; exact len h3⟩)
    · cases o with
      | dk ys => cases e'; obtain ⟨ks, h1, h2, h3⟩ := q; exact .inr (.inr ⟨ks, h1, by rw [← Option.some.inj e]; exact len h3⟩)
      | ls _ => cases e'
      | dt _ => cases e'
  | dt _ => cases e
theorem dt_truth {f : M R} (ha : DE X Y W a f) (he : ∀ whole, isTrue a X.env whole = (do let v ← whole; standAt a.pos; holding [v] (truthy v)) := by intro _; rfl) : DT X Y W a (eTru f) :=
  pt_mono (pt_truth (de_pk ha) he) fun σ H Q ⟨g, F, r, p⟩ => ⟨g, F, r, (p.bind).imp fun x g1 H1 F1 r1 s1 q v hv => by
    unfold toTru at q
    cases e : cont g1 x with
    | none => rw [e] at q; exact q.elim
    | some d =>
      rw [e] at q
      cases e2 : truD d with
      | none => simp only [Option.bind_some, e2] at q; exact q.elim
      | some k =>
        simp only [Option.bind_some, e2] at q
        exact ⟨k, truV_of r1.sub (r1.cv hv e) e2, q H1 F1 r1 (Same.refl _)⟩⟩
end

/-! ### arguments, displays -/
def aNil : M (List R) := mp []
def aPush (x : R) (xs : List R) : M (List R) := fun g => match x with
  | .ow _ => .bad
  | x => .ok (x :: xs) g
def aCons (f : M R) (k : M (List R)) : M (List R) := mb f fun x => mb k fun xs => aPush x xs
def allFz : List R → Option (List D)
  | [] => some []
  | .fz d :: r => (allFz r).map (d :: ·)
  | _ => none
def conts (g : G) : List R → Option (List D)
  | [] => some []
  | r :: rs => match cont g r, conts g rs with
    | some d, some ds => some (d :: ds)
    | _, _ => none
def mkTup (rs : List R) : M R := fun g => match allFz rs with
  | some ds => if ds.length ≤ 1000 then .ok (.fz (.tup ds)) g else .bad
  | none => .bad
def mkLst (rs : List R) : M R := fun g => match allFz rs with
  | some ds => if ds.length ≤ 1000 then .ok (.ow (.ls ds)) g else .bad
  | none => .bad
def eTup (k : M (List R)) : M R := mb k mkTup
def eLst (k : M (List R)) : M R := mb k mkLst
section
variable {K : PySem.W.Frag} {Y : Ent} {W : WX} {σ : St} {H F : Hp} {g : G}
theorem RVs.fz : ∀ {rs : List R} {vs : List V} {ds : List D}, RVs K Y σ F H g vs rs → allFz rs = some ds → IsL K F vs ds
  | [], _, _, h, e => by cases e; exact h
  | .fz d :: r, _, ds, ⟨v, us, rfl, h, t⟩, e => by
    unfold allFz at e
    cases e2 : allFz r with
    | none => rw [e2] at e; cases e
    | some ds' => rw [e2] at e; cases e; exact ⟨v, us, rfl, h, RVs.fz t e2⟩
  | .ow o :: r, _, _, _, e => by cases e
  | .at i :: r, _, _, _, e => by cases e
theorem RVs.cvs (rl : Rel K Y σ H g F) : ∀ {rs : List R} {vs : List V} {ds : List D}, RVs K Y σ F H g vs rs → conts g rs = some ds → CVs K F H vs ds
  | [], _, _, h, e => by cases e; exact h
  | r :: rs, _, ds, ⟨v, us, rfl, h, t⟩, e => by
    unfold conts at e
    split at e
    · rename_i d ds' e1 e2
      cases e
      exact ⟨v, us, rfl, rl.cv h e1, RVs.cvs rl t e2⟩
    · cases e
end
section
variable {X : Cx} {Y : Ent} {W : WX} {pos : Pos} {e o : Expr} {es : List Expr} {x : Str} {p apos : Pos} {id T name : String}
theorem da_nil : DA X Y W [] aNil := pa_mono pa_nil fun σ H Q ⟨g, F, r, p⟩ => p H F r (Same.refl _) [] rfl
theorem da_cons {f : M R} {k : M (List R)} (ha : DE X Y W e f) (hr : DA X Y W es k) (hs : starEach (e :: es) X.env = (false, eval e X.env) :: starEach es X.env := by rfl) : DA X Y W (e :: es) (aCons f k) :=
  pa_mono (pa_cons ha hr hs) fun σ H Q ⟨g, F, r, p⟩ => ⟨g, F, r, (p.bind).imp fun x g1 H1 F1 r1 s1 q v hv => ⟨g1, F1, r1, (q.bind).imp fun xs g2 H2 F2 r2 s2 q2 us hus => by
    cases x with
    | ow o => exact q2.elim
    | fz d => exact q2 H2 F2 r2 (Same.refl _) (v :: us) ⟨v, us, rfl, hv.keep (H' := H2) (g' := g2) s2 (fun _ e => nomatch e), hus⟩
    | «at» i => exact q2 H2 F2 r2 (Same.refl _) (v :: us) ⟨v, us, rfl, hv, hus⟩⟩⟩
theorem Rel.small {n : Nat} (h : n ≤ 1000) : n ≤ sizeLine := Nat.le_trans h (by decide)
theorem de_tup {k : M (List R)} {x1} (h : DA X Y W es k) : DE X Y W (.Tuple es x1 pos) (eTup k) :=
  pe_mono (pe_tup h) fun σ H Q ⟨g, F, r, p⟩ => ⟨g, F, r, (p.bind).imp fun rs g1 H1 F1 r1 s1 q vs hv => by
    unfold mkTup at q
    split at q
    · rename_i ds e
      split at q
      · rename_i hz
        have hl := RVs.fz hv e
        have rp : RP X.K F1 H1 Q (.fz (.tup ds)) := Post.rp (fun _ e => nomatch e) r1 q
        exact ⟨by rw [hl.length]; exact Rel.small hz, fun p hp => rp.tup r1.sub hl (Rel.small hz) hp⟩
      · exact q.elim
    · exact q.elim⟩
theorem de_lst {k : M (List R)} (h : DA X Y W es k) : DE X Y W (.List es pos) (eLst k) :=
  pe_mono (pe_lst h) fun σ H Q ⟨g, F, r, p⟩ => ⟨g, F, r, (p.bind).imp fun rs g1 H1 F1 r1 s1 q vs hv => by
    unfold mkLst at q
    split at q
    · rename_i ds e
      split at q
      · rename_i hz
        have hl := RVs.fz hv e
        have rp : RP X.K F1 H1 Q (.ow (.ls ds)) := Post.rp (fun _ e => nomatch e) r1 q
        exact ⟨by rw [hl.length]; exact Rel.small hz, fun p hp => rp.ls r1.sub hl (Rel.small hz) hp⟩
      · exact q.elim
    · exact q.elim⟩

/-! ### calls of built-ins, methods of built-ins by values -/
def CallD (X : Cx) (f : Value) (op : List D → Option R) : Prop :=
  CallR X f fun xs H Q => ∃ F ds r, Same F H ∧ CVs X.K F H xs ds ∧ op ds = some r ∧ RP X.K F H Q r
def opN (op : List D → Option R) (rs : List R) : M R := fun g => match conts g rs with
  | some ds => done (op ds) g
  | none => .bad
def eCallB (op : List D → Option R) (k : M (List R)) : M R := mb k (opN op)
theorem callB_args {k : M (List R)} {op : List D → Option R} {σ : St} {H : Hp} {Q : VK} {K : PySem.W.Frag} (h : tD K Y W (eCallB op k) σ H Q) :
    tA K Y W k σ H fun xs H1 => ∃ F ds r, Same F H1 ∧ CVs K F H1 xs ds ∧ op ds = some r ∧ RP K F H1 Q r := by
  obtain ⟨g, F, r, p⟩ := h
  refine ⟨g, F, r, (p.bind).imp fun rs g1 H1 F1 r1 s1 q vs hv => ?_⟩
  unfold opN at q
  split at q
  · rename_i ds e
    obtain ⟨r', h1, h2⟩ := Post.done q r1
    exact ⟨F1, ds, r', r1.sub, hv.cvs r1 e, h1, h2⟩
  · exact q.elim
theorem de_callB {k : M (List R)} {op : List D → Option R} (hc : CallD X (.builtin id) op) (hg : Gl X x) (hm : X.mg x = none) (hv : bootBuiltins x = some (.builtin id)) (ha : DA X Y W (e :: es) k) (hn : x ≠ "__name__" := by decide) (hdb : (x == ("__debug__" : Str)) = false := by decide)
    (he : starEach (e :: es) X.env = (false, eval e X.env) :: starEach es X.env := by rfl) (hpl : (backTo pos (starEach es X.env)).any (·.1) = false := by rfl) :
    DE X Y W (.Call (.Name x p) (e :: es) [] pos) (eCallB op k) :=
  pe_mono (pe_callB hc hg hm hv ha hn hdb he hpl) fun σ H Q h => callB_args h
theorem de_callTy {k : M (List R)} {op : List D → Option R} (hc : CallD X (.type T) op) (hg : Gl X x) (hm : X.mg x = none) (hv : bootBuiltins x = some (.type T)) (ha : DA X Y W (e :: es) k) (hn : x ≠ "__name__" := by decide) (hdb : (x == ("__debug__" : Str)) = false := by decide)
    (he : starEach (e :: es) X.env = (false, eval e X.env) :: starEach es X.env := by rfl) (hpl : (backTo pos (starEach es X.env)).any (·.1) = false := by rfl) :
    DE X Y W (.Call (.Name x p) (e :: es) [] pos) (eCallB op k) :=
  pe_mono (pe_callTy hc hg hm hv ha hn hdb he hpl) fun σ H Q h => callB_args h
/-- a method by values -/
def MtD (X : Cx) (id : String) (op : D → List D → Option R) : Prop :=
  MtR X id fun x xs H Q => ∃ F d ds r, Same F H ∧ CV X.K F H x d ∧ CVs X.K F H xs ds ∧ op d ds = some r ∧ RP X.K F H Q r
def kindD : D → String
  | .str _ => "str" | .int _ => "int" | .lst _ => "list" | .scr _ => "list" | .dk _ => "dict" | .dt _ => "dict" | _ => ""
def chkT (T : String) (x : R) : M Unit := fun g => match cont g x with
  | some d => if kindD d = T then .ok () g else .bad
  | none => .bad
def opM (op : D → List D → Option R) (x : R) (ys : List R) : M R := fun g => match cont g x, conts g ys with
  | some d, some ds => done (op d ds) g
  | _, _ => .bad
def eMeth (T : String) (op : D → List D → Option R) (f : M R) (k : M (List R)) : M R := mb (pk f) fun x => mb (chkT T x) fun _ => mb k fun ys => opM op x ys
theorem tyV_of {K : PySem.W.Frag} {F H : Hp} {v : V} {d : D} (sm : Same F H) (h : CV K F H v d) (hT : kindD d ≠ "") : tyV K (kindD d) v H := by
  have cases4 : ∀ {a : Addr} {u : HO}, H a = some u → (∀ kvs, u = .dK kvs → tyV K "dict" (.ref a) H) ∧ (∀ kvs, u = .dT kvs → tyV K "dict" (.ref a) H) := fun {a u} e =>
    ⟨fun kvs z => .inr (.inr (.inl ⟨rfl, .inl ⟨kvs, z ▸ e⟩⟩)), fun kvs z => .inr (.inr (.inl ⟨rfl, .inr ⟨kvs, z ▸ e⟩⟩))⟩
  cases d with
  | str z => rw [h.str.1]; exact rfl
  | int z => rw [h.int]; exact rfl
  | lst xs => obtain ⟨p, vs, rfl, h1, _⟩ := h.lst sm; exact .inl ⟨rfl, vs, SqL.of h1⟩
  | scr ns => obtain ⟨p, rfl, h1, _⟩ := h.scr; exact .inl ⟨rfl, _, sm.seq h1⟩
  | dk kvs =>
    rcases h with h | ⟨a, o, rfl, q, e⟩
    · obtain ⟨a, ks, rfl, h1, _⟩ := h; exact (cases4 (sm _ _ h1)).1 _ rfl
    · cases o with
      | dk ys => obtain ⟨ks, h1, _⟩ := q; exact (cases4 h1).1 _ rfl
      | ls _ => cases e
      | dt _ => cases e
  | dt kvs =>
    rcases h with h | ⟨a, o, rfl, q, e⟩
    · obtain ⟨a, ks, rfl, h1, _⟩ := h; exact (cases4 (sm _ _ h1)).2 _ rfl
    · cases o with
      | dt ys => obtain ⟨ks, h1, _⟩ := q; exact (cases4 h1).2 _ rfl
      | ls _ => cases e
      | dk _ => cases e
  | non => exact absurd rfl hT
  | bl _ => exact absurd rfl hT
  | tup _ => exact absurd rfl hT
theorem chkT_of {α : Type} {K : PySem.W.Frag} {σ : St} {F H : Hp} {J : α → G → Hp → Hp → Prop} {T : String} {x : R} {g : G} {k : Unit → M α} (h : Post K Y W σ F J (mb (chkT T x) k g)) : (∃ d, cont g x = some d ∧ kindD d = T) ∧ Post K Y W σ F J (k () g) := by
  have h' : Post K Y W σ F J ((chkT T x g).andThen k) := h
  unfold chkT at h'
  split at h'
  · rename_i d e
    split at h'
    · rename_i e2; exact ⟨⟨d, e, e2⟩, h'⟩
    · exact h'.elim
  · exact h'.elim
theorem meth_args {f : M R} {k : M (List R)} {op : D → List D → Option R} {T : String} {σ : St} {H : Hp} {Q : VK} {K : PySem.W.Frag} (hT : T ≠ "") (h : tD K Y W (eMeth T op f k) σ H Q) :
    tD K Y W (pk f) σ H fun x H1 => tyV K T x H1 ∧ tA K Y W k σ H1 fun xs H2 => ∃ F d ds r, Same F H2 ∧ CV K F H2 x d ∧ CVs K F H2 xs ds ∧ op d ds = some r ∧ RP K F H2 Q r := by
  obtain ⟨g, F, r, p⟩ := h
  refine ⟨g, F, r, (p.bind).imp fun x g1 H1 F1 r1 s1 q v hv => ?_⟩
  obtain ⟨⟨d, e1, e2⟩, q2⟩ := chkT_of (H := H1) q
  refine ⟨by rw [← e2]; exact tyV_of r1.sub (r1.cv hv e1) (by rw [e2]; exact hT), g1, F1, r1, (q2.bind).imp fun ys g2 H2 F2 r2 s2 q3 us hus => ?_⟩
  unfold opM at q3
  split at q3
  · rename_i d' ds e3 e4
    obtain ⟨r', h1, h2⟩ := Post.done q3 r2
    exact ⟨F2, d', ds, r', r2.sub, r2.cv (hv.keep s2 (cont_ne e3)) e3, hus.cvs r2 e4, h1, h2⟩
  · exact q3.elim
theorem de_meth {f : M R} {k : M (List R)} {op : D → List D → Option R} (hT : T ≠ "") (pa : PlainAttrs T) (slot : Slot T name id) (hty : typeOf (.builtin id) = pure (.type "method_descriptor")) (hm : MtD X id op) (ho : DE X Y W o f) (ha : DA X Y W (e :: es) k)
    (hbase : attributeBase o name X.env (eval o X.env) = eval o X.env := by rfl)
    (hfew : ((backTo pos (starEach (e :: es) X.env)).all (fun x => !x.1) && (backToKw pos (keywordEach [] X.env)).all (fun x => x.1.isSome)
      && decide ((e :: es).length + ([] : List Keyword).length + (if ([] : List Keyword).isEmpty then 0 else 1) < 30)) = true := by rfl)
    (hline : (apos.endLine == pos.line) = true := by rfl) (hs : starEach (e :: es) X.env = (false, eval e X.env) :: starEach es X.env := by rfl) (hplain : (backTo pos (starEach es X.env)).any (·.1) = false := by rfl) :
    DE X Y W (.Call (.Attribute o name apos) (e :: es) [] pos) (eMeth T op f k) :=
  pe_mono (pe_bm pa slot hty hm (de_pk ho) ha hbase hfew hline hs hplain) fun σ H Q h => meth_args hT h
theorem de_meth0 {f : M R} {op : D → List D → Option R} (hT : T ≠ "") (pa : PlainAttrs T) (slot : Slot T name id) (hty : typeOf (.builtin id) = pure (.type "method_descriptor")) (hm : MtD X id op) (ho : DE X Y W o f)
    (hbase : attributeBase o name X.env (eval o X.env) = eval o X.env := by rfl) (hline : (apos.endLine == pos.line) = true := by rfl) : DE X Y W (.Call (.Attribute o name apos) [] [] pos) (eMeth T op f aNil) :=
  pe_mono (pe_bm0 pa slot hty hm (de_pk ho) hbase hline) fun σ H Q h => by
    obtain ⟨g, F, r, p⟩ := meth_args hT h
    refine ⟨g, F, r, p.imp fun x g1 H1 F1 r1 s1 q v hv => ?_⟩
    obtain ⟨h1, g2, F2, r2, p2⟩ := q v hv
    exact ⟨h1, p2 H1 F2 r2 (Same.refl _) [] rfl⟩

/-! ### methods that change a list of a slot -/
def MutD (X : Cx) (id : String) (op : O → List D → Option (O × D)) : Prop :=
  MtR X id fun x xs H Q => ∃ F a o ds o' d, x = .ref a ∧ OwAt X.K F H a o ∧ F a = none ∧ Same F H ∧ IsL X.K F xs ds ∧ op o ds = some (o', d) ∧ ∀ u v, OwAt X.K F (upd H a u) a o' → Is X.K F v d → Q v (upd H a u)
def opMut (op : O → List D → Option (O × D)) (x : R) (ys : List R) : M R := fun g => match x with
  | .at i => match g[i]?, allFz ys with
    | some (some (.ow l o)), some ds => match op o ds with
      | some (o', d) => .ok (.fz d) (g.set i (some (.ow l o')))
      | none => .bad
    | _, _ => .bad
  | _ => .bad
def eMut (T : String) (op : O → List D → Option (O × D)) (f : M R) (k : M (List R)) : M R := mb f fun x => mb (chkT T x) fun _ => mb k fun ys => opMut op x ys
theorem Rel.mut {K : PySem.W.Frag} {σ : St} {H F : Hp} {g : G} {i : Nat} {l : Bool} {o o' : O} {a : Addr} {u : HO} (r : Rel K Y σ H g F) (e : g[i]? = some (some (.ow l o))) (hv : σ[i]? = some (some (.ref a))) (q : OwAt K F (upd H a u) a o') :
    Rel K Y σ (upd H a u) (g.set i (some (.ow l o'))) F := by
  obtain ⟨b, h1, h2, h3, h4, h5⟩ := r.own e hv
  cases h1
  refine ⟨fun b x eb => ?_, r.base, fun b x eb => ?_, fun b hb => ?_, r.fr, r.len.trans (List.length_set ..).symm, fun j d ej => ?_, fun j l' o'' ej => ?_, fun j m l1 o1 l2 o2 b hjm e1 e2 hj => ?_⟩
  · rw [upd_ne (fun z => by subst z; rw [h3] at eb; cases eb)]; exact r.sub _ _ eb
  · rw [upd_ne (fun z => by subst z; rw [h4] at eb; cases eb)]; exact r.keep _ _ eb
  · by_cases z : b = a
    · subst z; rw [upd_same]; simp
    · rw [upd_ne z]; exact r.dom b hb
  · rcases get_set ej with ⟨_, e'⟩ | ⟨_, e'⟩
    · cases e'
    · exact r.fz j d e'
  · rcases get_set ej with ⟨rfl, e'⟩ | ⟨n, e'⟩
    · cases e'; exact ⟨a, hv, q, h3, h4, h5⟩
    · obtain ⟨b, k1, k2, k3⟩ := r.ow j l' o'' e'
      have nb : b ≠ a := fun z => r.inj j i _ _ _ _ a n e' e (z ▸ k1) hv
      exact ⟨b, k1, k2.mono (Same.refl _) (upd_ne nb), k3⟩
  · have back : ∀ (j : Nat) (l1 : Bool) (o1 : O), (g.set i (some (.ow l o')))[j]? = some (some (.ow l1 o1)) → ∃ l2 o2, g[j]? = some (some (.ow l2 o2)) := fun j l1 o1 ej => by
      rcases get_set ej with ⟨rfl, e'⟩ | ⟨_, e'⟩
      · exact ⟨_, _, e⟩
      · exact ⟨_, _, e'⟩
    obtain ⟨_, _, e1'⟩ := back j l1 o1 e1
    obtain ⟨_, _, e2'⟩ := back m l2 o2 e2
    exact r.inj j m _ _ _ _ b hjm e1' e2' hj
theorem opMut_of {K : PySem.W.Frag} {σ : St} {F H : Hp} {Q : VK} {g : G} {op : O → List D → Option (O × D)} {x : R} {ys : List R} {v : V} {us : List V} (h : Post K Y W σ F (JV K Y σ Q) (opMut op x ys g)) (r : Rel K Y σ H g F) (hv : RV K Y σ F H g v x)
    (hu : RVs K Y σ F H g us ys) : ∃ F a o ds o' d, v = .ref a ∧ OwAt K F H a o ∧ F a = none ∧ Same F H ∧ IsL K F us ds ∧ op o ds = some (o', d) ∧ ∀ u w, OwAt K F (upd H a u) a o' → Is K F w d → Q w (upd H a u) := by
  cases x with
  | fz d => exact h.elim
  | ow d => exact h.elim
  | «at» i =>
    unfold opMut at h
    simp only at h
    split at h
    · rename_i l o ds e1 e2
      split at h
      · rename_i o' d e3
        obtain ⟨a, rfl, k1, k2, k3, k4⟩ := r.own e1 hv
        exact ⟨F, a, o, ds, o', d, rfl, k1, k2, r.sub, hu.fz e2, e3, fun u w q1 q2 => h _ F (r.mut e1 hv q1) (Same.refl _) w q2⟩
      · exact h.elim
    · exact h.elim
theorem mut_args {f : M R} {k : M (List R)} {op : O → List D → Option (O × D)} {T : String} {σ : St} {H : Hp} {Q : VK} {K : PySem.W.Frag} (hT : T ≠ "") (h : tD K Y W (eMut T op f k) σ H Q) :
    tD K Y W f σ H fun x H1 => tyV K T x H1 ∧ tA K Y W k σ H1 fun xs H2 => ∃ F a o ds o' d, x = .ref a ∧ OwAt K F H2 a o ∧ F a = none ∧ Same F H2 ∧ IsL K F xs ds ∧ op o ds = some (o', d) ∧ ∀ u v, OwAt K F (upd H2 a u) a o' → Is K F v d → Q v (upd H2 a u) := by
  obtain ⟨g, F, r, p⟩ := h
  refine ⟨g, F, r, (p.bind).imp fun x g1 H1 F1 r1 s1 q v hv => ?_⟩
  obtain ⟨⟨d, e1, e2⟩, q2⟩ := chkT_of (H := H1) q
  refine ⟨by rw [← e2]; exact tyV_of r1.sub (r1.cv hv e1) (by rw [e2]; exact hT), g1, F1, r1, (q2.bind).imp fun ys g2 H2 F2 r2 s2 q3 us hus => ?_⟩
  exact opMut_of q3 r2 (hv.keep s2 (cont_ne e1)) hus
theorem de_mut {f : M R} {k : M (List R)} {op : O → List D → Option (O × D)} (hT : T ≠ "") (pa : PlainAttrs T) (slot : Slot T name id) (hty : typeOf (.builtin id) = pure (.type "method_descriptor")) (hm : MutD X id op) (ho : DE X Y W o f) (ha : DA X Y W (e :: es) k)
    (hbase : attributeBase o name X.env (eval o X.env) = eval o X.env := by rfl)
    (hfew : ((backTo pos (starEach (e :: es) X.env)).all (fun x => !x.1) && (backToKw pos (keywordEach [] X.env)).all (fun x => x.1.isSome)
      && decide ((e :: es).length + ([] : List Keyword).length + (if ([] : List Keyword).isEmpty then 0 else 1) < 30)) = true := by rfl)
    (hline : (apos.endLine == pos.line) = true := by rfl) (hs : starEach (e :: es) X.env = (false, eval e X.env) :: starEach es X.env := by rfl) (hplain : (backTo pos (starEach es X.env)).any (·.1) = false := by rfl) :
    DE X Y W (.Call (.Attribute o name apos) (e :: es) [] pos) (eMut T op f k) :=
  pe_mono (pe_bm pa slot hty hm ho ha hbase hfew hline hs hplain) fun σ H Q h => mut_args hT h
theorem de_mut0 {f : M R} {op : O → List D → Option (O × D)} (hT : T ≠ "") (pa : PlainAttrs T) (slot : Slot T name id) (hty : typeOf (.builtin id) = pure (.type "method_descriptor")) (hm : MutD X id op) (ho : DE X Y W o f)
    (hbase : attributeBase o name X.env (eval o X.env) = eval o X.env := by rfl) (hline : (apos.endLine == pos.line) = true := by rfl) : DE X Y W (.Call (.Attribute o name apos) [] [] pos) (eMut T op f aNil) :=
  pe_mono (pe_bm0 pa slot hty hm ho hbase hline) fun σ H Q h => by
    obtain ⟨g, F, r, p⟩ := mut_args hT h
    refine ⟨g, F, r, p.imp fun x g1 H1 F1 r1 s1 q v hv => ?_⟩
    obtain ⟨h1, g2, F2, r2, p2⟩ := q v hv
    exact ⟨h1, p2 H1 F2 r2 (Same.refl _) [] rfl⟩
end
end DL

namespace DL
open PySem PySem.Spec L2

/-! ### what built-ins compute -/
def intsOf : List D → Option (List Int)
  | [] => some []
  | .int i :: r => (intsOf r).map (i :: ·)
  | _ => none
def bolsOf : List D → Option (List Bool)
  | [] => some []
  | .bl i :: r => (bolsOf r).map (i :: ·)
  | _ => none
def strsOf : List D → Option (List Str)
  | [] => some []
  | .str i :: r => (strsOf r).map (i :: ·)
  | _ => none
@[simp] theorem intsOf_map : ∀ ns : List Int, intsOf (ns.map D.int) = some ns
  | [] => rfl
  | n :: ns => by rw [List.map_cons, intsOf, intsOf_map ns]; rfl
@[simp] theorem bolsOf_map : ∀ ns : List Bool, bolsOf (ns.map D.bl) = some ns
  | [] => rfl
  | n :: ns => by rw [List.map_cons, bolsOf, bolsOf_map ns]; rfl
@[simp] theorem strsOf_map : ∀ ns : List Str, strsOf (ns.map D.str) = some ns
  | [] => rfl
  | n :: ns => by rw [List.map_cons, strsOf, strsOf_map ns]; rfl
theorem intsOf_eq : ∀ {ds : List D} {ns : List Int}, intsOf ds = some ns → ds = ns.map D.int
  | [], _, h => by cases h; rfl
  | .int i :: r, ns, h => by
    unfold intsOf at h
    cases e : intsOf r with
    | none => rw [e] at h; cases h
    | some m => rw [e] at h; cases h; rw [List.map_cons, intsOf_eq e]
  | .non :: _, _, h => by cases h
  | .bl _ :: _, _, h => by cases h
  | .str _ :: _, _, h => by cases h
  | .tup _ :: _, _, h => by cases h
  | .lst _ :: _, _, h => by cases h
  | .dk _ :: _, _, h => by cases h
  | .dt _ :: _, _, h => by cases h
  | .scr _ :: _, _, h => by cases h
theorem bolsOf_eq : ∀ {ds : List D} {ns : List Bool}, bolsOf ds = some ns → ds = ns.map D.bl
  | [], _, h => by cases h; rfl
  | .bl i :: r, ns, h => by
    unfold bolsOf at h
    cases e : bolsOf r with
    | none => rw [e] at h; cases h
    | some m => rw [e] at h; cases h; rw [List.map_cons, bolsOf_eq e]
  | .non :: _, _, h => by cases h
  | .int _ :: _, _, h => by cases h
  | .str _ :: _, _, h => by cases h
  | .tup _ :: _, _, h => by cases h
  | .lst _ :: _, _, h => by cases h
  | .dk _ :: _, _, h => by cases h
  | .dt _ :: _, _, h => by cases h
  | .scr _ :: _, _, h => by cases h
theorem strsOf_eq : ∀ {ds : List D} {ns : List Str}, strsOf ds = some ns → ds = ns.map D.str
  | [], _, h => by cases h; rfl
  | .str i :: r, ns, h => by
    unfold strsOf at h
    cases e : strsOf r with
    | none => rw [e] at h; cases h
    | some m => rw [e] at h; cases h; rw [List.map_cons, strsOf_eq e]
  | .non :: _, _, h => by cases h
  | .int _ :: _, _, h => by cases h
  | .bl _ :: _, _, h => by cases h
  | .tup _ :: _, _, h => by cases h
  | .lst _ :: _, _, h => by cases h
  | .dk _ :: _, _, h => by cases h
  | .dt _ :: _, _, h => by cases h
  | .scr _ :: _, _, h => by cases h
theorem IsL.bols' {K : PySem.W.Frag} {F : Hp} : ∀ (ns : List Bool) (vs : List V), IsL K F vs (ns.map D.bl) → vs = ns.map V.bl
  | [], _, e => e
  | n :: ns, _, ⟨v, r, e, q, t⟩ => by subst e; rw [show v = .bl n from q, IsL.bols' ns r t]; rfl
theorem IsL.strs' {K : PySem.W.Frag} {F : Hp} : ∀ (ns : List Str) (vs : List V), IsL K F vs (ns.map D.str) → vs = ns.map V.str ∧ ∀ z ∈ ns, z.length ≤ sizeLine
  | [], _, e => ⟨e, fun _ h => nomatch h⟩
  | n :: ns, _, ⟨v, r, e, q, t⟩ => by
    obtain ⟨h1, h2⟩ := IsL.strs' ns r t
    subst e
    exact ⟨by rw [show v = .str n from q.1, h1]; rfl, fun z hz => (List.mem_cons.mp hz).elim (fun e => e ▸ q.2) (h2 z)⟩
theorem IsL.strs {K : PySem.W.Frag} {F : Hp} : ∀ ns : List Str, (∀ z ∈ ns, z.length ≤ sizeLine) → IsL K F (ns.map V.str) (ns.map D.str)
  | [], _ => rfl
  | n :: ns, h => ⟨.str n, ns.map V.str, rfl, ⟨rfl, h n List.mem_cons_self⟩, IsL.strs ns fun z hz => h z (List.mem_cons_of_mem _ hz)⟩

def srt (ns : List Int) : List Int := ns.mergeSort (fun a b => decide (a ≤ b))
theorem srt_perm (ns : List Int) : (srt ns).Perm ns := List.mergeSort_perm ns _
theorem srt_pw (ns : List Int) : (srt ns).Pairwise (· ≤ ·) := by
  have h := List.pairwise_mergeSort (le := fun a b : Int => decide (a ≤ b)) (fun a b c h1 h2 => by simp only [decide_eq_true_eq] at *; omega) (fun a b => by simp only [Bool.or_eq_true, decide_eq_true_eq]; omega) ns
  exact h.imp fun {a b} q => of_decide_eq_true q
theorem srt_of {ns ms : List Int} (h1 : ms.Perm ns) (h2 : ms.Pairwise (· ≤ ·)) : ms = srt ns := PySem.W.ksm_same (h1.trans (srt_perm ns).symm) h2 (srt_pw ns)

def fLen : List D → Option R
  | [.str s] => some (.fz (.int s.length))
  | [.tup xs] => some (.fz (.int xs.length))
  | [.lst xs] => some (.fz (.int xs.length))
  | [.scr xs] => some (.fz (.int xs.length))
  | _ => none
def fTuple : List D → Option R
  | [.lst xs] => some (.fz (.tup xs))
  | [.tup xs] => some (.fz (.tup xs))
  | _ => none
def fList : List D → Option R
  | [.lst xs] => some (.ow (.ls xs))
  | [.tup xs] => some (.ow (.ls xs))
  | [.scr xs] => some (.ow (.ls (xs.map D.int)))
  | _ => none
def fSorted : List D → Option R
  | [.lst xs] => (intsOf xs).map fun ns => .ow (.ls ((srt ns).map D.int))
  | _ => none
def fSum : List D → Option R
  | [.lst xs] => (intsOf xs).map fun ns => .fz (.int ns.sum)
  | _ => none
def fAll : List D → Option R
  | [.lst xs] => (bolsOf xs).map fun ns => .fz (.bl (ns.all id))
  | _ => none
def fAny : List D → Option R
  | [.lst xs] => (bolsOf xs).map fun ns => .fz (.bl (ns.any id))
  | _ => none
def fInt : List D → Option R
  | [.int i] => some (.fz (.int i))
  | [.bl b] => some (.fz (.int (if b then 1 else 0)))
  | [.str s] => if s.length ≤ 640 then (PySem.intText? s).map fun n => .fz (.int n) else none
  | _ => none
def fStr : List D → Option R
  | [.int i] => if i.natAbs.log2 < 1920 ∧ (toString i : Str).length ≤ sizeLine then some (.fz (.str (toString i))) else none
  | [.str s] => some (.fz (.str s))
  | _ => none
def fAbs : List D → Option R
  | [.int i] => some (.fz (.int (if i < 0 then -i else i)))
  | _ => none
def fMax2 : List D → Option R
  | [.int i, .int j] => some (.fz (.int (if j > i then j else i)))
  | _ => none
def fMin2 : List D → Option R
  | [.int i, .int j] => some (.fz (.int (if j < i then j else i)))
  | _ => none
def okRepr (d : D) : Bool := d.flat && d.py.showable && decide (d.py.depth ≤ 64) && decide (d.py.shown.length ≤ sizeLine)
def fRepr : List D → Option R
  | [d] => if okRepr d = true then some (.fz (.str d.py.shown)) else none
  | _ => none

mutual
theorem flat_noDict : ∀ d : D, d.flat = true → d.py.hasDict = false
  | .non, _ => rfl
  | .bl _, _ => rfl
  | .int _, _ => rfl
  | .str _, _ => rfl
  | .tup ds, h => flatL_noDict ds h
  | .lst ds, h => flatL_noDict ds h
  | .dk _, h => nomatch h
  | .dt _, h => nomatch h
  | .scr _, h => nomatch h
theorem flatL_noDict : ∀ ds : List D, flatL ds = true → PyData.hasDictAll (pyL ds) = false
  | [], _ => rfl
  | d :: ds, h => by
    rw [flatL, Bool.and_eq_true] at h
    rw [pyL, PyData.hasDictAll, flat_noDict d h.1, flatL_noDict ds h.2]; rfl
end

section
variable {X : Cx}
theorem cd_len : CallD X (.builtin "len") fLen := by
  intro pins s σ H xs us Q I r ⟨F, ds, r', sm, hc, ho, hr⟩
  unfold fLen at ho
  split at ho
  · cases ho
    obtain ⟨v, rfl, q⟩ := hc.one
    obtain ⟨rfl, hz⟩ := q.str
    exact call_len pins s σ H _ us Q I r ⟨_, _, rfl, ⟨hz, rfl⟩, hr.now sm rfl⟩
  · cases ho
    obtain ⟨v, rfl, q⟩ := hc.one
    obtain ⟨p, vs, rfl, h1, h2, h3⟩ := q.tup
    exact call_len pins s σ H _ us Q I r ⟨_, _, rfl, .inr ⟨vs, sqT_mono sm h1, h3.length.symm⟩, hr.now sm rfl⟩
  · cases ho
    obtain ⟨v, rfl, q⟩ := hc.one
    obtain ⟨p, vs, rfl, h1, h2, h3⟩ := q.lst sm
    exact call_len pins s σ H _ us Q I r ⟨_, _, rfl, .inl ⟨vs, SqL.of h1, h3.length.symm⟩, hr.now sm rfl⟩
  · cases ho
    obtain ⟨v, rfl, q⟩ := hc.one
    obtain ⟨p, rfl, h1, h2⟩ := q.scr
    exact call_len pins s σ H _ us Q I r ⟨_, _, rfl, .inl ⟨_, sm.seq h1, (List.length_map ..).symm⟩, hr.now sm rfl⟩
  · cases ho
theorem cd_tuple : CallD X (.type "tuple") fTuple := by
  intro pins s σ H xs us Q I r ⟨F, ds, r', sm, hc, ho, hr⟩
  unfold fTuple at ho
  split at ho
  · cases ho
    obtain ⟨v, rfl, q⟩ := hc.one
    obtain ⟨p, vs, rfl, h1, h2, h3⟩ := q.lst sm
    exact call_tuple_of pins s σ H _ us Q I r ⟨_, _, rfl, .inl ⟨SqL.of h1, fun l hl => hr.tup sm h3 h2 hl⟩⟩
  · cases ho
    obtain ⟨v, rfl, q⟩ := hc.one
    obtain ⟨p, vs, rfl, h1, h2, h3⟩ := q.tup
    exact call_tuple_of pins s σ H _ us Q I r ⟨_, _, rfl, .inr ⟨sqT_mono sm h1, hr.now sm ⟨p, vs, rfl, h1, h2, h3⟩⟩⟩
  · cases ho
theorem cd_list : CallD X (.type "list") fList := by
  intro pins s σ H xs us Q I r ⟨F, ds, r', sm, hc, ho, hr⟩
  unfold fList at ho
  split at ho
  · cases ho
    obtain ⟨v, rfl, q⟩ := hc.one
    obtain ⟨p, vs, rfl, h1, h2, h3⟩ := q.lst sm
    exact call_list_of pins s σ H _ us Q I r ⟨_, _, rfl, .inl (SqL.of h1), fun l hl => hr.ls sm h3 h2 hl⟩
  · cases ho
    obtain ⟨v, rfl, q⟩ := hc.one
    obtain ⟨p, vs, rfl, h1, h2, h3⟩ := q.tup
    exact call_list_of pins s σ H _ us Q I r ⟨_, _, rfl, .inr (sqT_mono sm h1), fun l hl => hr.ls sm h3 h2 hl⟩
  · cases ho
    obtain ⟨v, rfl, q⟩ := hc.one
    obtain ⟨p, rfl, h1, h2⟩ := q.scr
    exact call_list_of pins s σ H _ us Q I r ⟨_, _, rfl, .inl (sm.seq h1), fun l hl => hr.ls sm (IsL.ints _) (by rw [List.length_map]; exact h2) hl⟩
  · cases ho
theorem lst_one {K : PySem.W.Frag} {F H : Hp} {xs : List V} {ds : List D} (sm : Same F H) (hc : CVs K F H xs [.lst ds]) : ∃ p vs, xs = [.ref p] ∧ SqL K H p vs ∧ ds.length ≤ sizeLine ∧ IsL K F vs ds := by
  obtain ⟨v, rfl, q⟩ := hc.one
  obtain ⟨p, vs, rfl, h1, h2, h3⟩ := q.lst sm
  exact ⟨p, vs, rfl, SqL.of h1, h2, h3⟩
theorem cd_sorted : CallD X (.builtin "sorted") fSorted := by
  intro pins s σ H xs us Q I r ⟨F, ds, r', sm, hc, ho, hr⟩
  unfold fSorted at ho
  split at ho
  · rename_i ds
    cases e : intsOf ds with
    | none => rw [e] at ho; cases ho
    | some ns =>
      rw [e] at ho; cases ho
      obtain ⟨p, vs, rfl, h1, h2, h3⟩ := lst_one sm hc
      have e' := intsOf_eq e
      subst e'
      rw [h3.ints'] at h1
      refine cr_sortedI pins s σ H _ us Q I r ⟨p, ns, rfl, h1, fun ms l q1 q2 hl => ?_⟩
      rw [srt_of q1 q2]
      exact hr.ls sm (IsL.ints _) (by rw [List.length_map, (srt_perm ns).length_eq]; rw [List.length_map] at h2; exact h2) hl
  · cases ho
theorem cd_sum (hcm : X.calm = true) : CallD X (.builtin "sum") fSum := by
  intro pins s σ H xs us Q I r ⟨F, ds, r', sm, hc, ho, hr⟩
  unfold fSum at ho
  split at ho
  · rename_i ds
    cases e : intsOf ds with
    | none => rw [e] at ho; cases ho
    | some ns =>
      rw [e] at ho; cases ho
      obtain ⟨p, vs, rfl, h1, h2, h3⟩ := lst_one sm hc
      have e' := intsOf_eq e
      subst e'
      rw [h3.ints'] at h1
      exact cr_sum hcm pins s σ H _ us Q I r ⟨p, ns, rfl, h1, hr.now sm rfl⟩
  · cases ho
theorem cd_all (hcm : X.calm = true) : CallD X (.builtin "all") fAll := by
  intro pins s σ H xs us Q I r ⟨F, ds, r', sm, hc, ho, hr⟩
  unfold fAll at ho
  split at ho
  · rename_i ds
    cases e : bolsOf ds with
    | none => rw [e] at ho; cases ho
    | some ns =>
      rw [e] at ho; cases ho
      obtain ⟨p, vs, rfl, h1, h2, h3⟩ := lst_one sm hc
      have e' := bolsOf_eq e
      subst e'
      rw [h3.bols'] at h1
      exact cr_all hcm pins s σ H _ us Q I r ⟨p, ns, rfl, h1, hr.now sm rfl⟩
  · cases ho
theorem cd_any (hcm : X.calm = true) : CallD X (.builtin "any") fAny := by
  intro pins s σ H xs us Q I r ⟨F, ds, r', sm, hc, ho, hr⟩
  unfold fAny at ho
  split at ho
  · rename_i ds
    cases e : bolsOf ds with
    | none => rw [e] at ho; cases ho
    | some ns =>
      rw [e] at ho; cases ho
      obtain ⟨p, vs, rfl, h1, h2, h3⟩ := lst_one sm hc
      have e' := bolsOf_eq e
      subst e'
      rw [h3.bols'] at h1
      exact cr_any hcm pins s σ H _ us Q I r ⟨p, ns, rfl, h1, hr.now sm rfl⟩
  · cases ho
theorem cd_int : CallD X (.type "int") fInt := by
  intro pins s σ H xs us Q I r ⟨F, ds, r', sm, hc, ho, hr⟩
  unfold fInt at ho
  split at ho
  · cases ho
    obtain ⟨v, rfl, q⟩ := hc.one
    rw [q.int] at r
    exact call_int1 pins s σ H _ us Q I r (.inl ⟨_, rfl, hr.now sm rfl⟩)
  · cases ho
    obtain ⟨v, rfl, q⟩ := hc.one
    rw [q.bl] at r
    exact call_int1 pins s σ H _ us Q I r (.inr ⟨_, rfl, hr.now sm rfl⟩)
  · split at ho
    · rename_i z hz
      cases e : PySem.intText? z with
      | none => rw [e] at ho; cases ho
      | some n =>
        rw [e] at ho; cases ho
        obtain ⟨v, rfl, q⟩ := hc.one
        rw [q.str.1] at r
        exact call_int_str pins s σ H _ us Q I r ⟨_, _, rfl, e, hz, hr.now sm rfl⟩
    · cases ho
  · cases ho
theorem cd_str : CallD X (.type "str") fStr := by
  intro pins s σ H xs us Q I r ⟨F, ds, r', sm, hc, ho, hr⟩
  unfold fStr at ho
  split at ho
  · split at ho
    · rename_i i hz
      cases ho
      obtain ⟨v, rfl, q⟩ := hc.one
      rw [q.int] at r
      exact call_str_int pins s σ H _ us Q I r ⟨_, rfl, hz.1, hr.now sm ⟨rfl, hz.2⟩⟩
    · cases ho
  · cases ho
    obtain ⟨v, rfl, q⟩ := hc.one
    rw [q.str.1] at r
    exact SkE.call_str_str pins s σ H _ us Q I r ⟨_, rfl, hr.now sm ⟨rfl, q.str.2⟩⟩
  · cases ho
theorem cd_abs : CallD X (.builtin "abs") fAbs := by
  intro pins s σ H xs us Q I r ⟨F, ds, r', sm, hc, ho, hr⟩
  unfold fAbs at ho
  split at ho
  · cases ho
    obtain ⟨v, rfl, q⟩ := hc.one
    rw [q.int] at r
    exact call_abs pins s σ H _ us Q I r ⟨_, rfl, hr.now sm rfl⟩
  · cases ho
theorem cd_max2 (hcm : X.calm = true) : CallD X (.builtin "max") fMax2 := by
  intro pins s σ H xs us Q I r ⟨F, ds, r', sm, hc, ho, hr⟩
  unfold fMax2 at ho
  split at ho
  · cases ho
    obtain ⟨v, u, rfl, q, q'⟩ := hc.two
    rw [q.int, q'.int] at r
    exact call_max2 hcm pins s σ H _ us Q I r ⟨_, _, rfl, hr.now sm rfl⟩
  · cases ho
theorem cd_min2 (hcm : X.calm = true) : CallD X (.builtin "min") fMin2 := by
  intro pins s σ H xs us Q I r ⟨F, ds, r', sm, hc, ho, hr⟩
  unfold fMin2 at ho
  split at ho
  · cases ho
    obtain ⟨v, u, rfl, q, q'⟩ := hc.two
    rw [q.int, q'.int] at r
    exact call_min2 hcm pins s σ H _ us Q I r ⟨_, _, rfl, hr.now sm rfl⟩
  · cases ho
theorem cd_repr (hg : X.A.guards = some []) (hu : X.A.units + 128 < cLine) : CallD X (.builtin "repr") fRepr := by
  intro pins s σ H xs us Q I r ⟨F, ds, r', sm, hc, ho, hr⟩
  unfold fRepr at ho
  split at ho
  · split at ho
    · rename_i d hz
      cases ho
      unfold okRepr at hz
      rw [Bool.and_eq_true, Bool.and_eq_true, Bool.and_eq_true] at hz
      obtain ⟨⟨⟨hf, hs⟩, hd⟩, hl⟩ := hz
      have hd := of_decide_eq_true hd
      have hl := of_decide_eq_true hl
      obtain ⟨v, rfl, q⟩ := hc.one
      obtain ⟨u, rfl, ru⟩ := vals1 r
      have dp := q.dp sm hf
      have q' : Q (.str d.py.shown) H := hr.now sm ⟨rfl, hl⟩
      have nd := flat_noDict d hf
      clear hr hc q hf
      generalize d.py = e at *
      obtain ⟨as, rd⟩ := Dp.reads I e v u dp ru
      cases u with
      | none => cases rd; exact P.repr_of_none ⟨.str _, H, I.tok _, ⟨_, rfl⟩, q'⟩
      | bool b => cases rd; exact P.repr_of_bool ⟨.str _, H, I.tok _, ⟨_, rfl⟩, q'⟩
      | int i t => cases rd; exact P.repr_of_int (of_decide_eq_true hs) ⟨.str _, H, I.tok _, ⟨_, rfl⟩, q'⟩
      | str x t => cases rd; exact P.repr_of_str ⟨.str _, H, I.tok _, ⟨_, rfl⟩, q'⟩ hl
      | ref a => exact repr_of_reads' rd hs (fun h => by rw [nd] at h; cases h) hg (by omega) (fun _ _ z => z) (fun h' w tk hk => ⟨.str e.shown, H, I.kept hk, ⟨w, rfl⟩, q'⟩) hl
      | _ => cases rd
    · cases ho
  · cases ho
end
end DL

namespace DL
open PySem PySem.Spec L2

/-! ### subscripts, slices -/
def ixD : D → D → Option R
  | .lst xs, .int i => (atI xs i).map .fz
  | .tup xs, .int i => (atI xs i).map .fz
  | .str z, .int i => (atI z.cps.toList i).map fun c => .fz (.str ⟨#[c]⟩)
  | .scr ns, .int i => (atI ns i).map fun n => .fz (.int n)
  | _, _ => none
def cutL {α : Type} (xs : List α) (lo hi : Option Int) : List α := (xs.drop (HT.sIx xs.length 0 lo)).take (HT.sIx xs.length xs.length hi - HT.sIx xs.length 0 lo)
theorem cutL_length {α : Type} (xs : List α) (lo hi : Option Int) : (cutL xs lo hi).length ≤ xs.length := by
  unfold cutL; rw [List.length_take, List.length_drop]; omega
def slD (lo hi : Option Int) : D → Option R
  | .lst xs => some (.ow (.ls (cutL xs lo hi)))
  | .tup xs => some (.fz (.tup (cutL xs lo hi)))
  | .str z => some (.fz (.str (cutS z lo hi)))
  | _ => none
theorem atI_eq {α β : Type} {xs : List α} {ys : List β} {i : Int} {j : Nat} (h : ixN xs.length i = some j) (hl : ys.length = xs.length) {y : β} (hy : ys[j]? = some y) : atI ys i = some y := by
  unfold atI; rw [hl, h]; exact hy
theorem atI_ix {α : Type} {xs : List α} {i : Int} {x : α} (h : atI xs i = some x) : ∃ j, ixN xs.length i = some j ∧ xs[j]? = some x := by
  unfold atI at h
  cases e : ixN xs.length i with
  | none => rw [e] at h; cases h
  | some j => rw [e] at h; exact ⟨j, rfl, h⟩
theorem IsL.atI {K : PySem.W.Frag} {F : Hp} {ds : List D} {vs : List V} {i : Int} {d : D} (q : IsL K F vs ds) (h : L2.atI ds i = some d) : ∃ v, L2.atI vs i = some v ∧ Is K F v d := by
  obtain ⟨j, h1, h2⟩ := atI_ix h
  obtain ⟨v, h3, h4⟩ := q.get h2
  exact ⟨v, atI_eq h1 q.length h3, h4⟩
def IxD (X : Cx) (op : D → D → Option R) : Prop :=
  IxR X fun x y H Q => ∃ F a b r, Same F H ∧ CV X.K F H x a ∧ CV X.K F H y b ∧ op a b = some r ∧ RP X.K F H Q r
/-- a part of a slice -/
def toI (x : R) : M (Option Int) := fun g => match x with
  | .fz (.int i) => .ok (some i) g
  | _ => .bad
def ePart (f : M R) : M (Option Int) := mb f toI
def eNoPart : M (Option Int) := mp none
def opSl (x : R) (lo hi : Option Int) : M R := fun g => match cont g x with
  | some d => done (slD lo hi d) g
  | none => .bad
def eSl (f : M R) (l h : M (Option Int)) : M R := mb (pk f) fun x => mb l fun lo => mb h fun hi => opSl x lo hi
def tO (K : PySem.W.Frag) (Y : Ent) (W : WX) (f : M (Option Int)) : TO := fun σ H Q => ∃ g F, Rel K Y σ H g F ∧ Post K Y W σ F (fun o _ H' _ => Q o H') (f g)
def DO (X : Cx) (Y : Ent) (W : WX) (e : Option Expr) (f : M (Option Int)) : Prop := PO X e (tO X.K Y W f)
def slRevD : D → Option R
  | .lst xs => some (.ow (.ls xs.reverse))
  | _ => none
def opRev (x : R) : M R := fun g => match cont g x with
  | some d => done (slRevD d) g
  | none => .bad
def eRev (f : M R) : M R := mb (pk f) opRev
section
variable {X : Cx} {Y : Ent} {W : WX} {pos p2 : Pos} {a b e : Expr}
theorem id_ix : IxD X ixD := by
  intro value slice pins s σ H x y v u Q I rx ry ⟨F, a, b, r, sm, ha, hb, ho, hr⟩ hs
  unfold ixD at ho
  split at ho
  · rename_i xs i
    cases e : L2.atI xs i with
    | none => rw [e] at ho; cases ho
    | some d =>
      rw [e] at ho; cases ho
      obtain ⟨p, vs, rfl, h1, h2, h3⟩ := ha.lst sm
      obtain ⟨w, h4, h5⟩ := h3.atI e
      exact ix_list value slice pins s σ H _ y v u Q I rx ry ⟨p, vs, i, w, rfl, hb.int, SqL.of h1, h4, hr.now sm h5⟩ hs
  · rename_i xs i
    cases e : L2.atI xs i with
    | none => rw [e] at ho; cases ho
    | some d =>
      rw [e] at ho; cases ho
      obtain ⟨p, vs, rfl, h1, h2, h3⟩ := ha.tup
      obtain ⟨w, h4, h5⟩ := h3.atI e
      exact ix_tup value slice pins s σ H _ y v u Q I rx ry ⟨p, vs, i, w, rfl, hb.int, sqT_mono sm h1, h4, hr.now sm h5⟩ hs
  · rename_i z i
    cases e : L2.atI z.cps.toList i with
    | none => rw [e] at ho; cases ho
    | some c =>
      rw [e] at ho; cases ho
      exact ix_str value slice pins s σ H x y v u Q I rx ry ⟨z, i, c, ha.str.1, hb.int, ha.str.2, e, hr.now sm ⟨rfl, by show (1 : Nat) ≤ sizeLine; decide⟩⟩ hs
  · rename_i ns i
    cases e : L2.atI ns i with
    | none => rw [e] at ho; cases ho
    | some n =>
      rw [e] at ho; cases ho
      obtain ⟨p, rfl, h1, h2⟩ := ha.scr
      obtain ⟨j, k1, k2⟩ := atI_ix e
      exact ix_list value slice pins s σ H _ y v u Q I rx ry ⟨p, _, i, .int n, rfl, hb.int, sm.seq h1, atI_eq k1 (List.length_map ..) (by rw [List.getElem?_map, k2]; rfl), hr.now sm rfl⟩ hs
  · cases ho
theorem de_ix {f k : M R} (ha : DE X Y W a f) (hb : DE X Y W b k) (hs : PlainIx b := by exact fun _ _ => rfl) : DE X Y W (.Subscript a b pos) (eB ixD f k) :=
  pe_mono (pe_ix id_ix (de_pk ha) (de_pk hb) hs) fun σ H Q h => two_args ha hb h
theorem do_none : DO X Y W none eNoPart := ⟨fun pins s σ H Q I ⟨g, F, r, p⟩ => po_none.run pins s σ H Q I (p H F r (Same.refl _))⟩
theorem do_some {f : M R} (h : DE X Y W e f) : DO X Y W (some e) (ePart f) :=
  ⟨fun pins s σ H Q I ⟨g, F, r, p⟩ => (po_some h).run pins s σ H Q I ⟨g, F, r, (p.bind).imp fun x g1 H1 F1 r1 s1 q v hv => by
    unfold toI at q
    split at q
    · exact ⟨_, hv, q H1 F1 r1 (Same.refl _)⟩
    · exact q.elim⟩⟩
theorem sd_sl : SlR X (fun x lo hi H Q => ∃ F a r, Same F H ∧ CV X.K F H x a ∧ slD lo hi a = some r ∧ RP X.K F H Q r) := by
  intro pins s σ H x v vl vu lo hi sl Q I rx hs pl pu ⟨F, a, r, sm, ha, ho, hr⟩
  unfold slD at ho
  split at ho
  · cases ho
    rename_i xs
    obtain ⟨p, vs, rfl, h1, h2, h3⟩ := ha.lst sm
    refine sl_list pins s σ H _ v vl vu lo hi sl Q I rx hs pl pu ⟨p, vs, rfl, SqL.of h1, fun l hl => ?_⟩
    have e : IsL X.K F (cutV vs lo hi) (cutL xs lo hi) := by
      unfold cutV cutL
      rw [h3.length]
      exact (h3.drop _).take _
    exact hr.ls sm e (Nat.le_trans (cutL_length ..) h2) hl
  · cases ho
    rename_i xs
    obtain ⟨p, vs, rfl, h1, h2, h3⟩ := ha.tup
    have e : IsL X.K F (cutV vs lo hi) (cutL xs lo hi) := by
      unfold cutV cutL
      rw [h3.length]
      exact (h3.drop _).take _
    refine sl_tupA pins s σ H _ v vl vu lo hi sl Q I rx hs pl pu ⟨p, vs, rfl, sqT_mono sm h1, fun hw => ?_, fun hw l hl => hr.tup sm e (Nat.le_trans (cutL_length ..) h2) hl⟩
    have e2 : cutL xs lo hi = xs := by
      unfold cutL
      rw [h3.length] at hw
      rw [hw.1, hw.2, List.drop_zero, Nat.sub_zero, List.take_length]
    rw [e2] at hr
    exact hr.now sm ⟨p, vs, rfl, h1, h2, h3⟩
  · cases ho
    exact sl_str pins s σ H _ v vl vu lo hi sl Q I rx hs pl pu ⟨_, ha.str.1, ha.str.2, hr.now sm ⟨rfl, Nat.le_trans (cutS_length ..) ha.str.2⟩⟩
  · cases ho
theorem de_sl {f : M R} {l h : M (Option Int)} {lo hi : Option Expr} (he : DE X Y W e f) (hl : DO X Y W lo l) (hu : DO X Y W hi h) : DE X Y W (.Subscript e (.Slice lo hi none p2) pos) (eSl f l h) :=
  pe_mono (pe_slice sd_sl (de_pk he) hl hu) fun σ H Q ⟨g, F, r, p⟩ => ⟨g, F, r, (p.bind).imp fun x g1 H1 F1 r1 s1 q v hv => ⟨g1, F1, r1, (q.bind).imp fun lo g2 H2 F2 r2 s2 q2 => ⟨g2, F2, r2, (q2.bind).imp fun hi g3 H3 F3 r3 s3 q3 => by
    unfold opSl at q3
    split at q3
    · rename_i d e
      obtain ⟨r', k1, k2⟩ := Post.done q3 r3
      exact ⟨F3, d, r', r3.sub, r3.cv (hv.keep (s2.trans s3) (cont_ne e)) e, k1, k2⟩
    · exact q3.elim⟩⟩⟩
theorem de_rev {f : M R} {k : Nat} {p1 p3 : Pos} (he : DE X Y W e f) : DE X Y W (.Subscript e (.Slice none none (some (.UnaryOp .USub (.Constant (.int 1) k p1) p2)) p3) pos) (eRev f) :=
  pe_mono (pe_revL (de_pk he)) fun σ H Q ⟨g, F, r, p⟩ => ⟨g, F, r, (p.bind).imp fun x g1 H1 F1 r1 s1 q v hv => by
    unfold opRev at q
    split at q
    · rename_i d e
      obtain ⟨r', k1, k2⟩ := Post.done q r1
      unfold slRevD at k1
      split at k1
      · cases k1
        obtain ⟨p, vs, rfl, h1, h2, h3⟩ := (r1.cv hv e).lst r1.sub
        exact ⟨p, vs, rfl, SqL.of h1, fun l hl => k2.ls r1.sub h3.reverse (by rw [List.length_reverse]; exact h2) hl⟩
      · cases k1
    · exact q.elim⟩
end

/-! ### methods of texts -/
def mJoin : D → List D → Option R
  | .str a, [.lst xs] => (strsOf xs).bind fun ys => if (ys.map (·.length)).sum + ys.length * a.length ≤ 16777216 then some (.fz (.str (Txt.join a ys))) else none
  | .str a, [.tup xs] => (strsOf xs).bind fun ys => if (ys.map (·.length)).sum + ys.length * a.length ≤ 16777216 then some (.fz (.str (Txt.join a ys))) else none
  | _, _ => none
def mSplit : D → List D → Option R
  | .str a, [.str b] => if (b.length == 0) = false ∧ a.length + 2 ≤ sizeLine ∧ (Txt.split a b).length ≤ sizeLine ∧ (Txt.split a b).all (fun z => decide (z.length ≤ sizeLine)) = true then some (.ow (.ls ((Txt.split a b).map .str))) else none
  | _, _ => none
def mFind : D → List D → Option R
  | .str a, [.str b] => some (.fz (.int (Txt.find a b)))
  | _, _ => none
def mCount : D → List D → Option R
  | .str a, [.str b] => some (.fz (.int (Txt.count a b)))
  | _, _ => none
def mIndex : D → List D → Option R
  | .str a, [.str b] => match Builtin.Str.occurrences a b 0 a.length 1 with
    | i :: _ => some (.fz (.int (i : Nat)))
    | [] => none
  | _, _ => none
def mStarts : D → List D → Option R
  | .str a, [.str b] => some (.fz (.bl (Txt.startswith a b)))
  | _, _ => none
def mEnds : D → List D → Option R
  | .str a, [.str b] => some (.fz (.bl (Txt.endswith a b)))
  | _, _ => none
section
variable {X : Cx}
theorem join_le {a : Str} {ys : List Str} (h : (ys.map (·.length)).sum + ys.length * a.length ≤ 16777216) : (Txt.join a ys).length ≤ sizeLine := by
  have := StrLaws.join_length_le a ys
  show (Builtin.Str.glued a ys).length ≤ _
  rw [StrLaws.glued_eq_join, sizeLine_eq]
  omega
theorem md_join : MtD X "str.join" mJoin := by
  intro pins s σ H x xs v us Q I rx rs ⟨F, d, ds, r, sm, hd, hc, ho, hr⟩
  unfold mJoin at ho
  split at ho
  · rename_i a xs
    cases e : strsOf xs with
    | none => rw [e] at ho; cases ho
    | some ys =>
      rw [e] at ho
      simp only [Option.bind_some] at ho
      split at ho
      · rename_i hz
        cases ho
        have e' := strsOf_eq e
        subst e'
        obtain ⟨p, vs, rfl, h1, h2, h3⟩ := lst_one sm hc
        rw [(h3.strs').1] at h1
        exact mt_join pins s σ H x _ v us Q I rx rs ⟨a, p, ys, hd.str.1, rfl, .inl h1, hz, hr.now sm ⟨rfl, join_le hz⟩⟩
      · cases ho
  · rename_i a xs
    cases e : strsOf xs with
    | none => rw [e] at ho; cases ho
    | some ys =>
      rw [e] at ho
      simp only [Option.bind_some] at ho
      split at ho
      · rename_i hz
        cases ho
        have e' := strsOf_eq e
        subst e'
        obtain ⟨v', rfl, q⟩ := hc.one
        obtain ⟨p, vs, rfl, h1, h2, h3⟩ := q.tup
        have h1' := sqT_mono sm h1
        rw [(h3.strs').1] at h1'
        exact mt_join pins s σ H x _ v us Q I rx rs ⟨a, p, ys, hd.str.1, rfl, .inr h1', hz, hr.now sm ⟨rfl, join_le hz⟩⟩
      · cases ho
  · cases ho
theorem str_str {K : PySem.W.Frag} {F H : Hp} {xs : List V} {b : Str} (hc : CVs K F H xs [.str b]) : xs = [.str b] := by
  obtain ⟨v, rfl, q⟩ := hc.one
  rw [q.str.1]
theorem md_split : MtD X "str.split" mSplit := by
  intro pins s σ H x xs v us Q I rx rs ⟨F, d, ds, r, sm, hd, hc, ho, hr⟩
  unfold mSplit at ho
  split at ho
  · split at ho
    · rename_i a b hz
      cases ho
      rw [str_str hc] at rs
      refine mt_split pins s σ H x _ v us Q I rx rs ⟨a, b, hd.str.1, rfl, hz.1, hz.2.1, fun p hp => ?_⟩
      exact hr.ls sm (IsL.strs _ fun z hz' => of_decide_eq_true (List.all_eq_true.mp hz.2.2.2 z hz')) (by rw [List.length_map]; exact hz.2.2.1) hp
    · cases ho
  · cases ho
theorem md_find : MtD X "str.find" mFind := by
  intro pins s σ H x xs v us Q I rx rs ⟨F, d, ds, r, sm, hd, hc, ho, hr⟩
  unfold mFind at ho
  split at ho
  · cases ho
    rw [str_str hc] at rs
    exact mt_find pins s σ H x _ v us Q I rx rs ⟨_, _, hd.str.1, rfl, hr.now sm rfl⟩
  · cases ho
theorem md_count : MtD X "str.count" mCount := by
  intro pins s σ H x xs v us Q I rx rs ⟨F, d, ds, r, sm, hd, hc, ho, hr⟩
  unfold mCount at ho
  split at ho
  · cases ho
    rw [str_str hc] at rs
    exact mt_count pins s σ H x _ v us Q I rx rs ⟨_, _, hd.str.1, rfl, hr.now sm rfl⟩
  · cases ho
theorem md_starts : MtD X "str.startswith" mStarts := by
  intro pins s σ H x xs v us Q I rx rs ⟨F, d, ds, r, sm, hd, hc, ho, hr⟩
  unfold mStarts at ho
  split at ho
  · cases ho
    rw [str_str hc] at rs
    exact mt_startswith pins s σ H x _ v us Q I rx rs ⟨_, _, hd.str.1, rfl, hr.now sm rfl⟩
  · cases ho
theorem md_ends : MtD X "str.endswith" mEnds := by
  intro pins s σ H x xs v us Q I rx rs ⟨F, d, ds, r, sm, hd, hc, ho, hr⟩
  unfold mEnds at ho
  split at ho
  · cases ho
    rw [str_str hc] at rs
    exact mt_endswith pins s σ H x _ v us Q I rx rs ⟨_, _, hd.str.1, rfl, hr.now sm rfl⟩
  · cases ho
theorem md_index : MtD X "str.index" mIndex := by
  intro pins s σ H x xs v us Q I rx rs ⟨F, d, ds, r, sm, hd, hc, ho, hr⟩
  unfold mIndex at ho
  split at ho
  · split at ho
    · rename_i a b i rest e
      cases ho
      rw [str_str hc] at rs
      exact mt_sindex pins s σ H x _ v us Q I rx rs ⟨_, _, i, rest, hd.str.1, rfl, e, hr.now sm rfl⟩
    · cases ho
  · cases ho

/-! ### lists that are changed -/
def uAppend : O → List D → Option (O × D)
  | .ls xs, [d] => if xs.length < sizeLine then some (.ls (xs ++ [d]), .non) else none
  | _, _ => none
def uExtend : O → List D → Option (O × D)
  | .ls xs, [.lst ys] => if xs.length + ys.length ≤ sizeLine then some (.ls (xs ++ ys), .non) else none
  | _, _ => none
def uPop : O → List D → Option (O × D)
  | .ls xs, [] => xs.getLast?.map fun d => (.ls xs.dropLast, d)
  | _, _ => none
def uPopAt : O → List D → Option (O × D)
  | .ls xs, [.int i] => if -(2 ^ 63) ≤ i ∧ i < 2 ^ 63 then (ixN xs.length i).bind fun k => xs[k]?.map fun d => (.ls (xs.eraseIdx k), d) else none
  | _, _ => none
def uReverse : O → List D → Option (O × D)
  | .ls xs, [] => some (.ls xs.reverse, .non)
  | _, _ => none
theorem ud_append : MutD X "list.append" uAppend := by
  intro pins s σ H x xs v us Q I rx rs h0
  obtain ⟨F, a, o, ds, o', d, rfl, q1, q2, sm, q3, ho, q⟩ := h0
  unfold uAppend at ho
  split at ho
  · split at ho
    · rename_i ys e hz
      cases ho
      obtain ⟨vs, h1, h2, h3⟩ := q1
      obtain ⟨w, r, rfl, k1, k2⟩ := q3
      rw [show r = [] from k2] at rs
      have hz' : vs.length < sizeLine := by rw [h3.length]; exact hz
      exact mt_append pins s σ H _ _ v us Q I rx rs ⟨a, vs, w, rfl, rfl, h1, hz', q _ _ ⟨_, upd_same, by rw [List.length_append]; exact hz, h3.append (.one k1)⟩ rfl⟩
    · cases ho
  · cases ho
theorem ud_extend : MutD X "list.extend" uExtend := by
  intro pins s σ H x xs v us Q I rx rs h0
  obtain ⟨F, a, o, ds, o', d, rfl, q1, q2, sm, q3, ho, q⟩ := h0
  unfold uExtend at ho
  split at ho
  · split at ho
    · rename_i ys e hz
      cases ho
      obtain ⟨vs, h1, h2, h3⟩ := q1
      obtain ⟨w, r, rfl, k1, k2⟩ := q3
      obtain ⟨b, zs, rfl, k3, k4, k5⟩ := k1
      rw [show r = [] from k2] at rs
      exact mt_extend pins s σ H _ _ v us Q I rx rs ⟨a, b, vs, zs, rfl, rfl, h1, sm _ _ k3, by rw [h3.length, k5.length]; exact hz, q _ _ ⟨_, upd_same, by rw [List.length_append]; exact hz, h3.append k5⟩ rfl⟩
    · cases ho
  · cases ho
theorem IsL.dropLast {K : PySem.W.Frag} {F : Hp} {ds : List D} {vs : List V} (q : IsL K F vs ds) : IsL K F vs.dropLast ds.dropLast := by
  rw [List.dropLast_eq_take, List.dropLast_eq_take, q.length]
  exact q.take _
theorem ud_pop : MutD X "list.pop" uPop := by
  intro pins s σ H x xs v us Q I rx rs h0
  obtain ⟨F, a, o, ds, o', d, rfl, q1, q2, sm, q3, ho, q⟩ := h0
  unfold uPop at ho
  split at ho
  · rename_i ys
    cases e : ys.getLast? with
    | none => rw [e] at ho; cases ho
    | some d' =>
      rw [e] at ho
      cases ho
      obtain ⟨vs, h1, h2, h3⟩ := q1
      rw [show xs = [] from q3] at rs
      rw [List.getLast?_eq_getElem?] at e
      obtain ⟨w, k1, k2⟩ := h3.get e
      rw [← h3.length] at k1
      exact mt_pop pins s σ H _ _ v us Q I rx rs ⟨a, vs, w, rfl, rfl, h1, k1, q _ _ ⟨_, upd_same, by rw [List.length_dropLast]; omega, h3.dropLast⟩ k2⟩
  · cases ho
theorem IsL.erase {K : PySem.W.Frag} {F : Hp} : ∀ {ds : List D} {vs : List V} (k : Nat), IsL K F vs ds → IsL K F (vs.eraseIdx k) (ds.eraseIdx k)
  | [], _, _, e => by rw [show _ = [] from e]; exact rfl
  | d :: ds, _, 0, ⟨v, r, e, q, t⟩ => by subst e; exact t
  | d :: ds, _, k + 1, ⟨v, r, e, q, t⟩ => by subst e; exact ⟨v, r.eraseIdx k, rfl, q, IsL.erase k t⟩
theorem ud_popAt : MutD X "list.pop" uPopAt := by
  intro pins s σ H x xs v us Q I rx rs h0
  obtain ⟨F, a, o, ds, o', d, rfl, q1, q2, sm, q3, ho, q⟩ := h0
  unfold uPopAt at ho
  split at ho
  · split at ho
    · rename_i ys i hz
      cases e : ixN ys.length i with
      | none => rw [e] at ho; cases ho
      | some k =>
        rw [e] at ho
        simp only [Option.bind_some] at ho
        cases e2 : ys[k]? with
        | none => rw [e2] at ho; cases ho
        | some d' =>
          rw [e2] at ho
          cases ho
          obtain ⟨vs, h1, h2, h3⟩ := q1
          obtain ⟨w, r, rfl, k1, k2⟩ := q3
          rw [show r = [] from k2, show w = .int i from k1] at rs
          obtain ⟨w', k3, k4⟩ := h3.get e2
          have k5 := (ixN_seq e).1
          rw [← h3.length] at k5
          exact mt_popAt pins s σ H _ _ v us Q I rx rs ⟨a, vs, i, k, w', rfl, rfl, h1, hz.1, hz.2, k5, k3, q _ _ ⟨_, upd_same, by rw [List.length_eraseIdx]; split <;> omega, h3.erase k⟩ k4⟩
    · cases ho
  · cases ho
theorem ud_reverse : MutD X "list.reverse" uReverse := by
  intro pins s σ H x xs v us Q I rx rs h0
  obtain ⟨F, a, o, ds, o', d, rfl, q1, q2, sm, q3, ho, q⟩ := h0
  unfold uReverse at ho
  split at ho
  · cases ho
    obtain ⟨vs, h1, h2, h3⟩ := q1
    rw [show xs = [] from q3] at rs
    exact mt_reverse pins s σ H _ _ v us Q I rx rs ⟨a, vs, rfl, rfl, h1, q _ _ ⟨_, upd_same, by rw [List.length_reverse]; exact h2, h3.reverse⟩ rfl⟩
  · cases ho
end
end DL

namespace DL
open PySem PySem.Spec L2

/-! ### statements -/
def PostS (K : PySem.W.Frag) (Y : Ent) (W : WX) (F : Hp) (D : Ends) : Rs Fl → Prop
  | .bad => False
  | .ok fl g => ∀ σ' H' F', Rel K Y σ' H' g F' → Same F F' → match fl with
    | .nx => D.nx σ' H'
    | .bk => D.bk σ' H'
    | .ct => D.ct σ' H'
    | .rt r => ∀ v, RV K Y σ' F' H' g v r → D.rt v H'
  | .ex e g => ∀ d σ' H' F', Rel K Y σ' H' g F' → Same F F' → XD K F' H' d e.p → W (Y.cls e.c) d σ' H'
def tS (K : PySem.W.Frag) (Y : Ent) (W : WX) (f : M Fl) : TS := fun D σ H => ∃ g F, Rel K Y σ H g F ∧ PostS K Y W F D (f g)
def DS (X : Cx) (Y : Ent) (W : WX) (st : Stmt) (f : M Fl) : Prop := PS X st (tS X.K Y W f)
def DSs (X : Cx) (Y : Ent) (W : WX) (st : List Stmt) (f : M Fl) : Prop := PSs X st (tS X.K Y W f)
theorem PostS.weak {K : PySem.W.Frag} {Y : Ent} {W : WX} {F F1 : Hp} {D : Ends} {x : Rs Fl} (s : Same F F1) (h : PostS K Y W F D x) : PostS K Y W F1 D x := by
  cases x with
  | bad => exact h
  | ok fl g => exact fun σ' H' F' r s' => h σ' H' F' r (s.trans s')
  | ex e g => exact fun d σ' H' F' r s' => h d σ' H' F' r (s.trans s')
/-- an expression first -/
theorem PostS.bind {α : Type} {K : PySem.W.Frag} {Y : Ent} {W : WX} {σ : St} {F : Hp} {D : Ends} {x : Rs α} {k : α → G → Rs Fl} (h : PostS K Y W F D (x.andThen k)) :
    Post K Y W σ F (fun a g _ F' => PostS K Y W F' D (k a g)) x := by
  cases x with
  | bad => exact h
  | ex e g => exact fun d H' F' r s q => h d σ H' F' r s q
  | ok a g => exact fun H1 F1 r s => PostS.weak s h
def sSeq (a b : M Fl) : M Fl := fun g => match a g with
  | .ok .nx g' => b g'
  | r => r
def sNil : M Fl := mp .nx
def sExpr (f : M R) : M Fl := mb f fun _ => mp .nx
def sPass : M Fl := mp .nx
def sBrk : M Fl := mp .bk
def sCont : M Fl := mp .ct
def retR (r : R) : M Fl := fun g => match r with
  | .fz d => .ok (.rt (.fz d)) g
  | .ow o => .ok (.rt (.ow o)) g
  | .at i => match g[i]? with
    | some (some (.ow false o)) => .ok (.rt (.ow o)) (g.set i none)
    | some (some (.fz d)) => .ok (.rt (.fz d)) g
    | _ => .bad
def sRet (f : M R) : M Fl := mb f retR
def sRetN : M Fl := mp (.rt (.fz .non))
def sIf (c : M Bool) (a b : M Fl) : M Fl := mb c fun t => if t = true then a else b
section
variable {X : Cx} {Y : Ent} {W : WX} {pos : Pos} {e : Expr} {st : Stmt} {rest : List Stmt}
theorem PostS.seq {K : PySem.W.Frag} {F : Hp} {D : Ends} {a b : M Fl} {g : G} (h : PostS K Y W F D (sSeq a b g)) : PostS K Y W F { D with nx := tS K Y W b D } (a g) := by
  have h' : PostS K Y W F D (match a g with | .ok .nx g' => b g' | r => r) := h
  revert h'
  cases a g with
  | bad => exact id
  | ex e g => exact id
  | ok fl g' =>
    cases fl with
    | nx => exact fun h' σ' H' F' r s => ⟨g', F', r, PostS.weak s h'⟩
    | bk => exact id
    | ct => exact id
    | rt r => exact id
theorem ds_nil : DSs X Y W [] sNil := pss_mono pss_nil fun D σ H ⟨g, F, r, p⟩ => p σ H F r (Same.refl _)
theorem ds_cons {f k : M Fl} (h1 : DS X Y W st f) (h2 : DSs X Y W rest k) : DSs X Y W (st :: rest) (sSeq f k) :=
  pss_mono (pss_cons h1 h2) fun D σ H ⟨g, F, r, p⟩ => ⟨g, F, r, p.seq⟩
theorem ds_one {f : M Fl} (h1 : DS X Y W st f) : DSs X Y W [st] f := pss_one h1
theorem ds_expr {f : M R} (he : DE X Y W e f) (hs : swapsWith e none pos.line X.env = pure false := by rfl) : DS X Y W (.Expr e pos) (sExpr f) :=
  ps_mono (ps_expr he hs) fun D σ H ⟨g, F, r, p⟩ => ⟨g, F, r, (p.bind).imp fun x g1 H1 F1 r1 s1 q v hv => q σ H1 F1 r1 (Same.refl _)⟩
theorem ds_pass : DS X Y W (.Pass pos) sPass := ps_mono ps_pass fun D σ H ⟨g, F, r, p⟩ => p σ H F r (Same.refl _)
theorem ds_break : DS X Y W (.Break pos) sBrk := ps_mono ps_break fun D σ H ⟨g, F, r, p⟩ => p σ H F r (Same.refl _)
theorem ds_continue : DS X Y W (.Continue pos) sCont := ps_mono ps_continue fun D σ H ⟨g, F, r, p⟩ => p σ H F r (Same.refl _)
theorem Rel.drop {K : PySem.W.Frag} {σ : St} {H F : Hp} {g : G} (r : Rel K Y σ H g F) (i : Nat) : Rel K Y σ H (g.set i none) F where
  sub := r.sub
  base := r.base
  keep := r.keep
  dom := r.dom
  fr := r.fr
  len := r.len.trans (List.length_set ..).symm
  fz := fun j d e => by
    rcases get_set e with ⟨_, e'⟩ | ⟨_, e'⟩
    · cases e'
    · exact r.fz j d e'
  ow := fun j l o e => by
    rcases get_set e with ⟨_, e'⟩ | ⟨_, e'⟩
    · cases e'
    · exact r.ow j l o e'
  inj := fun j m l o l' o' a n e1 e2 => by
    rcases get_set e1 with ⟨_, e1⟩ | ⟨_, e1⟩
    · cases e1
    · rcases get_set e2 with ⟨_, e2⟩ | ⟨_, e2⟩
      · cases e2
      · exact r.inj j m l o l' o' a n e1 e2
theorem PostS.ret {K : PySem.W.Frag} {σ : St} {H F : Hp} {D : Ends} {r : R} {g : G} {v : V} (h : PostS K Y W F D (retR r g)) (rl : Rel K Y σ H g F) (hv : RV K Y σ F H g v r) : D.rt v H := by
  cases r with
  | fz d => exact h σ H F rl (Same.refl _) v hv
  | ow o => exact h σ H F rl (Same.refl _) v hv
  | «at» i =>
    unfold retR at h
    simp only at h
    split at h
    · rename_i o e
      obtain ⟨a, rfl, h2, h3, h4, h5⟩ := rl.own e hv
      refine h σ H F (rl.drop i) (Same.refl _) (.ref a) ⟨a, rfl, h2, h3, h4, h5.1 rfl, fun j l o' ej hj => ?_⟩
      rcases get_set ej with ⟨_, e'⟩ | ⟨n, e'⟩
      · cases e'
      · exact rl.inj j i _ _ _ _ a n e' e hj hv
    · rename_i d e
      obtain ⟨u, h1, h2⟩ := rl.fz i d e
      rw [show σ[i]? = some (some v) from hv] at h1
      cases h1
      exact h σ H F rl (Same.refl _) v h2
    · exact h.elim
theorem ds_ret {f : M R} (he : DE X Y W e f) : DS X Y W (.Return (some e) pos) (sRet f) :=
  ps_mono (ps_ret he) fun D σ H ⟨g, F, r, p⟩ => ⟨g, F, r, (p.bind).imp fun x g1 H1 F1 r1 s1 q v hv => q.ret r1 hv⟩
theorem ds_retN : DS X Y W (.Return none pos) sRetN := ps_mono ps_retN fun D σ H ⟨g, F, r, p⟩ => p σ H F r (Same.refl _) .non rfl
theorem ds_if {c : Expr} {a b : List Stmt} {t : M Bool} {f k : M Fl} (hc : DT X Y W c t) (ha : DSs X Y W a f) (hb : DSs X Y W b k) : DS X Y W (.If c a b pos) (sIf t f k) :=
  ps_mono (ps_if hc ha hb) fun D σ H ⟨g, F, r, p⟩ => ⟨g, F, r, (p.bind).imp fun x g1 H1 F1 r1 s1 q => by
    cases x with
    | true => exact ⟨g1, F1, r1, q⟩
    | false => exact ⟨g1, F1, r1, q⟩⟩
end

/-! ### targets -/
/-- a slot takes a result -/
def setSl (i : Nat) (r : R) : M Unit := fun g => match r with
  | .fz d => .ok () (g.set i (some (.fz d)))
  | .ow o => .ok () (g.set i (some (.ow false o)))
  | .at _ => .bad
def PostG (K : PySem.W.Frag) (Y : Ent) (σ : St) (F : Hp) (ts : List Nat) (Q : St → Hp → Prop) : Rs Unit → Prop
  | .ok _ g => ∀ σ' H' F', Rel K Y σ' H' g F' → Same F F' → σ'.length = σ.length → (∀ j, j ∉ ts → σ'[j]? = σ[j]?) → Q σ' H'
  | _ => False
def tG (K : PySem.W.Frag) (Y : Ent) (ts : List Nat) (t : R → M Unit) : TG := fun v σ H Q => ∃ g F r, Rel K Y σ H g F ∧ RV K Y σ F H g v r ∧ PostG K Y σ F ts Q (t r g)
def tGs (K : PySem.W.Frag) (Y : Ent) (ts : List Nat) (t : List D → M Unit) : TGs := fun vs σ H Q => ∃ g F ds, Rel K Y σ H g F ∧ IsL K F vs ds ∧ PostG K Y σ F ts Q (t ds g)
def DG (X : Cx) (Y : Ent) (tg : Expr) (ts : List Nat) (t : R → M Unit) : Prop := PG X tg (tG X.K Y ts t)
def DGs (X : Cx) (Y : Ent) (tgs : List Expr) (ts : List Nat) (t : List D → M Unit) : Prop := PGs X tgs (tGs X.K Y ts t)
theorem Rel.put {K : PySem.W.Frag} {Y : Ent} {σ : St} {H F : Hp} {g g' : G} {i : Nat} {v : V} {r : R} (rl : Rel K Y σ H g F) (hv : RV K Y σ F H g v r) (e : setSl i r g = .ok () g') : Rel K Y (σ.set i (some v)) H g' F := by
  have key : ∀ (s : Sl), g' = g.set i (some s) → (∀ d, s = .fz d → Is K F v d) → (∀ l o, s = .ow l o → l = false ∧ RV K Y σ F H g v (.ow o)) → Rel K Y (σ.set i (some v)) H g' F := by
    intro s eg hz ho
    subst eg
    have li : ∀ {j : Nat} {x : Sl}, (g.set i (some s))[j]? = some (some x) → (j = i ∧ s = x ∧ (σ.set i (some v))[j]? = some (some v)) ∨ (j ≠ i ∧ g[j]? = some (some x) ∧ (σ.set i (some v))[j]? = σ[j]?) := by
      intro j x ej
      rcases get_set ej with ⟨rfl, e'⟩ | ⟨n, e'⟩
      · have hlt : j < g.length := by
          have := (List.getElem?_eq_some_iff.mp ej).1
          rw [List.length_set] at this; exact this
        exact .inl ⟨rfl, Option.some.inj e', List.getElem?_set_self (by rw [rl.len]; exact hlt)⟩
      · exact .inr ⟨n, e', List.getElem?_set_ne (Ne.symm n)⟩
    refine ⟨rl.sub, rl.base, rl.keep, rl.dom, rl.fr, by rw [List.length_set, List.length_set]; exact rl.len, fun j d ej => ?_, fun j l o ej => ?_, fun j m l o l' o' a n e1 e2 h1 h2 => ?_⟩
    · rcases li ej with ⟨rfl, es, hs⟩ | ⟨n, e', hs⟩
      · exact ⟨v, hs, hz d es⟩
      · rw [hs]; exact rl.fz j d e'
    · rcases li ej with ⟨rfl, es, hs⟩ | ⟨n, e', hs⟩
      · obtain ⟨rfl, a, rfl, k1, k2, k3, k4, k5⟩ := ho l o es
        exact ⟨a, hs, k1, k2, k3, fun _ => k4, fun e => nomatch e⟩
      · rw [hs]; exact rl.ow j l o e'
    · rcases li e1 with ⟨rfl, es1, hs1⟩ | ⟨n1, e1', hs1⟩
      · rcases li e2 with ⟨rfl, es2, hs2⟩ | ⟨n2, e2', hs2⟩
        · exact n rfl
        · obtain ⟨_, b, eb, k1, k2, k3, k4, k5⟩ := ho l o es1
          rw [hs1] at h1
          rw [hs2] at h2
          have : V.ref b = V.ref a := by rw [← eb]; exact Option.some.inj (Option.some.inj h1)
          cases this
          exact k5 m _ _ e2' h2
      · rcases li e2 with ⟨rfl, es2, hs2⟩ | ⟨n2, e2', hs2⟩
        · obtain ⟨_, b, eb, k1, k2, k3, k4, k5⟩ := ho l' o' es2
          rw [hs1] at h1
          rw [hs2] at h2
          have : V.ref b = V.ref a := by rw [← eb]; exact Option.some.inj (Option.some.inj h2)
          cases this
          exact k5 j _ _ e1' h1
        · rw [hs1] at h1
          rw [hs2] at h2
          exact rl.inj j m l o l' o' a n e1' e2' h1 h2
  cases r with
  | fz d => cases e; exact key (.fz d) rfl (fun d' e => by cases e; exact hv) (fun _ _ e => nomatch e)
  | ow o => cases e; exact key (.ow false o) rfl (fun _ e => nomatch e) (fun _ _ e => by cases e; exact ⟨rfl, hv⟩)
  | «at» j => cases e
def gsNil : List D → M Unit := fun ds g => match ds with
  | [] => .ok () g
  | _ => .bad
def gsCons (t : R → M Unit) (u : List D → M Unit) : List D → M Unit := fun ds g => match ds with
  | d :: r => (t (.fz d) g).andThen fun _ => u r
  | [] => .bad
/-- names from a tuple or a list of so many items -/
def gUn (n : Nat) (t : List D → M Unit) : R → M Unit := fun r g => match r with
  | .fz (.tup ds) => if ds.length = n then t ds g else .bad
  | .fz (.lst ds) => if ds.length = n then t ds g else .bad
  | .ow (.ls ds) => if ds.length = n then t ds g else .bad
  | _ => .bad
section
variable {X : Cx} {Y : Ent} {W : WX} {pos : Pos} {e : Expr} {es : List Expr}
theorem dg_name {i : Nat} {x : Str} (hN : X.N.Nodup) (hi : X.N[i]? = some x := by rfl) (hx : Loc X.env.scope x := by first | exact Or.inl rfl | exact Or.inr rfl) (hf : X.fn x = true ∨ X.env.scope.names.lookup x = some .local := by first | exact .inl rfl | exact .inr rfl | assumption) :
    DG X Y (.Name x pos) [i] (setSl i) :=
  pg_mono (pg_name hN hi hx hf) fun v σ H Q ⟨g, F, r, rl, hv, p⟩ => by
    cases e : setSl i r g with
    | bad => rw [e] at p; exact p.elim
    | ex _ _ => rw [e] at p; exact p.elim
    | ok u g' =>
      rw [e] at p
      exact p _ H F (rl.put hv e) (Same.refl _) (List.length_set ..) fun j hj => List.getElem?_set_ne (fun z => hj (by simp [z]))
theorem dgs_nil : DGs X Y [] [] gsNil := ⟨fun pins s σ H vs us Q I r ⟨g, F, ds, rl, hl, p⟩ => pgs_nil.run pins s σ H vs us Q I r (by
  unfold gsNil at p
  split at p
  · exact ⟨hl, p σ H F rl (Same.refl _) rfl fun _ _ => rfl⟩
  · exact p.elim)⟩
theorem dgs_cons {ts us : List Nat} {t : R → M Unit} {u : List D → M Unit} (h1 : DG X Y e ts t) (h2 : DGs X Y es us u) (hs : (assignEach (e :: es) X.env).map (·.2) = assign e X.env :: (assignEach es X.env).map (·.2) := by rfl) : DGs X Y (e :: es) (ts ++ us) (gsCons t u) :=
  ⟨fun pins s σ H vs ws Q I r ⟨g, F, ds, rl, hl, p⟩ => (pgs_cons h1 h2 hs).run pins s σ H vs ws Q I r (by
    unfold gsCons at p
    cases ds with
    | nil => exact p.elim
    | cons d ds =>
      obtain ⟨v, vs', rfl, q, hl'⟩ := hl
      refine ⟨v, vs', rfl, g, F, .fz d, rl, q, ?_⟩
      have p' : PostG X.K Y σ F (ts ++ us) Q ((t (.fz d) g).andThen fun _ => u ds) := p
      revert p'
      cases t (.fz d) g with
      | bad => exact fun p' => p'
      | ex _ _ => exact fun p' => p'
      | ok _ g1 =>
        intro p' σ1 H1 F1 r1 s1 l1 k1
        refine ⟨g1, F1, ds, r1, IsL.mono s1 _ _ hl', ?_⟩
        have p2 : PostG X.K Y σ F (ts ++ us) Q (u ds g1) := p'
        revert p2
        cases u ds g1 with
        | bad => exact fun p2 => p2
        | ex _ _ => exact fun p2 => p2
        | ok _ g2 => exact fun p2 σ2 H2 F2 r2 s2 l2 k2 => p2 σ2 H2 F2 r2 (s1.trans s2) (l2.trans l1) fun j hj => (k2 j fun z => hj (List.mem_append_right _ z)).trans (k1 j fun z => hj (List.mem_append_left _ z)))⟩
theorem pg_or {tg : Expr} {t t' : TG} (h : PG X tg t) (h' : PG X tg t') : PG X tg (fun v σ H Q => t v σ H Q ∨ t' v σ H Q) :=
  ⟨fun pins s σ H v u Q I r q => q.elim (h.run pins s σ H v u Q I r) (h'.run pins s σ H v u Q I r)⟩
theorem dg_un {k n : Nat} {ts : List Nat} {t : List D → M Unit} (hc : X.calm = true) (h : DGs X Y es ts t) (hn : (assignEach es X.env).length = n := by rfl) (hst : (assignEach es X.env).findIdx? (·.1) = none := by rfl) : DG X Y (.Tuple es k pos) ts (gUn n t) :=
  pg_mono (pg_or (pg_tup hc h hn hst) (pg_lst hc h hn hst)) fun v σ H Q ⟨g, F, r, rl, hv, p⟩ => by
    unfold gUn at p
    split at p
    · split at p
      · rename_i hz
        obtain ⟨a, vs, rfl, k1, k2, k3⟩ := hv
        exact .inl ⟨a, vs, rfl, sqT_mono rl.sub k1, by rw [k3.length]; exact hz, g, F, _, rl, k3, p⟩
      · exact p.elim
    · split at p
      · rename_i hz
        obtain ⟨a, vs, rfl, k1, k2, k3⟩ := hv
        exact .inr ⟨a, vs, rfl, SqL.of (rl.sub _ _ k1), by rw [k3.length]; exact hz, g, F, _, rl, k3, p⟩
      · exact p.elim
    · split at p
      · rename_i hz
        obtain ⟨a, rfl, ⟨vs, k1, k2, k3⟩, _⟩ := hv
        exact .inr ⟨a, vs, rfl, SqL.of k1, by rw [k3.length]; exact hz, g, F, _, rl, k3, p⟩
      · exact p.elim
    · exact p.elim

/-! ### assignments -/
/-- a slot's own object that gets a second name is frozen -/
def escA (r : R) : M R := fun g => match r with
  | .at i => escR (.at i) g
  | r => .ok r g
def eA (f : M R) : M R := mb f escA
theorem de_A {f : M R} (h : DE X Y W e f) : DE X Y W e (eA f) :=
  pe_mono h fun σ H Q ⟨g, F, r, p⟩ => ⟨g, F, r, p.bind.imp fun x g' H' F' r' s' q v hv => by
    cases x with
    | fz d => exact q H' F' r' (Same.refl _) v hv
    | ow o => exact q H' F' r' (Same.refl _) v hv
    | «at» i => exact Post.escR (show Post X.K Y W σ F' (JV X.K Y σ Q) (escR (.at i) g') from q) r' hv⟩
def noEx {α : Type} : Rs α → Rs α
  | .ex _ _ => .bad
  | r => r
def sAsg (f : M R) (t : R → M Unit) : M Fl := mb (eA f) fun r g => (noEx (t r g)).andThen fun _ => mp .nx
theorem PostS.asg {K : PySem.W.Frag} {σ : St} {F : Hp} {D : Ends} {ts : List Nat} {x : Rs Unit} (h : PostS K Y W F D ((noEx x).andThen fun _ => mp .nx)) : PostG K Y σ F ts D.nx x := by
  cases x with
  | bad => exact h
  | ex _ _ => exact h
  | ok _ g => exact fun σ' H' F' r s _ _ => h σ' H' F' r s
theorem ds_asg {tg : Expr} {ts : List Nat} {f : M R} {t : R → M Unit} (he : DE X Y W e f) (hg : DG X Y tg ts t) (hs : swapsWithSole [tg] e pos.line X.env = pure false := by rfl) (hw : swappedStores [tg] e X.env = pure none := by rfl)
    (h1 : (assignEach [tg] X.env).map (·.2) = [assign tg X.env] := by rfl) : DS X Y W (.Assign [tg] e pos) (sAsg f t) :=
  ps_mono (ps_asg (de_A he) hg hs hw h1) fun D σ H ⟨g, F, r, p⟩ => ⟨g, F, r, (p.bind).imp fun x g1 H1 F1 r1 s1 q v hv => ⟨g1, F1, x, r1, hv, q.asg⟩⟩
/-- a, b = x, y -/
def sPar (i j : Nat) (k : M (List R)) : M Fl := mb k fun rs g => match rs with
  | [.fz a, .fz b] => .ok .nx ((g.set i (some (.fz a))).set j (some (.fz b)))
  | _ => .bad
theorem ds_par {i j : Nat} {x y : Str} {a b : Expr} {k : M (List R)} {px py pt : Pos} {kt k2 pt2} (hc : X.calm = true) (hN : X.N.Nodup) (ha : DA X Y W [a, b] k) (hi : X.N[i]? = some x := by rfl) (hj : X.N[j]? = some y := by rfl) (hij : i ≠ j := by decide)
    (hx : X.env.scope.names.lookup x = some .local := by rfl) (hy : X.env.scope.names.lookup y = some .local := by rfl)
    (hw : swappedStores [.Tuple [.Name x px, .Name y py] kt pt] (.Tuple [a, b] k2 pt2) X.env = pure (some [x, y]) := by rfl)
    (hs : swapsWithSole [.Tuple [.Name x px, .Name y py] kt pt] (.Tuple [a, b] k2 pt2) pos.line X.env = pure false := by rfl) :
    DS X Y W (.Assign [.Tuple [.Name x px, .Name y py] kt pt] (.Tuple [a, b] k2 pt2) pos) (sPar i j k) :=
  ps_mono (ps_par hc hN hi hj hij hx hy ha hw hs) fun D σ H ⟨g, F, r, p⟩ => ⟨g, F, r, (p.bind).imp fun rs g1 H1 F1 r1 s1 q vs hv => by
    match rs, q, hv with
    | [.fz a, .fz b], q, ⟨v, us, e1, h1, w, us', e2, h2, e3⟩ =>
      subst e1 e2
      rw [show us' = [] from e3]
      refine ⟨v, w, rfl, ?_⟩
      have q1 := r1.put (i := i) (g' := g1.set i (some (.fz a))) h1 rfl
      have q2 := q1.put (i := j) (g' := (g1.set i (some (.fz a))).set j (some (.fz b))) (r := .fz b) h2 rfl
      exact q _ H1 F1 q2 (Same.refl _)⟩
/-- x op= e, of frozen things -/
def opAug (i : Nat) (op : D → D → Option R) (y : R) : M Fl := fun g => match g[i]?, cont g y with
  | some (some (.fz a)), some b => match op a b with
    | some (.fz d) => .ok .nx (g.set i (some (.fz d)))
    | _ => .bad
  | _, _ => .bad
/-- the slot holds a frozen thing ahead -/
def chkFz (i : Nat) : M D := fun g => match g[i]? with
  | some (some (.fz a)) => .ok a g
  | _ => .bad
def sAug (i : Nat) (op : D → D → Option R) (f : M R) : M Fl := mb (chkFz i) fun a => mb (pk f) fun y g => match cont g y with
  | some b => match op a b with
    | some (.fz d) => .ok .nx (g.set i (some (.fz d)))
    | _ => .bad
  | none => .bad
def IpD (X : Cx) (op : Operator) (bop : D → D → Option R) : Prop :=
  PIp X op fun x y H Q => ∃ F a b r, Same F H ∧ CV X.K F H x a ∧ CV X.K F H y b ∧ bop a b = some r ∧ RP X.K F H Q r
theorem ds_aug {i : Nat} {x : Str} {op : Operator} {bop : D → D → Option R} {f : M R} {pos' : Pos} (hN : X.N.Nodup) (ho : IpD X op bop) (he : DE X Y W e f) (hi : X.N[i]? = some x := by rfl) (hx : Loc X.env.scope x := by first | exact Or.inl rfl | exact Or.inr rfl)
    (hf : X.fn x = true ∨ X.env.scope.names.lookup x = some .local := by first | exact .inl rfl | exact .inr rfl | assumption) : DS X Y W (.AugAssign (.Name x pos') op e pos) (sAug i bop f) :=
  ps_mono (ps_aug hN hi hx (de_pk he) ho hf) fun D σ H ⟨g, F, r, p⟩ => by
    have p' : PostS X.K Y W F D ((chkFz i g).andThen fun a => mb (pk f) fun y g => match cont g y with
      | some b => match bop a b with
        | some (.fz d) => .ok .nx (g.set i (some (.fz d)))
        | _ => .bad
      | none => .bad) := p
    unfold chkFz at p'
    cases ei : g[i]? with
    | none => rw [ei] at p'; exact p'.elim
    | some o =>
      cases o with
      | none => rw [ei] at p'; exact p'.elim
      | some sl =>
        cases sl with
        | ow l o => rw [ei] at p'; exact p'.elim
        | fz a =>
          rw [ei] at p'
          obtain ⟨v, h1, h2⟩ := r.fz i a ei
          have p2 : PostS X.K Y W F D ((pk f g).andThen fun y g => match cont g y with
            | some b => match bop a b with
              | some (.fz d) => .ok .nx (g.set i (some (.fz d)))
              | _ => .bad
            | none => .bad) := p'
          refine ⟨v, h1, g, F, r, (PostS.bind p2).imp fun y g1 H1 F1 r1 s1 q u hu => ?_⟩
          cases ec : cont g1 y with
          | none => rw [ec] at q; exact q.elim
          | some b =>
            rw [ec] at q
            cases eb : bop a b with
            | none => simp only [eb] at q; exact q.elim
            | some z =>
              cases z with
              | ow _ => simp only [eb] at q; exact q.elim
              | «at» _ => simp only [eb] at q; exact q.elim
              | fz d =>
                simp only [eb] at q
                refine ⟨F1, a, b, .fz d, r1.sub, .inl (h2.mono s1), r1.cv hu ec, eb, fun w H2 F2 x2 hw => ?_⟩
                have r2 := r1.ext x2
                exact q _ H2 F2 (r2.put (r := .fz d) (g' := g1.set i (some (.fz d))) hw rfl) x2.ff
theorem ip_of {op : Operator} {bop : D → D → Option R} {r : R2} (h : OpR X (inplaceOp op) r) (i : ∀ x y H Q, (∃ F a b r, Same F H ∧ CV X.K F H x a ∧ CV X.K F H y b ∧ bop a b = some r ∧ RP X.K F H Q r) → r x y H Q) : IpD X op bop :=
  fun pins s σ H x y v u Q I rx ry q => h pins s σ H x y v u Q I rx ry (i x y H Q q)
def bAddS : D → D → Option R
  | .int i, .int j => some (.fz (.int (i + j)))
  | .str a, .str b => if a.length + b.length ≤ sizeLine then some (.fz (.str (a ++ b))) else none
  | _, _ => none
def bMulI : D → D → Option R
  | .int i, .int j => if (-(2 ^ 64) < i ∧ i < 2 ^ 64) ∨ (-(2 ^ 64) < j ∧ j < 2 ^ 64) then some (.fz (.int (i * j))) else none
  | _, _ => none
theorem ipd_add : IpD X .Add bAddS := by
  intro pins s σ H x y v u Q I rx ry ⟨F, a, b, r, sm, ha, hb, ho, hr⟩
  unfold bAddS at ho
  split at ho
  · cases ho; exact iop_add pins s σ H x y v u Q I rx ry ⟨_, _, ha.int, hb.int, hr.now sm rfl⟩
  · split at ho
    · rename_i i j hz
      cases ho
      exact iop_add_str pins s σ H x y v u Q I rx ry ⟨_, _, ha.str.1, hb.str.1, hz, hr.now sm ⟨rfl, by rw [str_add_length]; exact hz⟩⟩
    · cases ho
  · cases ho
theorem ipd_sub : IpD X .Sub bSub := by
  intro pins s σ H x y v u Q I rx ry ⟨F, a, b, r, sm, ha, hb, ho, hr⟩
  unfold bSub at ho
  split at ho
  · cases ho; exact iop_sub pins s σ H x y v u Q I rx ry ⟨_, _, ha.int, hb.int, hr.now sm rfl⟩
  · cases ho
theorem ipd_mul : IpD X .Mult bMulI := by
  intro pins s σ H x y v u Q I rx ry ⟨F, a, b, r, sm, ha, hb, ho, hr⟩
  unfold bMulI at ho
  split at ho
  · split at ho
    · rename_i i j hz
      cases ho; exact iop_mul pins s σ H x y v u Q I rx ry ⟨_, _, ha.int, hb.int, hz, hr.now sm rfl⟩
    · cases ho
  · cases ho
theorem ipd_fdiv : IpD X .FloorDiv bFdiv := by
  intro pins s σ H x y v u Q I rx ry ⟨F, a, b, r, sm, ha, hb, ho, hr⟩
  unfold bFdiv at ho
  split at ho
  · split at ho
    · rename_i i j hz
      cases ho; exact iop_fdiv pins s σ H x y v u Q I rx ry ⟨_, _, ha.int, hb.int, hz, hr.now sm rfl⟩
    · cases ho
  · cases ho

/-! ### what is walked -/
def Srv (K : PySem.W.Frag) (F0 : Hp) (J : It) (ds : List D) : Prop :=
  ∀ H F, Same F0 F → Same F H → (∀ i d, ds[i]? = some d → J.go i H ∧ ∀ x H', J.yld i H x H' → ∃ F', Ext F H F' H' ∧ Is K F' x d) ∧ J.stop ds.length H
def tI (K : PySem.W.Frag) (Y : Ent) (W : WX) (f : M (List D)) : TI := fun σ H R => ∃ g F, Rel K Y σ H g F ∧ Post K Y W σ F (fun ds g' H' F' => ∀ J H2 F2, Rel K Y σ H2 g' F2 → Same F' F2 → Srv K F2 J ds → R J H2) (f g)
def DI (X : Cx) (Y : Ent) (W : WX) (tg it : Expr) (f : M (List D)) : Prop := PI X tg it (tI X.K Y W f)
def Str.signs (z : Str) : List D := z.cps.toList.map fun c => .str ⟨#[c]⟩
def itemsD : D → Option (List D)
  | .lst ds => some ds
  | .tup ds => some ds
  | .scr ns => some (ns.map D.int)
  | .str z => some (Str.signs z)
  | _ => none
def toIt (r : R) : M (List D) := fun g => match r with
  | .fz d => match itemsD d with
    | some ds => .ok ds g
    | none => .bad
  | _ => .bad
def iSeq (f : M R) : M (List D) := mb (esc f) toIt
def rngI (lo : Int) (n : Nat) : List D := (List.range n).map fun i => .int (lo + (i : Nat))
def toRng1 : List R → M (List D) := fun rs g => match rs with
  | [.fz (.int n)] => if -(2 ^ 62) ≤ n ∧ n < 2 ^ 62 then .ok (rngI 0 n.toNat) g else .bad
  | _ => .bad
def toRng2 : List R → M (List D) := fun rs g => match rs with
  | [.fz (.int a), .fz (.int b)] => if -(2 ^ 62) ≤ a ∧ a < 2 ^ 62 ∧ -(2 ^ 62) ≤ b ∧ b < 2 ^ 62 then .ok (rngI a (b - a).toNat) g else .bad
  | _ => .bad
def iRng1 (k : M (List R)) : M (List D) := mb k toRng1
def iRng2 (k : M (List R)) : M (List D) := mb k toRng2
theorem pi_or {tg it : Expr} {w1 w2 : TI} (h1 : PI X tg it w1) (h2 : PI X tg it w2) : PI X tg it (fun σ H R => w1 σ H R ∨ w2 σ H R) :=
  ⟨fun pins s σ H R I q => q.elim (h1.run pins s σ H R I) (h2.run pins s σ H R I)⟩
theorem pi_mono {tg it : Expr} {w1 w2 : TI} (h1 : PI X tg it w1) (i : ∀ σ H R, w2 σ H R → w1 σ H R) : PI X tg it w2 :=
  ⟨fun pins s σ H R I q => h1.run pins s σ H R I (i σ H R q)⟩
theorem len_of_get {α : Type} {xs : List α} {i : Nat} {x : α} (h : xs[i]? = some x) : i < xs.length := (List.getElem?_eq_some_iff.mp h).1
theorem srv_seq {K : PySem.W.Frag} {F0 : Hp} {J : It} {n : Nat} {ds : List D} {vs : List V} {Gd : Hp → Prop} (hl : IsL K F0 vs ds) (hn : n = vs.length) (w : Walk J n Gd (YAt vs)) (hg : ∀ H F, Same F0 F → Same F H → Gd H) : Srv K F0 J ds := by
  subst hn
  refine fun H F s0 s1 => ⟨fun i d e => ?_, ?_⟩
  · have hi := len_of_get e
    rw [← hl.length] at hi
    refine ⟨w.goes i H hi (hg H F s0 s1), fun x H' hy => ?_⟩
    obtain ⟨rfl, hx⟩ := w.yields i H x H' hi (hg H F s0 s1) hy
    obtain ⟨v, h1, h2⟩ := hl.get e
    rw [hx] at h1
    cases h1
    exact ⟨F, Ext.refl s1, h2.mono s0⟩
  · rw [← hl.length]; exact w.stops H (hg H F s0 s1)
theorem srv_rng {K : PySem.W.Frag} {F0 : Hp} {lo : Int} {n : Nat} : Srv K F0 (Itr lo n) (rngI lo n) := by
  have ln : (rngI lo n).length = n := by unfold rngI; rw [List.length_map, List.length_range]
  refine fun H F s0 s1 => ⟨fun i d e => ?_, ?_⟩
  · have hi := len_of_get e
    rw [ln] at hi
    refine ⟨hi, fun x H' ⟨h1, h2⟩ => ?_⟩
    subst h1 h2
    unfold rngI at e
    rw [List.getElem?_map, List.getElem?_range hi] at e
    cases e
    exact ⟨F, Ext.refl s1, rfl⟩
  · rw [ln]; exact Nat.le_refl n
theorem srv_str {K : PySem.W.Frag} {F0 : Hp} {z : Str} : Srv K F0 (Its z) (Str.signs z) := by
  have ln : (Str.signs z).length = z.cps.size := by unfold Str.signs; rw [List.length_map, Array.length_toList]
  refine fun H F s0 s1 => ⟨fun i d e => ?_, ?_⟩
  · have hi := len_of_get e
    rw [ln] at hi
    refine ⟨hi, fun x H' ⟨h1, c, h2, h3⟩ => ?_⟩
    subst h1 h3
    unfold Str.signs at e
    rw [List.getElem?_map] at e
    have e2 : z.cps.toList[i]? = some c := by rw [Array.getElem?_toList]; exact h2
    rw [e2] at e
    cases e
    exact ⟨F, Ext.refl s1, rfl, by show (1 : Nat) ≤ sizeLine; decide⟩
  · rw [ln]; exact Nat.le_refl _
theorem di_seq {tg : Expr} {f : M R} (he : DE X Y W e f) : DI X Y W tg e (iSeq f) := by
  refine pi_mono (pi_or (pi_list (tg := tg) (de_esc he)) (pi_or (pi_tup (tg := tg) (de_esc he)) (pi_str (tg := tg) (de_esc he)))) fun σ H R ⟨g, F, r, p⟩ => ?_
  have p' : Post X.K Y W σ F _ ((esc f g).andThen toIt) := p
  cases ef : esc f g with
  | bad => rw [ef] at p'; exact p'.elim
  | ex e g1 =>
    rw [ef] at p'
    refine .inl ⟨g, F, r, ?_⟩
    rw [ef]
    exact p'
  | ok x g1 =>
    rw [ef] at p'
    have p2 : Post X.K Y W σ F _ (toIt x g1) := p'
    unfold toIt at p2
    cases x with
    | ow _ => exact p2.elim
    | «at» _ => exact p2.elim
    | fz d =>
      simp only at p2
      cases d with
      | lst ds =>
        refine .inl ⟨g, F, r, ?_⟩
        rw [ef]
        intro H1 F1 r1 s1 v ⟨a, vs, e1, k1, k2, k3⟩
        refine ⟨a, e1, ⟨vs, SqL.of (r1.sub _ _ k1)⟩, p2 H1 F1 r1 s1 _ H1 F1 r1 (Same.refl _) ?_⟩
        exact srv_seq k3 rfl walk_list fun H F s0 s1 => SqL.of (s1 _ _ (s0 _ _ k1))
      | scr ns =>
        refine .inl ⟨g, F, r, ?_⟩
        rw [ef]
        intro H1 F1 r1 s1 v ⟨a, e1, k1, k2⟩
        refine ⟨a, e1, ⟨_, r1.sub.seq k1⟩, p2 H1 F1 r1 s1 _ H1 F1 r1 (Same.refl _) ?_⟩
        exact srv_seq (IsL.ints ns) rfl walk_list fun H F s0 s1 => s1.seq (s0.seq k1)
      | tup ds =>
        refine .inr (.inl ⟨g, F, r, ?_⟩)
        rw [ef]
        intro H1 F1 r1 s1 v ⟨a, vs, e1, k1, k2, k3⟩
        refine ⟨a, e1, ⟨vs, sqT_mono r1.sub k1⟩, p2 H1 F1 r1 s1 _ H1 F1 r1 (Same.refl _) ?_⟩
        exact srv_seq k3 rfl walk_tup fun H F s0 s1 => sqT_mono s1 (sqT_mono s0 k1)
      | str z =>
        refine .inr (.inr ⟨g, F, r, ?_⟩)
        rw [ef]
        intro H1 F1 r1 s1 v ⟨e1, k1⟩
        exact ⟨z, e1, p2 H1 F1 r1 s1 _ H1 F1 r1 (Same.refl _) srv_str⟩
      | non => exact p2.elim
      | bl _ => exact p2.elim
      | int _ => exact p2.elim
      | dk _ => exact p2.elim
      | dt _ => exact p2.elim
theorem di_rng1 {tg a : Expr} {p : Pos} {k : M (List R)} (hg : Gl X "range") (hm : X.mg "range" = none) (ha : DA X Y W [a] k) (hs : starEach [a] X.env = [(false, eval a X.env)] := by rfl) : DI X Y W tg (.Call (.Name "range" p) [a] [] pos) (iRng1 k) :=
  pi_mono (pi_range1 hg hm ha hs) fun σ H Q ⟨g, F, r, p⟩ => ⟨g, F, r, (p.bind).imp fun rs g1 H1 F1 r1 s1 q vs hv => by
    unfold toRng1 at q
    split at q
    · rename_i n
      obtain ⟨v, us, e1, h1, e2⟩ := hv
      subst e1
      rw [show us = [] from e2, show v = .int n from h1]
      split at q
      · rename_i hz
        exact ⟨n, rfl, hz.1, hz.2, q H1 F1 r1 (Same.refl _) _ H1 F1 r1 (Same.refl _) srv_rng⟩
      · exact q.elim
    · exact q.elim⟩
theorem di_rng2 {tg a b : Expr} {p : Pos} {k : M (List R)} (hg : Gl X "range") (hm : X.mg "range" = none) (ha : DA X Y W [a, b] k) (hs : starEach [a, b] X.env = [(false, eval a X.env), (false, eval b X.env)] := by rfl) (hs2 : starEach [b] X.env = [(false, eval b X.env)] := by rfl) :
    DI X Y W tg (.Call (.Name "range" p) [a, b] [] pos) (iRng2 k) :=
  pi_mono (pi_range2 hg hm ha hs hs2) fun σ H Q ⟨g, F, r, p⟩ => ⟨g, F, r, (p.bind).imp fun rs g1 H1 F1 r1 s1 q vs hv => by
    unfold toRng2 at q
    split at q
    · rename_i a b
      obtain ⟨v, us, e1, h1, w, us', e2, h2, e3⟩ := hv
      subst e1 e2
      rw [show us' = [] from e3, show v = .int a from h1, show w = .int b from h2]
      split at q
      · rename_i hz
        exact ⟨a, b, rfl, hz, q H1 F1 r1 (Same.refl _) _ H1 F1 r1 (Same.refl _) srv_rng⟩
      · exact q.elim
    · exact q.elim⟩

/-! ### for, while -/
def forL (t : R → M Unit) (body : M Fl) : List D → M Fl
  | [] => fun g => .ok .nx g
  | d :: ds => fun g => (noEx (t (.fz d) g)).andThen fun _ g1 => match body g1 with
    | .ok .nx g2 => forL t body ds g2
    | .ok .ct g2 => forL t body ds g2
    | .ok .bk g2 => .ok .nx g2
    | r => r
def sFor (it : M (List D)) (t : R → M Unit) (body : M Fl) : M Fl := mb it fun ds => forL t body ds
theorem PostS.asgG {K : PySem.W.Frag} {σ : St} {F : Hp} {D : Ends} {ts : List Nat} {x : Rs Unit} {k : G → Rs Fl} (h : PostS K Y W F D ((noEx x).andThen fun _ g => k g)) :
    PostG K Y σ F ts (fun σ' H' => ∃ g F', Rel K Y σ' H' g F' ∧ Same F F' ∧ PostS K Y W F' D (k g)) x := by
  cases x with
  | bad => exact h
  | ex _ _ => exact h
  | ok _ g => exact fun σ' H' F' r s _ _ => ⟨g, F', r, s, PostS.weak s h⟩
theorem ds_for {tg it : Expr} {body : List Stmt} {ts : List Nat} {w : M (List D)} {t : R → M Unit} {b : M Fl} (hp : PassesOwn (model X.prog X.w) X.A X.env X.xe) (hc : X.calm = true) (hi : DI X Y W tg it w) (hg : DG X Y tg ts t) (hb : DSs X Y W body b)
    (hs : ∀ x, foldedSetIterable it X.env x = pure x := by intro _; rfl) : DS X Y W (.For tg it body [] pos) (sFor w t b) :=
  ps_mono (ps_for hp hc hi hg hb hs) fun D σ H ⟨g, F, r, p⟩ => ⟨g, F, r, (PostS.bind (σ := σ) p).imp fun ds g1 H1 F1 r1 s1 q J H2 F2 r2 s2 srv => by
    refine ⟨fun i m σ' H' => i ≤ ds.length ∧ m = ds.length - i ∧ ∃ gi Fi, Rel X.K Y σ' H' gi Fi ∧ Same F2 Fi ∧ PostS X.K Y W Fi D (forL t b (ds.drop i) gi),
      ⟨ds.length, Nat.zero_le _, rfl, g1, F2, r2, Same.refl _, PostS.weak s2 q⟩, fun i m σ' H' ⟨hi, hm, gi, Fi, ri, si, qi⟩ => ?_⟩
    obtain ⟨hgo, hst⟩ := srv H' Fi si ri.sub
    by_cases hl : i < ds.length
    · right
      have ed : ds.drop i = ds[i] :: ds.drop (i + 1) := (List.drop_eq_getElem_cons hl)
      obtain ⟨g1', hy⟩ := hgo i ds[i] (List.getElem?_eq_getElem hl)
      refine ⟨g1', fun σ'' H'' => i + 1 ≤ ds.length ∧ ∃ gi Fi, Rel X.K Y σ'' H'' gi Fi ∧ Same F2 Fi ∧ PostS X.K Y W Fi D (forL t b (ds.drop (i + 1)) gi), fun σ'' H'' ⟨h1, h2⟩ => ⟨m - 1, by omega, h1, by omega, h2⟩, fun x H'' hx => ?_⟩
      obtain ⟨F', ex, qx⟩ := hy x H'' hx
      have r3 := ri.ext ex
      rw [ed] at qi
      have qi' : PostS X.K Y W Fi D ((noEx (t (.fz ds[i]) gi)).andThen fun _ g1 => match b g1 with
        | .ok .nx g2 => forL t b (ds.drop (i + 1)) g2
        | .ok .ct g2 => forL t b (ds.drop (i + 1)) g2
        | .ok .bk g2 => .ok .nx g2
        | r => r) := qi
      have pg := PostS.asgG (σ := σ') (ts := ts) (PostS.weak ex.ff qi')
      refine ⟨gi, F', .fz ds[i], r3, qx, ?_⟩
      revert pg
      cases t (.fz ds[i]) gi with
      | bad => exact id
      | ex _ _ => exact id
      | ok _ ga =>
        intro pg σ2 H3 F3 r4 s4 l4 k4
        obtain ⟨gb, F4, r5, s5, pb⟩ := pg σ2 H3 F3 r4 s4 l4 k4
        refine ⟨gb, F4, r5, ?_⟩
        have sF : Same F2 F4 := si.trans (ex.ff.trans s5)
        revert pb
        cases b gb with
        | bad => exact id
        | ex e g' => exact id
        | ok fl g' =>
          cases fl with
          | nx => exact fun pb σ3 H5 F5 r6 s6 => ⟨hl, g', F5, r6, sF.trans s6, PostS.weak s6 pb⟩
          | ct => exact fun pb σ3 H5 F5 r6 s6 => ⟨hl, g', F5, r6, sF.trans s6, PostS.weak s6 pb⟩
          | bk => exact id
          | rt r => exact id
    · have ei : i = ds.length := by omega
      subst ei
      rw [List.drop_length] at qi
      exact .inl ⟨hst, qi σ' H' Fi ri (Same.refl _)⟩⟩
/-- at most n turns -/
def whileL (c : M Bool) (body : M Fl) : Nat → M Fl
  | 0 => fun _ => .bad
  | n + 1 => fun g => (c g).andThen fun t g1 => if t = true then match body g1 with
      | .ok .nx g2 => whileL c body n g2
      | .ok .ct g2 => whileL c body n g2
      | .ok .bk g2 => .ok .nx g2
      | r => r
    else .ok .nx g1
/-- the bound of all while loops -/
def fuel : Nat := 100000000
def sWhile (c : M Bool) (body : M Fl) : M Fl := whileL c body fuel
theorem ds_whileN {c : Expr} {body : List Stmt} {t : M Bool} {b : M Fl} (n : Nat) (hp : PassesOwn (model X.prog X.w) X.A X.env X.xe) (hc : DT X Y W c t) (hb : DSs X Y W body b) : DS X Y W (.While c body [] pos) (whileL t b n) :=
  ps_mono (ps_while hp hc hb) fun D σ H ⟨g, F, r, p⟩ => by
    refine ⟨fun m σ' H' => ∃ gi Fi, Rel X.K Y σ' H' gi Fi ∧ PostS X.K Y W Fi D (whileL t b m gi), ⟨n, g, F, r, p⟩, fun m σ' H' ⟨gi, Fi, ri, qi⟩ => ?_⟩
    cases m with
    | zero => exact qi.elim
    | succ m =>
      have qi' : PostS X.K Y W Fi D ((t gi).andThen fun tt g1 => if tt = true then match b g1 with
          | .ok .nx g2 => whileL t b m g2
          | .ok .ct g2 => whileL t b m g2
          | .ok .bk g2 => .ok .nx g2
          | r => r
        else .ok .nx g1) := qi
      refine ⟨gi, Fi, ri, (PostS.bind (σ := σ') qi').imp fun tt g1 H1 F1 r1 s1 q => ?_⟩
      cases tt with
      | false => exact q σ' H1 F1 r1 (Same.refl _)
      | true =>
        rw [if_pos rfl] at q
        refine (show (∃ N : St → Hp → Prop, (∀ σ'' H'', N σ'' H'' → ∃ m', m' < m + 1 ∧ ∃ gi Fi, Rel X.K Y σ'' H'' gi Fi ∧ PostS X.K Y W Fi D (whileL t b m' gi)) ∧ tS X.K Y W b { D with nx := N, ct := N, bk := D.nx } σ' H1) from ?_)
        refine ⟨fun σ'' H'' => ∃ gi Fi, Rel X.K Y σ'' H'' gi Fi ∧ PostS X.K Y W Fi D (whileL t b m gi), fun σ'' H'' h => ⟨m, Nat.lt_succ_self m, h⟩, g1, F1, r1, ?_⟩
        revert q
        cases b g1 with
        | bad => exact id
        | ex e g' => exact id
        | ok fl g' =>
          cases fl with
          | nx => exact fun pb σ3 H5 F5 r6 s6 => ⟨g', F5, r6, PostS.weak s6 pb⟩
          | ct => exact fun pb σ3 H5 F5 r6 s6 => ⟨g', F5, r6, PostS.weak s6 pb⟩
          | bk => exact id
          | rt r => exact id
theorem ds_while {c : Expr} {body : List Stmt} {t : M Bool} {b : M Fl} (hp : PassesOwn (model X.prog X.w) X.A X.env X.xe) (hc : DT X Y W c t) (hb : DSs X Y W body b) : DS X Y W (.While c body [] pos) (sWhile t b) := ds_whileN fuel hp hc hb
end
end DL

namespace DL
open PySem PySem.Spec L2

/-! ### list comprehensions -/
def wipeG (g : G) : List Nat → G
  | [] => g
  | v :: vs => (wipeG g vs).set v none
def keepFz : Option (Option Sl) → Option Sl
  | some (some (.fz d)) => some (.fz d)
  | _ => none
/-- behind a block: the outer meaning of its own names -/
def backG (g0 g : G) : List Nat → G
  | [] => g
  | v :: vs => (backG g0 g vs).set v (keepFz g0[v]?)
def lcL (t : R → M Unit) (c : M Bool) (e : M R) (vs : List Nat) : List D → List D → M (List D)
  | [], acc => fun g => .ok acc g
  | d :: ds, acc => fun g => (noEx (t (.fz d) (wipeG g vs))).andThen fun _ g1 => (noEx (c g1)).andThen fun b g2 =>
      if b = true then (noEx (esc e g2)).andThen fun x g3 => match x with
        | .fz y => lcL t c e vs ds (acc ++ [y]) g3
        | _ => .bad
      else lcL t c e vs ds acc g2
def eLc (it : M (List D)) (t : R → M Unit) (c : M Bool) (e : M R) (vs : List Nat) : M R := mb it fun ds g => if ds.length ≤ sizeLine then (lcL t c e vs ds [] g).andThen fun acc g2 => .ok (.ow (.ls acc)) (backG g g2 vs) else .bad
theorem wipe_len (σ : St) : ∀ vs : List Nat, (wipe σ vs).length = σ.length := wipe_length σ
theorem wipeG_len (g : G) : ∀ vs : List Nat, (wipeG g vs).length = g.length
  | [] => rfl
  | v :: vs => by unfold wipeG; rw [List.length_set, wipeG_len g vs]
theorem wipeG_get {g : G} {j : Nat} {s : Sl} : ∀ {vs : List Nat}, (wipeG g vs)[j]? = some (some s) → g[j]? = some (some s) ∧ j ∉ vs
  | [], h => ⟨h, by simp⟩
  | v :: vs, h => by
    unfold wipeG at h
    rcases get_set h with ⟨_, e⟩ | ⟨n, e⟩
    · cases e
    · obtain ⟨h1, h2⟩ := wipeG_get e
      exact ⟨h1, by simp [n, h2]⟩
theorem wipe_get {σ : St} {j : Nat} : ∀ {vs : List Nat}, j ∉ vs → (wipe σ vs)[j]? = σ[j]?
  | [], _ => rfl
  | v :: vs, h => by
    unfold wipe
    rw [List.getElem?_set_ne (fun z => h (by simp [z])), wipe_get (fun z => h (List.mem_cons_of_mem _ z))]
theorem wipe_same {σ σ2 : St} {ts : List Nat} (hl : σ2.length = σ.length) (h : ∀ j, j ∉ ts → σ2[j]? = σ[j]?) {vs : List Nat} (hs : ∀ j ∈ ts, j ∈ vs) : wipe σ2 vs = wipe σ vs := by
  apply List.ext_getElem?
  intro j
  by_cases hj : j ∈ vs
  · have key : ∀ (σ : St) (vs : List Nat), j ∈ vs → (wipe σ vs)[j]? = if j < σ.length then some none else none := by
      intro σ vs
      induction vs with
      | nil => intro h; cases h
      | cons v vs ih =>
        intro h
        unfold wipe
        by_cases e : v = j
        · subst e
          by_cases l : v < σ.length
          · rw [List.getElem?_set_self (by rw [wipe_length]; exact l), if_pos l]
          · rw [List.getElem?_eq_none (by rw [List.length_set, wipe_length]; omega), if_neg l]
        · rw [List.getElem?_set_ne e]
          exact ih (by simpa [Ne.symm e] using h)
    rw [key σ2 vs hj, key σ vs hj, hl]
  · rw [wipe_get hj, wipe_get hj]
    exact h j fun z => hj (hs j z)
section
variable {K : PySem.W.Frag} {Y : Ent} {σ σ0 : St} {H H' F F' : Hp} {g g0 : G}
theorem Rel.wipe (r : Rel K Y σ H g F) (vs : List Nat) : Rel K Y (wipe σ vs) H (wipeG g vs) F where
  sub := r.sub
  base := r.base
  keep := r.keep
  dom := r.dom
  fr := r.fr
  len := by rw [wipe_length, wipeG_len]; exact r.len
  fz := fun i d e => by
    obtain ⟨h1, h2⟩ := wipeG_get e
    rw [wipe_get h2]; exact r.fz i d h1
  ow := fun i l o e => by
    obtain ⟨h1, h2⟩ := wipeG_get e
    rw [wipe_get h2]; exact r.ow i l o h1
  inj := fun i j l o l' o' a n e1 e2 => by
    obtain ⟨h1, h2⟩ := wipeG_get e1
    obtain ⟨h3, h4⟩ := wipeG_get e2
    rw [wipe_get h2, wipe_get h4]; exact r.inj i j l o l' o' a n h1 h3
theorem backG_len (g0 g : G) : ∀ vs : List Nat, (backG g0 g vs).length = g.length
  | [] => rfl
  | v :: vs => by unfold backG; rw [List.length_set, backG_len g0 g vs]
theorem backG_get {j : Nat} {s : Sl} : ∀ {vs : List Nat}, (backG g0 g vs)[j]? = some (some s) → (j ∈ vs ∧ ∃ d, s = .fz d ∧ g0[j]? = some (some (.fz d))) ∨ (j ∉ vs ∧ g[j]? = some (some s))
  | [], h => .inr ⟨by simp, h⟩
  | v :: vs, h => by
    unfold backG at h
    rcases get_set h with ⟨rfl, e⟩ | ⟨n, e⟩
    · left
      refine ⟨by simp, ?_⟩
      unfold keepFz at e
      split at e
      · rename_i d e2
        cases e; exact ⟨d, rfl, e2⟩
      · cases e
    · rcases backG_get e with ⟨h1, h2⟩ | ⟨h1, h2⟩
      · exact .inl ⟨by simp [h1], h2⟩
      · exact .inr ⟨by simp [n, h1], h2⟩
/-- the block is left -/
theorem Rel.back {vs : List Nat} (r0 : Rel K Y σ H g0 F) (r : Rel K Y (L2.wipe σ vs) H' (wipeG g vs) F') (s : Same F F') : Rel K Y σ H' (backG g0 g vs) F' := by
  have get : ∀ {j : Nat} {x : Sl}, j ∉ vs → g[j]? = some (some x) → (wipeG g vs)[j]? = some (some x) := by
    intro j x hj e
    have key : ∀ vs : List Nat, j ∉ vs → (wipeG g vs)[j]? = g[j]? := by
      intro vs
      induction vs with
      | nil => intro _; rfl
      | cons v vs ih =>
        intro h
        unfold wipeG
        rw [List.getElem?_set_ne (fun z => h (by simp [z])), ih (fun z => h (List.mem_cons_of_mem _ z))]
    rw [key vs hj]; exact e
  refine ⟨r.sub, r.base, r.keep, r.dom, r.fr, ?_, fun i d e => ?_, fun i l o e => ?_, fun i j l o l' o' a n e1 e2 => ?_⟩
  · have := r.len
    rw [wipe_length, wipeG_len] at this
    rw [backG_len]; exact this
  · rcases backG_get e with ⟨_, d', ed, e0⟩ | ⟨hj, e'⟩
    · cases ed
      obtain ⟨v, h1, h2⟩ := r0.fz i d e0
      exact ⟨v, h1, h2.mono s⟩
    · obtain ⟨v, h1, h2⟩ := r.fz i d (get hj e')
      rw [wipe_get hj] at h1
      exact ⟨v, h1, h2⟩
  · rcases backG_get e with ⟨_, d', ed, e0⟩ | ⟨hj, e'⟩
    · cases ed
    · obtain ⟨v, h1, h2⟩ := r.ow i l o (get hj e')
      rw [wipe_get hj] at h1
      exact ⟨v, h1, h2⟩
  · rcases backG_get e1 with ⟨_, d', ed, e0⟩ | ⟨hj, e'⟩
    · cases ed
    · rcases backG_get e2 with ⟨_, d', ed, e0⟩ | ⟨hj2, e''⟩
      · cases ed
      · have := r.inj i j l o l' o' a n (get hj e') (get hj2 e'')
        rw [wipe_get hj, wipe_get hj2] at this
        exact this
/-- a list of ours at q that is on its way -/
def Ent.gd (Y : Ent) (q : Addr) (u : HO) : Ent := { Y with B := upd Y.B q u, H0 := upd Y.H0 q u }
theorem Rel.guard {q : Addr} {u : HO} (r : Rel K Y σ H g F) (hq : H q = none) : Rel K (Y.gd q u) σ (upd H q u) g F where
  sub := fun b x e => by rw [upd_ne (fun z => by subst z; rw [r.sub _ _ e] at hq; cases hq)]; exact r.sub _ _ e
  base := r.base
  keep := fun b x e => by
    by_cases z : b = q
    · subst z
      have e' : upd Y.B b u b = some x := e
      rw [upd_same] at e' ⊢; exact e'
    · have e' : upd Y.B q u b = some x := e
      rw [upd_ne z] at e' ⊢; exact r.keep _ _ e'
  dom := fun b hb => by
    by_cases z : b = q
    · subst z; rw [upd_same]; simp
    · have hb' : upd Y.H0 q u b ≠ none := hb
      rw [upd_ne z] at hb' ⊢; exact r.dom b hb'
  fr := fun b hb => (r.fr b hb).imp id fun h => by
    have z : b ≠ q := fun z => by
      subst z
      cases e : F b with
      | none => exact hb e
      | some x => rw [r.sub _ _ e] at hq; cases hq
    show upd Y.H0 q u b = none
    rw [upd_ne z]; exact h
  len := r.len
  fz := r.fz
  ow := fun i l o e => by
    obtain ⟨a, h1, h2, h3, h4, h5⟩ := r.ow i l o e
    have z : a ≠ q := fun z => by subst z; exact h2.ne hq
    refine ⟨a, h1, h2.mono (Same.refl _) (upd_ne z), h3, ?_, fun hl => ?_, h5.2⟩
    · show upd Y.B q u a = none
      rw [upd_ne z]; exact h4
    · show upd Y.H0 q u a = none
      rw [upd_ne z]; exact h5.1 hl
  inj := r.inj
theorem Rel.gdAt {q : Addr} {u : HO} (r : Rel K (Y.gd q u) σ H g F) : H q = some u := r.keep q u (show upd Y.B q u q = some u from upd_same)
theorem Rel.gdF {q : Addr} {u : HO} (r : Rel K (Y.gd q u) σ H g F) (h0 : Y.F0 q = none) : F q = none := by
  cases e : F q with
  | none => rfl
  | some x =>
    rcases r.fr q (by rw [e]; simp) with h | h
    · exact absurd h0 h
    · have h' : upd Y.H0 q u q = none := h
      rw [upd_same] at h'; cases h'
/-- its content changes -/
theorem Rel.bump {q : Addr} {u u' : HO} (r : Rel K (Y.gd q u) σ H g F) (h0 : Y.F0 q = none) : Rel K (Y.gd q u') σ (upd H q u') g F where
  sub := fun b x e => by rw [upd_ne (fun z => by subst z; rw [r.gdF h0] at e; cases e)]; exact r.sub _ _ e
  base := r.base
  keep := fun b x e => by
    have e' : upd Y.B q u' b = some x := e
    by_cases z : b = q
    · subst z; rw [upd_same] at e' ⊢; exact e'
    · rw [upd_ne z] at e' ⊢; exact r.keep b x (show upd Y.B q u b = some x by rw [upd_ne z]; exact e')
  dom := fun b hb => by
    by_cases z : b = q
    · subst z; rw [upd_same]; simp
    · rw [upd_ne z]
      have hb' : upd Y.H0 q u' b ≠ none := hb
      rw [upd_ne z] at hb'
      exact r.dom b (show upd Y.H0 q u b ≠ none by rw [upd_ne z]; exact hb')
  fr := fun b hb => by
    have z : b ≠ q := fun z => by subst z; exact hb (r.gdF h0)
    rcases r.fr b hb with h | h
    · exact .inl h
    · right
      have h' : upd Y.H0 q u b = none := h
      rw [upd_ne z] at h'
      show upd Y.H0 q u' b = none
      rw [upd_ne z]; exact h'
  len := r.len
  fz := r.fz
  ow := fun i l o e => by
    obtain ⟨a, h1, h2, h3, h4, h5⟩ := r.ow i l o e
    have h4' : upd Y.B q u a = none := h4
    have z : a ≠ q := fun z => by subst z; rw [upd_same] at h4'; cases h4'
    rw [upd_ne z] at h4'
    refine ⟨a, h1, h2.mono (Same.refl _) (upd_ne z), h3, ?_, fun hl => ?_, h5.2⟩
    · show upd Y.B q u' a = none
      rw [upd_ne z]; exact h4'
    · have h5' : upd Y.H0 q u a = none := h5.1 hl
      rw [upd_ne z] at h5'
      show upd Y.H0 q u' a = none
      rw [upd_ne z]; exact h5'
  inj := r.inj
/-- it is done -/
theorem Rel.ungd {q : Addr} {u : HO} (r : Rel K (Y.gd q u) σ H g F) (hb : Y.B q = none) (hh : Y.H0 q = none) : Rel K Y σ H g F where
  sub := r.sub
  base := r.base
  keep := fun b x e => r.keep b x (show upd Y.B q u b = some x by rw [upd_ne (fun z => by subst z; rw [hb] at e; cases e)]; exact e)
  dom := fun b h => r.dom b (show upd Y.H0 q u b ≠ none by rw [upd_ne (fun z => h (by rw [z]; exact hh))]; exact h)
  fr := fun b h => (r.fr b h).imp id fun h' => by
    have h' : upd Y.H0 q u b = none := h'
    exact (upd_none h').2
  len := r.len
  fz := r.fz
  ow := fun i l o e => by
    obtain ⟨a, h1, h2, h3, h4, h5⟩ := r.ow i l o e
    exact ⟨a, h1, h2, h3, (upd_none (show upd Y.B q u a = none from h4)).2, fun hl => (upd_none (show upd Y.H0 q u a = none from h5.1 hl)).2, h5.2⟩
  inj := r.inj
end
theorem noEx_ok {α : Type} {x : Rs α} {a : α} {g : G} (h : noEx x = .ok a g) : x = .ok a g := by
  cases x with
  | bad => cases h
  | ok _ _ => exact h
  | ex _ _ => cases h
theorem then_inv {α β : Type} {x : Rs α} {k : α → G → Rs β} {b : β} {g : G} (h : (noEx x).andThen k = .ok b g) : ∃ a g1, x = .ok a g1 ∧ k a g1 = .ok b g := by
  cases x with
  | bad => cases h
  | ok a g1 => exact ⟨a, g1, rfl, h⟩
  | ex _ _ => cases h
/-- no exception leaves a block -/
abbrev W0 : WX := fun _ _ _ _ => False
def tTs (K : PySem.W.Frag) (Y : Ent) (f : M Bool) : TT := tT K Y W0 f
def cYes : M Bool := mp true
theorem blk_step {K : PySem.W.Frag} {Z : Ent} {σ : St} {F : Hp} {α : Type} {x : Rs α} {a : α} {g : G} {J : α → G → Hp → Hp → Prop} (e : x = .ok a g) (h : ∀ H' F', Rel K Z σ H' g F' → Same F F' → J a g H' F') : Post K Z W0 σ F J x := by
  rw [e]; exact h
section
variable {X : Cx} {Y : Ent} {W : WX}
theorem lc_sem {f : M (List D)} {t : R → M Unit} {c : M Bool} {e : M R} {vs ts : List Nat} {gt : TG} {tt : TT} {te : TE} (hts : ∀ j ∈ ts, j ∈ vs)
    (ht : ∀ (Z : Ent), Z.cls = Y.cls → ∀ v σ H Q, tG X.K Z ts t v σ H Q → gt v σ H Q) (hc : ∀ (Z : Ent), Z.cls = Y.cls → ∀ σ H Q, tT X.K Z W0 c σ H Q → tt σ H Q) (he : ∀ (Z : Ent), Z.cls = Y.cls → ∀ σ H Q, tD X.K Z W0 (esc e) σ H Q → te σ H Q)
    {σ : St} {H : Hp} {Q : VK} (h : tD X.K Y W (eLc f t c e vs) σ H Q) : tLc (tI X.K Y W f) gt tt te vs σ H Q := by
  obtain ⟨g, F, r, p⟩ := h
  refine ⟨g, F, r, (p.bind).imp fun ds g1 H1' F1' r1' s1 q J H1 F1 r1 s11 srv q' hq' => ?_⟩
  split at q
  rotate_left
  · exact q.elim
  rename_i hsz
  have hF0 : Y.F0 q' = none := by
    cases e0 : Y.F0 q' with
    | none => rfl
    | some x => rw [r1.sub _ _ (r1.base _ _ e0)] at hq'; cases hq'
  have hB : Y.B q' = none := by
    cases e0 : Y.B q' with
    | none => rfl
    | some x => rw [r1.keep _ _ e0] at hq'; cases hq'
  have hH0 : Y.H0 q' = none := by
    cases e0 : Y.H0 q' with
    | none => rfl
    | some x => exact absurd hq' (r1.dom q' (by rw [e0]; simp))
  have noex : ∀ (ds acc : List D) (g : G) x g', lcL t c e vs ds acc g ≠ .ex x g' := by
    intro ds
    induction ds with
    | nil => intro acc g x g' h; cases h
    | cons d ds ih =>
      intro acc g x g' h
      have h' : ((noEx (t (.fz d) (wipeG g vs))).andThen fun _ g1 => (noEx (c g1)).andThen fun b g2 =>
        if b = true then (noEx (esc e g2)).andThen fun x g3 => match x with
          | .fz y => lcL t c e vs ds (acc ++ [y]) g3
          | _ => .bad
        else lcL t c e vs ds acc g2) = .ex x g' := h
      revert h'
      cases t (.fz d) (wipeG g vs) with
      | bad => intro h; cases h
      | ex _ _ => intro h; cases h
      | ok _ ga =>
        simp only [noEx, then_ok]
        cases c ga with
        | bad => intro h; cases h
        | ex _ _ => intro h; cases h
        | ok b gb =>
          simp only [then_ok]
          cases b with
          | false => intro h; exact ih _ _ _ _ h
          | true =>
            simp only [if_true]
            cases esc e gb with
            | bad => intro h; cases h
            | ex _ _ => intro h; cases h
            | ok y gc =>
              simp only [then_ok]
              cases y with
              | fz y => intro h; exact ih _ _ _ _ h
              | ow _ => intro h; cases h
              | «at» _ => intro h; cases h
  obtain ⟨accF, g2, eF, fin⟩ : ∃ accF g2, lcL t c e vs ds [] g1 = .ok accF g2 ∧ ∀ H' F', Rel X.K Y σ H' (backG g1 g2 vs) F' → Same F1' F' → ∀ v, RV X.K Y σ F' H' (backG g1 g2 vs) v (.ow (.ls accF)) → Q v H' := by
    cases ex : lcL t c e vs ds [] g1 with
    | bad => rw [ex] at q; exact q.elim
    | ex x g' => exact absurd ex (noex _ _ _ _ _)
    | ok accF g2 => rw [ex] at q; exact ⟨accF, g2, rfl, q⟩
  refine ⟨fun i m Hi => i ≤ ds.length ∧ m = ds.length - i ∧ ∃ gi Fi acc accV, lcL t c e vs (ds.drop i) acc gi = .ok accF g2 ∧ Rel X.K (Y.gd q' (.lst accV)) (wipe σ vs) Hi (wipeG gi vs) Fi ∧ Same F1 Fi ∧ IsL X.K Fi accV acc ∧ acc.length ≤ i,
    ⟨ds.length, Nat.zero_le _, rfl, g1, F1, [], [], eF, (r1.wipe vs).guard hq', Same.refl _, rfl, Nat.le_refl _⟩, fun i m Hi ⟨hi, hm, gi, Fi, acc, accV, ei, ri, si, li, lei⟩ => ?_⟩
  obtain ⟨hgo, hst⟩ := srv Hi Fi si ri.sub
  by_cases hl : i < ds.length
  · right
    have ed : ds.drop i = ds[i] :: ds.drop (i + 1) := List.drop_eq_getElem_cons hl
    obtain ⟨g1', hy⟩ := hgo i ds[i] (List.getElem?_eq_getElem hl)
    refine ⟨g1', fun Hn => i + 1 ≤ ds.length ∧ ∃ gi Fi acc accV, lcL t c e vs (ds.drop (i + 1)) acc gi = .ok accF g2 ∧ Rel X.K (Y.gd q' (.lst accV)) (wipe σ vs) Hn (wipeG gi vs) Fi ∧ Same F1 Fi ∧ IsL X.K Fi accV acc ∧ acc.length ≤ i + 1, fun H'' ⟨h1, h2⟩ => ⟨m - 1, by omega, h1, by omega, h2⟩, fun x H'' hx => ?_⟩
    obtain ⟨F', ex, qx⟩ := hy x H'' hx
    have r3 := ri.ext ex
    rw [ed] at ei
    have ei' : ((noEx (t (.fz ds[i]) (wipeG gi vs))).andThen fun _ g1 => (noEx (c g1)).andThen fun b g2 =>
        if b = true then (noEx (esc e g2)).andThen fun x g3 => match x with
          | .fz y => lcL t c e vs (ds.drop (i + 1)) (acc ++ [y]) g3
          | _ => .bad
        else lcL t c e vs (ds.drop (i + 1)) acc g2) = .ok accF g2 := ei
    obtain ⟨_, ga, e1, ei1⟩ := then_inv ei'
    obtain ⟨b, gb, e2, ei2⟩ := then_inv ei1
    refine ht (Y.gd q' (.lst accV)) rfl _ _ _ _ ⟨_, F', .fz ds[i], r3, qx, ?_⟩
    rw [e1]
    intro σ2 H3 F3 r4 s4 l4 k4
    have hw : wipe σ2 vs = wipe σ vs := by
      have w1 : wipe σ2 vs = wipe (wipe σ vs) vs := wipe_same l4 k4 hts
      have w2 : wipe (wipe σ vs) vs = wipe σ vs := wipe_same (ts := vs) (wipe_length σ vs) (fun j hj => wipe_get hj) (fun j hj => hj)
      rw [w1, w2]
    refine ⟨hw, hc (Y.gd q' (.lst accV)) rfl _ _ _ ⟨ga, F3, r4, blk_step e2 fun H4 F4 r5 s5 => ?_⟩⟩
    have sF : Same F1 F4 := si.trans (ex.ff.trans (s4.trans s5))
    cases b with
    | false =>
      rw [if_neg Bool.false_ne_true] at ei2
      refine (show _ ∧ _ from ⟨hl, gb, F4, acc, accV, ei2, ?_, sF, IsL.mono (ex.ff.trans (s4.trans s5)) _ _ li, by omega⟩)
      have := r5.wipe vs
      rw [hw] at this
      exact this
    | true =>
      rw [if_pos rfl] at ei2
      obtain ⟨x3, gc, e3, ei3⟩ := then_inv ei2
      refine (show te σ2 H4 _ from he (Y.gd q' (.lst accV)) rfl _ _ _ ⟨gb, F4, r5, blk_step e3 fun H5 F5 r6 s6 w hw5 => ?_⟩)
      cases x3 with
      | ow _ => cases ei3
      | «at» _ => cases ei3
      | fz y =>
        have li5 : IsL X.K F5 accV acc := IsL.mono (ex.ff.trans (s4.trans (s5.trans s6))) _ _ li
        have hlen : accV.length < sizeLine := by rw [li.length]; omega
        refine ⟨accV, r6.gdAt, hlen, hl, gc, F5, acc ++ [y], accV ++ [w], ei3, ?_, sF.trans s6, li5.append (.one hw5), by rw [List.length_append]; simp; omega⟩
        have := r6.wipe vs
        rw [hw] at this
        exact this.bump hF0
  · have eq : i = ds.length := by omega
    subst eq
    rw [List.drop_length] at ei
    cases ei
    refine .inl ⟨hst, ?_⟩
    have r2 : Rel X.K (Y.gd q' (.lst accV)) (wipe σ vs) Hi (wipeG g2 vs) Fi := ri
    have r3 := r2.ungd hB hH0
    have r4 := r1.back r3 si
    refine fin Hi Fi r4 (s11.trans si) (.ref q') ⟨q', rfl, ⟨accV, r2.gdAt, by omega, li⟩, r2.gdF hF0, hB, hH0, fun j l o' ej hj => ?_⟩
    rcases backG_get ej with ⟨_, d', ed, _⟩ | ⟨nj, ej'⟩
    · cases ed
    · have e5 : (wipeG g2 vs)[j]? = some (some (.ow l o')) := by
        have key : ∀ vs : List Nat, j ∉ vs → (wipeG g2 vs)[j]? = g2[j]? := by
          intro vs
          induction vs with
          | nil => intro _; rfl
          | cons v vs ih =>
            intro h
            unfold wipeG
            rw [List.getElem?_set_ne (fun z => h (by simp [z])), ih (fun z => h (List.mem_cons_of_mem _ z))]
        rw [key vs nj]; exact ej'
      obtain ⟨a, k1, k2, k3, k4, k5⟩ := r2.ow j l o' e5
      rw [wipe_get nj] at k1
      rw [hj] at k1
      cases k1
      have k4' : upd Y.B q' (.lst accV) q' = none := k4
      rw [upd_same] at k4'
      cases k4'
end

section
variable {X : Cx} {Y : Ent} {W : WX} {pos : Pos}
def DTs (X : Cx) (Y : Ent) (W : WX) (ifs : List Expr) (c : M Bool) : Prop := PTs X ifs (tT X.K Y W c)
theorem dts_nil : DTs X Y W [] cYes := ⟨fun pins s σ H Q I ⟨g, F, r, p⟩ => (pts_nil (X := X)).run pins s σ H Q I (p H F r (Same.refl _))⟩
theorem dts_one {c : Expr} {f : M Bool} (h : DT X Y W c f) : DTs X Y W [c] f := ⟨fun pins s σ H Q I q => (pts_one h).run pins s σ H Q I q⟩
theorem td_A {K : PySem.W.Frag} {f : M R} {σ : St} {H : Hp} {Q : VK} (h : tD K Y W (eA f) σ H Q) : tD K Y W f σ H Q := by
  obtain ⟨g, F, r, p⟩ := h
  refine ⟨g, F, r, p.bind.imp fun x g' H' F' r' s' q v hv => ?_⟩
  cases x with
  | fz d => exact q H' F' r' (Same.refl _) v hv
  | ow o => exact q H' F' r' (Same.refl _) v hv
  | «at» i => exact Post.escR (show Post K Y W σ F' (JV K Y σ Q) (escR (.at i) g') from q) r' hv
theorem asg_name {K : PySem.W.Frag} {f : M R} {i : Nat} {D : Ends} {σ : St} {H : Hp} (h : tS K Y W (sAsg f (setSl i)) D σ H) : tD K Y W f σ H (fun x H1 => D.nx (σ.set i (some x)) H1) := by
  obtain ⟨g, F, r, p⟩ := h
  refine td_A ⟨g, F, r, (PostS.bind (σ := σ) p).imp fun x g1 H1 F1 r1 s1 q v hv => ?_⟩
  cases e : setSl i x g1 with
  | bad => rw [e] at q; exact q.elim
  | ex _ _ => rw [e] at q; exact q.elim
  | ok u g' =>
    rw [e] at q
    exact q _ H1 F1 (r1.put hv e) (Same.refl _)
def tZG (K : PySem.W.Frag) (Y : Ent) (ts : List Nat) (t : R → M Unit) : TG := fun v σ H Q => ∃ Z : Ent, Z.cls = Y.cls ∧ tG K Z ts t v σ H Q
def tZT (K : PySem.W.Frag) (Y : Ent) (c : M Bool) : TT := fun σ H Q => ∃ Z : Ent, Z.cls = Y.cls ∧ tT K Z W0 c σ H Q
def tZD (K : PySem.W.Frag) (Y : Ent) (e : M R) : TE := fun σ H Q => ∃ Z : Ent, Z.cls = Y.cls ∧ tD K Z W0 e σ H Q
abbrev AllBlk (X : Cx) (Y : Ent) (scope : Scope) (p : Cx → Ent → Prop) : Prop :=
  ∀ (Z : Ent), Z.cls = Y.cls → ∀ (s : Shared) (H : Hp) (C : Addr) (cl : List (Str × Addr)) (fp : List Addr), p (X.blk s H scope (compEnvC scope cl C X.env) fp) Z
theorem de_lc {elt tg iter : Expr} {ifs : List Expr} {scope : Scope} (own : List (Str × Nat)) {f : M (List D)} {ts : List Nat} {t : R → M Unit} {c : M Bool} {e : M R} (hc : X.calm = true) (hN : X.N.Nodup) (ok : BlkOk X.N X.env.scope scope own)
    (hi : DI X Y W tg iter f) (hg : AllBlk X Y scope fun X Z => DG X Z tg ts t) (ht : AllBlk X Y scope fun X Z => DTs X Z W0 ifs c) (he : AllBlk X Y scope fun X Z => DE X Z W0 elt e)
    (hts : ∀ j ∈ ts, j ∈ own.map (·.2) := by decide) (hs : ∀ x, foldedSetIterable iter X.env x = pure x := by intro _; rfl) : DE X Y W (.ListComp elt [⟨tg, iter, ifs, 0⟩] scope pos) (eLc f t c e (own.map (·.2))) :=
  pe_mono (pe_lc (g := tZG X.K Y ts t) (tt := tZT X.K Y c) (te := tZD X.K Y (esc e)) hc hN hi ok
    (fun s H C cl fp => ⟨fun pins s' σ H' v u Q I r ⟨Z, hZ, q⟩ => (hg Z hZ s H C cl fp).run pins s' σ H' v u Q I r q⟩)
    (fun s H C cl fp => ⟨fun pins s' σ H' Q I ⟨Z, hZ, q⟩ => (ht Z hZ s H C cl fp).run pins s' σ H' Q I q⟩)
    (fun s H C cl fp => ⟨fun pins s' σ H' Q I ⟨Z, hZ, q⟩ => (de_esc (he Z hZ s H C cl fp)).run pins s' σ H' Q I q⟩) hs)
    fun σ H Q h => lc_sem hts (fun Z hZ _ _ _ _ q => ⟨Z, hZ, q⟩) (fun Z hZ _ _ _ q => ⟨Z, hZ, q⟩) (fun Z hZ _ _ _ q => ⟨Z, hZ, q⟩) h
theorem ds_setLc {i : Nat} {y : Str} {py : Pos} {elt tg iter : Expr} {ifs : List Expr} {scope : Scope} (own : List (Str × Nat)) {spos : Pos} {f : M (List D)} {ts : List Nat} {t : R → M Unit} {c : M Bool} {e : M R} (hc : X.calm = true) (hN : X.N.Nodup) (ok : BlkOk X.N X.env.scope scope own)
    (hi : DI X Y W tg iter f) (hg : AllBlk X Y scope fun X Z => DG X Z tg ts t) (ht : AllBlk X Y scope fun X Z => DTs X Z W0 ifs c) (he : AllBlk X Y scope fun X Z => DE X Z W0 elt e)
    (hsw : swapsWith (.ListComp elt [⟨tg, iter, ifs, 0⟩] scope pos) (some (.Name y py)) spos.line X.env = pure true)
    (hy : X.N[i]? = some y := by rfl) (hyl : X.env.scope.names.lookup y = some .local := by rfl)
    (hts : ∀ j ∈ ts, j ∈ own.map (·.2) := by decide) (hs : ∀ x, foldedSetIterable iter X.env x = pure x := by intro _; rfl) : DS X Y W (.Assign [.Name y py] (.ListComp elt [⟨tg, iter, ifs, 0⟩] scope pos) spos) (sAsg (eLc f t c e (own.map (·.2))) (setSl i)) :=
  ps_mono (ps_setLc (g := tZG X.K Y ts t) (tt := tZT X.K Y c) (te := tZD X.K Y (esc e)) hc hN hy hyl hsw hi ok
    (fun s H C cl fp => ⟨fun pins s' σ H' v u Q I r ⟨Z, hZ, q⟩ => (hg Z hZ s H C cl fp).run pins s' σ H' v u Q I r q⟩)
    (fun s H C cl fp => ⟨fun pins s' σ H' Q I ⟨Z, hZ, q⟩ => (ht Z hZ s H C cl fp).run pins s' σ H' Q I q⟩)
    (fun s H C cl fp => ⟨fun pins s' σ H' Q I ⟨Z, hZ, q⟩ => (de_esc (he Z hZ s H C cl fp)).run pins s' σ H' Q I q⟩) hs)
    fun D σ H h => lc_sem hts (fun Z hZ _ _ _ _ q => ⟨Z, hZ, q⟩) (fun Z hZ _ _ _ q => ⟨Z, hZ, q⟩) (fun Z hZ _ _ _ q => ⟨Z, hZ, q⟩) (asg_name h)
end
end DL

namespace DL
open PySem PySem.Spec L2
open PyProof.Rows (envOfC)

/-! ### defs: a promise that knows that no repr is under way -/
structure FnG (P : Program) (w : World) (K : PySem.W.Frag) (mg : Str → Option Value) (base : Heap) (k : Nat) (f : Addr) (fd : FuncData) (ps : List Str) (sp : Sp) : Prop where
  len : ∀ vs H Q E, sp vs H Q E → vs.length = ps.length
  run : ∀ (A : Around) (outer : List Env) (s : Shared) (H : Hp) (args : Args) (us : List Value) (vs : List V) (Q : VK) (E : XK),
    Room k A → A.guards = some [] → Env0 P w K mg base A outer s H → BindsTo s fd args (ps.zip us) → Vals vs us → sp vs H Q E →
      codeAny (model P w) A (.call (.ref f) args) (CR (L2.CX P w) outer P w H s Q E) s
section
variable {P : Program} {w : World} {K : PySem.W.Frag} {mg : Str → Option Value} {base : Heap}
theorem FnG.mono {j k : Nat} {f : Addr} {fd : FuncData} {ps : List Str} {sp : Sp} (G : FnG P w K mg base j f fd ps sp) (h : j ≤ k) : FnG P w K mg base k f fd ps sp :=
  ⟨G.len, fun A o s H args us vs Q E r => G.run A o s H args us vs Q E (r.mono h)⟩
/-- a def by its body, walked with the knowledge of the guards -/
theorem fnG_ok {x qual : Str} {st : Stmt} {f : Addr} {fd : FuncData} {N ps : List Str} {k : Nat} {sp : Sp} (F : Fun K x qual st f fd) (S : FnScope N ps (defScope st)) (len : ∀ vs H Q E, sp vs H Q E → vs.length = ps.length)
    (body : ∀ (cdv : Value) (A : Around) (outer : List Env) (s : Shared) (H : Hp) (vs : List V) (Q : VK) (E : XK), Room k (A.deeper (envOfC qual (defScope st) s.heap.objs.size f cdv)) → A.guards = some [] → sp vs H Q E →
      ∃ t, PSs (cxOf (L2.CX P w) P w K mg base N qual (defScope st) f cdv A outer s H E) (defBody st) t ∧ t { nx := fun _ H' => Q .non H', rt := Q } (start N vs) H) : FnG P w K mg base (k + 1) f fd ps sp := by
  obtain ⟨oc, od, kV, doc, pm, an, cdv, ct, osl, rfl, lk, hcd⟩ := F.ex
  constructor
  · exact len
  intro A outer s H args us vs Q E room gd e0 bd rv want
  have inK : K.In s.heap := W.Frag.In.keeps e0.mod.kin fun b o e => (e0.bs b o e).1
  have noLim : s.heap.NoLimit := Heap.NoLimit.keeps e0.mod.nolimit fun b o e => (e0.bs b o e).1
  have kinds : ∀ y ∈ ps.zip us, (defScope st).names.lookup y.1 = some .local ∨
      ((defScope st).names.lookup y.1 = some .cell ∧ ((cellsFrom (s.heap.objs.size + 1) (defScope st).names []).lookup y.1).isSome = true) := by
    intro y hy
    obtain ⟨n, v⟩ := y
    exact (S.par n (List.of_mem_zip hy).1).elim .inl fun q => .inr ⟨q, PySem.W.cellsFrom_some _ _ _ (.inl q)⟩
  apply codeAny_call_function room.depth (inK _ _ lk) rfl S.co S.gen rfl (PySem.W.codeRec_of inK hcd)
  apply bd
  apply wpAny_newFunctionEnv_cells S.kind kinds
  intro env he s1 x1
  subst he
  refine ⟨Heap.NoLimit.keeps noLim x1.toInCall.keep, codeAny_func ?_⟩
  obtain ⟨t, ht, hq⟩ := body cdv A outer s H vs Q E (room.deeper _) gd want
  have I := inv_start (CX := L2.CX P w) (mg := mg) (E := E) S room.hd e0 (len _ _ _ _ want) rv x1
  refine wpAny_mono (ht.run [] s1 (start N vs) H _ I hq) ?_ fun _ _ z => z
  intro fl s' hs
  cases fl with
  | ret u => obtain ⟨v, σ', H', J, r, q⟩ := hs; exact ⟨v, H', J.os, J.bare, J.base, J.hok, r, q⟩
  | next => obtain ⟨σ', H', J, q⟩ := hs; exact ⟨V.non, H', J.os, J.bare, J.base, J.hok, rfl, q⟩
  | brk => exact hs.elim fun _ z => z.elim fun _ z => z.2.elim
  | cont => exact hs.elim fun _ z => z.elim fun _ z => z.2.elim
end
/-- how a call's errors are taken at the caller's slots -/
theorem takes_at {X : Cx} {W : WX} (tk : Takes X W) (pins : List (Addr × Obj)) (σ : St) (H : Hp) (s : Shared) (e : Value) (s' : Shared) (I : Inv X pins σ H s) (c : L2.CX X.prog X.w X.stack H s (fun c d H' => W c d σ H') e s') : X.xe e s' :=
  tk e s' (XE.of_call I (fun _ _ _ z => z) c)
section
variable {X : Cx} {k : Nat} {f : Addr} {fd : FuncData} {ps : List Str} {sp : Sp} {dvs : List V} {ds : List Value} {x : Str} {p pos : Pos} {e : Expr} {es : List Expr} {t : TA} {W : WX}
def tCallG (sp : Sp) (dvs : List V) (W : WX) (t : TA) : TE := fun σ H Q => t σ H fun vs H1 => sp (vs ++ dvs) H1 Q fun c d H' => W c d σ H'
theorem run_fnG {pins : List (Addr × Obj)} {σ : St} {H : Hp} {s : Shared} {Q : VK} {us : List Value} {vs : List V} (G : FnG X.prog X.w X.K X.mg X.base k f fd ps sp) (hr : Room k X.A) (gd : X.A.guards = some []) (hb : Binds X.K fd ps ds) (hd : Vals dvs ds) (tk : Takes X W)
    (I : Inv X pins σ H s) (r : Vals vs us) (h : sp (vs ++ dvs) H Q fun c d H' => W c d σ H') : wpAny (model X.prog X.w) X.A (call (.ref f) us) (EP X pins σ Q) X.xe s := by
  have r2 := r.append hd
  have n2 : (us ++ ds).length = ps.length := r2.length.symm.trans (G.len _ _ _ _ h)
  apply wpAny_call
  refine codeAny_mono (G.run X.A X.stack s H ⟨us, []⟩ (us ++ ds) (vs ++ dvs) Q _ hr gd I.env0 (hb s us I.kIn n2) r2 h) ?_
  intro res s' hq
  cases res with
  | error e => exact takes_at tk pins σ H s e s' I hq
  | ok fl =>
    cases fl with
    | ret u => exact I.after hq
    | next => cases hq
    | brk => cases hq
    | cont => cases hq
theorem pe_callG (G : FnG X.prog X.w X.K X.mg X.base k f fd ps sp) (hr : Room k X.A) (gd : X.A.guards = some []) (hg : Gl X x) (hm : X.mg x = some (.ref f)) (hk : PySem.W.keepIn X.K (.ref f) = true) (hb : Binds X.K fd ps ds) (hd : Vals dvs ds) (tk : Takes X W)
    (ha : PA X (e :: es) t) (hdb : (x == ("__debug__" : Str)) = false := by decide) (he : starEach (e :: es) X.env = (false, eval e X.env) :: starEach es X.env := by rfl) (hpl : (backTo pos (starEach es X.env)).any (·.1) = false := by rfl) :
    PE X (.Call (.Name x p) (e :: es) [] pos) (tCallG sp dvs W t) := by
  constructor
  intro pins s σ H Q I h
  apply wpAny_Call_Name_kw
  refine ld_glob I hg hm ?_ hdb
  apply PySem.W.callWith_K (h₀ := X.base) I.ok.mod.kin hk (thn (ha.run pos pins s σ H _ I h) ?_) he hpl
  rintro us s1 ⟨vs, H1, I1, r, q⟩
  exact ⟨I1.kIn, run_fnG G hr gd hb hd tk I1 r q⟩
theorem pe_callG0 (G : FnG X.prog X.w X.K X.mg X.base k f fd ps sp) (hr : Room k X.A) (gd : X.A.guards = some []) (hg : Gl X x) (hm : X.mg x = some (.ref f)) (hk : PySem.W.keepIn X.K (.ref f) = true) (hb : Binds X.K fd ps ds) (hd : Vals dvs ds) (tk : Takes X W)
    (hdb : (x == ("__debug__" : Str)) = false := by decide) : PE X (.Call (.Name x p) [] [] pos) (tCallG sp dvs W tNil) := by
  constructor
  intro pins s σ H Q I h
  apply wpAny_Call_Name_kw
  exact ld_glob I hg hm (PySem.W.callWith_K0 I.kIn hk (run_fnG (us := []) G hr gd hb hd tk I .nil h)) hdb
end

/-! ### a def's meaning: a Lean function of data -/
inductive Res where
  | ok (r : R) (lo : Option O) | ex (e : Ex) (lo : Option O) | bad
/-- from the lent object and the other arguments -/
abbrev FSem := Option O → List D → Res
def ArgOk (K : PySem.W.Frag) (F H : Hp) (lp : Option Nat) (la : Option Addr) (vs : List V) (lo : Option O) (ds : List D) : Prop :=
  match lp with
  | none => la = none ∧ lo = none ∧ IsL K F vs ds
  | some j => ∃ a us o, la = some a ∧ lo = some o ∧ vs = us.take j ++ V.ref a :: us.drop j ∧ j ≤ us.length ∧ IsL K F us ds ∧ OwAt K F H a o ∧ F a = none
structure ExtL (K : PySem.W.Frag) (la : Option Addr) (lo : Option O) (F H F' H' : Hp) : Prop where
  hh : ∀ b x, some b ≠ la → H b = some x → H' b = some x
  ff : Same F F'
  fh : Same F' H'
  nw : ∀ a, F' a ≠ none → F a ≠ none ∨ H a = none
  lo : match la, lo with
    | none, none => True
    | some a, some o => OwAt K F' H' a o ∧ F' a = none
    | _, _ => False
def RVr (K : PySem.W.Frag) (H F' H' : Hp) (v : V) : R → Prop
  | .fz d => Is K F' v d
  | .ow o => ∃ a, v = .ref a ∧ OwAt K F' H' a o ∧ F' a = none ∧ H a = none
  | .at _ => False
def PostF (K : PySem.W.Frag) (cls : Str → Value) (la : Option Addr) (F H : Hp) (Q : VK) (E : XK) : Res → Prop
  | .bad => False
  | .ok r lo => ∀ v H' F', ExtL K la lo F H F' H' → RVr K H F' H' v r → Q v H'
  | .ex e lo => ∀ d H' F', ExtL K la lo F H F' H' → XD K F' H' d e.p → E (cls e.c) d H'
def spD (K : PySem.W.Frag) (cls : Str → Value) (lp : Option Nat) (n : Nat) (sem : FSem) : Sp := fun vs H Q E =>
  ∃ F la lo ds, vs.length = n ∧ Same F H ∧ ArgOk K F H lp la vs lo ds ∧ PostF K cls la F H Q E (sem lo ds)
def fill (n : Nat) (g : G) : G := g ++ List.replicate (n - g.length) none
def mkG (n : Nat) (lp : Option Nat) (lo : Option O) (ds : List D) : Option G :=
  match lp, lo with
  | none, none => some (fill n (ds.map fun d => some (.fz d)))
  | some j, some o => some (fill n ((ds.take j).map (fun d => some (.fz d)) ++ some (.ow true o) :: (ds.drop j).map fun d => some (.fz d)))
  | _, _ => none
def outG (lp : Option Nat) (g : G) : Option (Option O) :=
  match lp with
  | none => some none
  | some j => match g[j]? with
    | some (some (.ow true o)) => some (some o)
    | _ => none
def bodyF (n : Nat) (lp : Option Nat) (b : M Fl) : FSem := fun lo ds => match mkG n lp lo ds with
  | none => .bad
  | some g0 => match b g0 with
    | .ok (.rt r) g => match r, outG lp g with
      | .fz d, some lo' => .ok (.fz d) lo'
      | .ow o, some lo' => .ok (.ow o) lo'
      | _, _ => .bad
    | .ok .nx g => match outG lp g with
      | some lo' => .ok (.fz .non) lo'
      | none => .bad
    | .ex e g => match outG lp g with
      | some lo' => .ex e lo'
      | none => .bad
    | _ => .bad
section
variable {K : PySem.W.Frag} {cls : Str → Value} {H F : Hp}
def entOf (cls : Str → Value) (la : Option Addr) (F H : Hp) : Ent := { B := fun b => if some b = la then none else H b, F0 := F, H0 := H, cls := cls, la := la }
theorem start_get {N : List Str} {vs : List V} {i : Nat} (h : i < vs.length) : (start N vs)[i]? = (vs[i]?).map some := by
  unfold L2.start
  rw [List.getElem?_append_left (by rw [List.length_map]; exact h), List.getElem?_map]
theorem fill_get {n i : Nat} {g : G} {s : Sl} (h : (fill n g)[i]? = some (some s)) : g[i]? = some (some s) := by
  unfold fill at h
  by_cases l : i < g.length
  · rw [List.getElem?_append_left l] at h; exact h
  · rw [List.getElem?_append_right (by omega)] at h
    have := List.mem_of_getElem? h
    rw [List.mem_replicate] at this
    exact absurd this.2 (by simp)
theorem rel_start {N : List Str} {lp : Option Nat} {la : Option Addr} {vs : List V} {lo : Option O} {ds : List D} {g0 : G} (sm : Same F H) (ha : ArgOk K F H lp la vs lo ds) (hn : vs.length ≤ N.length) (eg : mkG N.length lp lo ds = some g0) :
    Rel K (entOf cls la F H) (start N vs) H g0 F := by
  have slen : (start N vs).length = N.length := by
    unfold L2.start; rw [List.length_append, List.length_map, List.length_replicate]; omega
  have base : ∀ g1 : G, g0 = fill N.length g1 → g1.length = vs.length → (∀ (i : Nat) (d : D), g1[i]? = some (some (.fz d)) → ∃ v, vs[i]? = some v ∧ Is K F v d) →
      (∀ (i : Nat) (l : Bool) (o : O), g1[i]? = some (some (.ow l o)) → ∃ a, vs[i]? = some (V.ref a) ∧ OwAt K F H a o ∧ F a = none ∧ la = some a ∧ l = true ∧ lp = some i) → Rel K (entOf cls la F H) (start N vs) H g0 F := by
    intro g1 e l1 hz ho
    subst e
    have inr : ∀ {i : Nat} {s : Sl}, g1[i]? = some (some s) → i < vs.length := fun h => by rw [← l1]; exact (List.getElem?_eq_some_iff.mp h).1
    refine ⟨sm, Same.refl _, fun b x hb => ?_, fun a h => h, fun a h => .inl h, ?_, fun i d h => ?_, fun i l o h => ?_, fun i j l o l' o' a nij h1 h2 _ _ => ?_⟩
    · have hb' : (if some b = la then none else H b) = some x := hb
      split at hb'
      · cases hb'
      · exact hb'
    · rw [slen]; unfold fill; rw [List.length_append, List.length_replicate]; omega
    · have h' := fill_get h
      obtain ⟨v, h1, h2⟩ := hz i d h'
      exact ⟨v, by rw [start_get (inr h'), h1]; rfl, h2⟩
    · have h' := fill_get h
      obtain ⟨a, h1, h2, h3, h4, h5, _⟩ := ho i l o h'
      refine ⟨a, by rw [start_get (inr h'), h1]; rfl, h2, h3, ?_, fun hl => ?_, fun _ => h4⟩
      · show (if some a = la then none else H a) = none
        rw [if_pos h4.symm]
      · rw [h5] at hl; cases hl
    · obtain ⟨_, _, _, _, _, _, e1⟩ := ho i l o (fill_get h1)
      obtain ⟨_, _, _, _, _, _, e2⟩ := ho j l' o' (fill_get h2)
      rw [e1] at e2
      exact absurd (Option.some.inj e2) nij
  unfold mkG at eg
  cases lp with
  | none =>
    obtain ⟨rfl, rfl, hl⟩ := ha
    cases eg
    refine base _ rfl (by rw [List.length_map, hl.length]) (fun i d h => ?_) (fun i l o h => ?_)
    · rw [List.getElem?_map] at h
      cases e : ds[i]? with
      | none => rw [e] at h; cases h
      | some d' => rw [e] at h; cases h; exact hl.get e
    · rw [List.getElem?_map] at h
      cases e : ds[i]? with
      | none => rw [e] at h; cases h
      | some d' => rw [e] at h; cases h
  | some j =>
    obtain ⟨a, us, o, rfl, rfl, rfl, hj, hl, ho, hf⟩ := ha
    cases eg
    have ll := hl.length
    have hjd : j ≤ ds.length := by omega
    refine base _ rfl ?_ (fun i d h => ?_) (fun i l o' h => ?_)
    · simp only [List.length_append, List.length_map, List.length_cons, List.length_take, List.length_drop]; omega
    · by_cases c1 : i < j
      · rw [List.getElem?_append_left (by rw [List.length_map, List.length_take]; omega), List.getElem?_map, List.getElem?_take_of_lt c1] at h
        cases e : ds[i]? with
        | none => rw [e] at h; cases h
        | some d' =>
          rw [e] at h; cases h
          obtain ⟨v, h1, h2⟩ := hl.get e
          exact ⟨v, by rw [List.getElem?_append_left (by rw [List.length_take]; omega), List.getElem?_take_of_lt c1]; exact h1, h2⟩
      · rw [List.getElem?_append_right (by rw [List.length_map, List.length_take]; omega)] at h
        rw [List.length_map, List.length_take, Nat.min_eq_left hjd] at h
        cases c2 : i - j with
        | zero => rw [c2] at h; simp at h
        | succ m =>
          rw [c2, List.getElem?_cons_succ, List.getElem?_map, List.getElem?_drop] at h
          cases e : ds[j + m]? with
          | none => rw [e] at h; cases h
          | some d' =>
            rw [e] at h; cases h
            obtain ⟨v, h1, h2⟩ := hl.get e
            refine ⟨v, ?_, h2⟩
            rw [List.getElem?_append_right (by rw [List.length_take]; omega), List.length_take, Nat.min_eq_left hj, c2, List.getElem?_cons_succ, List.getElem?_drop]
            exact h1
    · by_cases c1 : i < j
      · rw [List.getElem?_append_left (by rw [List.length_map, List.length_take]; omega), List.getElem?_map] at h
        cases e : (ds.take j)[i]? with
        | none => rw [e] at h; cases h
        | some d' => rw [e] at h; cases h
      · rw [List.getElem?_append_right (by rw [List.length_map, List.length_take]; omega)] at h
        rw [List.length_map, List.length_take, Nat.min_eq_left hjd] at h
        cases c2 : i - j with
        | zero =>
          rw [c2, List.getElem?_cons_zero] at h
          cases h
          have : i = j := by omega
          subst this
          refine ⟨a, ?_, ho, hf, rfl, rfl, rfl⟩
          rw [List.getElem?_append_right (by rw [List.length_take]; omega), List.length_take, Nat.min_eq_left hj, Nat.sub_self]; rfl
        | succ m =>
          rw [c2, List.getElem?_cons_succ, List.getElem?_map] at h
          cases e : (ds.drop j)[m]? with
          | none => rw [e] at h; cases h
          | some d' => rw [e] at h; cases h
theorem rel_end {lp : Option Nat} {la : Option Addr} {lo : Option O} {ds : List D} {vs : List V} {σ : St} {H' F' : Hp} {g : G} {lo' : Option O} (ha : ArgOk K F H lp la vs lo ds) (r : Rel K (entOf cls la F H) σ H' g F') (eo : outG lp g = some lo') : ExtL K la lo' F H F' H' := by
  refine ⟨fun b x hb hx => r.keep b x (show (if some b = la then none else H b) = some x by rw [if_neg hb]; exact hx), r.base, r.sub, fun a h => r.fr a h, ?_⟩
  unfold outG at eo
  cases lp with
  | none =>
    obtain ⟨rfl, _⟩ := ha
    cases eo
    trivial
  | some j =>
    obtain ⟨a, us, o, rfl, _⟩ := ha
    simp only at eo
    split at eo
    · rename_i o' e
      cases eo
      obtain ⟨b, h1, h2, h3, h4, h5, h6⟩ := r.ow j true o' e
      have : b = a := (Option.some.inj (h6 rfl)).symm
      subst this
      exact ⟨h2, h3⟩
    · cases eo
theorem RVr.of {σ : St} {H' F' : Hp} {g : G} {v : V} {rr : R} {la : Option Addr} (h : RV K (entOf cls la F H) σ F' H' g v rr) (ne : ∀ i, rr ≠ .at i) : RVr K H F' H' v rr := by
  cases rr with
  | fz d => exact h
  | «at» i => exact absurd rfl (ne i)
  | ow o => obtain ⟨a, h1, h2, h3, _, h5, _⟩ := h; exact ⟨a, h1, h2, h3, h5⟩
end
section
variable {P : Program} {w : World} {K : PySem.W.Frag} {mg : Str → Option Value} {base : Heap} {cls : Str → Value}
/-- a def's promise, by what its body computes -/
theorem fn_D {x qual : Str} {st : Stmt} {f : Addr} {fd : FuncData} {N ps : List Str} {k : Nat} (lp : Option Nat) {b : M Fl} (F : Fun K x qual st f fd) (S : FnScope N ps (defScope st)) (hps : ps.length ≤ N.length)
    (body : ∀ (cdv : Value) (A : Around) (outer : List Env) (s : Shared) (H : Hp) (E : XK), Room k (A.deeper (envOfC qual (defScope st) s.heap.objs.size f cdv)) → (A.deeper (envOfC qual (defScope st) s.heap.objs.size f cdv)).guards = some [] → ∀ Y : Ent, Y.cls = cls →
      DSs (cxOf (L2.CX P w) P w K mg base N qual (defScope st) f cdv A outer s H E) Y (fun c d _ H => E c d H) (defBody st) b) : FnG P w K mg base (k + 1) f fd ps (spD K cls lp ps.length (bodyF N.length lp b)) := by
  refine fnG_ok F S (fun vs H Q E h => ?_) fun cdv A outer s H vs Q E hr gd h => ?_
  · obtain ⟨_, _, _, _, e, _⟩ := h; exact e
  · obtain ⟨F0, la, lo, ds, hl, sm, ha, hp⟩ := h
    refine ⟨_, body cdv A outer s H E hr gd (entOf cls la F0 H) rfl, ?_⟩
    unfold bodyF at hp
    cases eg : mkG N.length lp lo ds with
    | none => rw [eg] at hp; exact hp.elim
    | some g0 =>
      rw [eg] at hp
      have rl : Rel K (entOf cls la F0 H) (start N vs) H g0 F0 := rel_start sm ha (by rw [hl]; exact hps) eg
      refine ⟨g0, F0, rl, ?_⟩
      simp only at hp
      cases eb : b g0 with
      | bad => rw [eb] at hp; exact hp.elim
      | ex e g =>
        rw [eb] at hp
        simp only at hp
        cases eo : outG lp g with
        | none => rw [eo] at hp; exact hp.elim
        | some lo' =>
          rw [eo] at hp
          exact fun d σ' H' F' r s xd => hp d H' F' (rel_end ha r eo) xd
      | ok fl g =>
        rw [eb] at hp
        cases fl with
        | bk => exact hp.elim
        | ct => exact hp.elim
        | nx =>
          simp only at hp
          cases eo : outG lp g with
          | none => rw [eo] at hp; exact hp.elim
          | some lo' =>
            rw [eo] at hp
            exact fun σ' H' F' r s => hp .non H' F' (rel_end ha r eo) rfl
        | rt rr =>
          simp only at hp
          cases eo : outG lp g with
          | none => rw [eo] at hp; cases rr <;> exact hp.elim
          | some lo' =>
            rw [eo] at hp
            cases rr with
            | fz d => exact fun σ' H' F' r s v hv => hp v H' F' (rel_end ha r eo) (RVr.of hv fun _ e => nomatch e)
            | ow o => exact fun σ' H' F' r s v hv => hp v H' F' (rel_end ha r eo) (RVr.of hv fun _ e => nomatch e)
            | «at» i => exact hp.elim
end
/-- a call's meaning at the caller -/
def opCall (lp : Option Nat) (sem : FSem) (rs : List R) : M R := fun g => match lp with
  | none => match allFz rs with
    | some ds => match sem none ds with
      | .ok (.fz d) none => .ok (.fz d) g
      | .ok (.ow o) none => .ok (.ow o) g
      | .ex e none => .ex e g
      | _ => .bad
    | none => .bad
  | some j => match rs[j]?, allFz (rs.eraseIdx j) with
    | some (.at i), some ds => match g[i]? with
      | some (some (.ow l o)) => match sem (some o) ds with
        | .ok (.fz d) (some o') => .ok (.fz d) (g.set i (some (.ow l o')))
        | .ok (.ow o2) (some o') => .ok (.ow o2) (g.set i (some (.ow l o')))
        | .ex e (some o') => .ex e (g.set i (some (.ow l o')))
        | _ => .bad
      | _ => .bad
    | _, _ => .bad
def eCall (lp : Option Nat) (sem : FSem) (k : M (List R)) : M R := mb k (opCall lp sem)
section
variable {K : PySem.W.Frag} {Y : Ent} {W : WX} {σ : St} {H F H' F' : Hp} {g : G}
theorem Rel.extN (r : Rel K Y σ H g F) (x : ExtL K none none F H F' H') : Rel K Y σ H' g F' := r.ext ⟨fun b y h => x.hh b y (fun z => nomatch z) h, x.ff, x.fh, x.nw⟩
theorem Rel.extL {i : Nat} {l : Bool} {o o' : O} {a : Addr} (r : Rel K Y σ H g F) (x : ExtL K (some a) (some o') F H F' H') (e : g[i]? = some (some (.ow l o))) (hv : σ[i]? = some (some (.ref a))) : Rel K Y σ H' (g.set i (some (.ow l o'))) F' := by
  obtain ⟨b, h1, h2, h3, h4, h5⟩ := r.own e hv
  cases h1
  have lo := x.lo
  have none' : ∀ {b : Addr}, b ≠ a → H b ≠ none → F b = none → F' b = none := fun {b} _ hb hf => by
    cases e : F' b with
    | none => rfl
    | some u => exact (x.nw b (by rw [e]; simp)).elim (fun q => absurd hf q) (fun q => absurd q hb)
  have at' : ∀ {b : Addr}, b ≠ a → H b ≠ none → H' b = H b := fun {b} hb hn => by
    cases e : H b with
    | none => exact absurd e hn
    | some u => exact x.hh b u (fun z => hb (Option.some.inj z)) e
  refine ⟨x.fh, r.base.trans x.ff, fun b y eb => ?_, fun b hb => ?_, fun b hb => ?_, r.len.trans (List.length_set ..).symm, fun j d ej => ?_, fun j l' o'' ej => ?_, fun j m l1 o1 l2 o2 b hjm e1 e2 hj => ?_⟩
  · exact x.hh b y (fun z => by cases z; rw [h4] at eb; cases eb) (r.keep _ _ eb)
  · by_cases z : b = a
    · subst z
      exact lo.1.ne
    · rw [at' z (r.dom b hb)]; exact r.dom b hb
  · refine (x.nw b hb).elim (r.fr b) fun q => .inr ?_
    cases e : Y.H0 b with
    | none => rfl
    | some u => exact absurd q (r.dom b (by rw [e]; simp))
  · rcases get_set ej with ⟨_, e'⟩ | ⟨_, e'⟩
    · cases e'
    · obtain ⟨v, k1, k2⟩ := r.fz j d e'
      exact ⟨v, k1, k2.mono x.ff⟩
  · rcases get_set ej with ⟨rfl, e'⟩ | ⟨n, e'⟩
    · cases e'; exact ⟨a, hv, lo.1, lo.2, h4, h5⟩
    · obtain ⟨b, k1, k2, k3, k4⟩ := r.ow j l' o'' e'
      have nb : b ≠ a := fun z => r.inj j i _ _ _ _ a n e' e (z ▸ k1) hv
      exact ⟨b, k1, k2.mono x.ff (at' nb k2.ne), none' nb k2.ne k3, k4⟩
  · have back : ∀ (j : Nat) (l1 : Bool) (o1 : O), (g.set i (some (.ow l o')))[j]? = some (some (.ow l1 o1)) → ∃ l2 o2, g[j]? = some (some (.ow l2 o2)) := fun j l1 o1 ej => by
      rcases get_set ej with ⟨rfl, e'⟩ | ⟨_, e'⟩
      · exact ⟨_, _, e⟩
      · exact ⟨_, _, e'⟩
    obtain ⟨_, _, e1'⟩ := back j l1 o1 e1
    obtain ⟨_, _, e2'⟩ := back m l2 o2 e2
    exact r.inj j m _ _ _ _ b hjm e1' e2' hj
/-- what a def hands back, at its caller -/
theorem RVr.rv {v : V} {rr : R} {g' : G} (rl : Rel K Y σ H g F) (sub : ∀ (i : Nat) (l : Bool) (o : O), g'[i]? = some (some (.ow l o)) → ∃ l' o', g[i]? = some (some (.ow l' o'))) (h : RVr K H F' H' v rr) : RV K Y σ F' H' g' v rr := by
  cases rr with
  | fz d => exact h
  | «at» i => exact h.elim
  | ow o =>
    obtain ⟨a, h1, h2, h3, h4⟩ := h
    refine ⟨a, h1, h2, h3, ?_, ?_, fun i l o' e z => ?_⟩
    · cases e : Y.B a with
      | none => rfl
      | some u => rw [rl.keep _ _ e] at h4; cases h4
    · cases e : Y.H0 a with
      | none => rfl
      | some u => exact absurd h4 (rl.dom a (by rw [e]; simp))
    · obtain ⟨l', o'', e'⟩ := sub i l o' e
      obtain ⟨b, k1, k2, _⟩ := rl.ow i l' o'' e'
      rw [z] at k1
      cases k1
      exact k2.ne h4
theorem RVs.erase : ∀ {rs : List R} {vs : List V} (j : Nat) {r : R}, RVs K Y σ F H g vs rs → rs[j]? = some r → ∃ v us, vs = us.take j ++ v :: us.drop j ∧ j ≤ us.length ∧ RV K Y σ F H g v r ∧ RVs K Y σ F H g us (rs.eraseIdx j)
  | [], _, _, _, _, h => by simp at h
  | r :: rs, _, 0, r', ⟨v, us, rfl, h, t⟩, e => by
    have : r = r' := by simpa using e
    subst this
    exact ⟨v, us, rfl, Nat.zero_le _, h, t⟩
  | r :: rs, _, j + 1, r', ⟨v, us, rfl, h, t⟩, e => by
    obtain ⟨v', us', e1, hj, h1, h2⟩ := RVs.erase j t (by simpa using e)
    subst e1
    exact ⟨v', v :: us', by simp, by simp; exact hj, h1, v, us', rfl, h, h2⟩
theorem RVs.len : ∀ {rs : List R} {vs : List V}, RVs K Y σ F H g vs rs → vs.length = rs.length
  | [], _, e => by rw [show _ = [] from e]; rfl
  | r :: rs, _, ⟨v, us, e, _, t⟩ => by rw [e, List.length_cons, List.length_cons, RVs.len t]
theorem opCall_of {n : Nat} {lp : Option Nat} {sem : FSem} {rs : List R} {vs : List V} {Q : VK} (h : Post K Y W σ F (JV K Y σ Q) (opCall lp sem rs g)) (r : Rel K Y σ H g F) (hv : RVs K Y σ F H g vs rs) (hn : rs.length = n) :
    spD K Y.cls lp n sem vs H Q (fun c d H' => W c d σ H') := by
  unfold opCall at h
  cases lp with
  | none =>
    simp only at h
    split at h
    · rename_i ds e
      refine ⟨F, none, none, ds, hv.len.trans hn, r.sub, ⟨rfl, rfl, hv.fz e⟩, ?_⟩
      split at h
      · rename_i d es
        rw [es]
        exact fun v H' F' x q => h H' F' (r.extN x) x.ff v q
      · rename_i o es
        rw [es]
        exact fun v H' F' x q => h H' F' (r.extN x) x.ff v (RVr.rv r (fun i l o' e => ⟨l, o', e⟩) q)
      · rename_i e es
        rw [es]
        exact fun d H' F' x xd => h d H' F' (r.extN x) x.ff xd
      · exact h.elim
    · exact h.elim
  | some j =>
    simp only at h
    split at h
    · rename_i i ds e1 e2
      split at h
      · rename_i l o e3
        obtain ⟨v, us, rfl, hj, k1, k2⟩ := hv.erase j e1
        obtain ⟨a, rfl, k3, k4, k5⟩ := r.own e3 k1
        refine ⟨F, some a, some o, ds, hv.len.trans hn, r.sub, ⟨a, us, o, rfl, rfl, rfl, hj, k2.fz e2, k3, k4⟩, ?_⟩
        have sub : ∀ o', ∀ (m : Nat) (l1 : Bool) (o1 : O), (g.set i (some (.ow l o')))[m]? = some (some (.ow l1 o1)) → ∃ l2 o2, g[m]? = some (some (.ow l2 o2)) := fun o' m l1 o1 ej => by
          rcases get_set ej with ⟨rfl, e'⟩ | ⟨_, e'⟩
          · exact ⟨_, _, e3⟩
          · exact ⟨_, _, e'⟩
        split at h
        · rename_i d o' es
          rw [es]
          exact fun v H' F' x q => h H' F' (r.extL x e3 k1) x.ff v q
        · rename_i o2 o' es
          rw [es]
          exact fun v H' F' x q => h H' F' (r.extL x e3 k1) x.ff v (RVr.rv r (sub o') q)
        · rename_i e o' es
          rw [es]
          exact fun d H' F' x xd => h d H' F' (r.extL x e3 k1) x.ff xd
        · exact h.elim
      · exact h.elim
    · exact h.elim
end
section
variable {X : Cx} {Y : Ent} {W : WX} {k : Nat} {f : Addr} {fd : FuncData} {ps : List Str} {cls : Str → Value} {lp : Option Nat} {sem : FSem} {x : Str} {p pos : Pos} {e : Expr} {es : List Expr} {a : M (List R)}
theorem da_len {es : List Expr} {a : M (List R)} : True := trivial
def chkN (n : Nat) (a : M (List R)) : M (List R) := mb a fun rs g => if rs.length = n then .ok rs g else .bad
theorem de_call {n : Nat} (G : FnG X.prog X.w X.K X.mg X.base k f fd ps (spD X.K cls lp n sem)) (hr : Room k X.A) (gd : X.A.guards = some []) (hg : Gl X x) (hm : X.mg x = some (.ref f)) (hk : PySem.W.keepIn X.K (.ref f) = true) (hb : Binds X.K fd ps []) (tk : Takes X W) (hc : Y.cls = cls)
    (ha : DA X Y W (e :: es) a) (hdb : (x == ("__debug__" : Str)) = false := by decide) (he : starEach (e :: es) X.env = (false, eval e X.env) :: starEach es X.env := by rfl) (hpl : (backTo pos (starEach es X.env)).any (·.1) = false := by rfl) :
    DE X Y W (.Call (.Name x p) (e :: es) [] pos) (eCall lp sem (chkN n a)) :=
  pe_mono (pe_callG (W := W) (dvs := []) G hr gd hg hm hk hb .nil tk ha hdb he hpl) fun σ H Q ⟨g, F, r, q⟩ => by
    have q' : Post X.K Y W σ F (JV X.K Y σ Q) ((a g).andThen fun rs g => (if rs.length = n then Rs.ok rs g else .bad : Rs (List R)).andThen (opCall lp sem)) := by
      have : (eCall lp sem (chkN n a)) g = (a g).andThen fun rs g => (if rs.length = n then Rs.ok rs g else .bad : Rs (List R)).andThen (opCall lp sem) := by
        unfold eCall chkN mb
        cases a g <;> rfl
      rw [← this]; exact q
    refine ⟨g, F, r, (Post.bind q').imp fun rs g1 H1 F1 r1 s1 q1 vs hv => ?_⟩
    split at q1
    · rename_i hn
      rw [List.append_nil, ← hc]
      exact opCall_of q1 r1 hv hn
    · exact q1.elim
theorem de_call0 (G : FnG X.prog X.w X.K X.mg X.base k f fd [] (spD X.K cls none 0 sem)) (hr : Room k X.A) (gd : X.A.guards = some []) (hg : Gl X x) (hm : X.mg x = some (.ref f)) (hk : PySem.W.keepIn X.K (.ref f) = true) (hb : Binds X.K fd [] []) (tk : Takes X W) (hc : Y.cls = cls)
    (hdb : (x == ("__debug__" : Str)) = false := by decide) : DE X Y W (.Call (.Name x p) [] [] pos) (eCall none sem aNil) :=
  pe_mono (pe_callG0 (W := W) (dvs := []) G hr gd hg hm hk hb .nil tk hdb) fun σ H Q ⟨g, F, r, q⟩ => by
    rw [← hc]
    exact opCall_of (rs := []) q r rfl rfl

/-! ### errors -/
def sRaise (c : Str) : M Fl := fun g => .ex ⟨c, []⟩ g
theorem ds_raise {C : Addr} {bmB : List Value} {B newId initId : String} {m : Str} {j : Nat} {p2 p3 : Pos} (hc : X.calm = true) (tk : Takes X W) (F : ExcBaseFacts B newId initId bmB) (q : PySem.W.excIn X.K C bmB newId = true) (gC : X.mg x = some (.ref C)) (kC : PySem.W.keepIn X.K (.ref C) = true)
    (h1 : PySem.W.subIn X.K (.ref C) (.type "BaseException") = some true) (h2 : PySem.W.typeIn X.K (.ref C) = some (.type "type")) (hcl : Y.cls x = .ref C) (hg : Gl X x := by rfl) (hdb : (x == ("__debug__" : Str)) = false := by decide) :
    DS X Y W (.Raise (some (.Call (.Name x p) [.Constant (.str m) j p2] [] p3)) none pos) (sRaise x) :=
  ps_mono (ps_raise hc tk (pmk_own F q gC kC (raises_own h1 h2) hg hdb)) fun D σ H ⟨g, F, r, pp⟩ => by
    have := pp none σ H F r (Same.refl _) rfl
    rw [← hcl]; exact this
/-- the classes of errors that a clause takes -/
def subE (c h : Str) : Bool := c == h || h == ("LeafError" : Str)
def handle : List (Str × M Fl) → Ex → M Fl
  | [], e => fun g => .ex e g
  | (h, f) :: r, e => fun g => if subE e.c h = true then noEx (f g) else handle r e g
def sTry (ns : List Str) (b : M Fl) (hs : List (Str × M Fl)) : M Fl := fun g => match b g with
  | .ex e g' => if e.c ∈ ns then handle hs e g' else .bad
  | r => r
/-- the clauses -/
inductive Hds (X : Cx) (Y : Ent) : List ExceptHandler → List (Str × M Fl) → Prop
  | nil : Hds X Y [] []
  | cons {x : Str} {b₀ : Stmt} {suite : List Stmt} {np pos' : Pos} {hds : List ExceptHandler} {l : List (Str × M Fl)} {f : M Fl} (hc : Names X x (Y.cls x))
      (hsu : ∀ (a : Addr) (oe : Obj) (pn : List (Addr × Obj)), DSs (X.suite a ((a, oe) :: pn)) Y W0 (b₀ :: suite) f) (r : Hds X Y hds l) : Hds X Y (.ExceptHandler (some (.Name x np)) none (b₀ :: suite) pos' :: hds) ((x, f) :: l)
theorem Hds.ok : ∀ {hds : List ExceptHandler} {l : List (Str × M Fl)}, Hds X Y hds l → HdsOk X hds (l.map fun hf => (Y.cls hf.1, fun _ _ _ => tS X.K Y W0 hf.2))
  | _, _, .nil => .nil
  | _, _, .cons hc hsu r => .cons hc (fun a oe cls d pn _ _ => hsu a oe pn) (Hds.ok r)
theorem ds_try {body : List Stmt} {h₀ : ExceptHandler} {hds : List ExceptHandler} {b : M Fl} {l : List (Str × M Fl)} (ns : List Str) (hs : X.stack = X.env :: X.outer) (hf : X.env.frame = some X.env.locals) (tk : Takes X W)
    (hx : ∀ c ∈ ns, ∀ h ∈ l.map (·.1), PySem.W.exmOne X.K (Y.cls c) (Y.cls h) = some (subE c h))
    (hb : ∀ (W' : WX) (pn : List (Addr × Obj)) (xe : Value → Shared → Prop), Takes (X.tr pn xe) W' → PassesOwn (model X.prog X.w) X.A X.env xe → DSs (X.tr pn xe) Y W' body b)
    (hh : Hds X Y (h₀ :: hds) l) : DS X Y W (.Try body (h₀ :: hds) [] [] pos) (sTry ns b l) :=
  ps_mono (ps_try_many (tb := fun W' => tS X.K Y W' b) hs hf tk hb hh.ok) fun D σ H ⟨g, F, r, p⟩ => by
    refine ⟨g, F, r, ?_⟩
    have p' : PostS X.K Y W F D (match b g with
      | .ex e g' => if e.c ∈ ns then handle l e g' else .bad
      | r => r) := p
    revert p'
    cases b g with
    | bad => exact id
    | ok fl g' => exact id
    | ex e g' =>
      simp only
      split
      · rename_i hn
        intro p' d σ' H' F' r' s' xd
        have go : ∀ l' : List (Str × M Fl), (∀ hf ∈ l', hf ∈ l) → PostS X.K Y W F D (handle l' e g') → wMany X.K W D (l'.map fun hf => (Y.cls hf.1, fun _ _ _ => tS X.K Y W0 hf.2)) (Y.cls e.c) d σ' H' := by
          intro l'
          induction l' with
          | nil => exact fun _ q => q d σ' H' F' r' s' xd
          | cons hf l' ih =>
            obtain ⟨h, f⟩ := hf
            intro sub q
            have q' : PostS X.K Y W F D (if subE e.c h = true then noEx (f g') else handle l' e g') := q
            refine ⟨subE e.c h, hx e.c hn h (List.mem_map.mpr ⟨(h, f), sub _ List.mem_cons_self, rfl⟩), fun hb a _ => ?_, fun hb => ?_⟩
            · rw [if_pos hb] at q'
              refine ⟨g', F', r', ?_⟩
              have q2 := PostS.weak s' q'
              show PostS X.K Y W0 F' _ (f g')
              revert q2
              cases f g' with
              | bad => exact fun z => z
              | ex _ _ => exact fun z => z.elim
              | ok _ _ => exact fun z => z
            · rw [if_neg (by rw [hb]; simp)] at q'
              exact ih (fun hf hm => sub hf (List.mem_cons_of_mem _ hm)) q'
        exact go l (fun _ h => h) p'
      · exact fun p' => p'.elim
end
end DL

namespace DL
open PySem PySem.Spec L2
open PyProof.Rows hiding St

/-! ### the end of a law -/
/-- a def's promise at the heap behind the top, no repr under way -/
theorem law_at {P : Program} {w : World} {K : PySem.W.Frag} {mg mb : Str → Option Value} {k : Nat} {fa a : Addr} {fd : FuncData} {x : Str} {cls : Str → Value} {sem : FSem} {t : Shared} {us : List Value} {ns : List Int}
    (inK : K.In t.heap) (gl : t.heap.Ns mainGlobals mg) (bl : t.heap.Ns builtinsNs mb) (boot : ∀ y : Str, y ≠ "__name__" → mb y = bootBuiltins y) (lim : t.heap.NoLimit) (ng : t.gens = #[])
    (obj : t.heap.get? a = some { cls := .type "list", data := .seq us.toArray }) (hin : IntsAre us ns) (few : ns.length ≤ sizeLine) (room : Room k callerA)
    (G : ∀ base : Heap, K.In base → base.Ns mainGlobals mg → FnG P w K mg base k fa fd [x] (spD K cls none 1 sem)) (bd : ∀ (s : Shared) (u : Value), BindsTo s fd ⟨[u], []⟩ [(x, u)])
    (good : sem none [.scr ns] = .ok (.fz (.bl true)) none) :
    codeAny (model P w) callerA (.call (.ref fa) ⟨[.ref a], []⟩) (fun r s' => r = .ok (.ret (.bool true)) ∧ OldK t.heap s'.heap ∧ s'.os = t.os ∧ AllBare s'.gens) t := by
  have vs := vals_ints hin
  -- the abstract heap: the script alone, if the module does not hold it
  let o : Obj := { cls := .type "list", data := .seq us.toArray }
  let H : Hp := fun b => if b = a ∧ K.lookup a = none then some (.frz o (.lst (ns.map V.int))) else none
  have hH : ∀ b u, H b = some u → b = a ∧ K.lookup a = none ∧ u = .frz o (.lst (ns.map V.int)) := by
    intro b u e
    have e' : (if b = a ∧ K.lookup a = none then some (HO.frz o (.lst (ns.map V.int))) else none) = some u := e
    split at e'
    · rename_i c; cases e'; exact ⟨c.1, c.2, rfl⟩
    · cases e'
  have tracked : HOk P w H t.heap := by
    intro b u e
    obtain ⟨rfl, _, rfl⟩ := hH b u e
    exact ⟨obj, by rw [List.length_map]; exact few, us, _, vs, obj⟩
  have script : SqL K H a (ns.map V.int) := by
    cases e : K.lookup a with
    | none => exact .inl (.inr ⟨o, by show (if a = a ∧ K.lookup a = none then _ else none) = _; rw [if_pos ⟨rfl, e⟩]⟩)
    | some o' =>
      have e2 := inK a o' e
      rw [obj] at e2
      cases e2
      exact .inr ⟨_, us.toArray, _, e, rfl, rfl, rfl, by rw [List.size_toArray, hin.length]; exact few, by simpa using vs⟩
  have free : ∀ {b : Addr} {ob : Obj}, t.heap.get? b = some ob → (b = a → K.lookup a ≠ none ∨ ∃ es ep, ob.data = .dict es ep) → H b = none := by
    intro b ob e c
    cases q : H b with
    | none => rfl
    | some u =>
      obtain ⟨rfl, hk, _⟩ := hH b u q
      rcases c rfl with z | ⟨es, ep, d⟩
      · exact absurd hk z
      · rw [obj] at e; cases e; cases d
  have ns' : ∀ {b : Addr} {m : Str → Option Value}, t.heap.Ns b m → (hidT t.heap H).Ns b m := by
    rintro b m ⟨ob, es, ep, e, d, r⟩
    exact ⟨ob, es, ep, hidT_get e (free e fun _ => .inr ⟨es, ep, d⟩), d, r⟩
  have inB : K.In (hidT t.heap H) := fun b ob e => hidT_get (inK b ob e) (free (inK b ob e) fun z => .inl (by rw [← z, e]; simp))
  obtain ⟨mc, l1, l2⟩ := lim
  have md : Mod K mg (hidT t.heap H) := ⟨inB, ns' gl, ⟨mb, ns' bl, boot⟩, ⟨mc, ns' l1, l2⟩⟩
  have e0 : Env0 P w K mg (hidT t.heap H) callerA [] t H := ⟨rfl, md, fun b ob e => of_hidT e, Nat.le_of_eq (hidT_size _ _), trivial, fun b hb => (List.not_mem_nil hb).elim, tracked, .of_eq ng⟩
  have want : spD K cls none 1 sem [.ref a] H (fun v _ => v = .bl true) (fun _ _ _ => False) := by
    refine ⟨H, none, none, [.scr ns], rfl, Same.refl _, ⟨rfl, rfl, .one ⟨a, rfl, script, few⟩⟩, ?_⟩
    rw [good]
    exact fun v H' F' _ q => q
  refine codeAny_mono ((G _ inB (ns' gl)).run callerA [] t H ⟨[.ref a], []⟩ [.ref a] [.ref a] _ _ room rfl e0 (bd t (.ref a)) (.cons rfl .nil) want) ?_
  intro r s' h
  cases r with
  | error e =>
    obtain ⟨_, _, _, _, _, _, _, _, _, _, _, _, z⟩ := h
    exact z.elim
  | ok fl =>
    cases fl with
    | next => cases h
    | brk => cases h
    | cont => cases h
    | ret u =>
      obtain ⟨v, H', os, bare, un, ok', rv, rfl⟩ := h
      cases (show u = Value.bool true from rv)
      refine ⟨rfl, OldK.of_keep fun b ob e => ?_, os, bare⟩
      cases q : H b with
      | none => exact un.keep b ob e q (fun z => List.not_mem_nil z) (fun z => List.not_mem_nil z)
      | some u =>
        obtain ⟨_, _, rfl⟩ := hH b u q
        obtain ⟨e1, _⟩ := tracked b _ q
        obtain ⟨e2, _⟩ := ok' b _ (un.frzs b _ _ q)
        rw [e] at e1; cases e1
        exact e2
/-- the goal of a law, from what its def computes -/
theorem walk_law {l : PySem.W.OpenLaw} {k : Nat} {q : Program} {loose : List Str} {XP : (Str → Option Value) → Heap → Prop} {YP : World → Heap → Prop} {d : DefRec} {K : Params → PySem.W.Frag} {sem : FSem} {x : Str}
    (hn : l.most = some 63) (hdf : d.params.defaults = []) (room : Room k callerA) (hY : ∀ (w : World) (h : Heap), YP w h → (K w.params).In h)
    (good : ∀ ns : List Int, ns.length ≤ 63 → sem none [.scr ns] = .ok (.fz (.bl true)) none)
    (G : ∀ (w : World) (mg : Str → Option Value) (fa : Addr) (h : Heap), (K w.params).In h → h.Ns mainGlobals mg → mg d.name = some (.ref fa) →
      ∃ (fd : FuncData) (cls : Str → Value), (∀ (s : Shared) (u : Value), BindsTo s fd ⟨[u], []⟩ [(x, u)]) ∧ ∀ base : Heap, (K w.params).In base → base.Ns mainGlobals mg → FnG l.prog w (K w.params) mg base k fa fd [x] (spD (K w.params) cls none 1 sem)) :
    PySem.W.WalkO q loose XP YP l.row.toRowW d [] (fun f vs => PySem.call f vs) := by
  refine Att.attach_call hn hdf fun w s₀ t mg mb fa o pm cd doc a us ns Gr Yp ho hd hcd hmg obj hin few ng => ?_
  obtain ⟨fd, cls, bd, hG⟩ := G w mg fa _ (hY w _ Yp) Gr.T.g hmg
  exact law_at (hY w _ Yp) Gr.T.g Gr.T.b Gr.T.builtins Gr.T.nolimit ng obj hin (Nat.le_trans few (by decide)) room hG bd (good ns few)
end DL

namespace DL
open PySem PySem.Spec L2

/-! ### more operators -/
def op1 (op : D → Option R) (x : R) : M R := fun g => match cont g x with
  | some d => done (op d) g
  | none => .bad
def eU (op : D → Option R) (f : M R) : M R := mb (pk f) (op1 op)
def bNeg : D → Option R
  | .int i => some (.fz (.int (-i)))
  | _ => none
def cIs (neg : Bool) : D → D → Option R
  | .bl a, .bl b => some (.fz (.bl (if neg then !decide (a = b) else decide (a = b))))
  | a, .non => some (.fz (.bl (if neg then !isNon a else isNon a)))
  | _, _ => none
def kindT : D → Option String
  | .non => some "NoneType" | .bl _ => some "bool" | .int _ => some "int" | .str _ => some "str" | .tup _ => some "tuple" | .lst _ => some "list" | .dk _ => some "dict" | .dt _ => some "dict" | .scr _ => none
def bIsi (T : String) (d : D) : Option R := (kindT d).bind fun k => (kitB k T).map fun b => .fz (.bl b)
section
variable {X : Cx} {Y : Ent} {W : WX} {pos : Pos} {a b e : Expr}
theorem Post.op1 {K : PySem.W.Frag} {σ : St} {H F : Hp} {Q : VK} {g : G} {op : D → Option R} {x : R} (h : Post K Y W σ F (JV K Y σ Q) (op1 op x g)) (rl : Rel K Y σ H g F) : ∃ a r, cont g x = some a ∧ op a = some r ∧ RP K F H Q r := by
  unfold DL.op1 at h
  split at h
  · rename_i d e
    obtain ⟨r, h1, h2⟩ := Post.done h rl
    exact ⟨d, r, e, h1, h2⟩
  · exact h.elim
theorem de_neg {f : M R} (ha : DE X Y W a f) : DE X Y W (.UnaryOp .USub a pos) (eU bNeg f) :=
  pe_mono (pe_un un_neg (de_pk ha)) fun σ H Q ⟨g, F, r, p⟩ => ⟨g, F, r, (p.bind).imp fun x g1 H1 F1 r1 s1 q v hv => by
    obtain ⟨d, r', h1, h2, h3⟩ := Post.op1 q r1
    unfold bNeg at h2
    split at h2
    · cases h2
      exact ⟨_, (r1.cv hv h1).int, h3.now r1.sub rfl⟩
    · cases h2⟩
theorem od_is : OpD X (compareOp .Is) (cIs false) := by
  intro pins s σ H x y v u Q I rx ry ⟨F, a, b, r, sm, ha, hb, ho, hr⟩
  unfold cIs at ho
  split at ho
  · cases ho; exact op_isBl pins s σ H x y v u Q I rx ry ⟨_, _, ha.bl, hb.bl, hr.now sm rfl⟩
  · cases ho
    exact op_isN pins s σ H x y v u Q I rx ry ⟨hb.non, by rw [isnon_V ha]; exact hr.now sm rfl⟩
  · cases ho
theorem od_isnot : OpD X (compareOp .IsNot) (cIs true) := by
  intro pins s σ H x y v u Q I rx ry ⟨F, a, b, r, sm, ha, hb, ho, hr⟩
  unfold cIs at ho
  split at ho
  · cases ho; exact op_notBl pins s σ H x y v u Q I rx ry ⟨_, _, ha.bl, hb.bl, hr.now sm rfl⟩
  · cases ho
    exact op_notN pins s σ H x y v u Q I rx ry ⟨hb.non, by rw [isnon_V ha]; exact hr.now sm rfl⟩
  · cases ho
theorem od_inT : OpD X (compareOp .In) (cIn false) := od_in false
theorem od_notin : OpD X (compareOp .NotIn) (cIn true) := od_in true
theorem tyX_of {K : PySem.W.Frag} {F H : Hp} {v : V} {d : D} {k : String} (sm : Same F H) (h : CV K F H v d) (hk : kindT d = some k) : TyX K H v (.type k) := by
  cases d with
  | non => cases hk; rw [h.non]; exact .base .non
  | bl b => cases hk; rw [h.bl]; exact .base (.bl b)
  | int b => cases hk; rw [h.int]; exact .base (.int b)
  | str b => cases hk; rw [h.str.1]; exact .base (.str b)
  | tup b =>
    cases hk
    obtain ⟨a, vs, rfl, q, _⟩ := h.tup
    rcases sqT_mono sm q with (q | ⟨o, q⟩) | ⟨o, its, n, q1, q2, _⟩
    · exact .base (.tup q)
    · exact .fTuple q
    · exact .kTuple q1 q2
  | lst b => cases hk; obtain ⟨a, vs, rfl, q, _⟩ := h.lst sm; exact .base (.lst q)
  | dk kvs =>
    cases hk
    rcases h with ⟨a, ks, rfl, q, _⟩ | ⟨a, o, rfl, q, e⟩
    · exact .base (.dK (sm _ _ q))
    · cases o with
      | dk ys => obtain ⟨ks, q, _⟩ := q; exact .base (.dK q)
      | ls _ => cases e
      | dt _ => cases e
  | dt kvs =>
    cases hk
    rcases h with ⟨a, ks, rfl, q, _⟩ | ⟨a, o, rfl, q, e⟩
    · exact .base (.dT (sm _ _ q))
    · cases o with
      | dt ys => obtain ⟨ks, q, _⟩ := q; exact .base (.dT q)
      | ls _ => cases e
      | dk _ => cases e
  | scr _ => cases hk
theorem de_isi {T : String} {x : Str} {f : M R} {p q : Pos} (hg : Gl X "isinstance") (hm : X.mg "isinstance" = none) (hgT : Gl X x) (hmT : X.mg x = none) (hT : bootBuiltins x = some (.type T)) (ha : DE X Y W a f)
    (hnT : x ≠ "__name__" := by decide) (hdT : (x == ("__debug__" : Str)) = false := by decide)
    (h1 : starEach [a, .Name x q] X.env = (false, eval a X.env) :: starEach [.Name x q] X.env := by rfl) (h2 : (backTo pos (starEach [.Name x q] X.env)).any (·.1) = false := by rfl) (h3 : starEach [.Name x q] X.env = (false, eval (.Name x q) X.env) :: starEach [] X.env := by rfl) :
    DE X Y W (.Call (.Name "isinstance" p) [a, .Name x q] [] pos) (eU (bIsi T) f) :=
  pe_mono (pe_callB call_isi hg hm (PyProof.Rows.boot_isinstance) (pa_cons (de_pk ha) (pa_cons (pe_bltn (v := .ty T) hgT hmT hT rfl hnT hdT) pa_nil h3) h1) (by decide) (by decide) h1 h2) fun σ H Q ⟨g, F, r, p⟩ => ⟨g, F, r, (p.bind).imp fun x g1 H1 F1 r1 s1 q v hv => by
    obtain ⟨d, r', k1, k2, k3⟩ := Post.op1 q r1
    unfold bIsi at k2
    cases e : kindT d with
    | none => rw [e] at k2; cases k2
    | some k =>
      rw [e] at k2
      simp only [Option.bind_some] at k2
      cases e2 : kitB k T with
      | none => rw [e2] at k2; cases k2
      | some b =>
        rw [e2] at k2
        cases k2
        exact ⟨v, .ty T, _, _, b, rfl, .ty T, tyX_of r1.sub (r1.cv hv k1) e, kit_ty e2, k3.now r1.sub rfl⟩⟩
/-- list(range(n)) -/
def lrng (a b : Int) : List D := (List.range (b - a).toNat).map fun i => .int (a + (i : Nat))
def okRg (a b : Int) : Prop := -(2 ^ 62) ≤ a ∧ a < 2 ^ 62 ∧ -(2 ^ 62) ≤ b ∧ b < 2 ^ 62 ∧ (b - a).toNat ≤ 2 ^ 24
instance (a b : Int) : Decidable (okRg a b) := by unfold okRg; infer_instance
def bLrg1 : D → Option R
  | .int n => if okRg 0 n then some (.ow (.ls (lrng 0 n))) else none
  | _ => none
def bLrg2 : D → D → Option R
  | .int a, .int b => if okRg a b then some (.ow (.ls (lrng a b))) else none
  | _, _ => none
theorem IsL.rg {K : PySem.W.Frag} {F : Hp} (a b : Int) : IsL K F (rgV a b) (lrng a b) := by
  have e : lrng a b = ((List.range (b - a).toNat).map fun i => a + ((i : Nat) : Int)).map D.int := by unfold lrng; rw [List.map_map]; rfl
  have e2 : rgV a b = ((List.range (b - a).toNat).map fun i => a + ((i : Nat) : Int)).map V.int := by unfold rgV; rw [List.map_map]; rfl
  rw [e, e2]; exact IsL.ints _
theorem lrng_len (a b : Int) : (lrng a b).length = (b - a).toNat := by unfold lrng; rw [List.length_map, List.length_range]
theorem de_lrg1 {f : M R} {p p2 pos2 : Pos} (hc : X.calm = true) (hg : Gl X "list") (hm : X.mg "list" = none) (hg2 : Gl X "range") (hm2 : X.mg "range" = none) (ha : DE X Y W a f)
    (na : starEach [a] X.env = (false, eval a X.env) :: starEach [] X.env := by rfl) (nb : starEach [.Call (.Name "range" p2) [a] [] pos2] X.env = (false, eval (.Call (.Name "range" p2) [a] [] pos2) X.env) :: starEach [] X.env := by rfl) :
    DE X Y W (.Call (.Name "list" p) [.Call (.Name "range" p2) [a] [] pos2] [] pos) (eU bLrg1 f) :=
  pe_mono (pe_listRg hc hg hm (prg_1 hg2 hm2 (de_pk ha) na) nb) fun σ H Q ⟨g, F, r, p⟩ => ⟨g, F, r, (p.bind).imp fun x g1 H1 F1 r1 s1 q v hv => by
    obtain ⟨d, r', k1, k2, k3⟩ := Post.op1 q r1
    unfold bLrg1 at k2
    split at k2
    · rename_i n
      split at k2
      · rename_i hz
        cases k2
        exact ⟨n, (r1.cv hv k1).int, hz, fun l hl => k3.ls r1.sub (IsL.rg 0 n) (by rw [lrng_len]; exact Nat.le_trans hz.2.2.2.2 (by decide)) hl⟩
      · cases k2
    · cases k2⟩
theorem de_lrg2 {f k : M R} {p p2 pos2 : Pos} (hc : X.calm = true) (hg : Gl X "list") (hm : X.mg "list" = none) (hg2 : Gl X "range") (hm2 : X.mg "range" = none) (ha : DE X Y W a f) (hb : DE X Y W b k)
    (na : starEach [a, b] X.env = (false, eval a X.env) :: starEach [b] X.env := by rfl) (nb : starEach [b] X.env = (false, eval b X.env) :: starEach [] X.env := by rfl) (hp : (backTo pos2 (starEach [b] X.env)).any (·.1) = false := by rfl)
    (nc : starEach [.Call (.Name "range" p2) [a, b] [] pos2] X.env = (false, eval (.Call (.Name "range" p2) [a, b] [] pos2) X.env) :: starEach [] X.env := by rfl) :
    DE X Y W (.Call (.Name "list" p) [.Call (.Name "range" p2) [a, b] [] pos2] [] pos) (eB bLrg2 f k) :=
  pe_mono (pe_listRg hc hg hm (prg_2 hg2 hm2 (de_pk ha) (de_pk hb) na nb hp) nc) fun σ H Q ⟨g, F, r, p⟩ => ⟨g, F, r, (p.bind).imp fun x g1 H1 F1 r1 s1 q v hv => ⟨g1, F1, r1, (q.bind).imp fun y g2 H2 F2 r2 s2 q2 u hu => by
    obtain ⟨da, db, r', e1, e2, k2, k3⟩ := Post.op2 q2 r2
    unfold bLrg2 at k2
    split at k2
    · rename_i a b
      split at k2
      · rename_i hz
        cases k2
        exact ⟨a, b, (r2.cv (hv.keep s2 (cont_ne e1)) e1).int, (r2.cv hu e2).int, hz, fun l hl => k3.ls r2.sub (IsL.rg a b) (by rw [lrng_len]; exact Nat.le_trans hz.2.2.2.2 (by decide)) hl⟩
      · cases k2
    · cases k2⟩⟩
/-- for all of a written list -/
def AllE {α : Type} : List α → (α → Prop) → Prop
  | [], _ => True
  | a :: r, p => p a ∧ AllE r p
theorem AllE.mem {α : Type} {p : α → Prop} : ∀ {l : List α}, AllE l p → ∀ a ∈ l, p a
  | b :: r, ⟨h, t⟩, a, hm => (List.mem_cons.mp hm).elim (fun e => e ▸ h) (AllE.mem t a)
end

section
variable {X : Cx} {Y : Ent} {W : WX} {pos : Pos} {x : Str}
theorem de_gS {s : Str} {t : Tok} (hm : X.mg x = some (.str s t)) (hg : Gl X x := by rfl) (h : s.length ≤ sizeLine := by decide) (hd : (x == ("__debug__" : Str)) = false := by decide) : DE X Y W (.Name x pos) (eC (.str s)) :=
  de_glob (v := .str s) hg hm ⟨t, rfl⟩ (fun _ => ⟨rfl, h⟩) hd
theorem de_gI {i : Int} {t : Tok} (hm : X.mg x = some (.int i t)) (hg : Gl X x := by rfl) (hd : (x == ("__debug__" : Str)) = false := by decide) : DE X Y W (.Name x pos) (eC (.int i)) :=
  de_glob (v := .int i) hg hm ⟨t, rfl⟩ (fun _ => rfl) hd
end
end DL

namespace DL
open PySem PySem.Spec L2

/-! # the plain side: what the functions of data compute -/
variable {α β : Type}
@[simp] theorem ev_mb (m : M α) (k : α → M β) (g : G) : mb m k g = (m g).andThen k := rfl
@[simp] theorem ev_mp (a : α) (g : G) : mp a g = .ok a g := rfl
@[simp] theorem ev_c (d : D) (g : G) : eC d g = .ok (.fz d) g := rfl
@[simp] theorem ev_var (i : Nat) (g : G) : eVar i g = match g[i]? with
  | some (some (.fz d)) => .ok (.fz d) g
  | some (some (.ow _ _)) => .ok (.at i) g
  | _ => .bad := rfl
@[simp] theorem ct_fz (g : G) (d : D) : cont g (.fz d) = some d := rfl
@[simp] theorem ct_at (g : G) (i : Nat) : cont g (.at i) = match g[i]? with
    | some (some (.ow _ o)) => some o.d
    | some (some (.fz d)) => some d
    | _ => none := rfl
@[simp] theorem ev_done_fz (d : D) (g : G) : done (some (.fz d)) g = .ok (.fz d) g := rfl
@[simp] theorem ev_done_ow (o : O) (g : G) : done (some (.ow o)) g = .ok (.ow o) g := rfl
@[simp] theorem od_ls (xs : List D) : O.d (.ls xs) = .lst xs := rfl
@[simp] theorem od_dk (xs : List (Key × D)) : O.d (.dk xs) = .dk xs := rfl
@[simp] theorem od_dt (xs : List (List Key × D)) : O.d (.dt xs) = .dt xs := rfl
@[simp] theorem then_ite (c : Prop) [Decidable c] (a b : Rs α) (k : α → G → Rs β) : (if c then a else b).andThen k = if c then a.andThen k else b.andThen k := by split <;> rfl
@[simp] theorem ev_op2 (op : D → D → Option R) (x y : R) (g : G) : op2 op x y g = match cont g x, cont g y with
  | some a, some b => done (op a b) g
  | _, _ => .bad := rfl
@[simp] theorem ev_eB (op : D → D → Option R) (f k : M R) (g : G) : eB op f k g = (pk f g).andThen fun x g1 => (pk k g1).andThen fun y => op2 op x y := rfl
@[simp] theorem ev_toB (b : Bool) (g : G) : toB (.fz (.bl b)) g = .ok b g := rfl
@[simp] theorem ev_test (f : M R) (g : G) : eTest f g = (f g).andThen toB := rfl
@[simp] theorem ev_tAnd (f k : M Bool) (g : G) : tAndM f k g = (f g).andThen fun c => if c = true then k else mp false := rfl
@[simp] theorem ev_tOr (f k : M Bool) (g : G) : tOrM f k g = (f g).andThen fun c => if c = true then mp true else k := rfl
@[simp] theorem ev_tNot (f : M Bool) (g : G) : tNotM f g = (f g).andThen fun c => mp (!c) := rfl
@[simp] theorem ev_vAnd (f k : M R) (g : G) : vAnd f k g = (f g).andThen fun x g1 => (toB x g1).andThen fun c => if c = true then k else eC (.bl false) := rfl
@[simp] theorem ev_vOr (f k : M R) (g : G) : vOr f k g = (f g).andThen fun x g1 => (toB x g1).andThen fun c => if c = true then eC (.bl true) else k := rfl
@[simp] theorem ev_vNot (f : M R) (g : G) : vNot f g = (f g).andThen fun x g1 => (toB x g1).andThen fun c => eC (.bl (!c)) := rfl
@[simp] theorem ev_if (c : M Bool) (f k : M R) (g : G) : eIf c f k g = (c g).andThen fun b => if b = true then f else k := rfl
@[simp] theorem ev_ite {γ : Type} (c : Prop) [Decidable c] (a b : M γ) (g : G) : (if c then a else b) g = if c then a g else b g := by split <;> rfl
@[simp] theorem ev_tru (f : M R) (g : G) : eTru f g = (pk f g).andThen toTru := rfl
@[simp] theorem ev_toTru (x : R) (g : G) : toTru x g = match (cont g x).bind truD with
  | some b => .ok b g
  | none => .bad := rfl
@[simp] theorem ev_pk (f : M R) (g : G) : pk f g = (f g).andThen pkR := rfl
@[simp] theorem ev_pkR_fz (d : D) (g : G) : pkR (.fz d) g = .ok (.fz d) g := rfl
@[simp] theorem ev_pkR_at (i : Nat) (g : G) : pkR (.at i) g = .ok (.at i) g := rfl
@[simp] theorem ev_pkR_ow (o : O) (g : G) : pkR (.ow o) g = .ok (.fz o.d) g := rfl
@[simp] theorem ev_esc (f : M R) (g : G) : esc f g = (f g).andThen escR := rfl
@[simp] theorem ev_escR_fz (d : D) (g : G) : escR (.fz d) g = .ok (.fz d) g := rfl
@[simp] theorem ev_escR_ow (o : O) (g : G) : escR (.ow o) g = .ok (.fz o.d) g := rfl
@[simp] theorem ev_escR_at (i : Nat) (g : G) : escR (.at i) g = match g[i]? with
  | some (some (.ow false o)) => .ok (.fz o.d) (g.set i (some (.fz o.d)))
  | some (some (.fz d)) => .ok (.fz d) g
  | _ => .bad := rfl
@[simp] theorem ev_aNil (g : G) : aNil g = .ok [] g := rfl
@[simp] theorem ev_aCons (f : M R) (k : M (List R)) (g : G) : aCons f k g = (f g).andThen fun x g1 => (k g1).andThen fun xs => aPush x xs := rfl
@[simp] theorem ev_aPush_fz (d : D) (xs : List R) (g : G) : aPush (.fz d) xs g = .ok (.fz d :: xs) g := rfl
@[simp] theorem ev_aPush_at (i : Nat) (xs : List R) (g : G) : aPush (.at i) xs g = .ok (.at i :: xs) g := rfl
@[simp] theorem ct_nil (g : G) : conts g [] = some [] := rfl
@[simp] theorem ct_cons (g : G) (r : R) (rs : List R) : conts g (r :: rs) = match cont g r, conts g rs with
    | some d, some ds => some (d :: ds)
    | _, _ => none := rfl
@[simp] theorem af_nil : allFz [] = some [] := rfl
@[simp] theorem af_cons (d : D) (r : List R) : allFz (.fz d :: r) = (allFz r).map (d :: ·) := rfl
@[simp] theorem ev_opN (op : List D → Option R) (rs : List R) (g : G) : opN op rs g = match conts g rs with
  | some ds => done (op ds) g
  | none => .bad := rfl
@[simp] theorem ev_callB (op : List D → Option R) (k : M (List R)) (g : G) : eCallB op k g = (k g).andThen (opN op) := rfl
@[simp] theorem ev_chkT (T : String) (x : R) (g : G) : chkT T x g = match cont g x with
  | some d => if kindD d = T then .ok () g else .bad
  | none => .bad := rfl
@[simp] theorem ev_opM (op : D → List D → Option R) (x : R) (ys : List R) (g : G) : opM op x ys g = match cont g x, conts g ys with
  | some d, some ds => done (op d ds) g
  | _, _ => .bad := rfl
@[simp] theorem ev_meth (T : String) (op : D → List D → Option R) (f : M R) (k : M (List R)) (g : G) : eMeth T op f k g = (pk f g).andThen fun x g1 => (chkT T x g1).andThen fun _ g2 => (k g2).andThen fun ys => opM op x ys := rfl
@[simp] theorem ev_opMut (op : O → List D → Option (O × D)) (i : Nat) (ys : List R) (g : G) : opMut op (.at i) ys g = match g[i]?, allFz ys with
    | some (some (.ow l o)), some ds => match op o ds with
      | some (o', d) => .ok (.fz d) (g.set i (some (.ow l o')))
      | none => .bad
    | _, _ => .bad := rfl
@[simp] theorem ev_mut (T : String) (op : O → List D → Option (O × D)) (f : M R) (k : M (List R)) (g : G) : eMut T op f k g = (f g).andThen fun x g1 => (chkT T x g1).andThen fun _ g2 => (k g2).andThen fun ys => opMut op x ys := rfl
@[simp] theorem ev_mkTup (rs : List R) (g : G) : mkTup rs g = match allFz rs with
  | some ds => if ds.length ≤ 1000 then .ok (.fz (.tup ds)) g else .bad
  | none => .bad := rfl
@[simp] theorem ev_mkLst (rs : List R) (g : G) : mkLst rs g = match allFz rs with
  | some ds => if ds.length ≤ 1000 then .ok (.ow (.ls ds)) g else .bad
  | none => .bad := rfl
@[simp] theorem ev_eTup (k : M (List R)) (g : G) : eTup k g = (k g).andThen mkTup := rfl
@[simp] theorem ev_eLst (k : M (List R)) (g : G) : eLst k g = (k g).andThen mkLst := rfl
@[simp] theorem kd_str (s : Str) : kindD (.str s) = "str" := rfl
@[simp] theorem kd_lst (s : List D) : kindD (.lst s) = "list" := rfl
@[simp] theorem kd_dk (s : List (Key × D)) : kindD (.dk s) = "dict" := rfl
@[simp] theorem kd_dt (s : List (List Key × D)) : kindD (.dt s) = "dict" := rfl
@[simp] theorem tr_bl (b : Bool) : truD (.bl b) = some b := rfl
@[simp] theorem tr_non : truD .non = some false := rfl
@[simp] theorem tr_int (i : Int) : truD (.int i) = some (i != 0) := rfl
@[simp] theorem tr_str (s : Str) : truD (.str s) = some ((s.length : Int) != 0) := rfl
@[simp] theorem tr_lst (s : List D) : truD (.lst s) = some (!s.isEmpty) := rfl
@[simp] theorem tr_tup (s : List D) : truD (.tup s) = some (!s.isEmpty) := rfl

/-! operators -/
@[simp] theorem bn_add (i j : Int) : bAdd (.int i) (.int j) = some (.fz (.int (i + j))) := rfl
@[simp] theorem bn_adds (a b : Str) : bAdd (.str a) (.str b) = if a.length + b.length ≤ sizeLine then some (.fz (.str (a ++ b))) else none := rfl
@[simp] theorem bn_addl (xs ys : List D) : bAdd (.lst xs) (.lst ys) = if xs.length + ys.length ≤ sizeLine then some (.ow (.ls (xs ++ ys))) else none := rfl
@[simp] theorem bn_addt (xs ys : List D) : bAdd (.tup xs) (.tup ys) = if xs.length + ys.length ≤ sizeLine then some (.fz (.tup (xs ++ ys))) else none := rfl
@[simp] theorem bn_sub (i j : Int) : bSub (.int i) (.int j) = some (.fz (.int (i - j))) := rfl
theorem bn_mul (i j : Int) : bMul (.int i) (.int j) = if (-(2 ^ 64) < i ∧ i < 2 ^ 64) ∨ (-(2 ^ 64) < j ∧ j < 2 ^ 64) then some (.fz (.int (i * j))) else none := rfl
theorem two64 : (2 : Int) ^ 64 = 18446744073709551616 := by decide
theorem two62 : (2 : Int) ^ 62 = 4611686018427387904 := by decide
@[simp] theorem bn_mulR (i j : Int) (h1 : -18446744073709551616 < j) (h2 : j < 18446744073709551616) : bMul (.int i) (.int j) = some (.fz (.int (i * j))) := by
  rw [bn_mul, two64, if_pos (.inr ⟨h1, h2⟩)]
theorem bn_mulL (i j : Int) (h1 : -18446744073709551616 < i) (h2 : i < 18446744073709551616) : bMul (.int i) (.int j) = some (.fz (.int (i * j))) := by
  rw [bn_mul, two64, if_pos (.inl ⟨h1, h2⟩)]
@[simp] theorem bn_fdiv (i j : Int) : bFdiv (.int i) (.int j) = if 0 < j ∧ j < 1073741824 then some (.fz (.int (i / j))) else none := rfl
@[simp] theorem bn_mod (i j : Int) : bMod (.int i) (.int j) = if 0 < j then some (.fz (.int (i % j))) else none := rfl
@[simp] theorem bn_pow (i j : Int) : bPow (.int i) (.int j) = if 0 ≤ j ∧ j ≤ 1000000 ∧ i.natAbs < 2 ^ 64 then some (.fz (.int (i ^ j.toNat))) else none := rfl
@[simp] theorem cn_eqi (i j : Int) : cEq (.int i) (.int j) = some (.fz (.bl (i == j))) := rfl
@[simp] theorem cn_eqs (i j : Str) : cEq (.str i) (.str j) = some (.fz (.bl (i == j))) := rfl
@[simp] theorem cn_eqb (i j : Bool) : cEq (.bl i) (.bl j) = some (.fz (.bl (i == j))) := rfl
@[simp] theorem cn_nei (i j : Int) : cNe (.int i) (.int j) = some (.fz (.bl (!(i == j)))) := rfl
@[simp] theorem cn_nes (i j : Str) : cNe (.str i) (.str j) = some (.fz (.bl (!(i == j)))) := rfl
@[simp] theorem cn_neb (i j : Bool) : cNe (.bl i) (.bl j) = some (.fz (.bl (!(i == j)))) := rfl
@[simp] theorem cn_lt (i j : Int) : cLt (.int i) (.int j) = some (.fz (.bl (decide (i < j)))) := rfl
@[simp] theorem cn_le (i j : Int) : cLe (.int i) (.int j) = some (.fz (.bl (decide (i ≤ j)))) := rfl
@[simp] theorem cn_gt (i j : Int) : cGt (.int i) (.int j) = some (.fz (.bl (decide (j < i)))) := rfl
@[simp] theorem cn_ge (i j : Int) : cGe (.int i) (.int j) = some (.fz (.bl (decide (j ≤ i)))) := rfl
@[simp] theorem cn_ins (neg : Bool) (i j : Str) : cIn neg (.str i) (.str j) = some (.fz (.bl (if neg then !subS i j else subS i j))) := rfl
@[simp] theorem cn_inl (neg : Bool) (x : D) (xs : List D) (h : ∀ s, x = .str s → True) : cIn neg x (.lst xs) = if flatI x && xs.all flatI then some (.fz (.bl (if neg then !memD x xs else memD x xs))) else none := by cases x <;> rfl
@[simp] theorem cn_int (neg : Bool) (x : D) (xs : List D) : cIn neg x (.tup xs) = if flatI x && xs.all flatI then some (.fz (.bl (if neg then !memD x xs else memD x xs))) else none := by cases x <;> rfl
@[simp] theorem sub_sign (c : Nat) (z : Str) : subS ⟨#[c]⟩ z = decide (c ∈ z.cps.toList) := StrLaws.found_one z c
@[simp] theorem ix_lst (xs : List D) (i : Int) : ixD (.lst xs) (.int i) = (atI xs i).map .fz := rfl
@[simp] theorem ix_tup (xs : List D) (i : Int) : ixD (.tup xs) (.int i) = (atI xs i).map .fz := rfl
@[simp] theorem ix_str (z : Str) (i : Int) : ixD (.str z) (.int i) = (atI z.cps.toList i).map fun c => .fz (.str ⟨#[c]⟩) := rfl
@[simp] theorem ix_scr (z : List Int) (i : Int) : ixD (.scr z) (.int i) = (atI z i).map fun n => .fz (.int n) := rfl
@[simp] theorem ln_str (s : Str) : fLen [.str s] = some (.fz (.int s.length)) := rfl
@[simp] theorem ln_tup (s : List D) : fLen [.tup s] = some (.fz (.int s.length)) := rfl
@[simp] theorem ln_lst (s : List D) : fLen [.lst s] = some (.fz (.int s.length)) := rfl
@[simp] theorem ln_scr (s : List Int) : fLen [.scr s] = some (.fz (.int s.length)) := rfl
@[simp] theorem fn_int (i : Int) : fInt [.int i] = some (.fz (.int i)) := rfl
@[simp] theorem fn_all (xs : List D) : fAll [.lst xs] = (bolsOf xs).map fun ns => .fz (.bl (ns.all id)) := rfl
@[simp] theorem fn_any (xs : List D) : fAny [.lst xs] = (bolsOf xs).map fun ns => .fz (.bl (ns.any id)) := rfl
@[simp] theorem fn_tuple (xs : List D) : fTuple [.lst xs] = some (.fz (.tup xs)) := rfl
@[simp] theorem fn_tuple' (xs : List D) : fTuple [.tup xs] = some (.fz (.tup xs)) := rfl
@[simp] theorem fn_sum (xs : List D) : fSum [.lst xs] = (intsOf xs).map fun ns => .fz (.int ns.sum) := rfl
@[simp] theorem fn_repr (d : D) : fRepr [d] = if okRepr d = true then some (.fz (.str d.py.shown)) else none := rfl
@[simp] theorem ua_app (xs : List D) (d : D) : uAppend (.ls xs) [d] = if xs.length < sizeLine then some (.ls (xs ++ [d]), .non) else none := rfl

/-! statements -/
theorem sSeq_nx {a b : M Fl} {g g1 : G} (h : a g = .ok .nx g1) : sSeq a b g = b g1 := by unfold sSeq; rw [h]
theorem sSeq_rt {a b : M Fl} {g g1 : G} {r : R} (h : a g = .ok (.rt r) g1) : sSeq a b g = .ok (.rt r) g1 := by unfold sSeq; rw [h]
theorem sSeq_ex {a b : M Fl} {g g1 : G} {e : Ex} (h : a g = .ex e g1) : sSeq a b g = .ex e g1 := by unfold sSeq; rw [h]
def seqK (x : Rs Fl) (b : M Fl) : Rs Fl := match x with
  | .ok .nx g' => b g'
  | r => r
@[simp] theorem ev_seq (a b : M Fl) (g : G) : sSeq a b g = seqK (a g) b := rfl
@[simp] theorem sk_nx (g : G) (b : M Fl) : seqK (.ok .nx g) b = b g := rfl
@[simp] theorem sk_rt (r : R) (g : G) (b : M Fl) : seqK (.ok (.rt r) g) b = .ok (.rt r) g := rfl
@[simp] theorem sk_bk (g : G) (b : M Fl) : seqK (.ok .bk g) b = .ok .bk g := rfl
@[simp] theorem sk_ct (g : G) (b : M Fl) : seqK (.ok .ct g) b = .ok .ct g := rfl
@[simp] theorem sk_ex (e : Ex) (g : G) (b : M Fl) : seqK (.ex e g) b = .ex e g := rfl
@[simp] theorem sk_bad (b : M Fl) : seqK .bad b = .bad := rfl
@[simp] theorem sk_ite (c : Prop) [Decidable c] (x y : Rs Fl) (b : M Fl) : seqK (if c then x else y) b = if c then seqK x b else seqK y b := by split <;> rfl
@[simp] theorem ev_nil (g : G) : sNil g = .ok .nx g := rfl
@[simp] theorem ev_pass (g : G) : sPass g = .ok .nx g := rfl
@[simp] theorem ev_brk (g : G) : sBrk g = .ok .bk g := rfl
@[simp] theorem ev_cont (g : G) : sCont g = .ok .ct g := rfl
@[simp] theorem ev_retN (g : G) : sRetN g = .ok (.rt (.fz .non)) g := rfl
@[simp] theorem ev_expr (f : M R) (g : G) : sExpr f g = (f g).andThen fun _ => mp .nx := rfl
@[simp] theorem ev_ret (f : M R) (g : G) : sRet f g = (f g).andThen retR := rfl
@[simp] theorem ev_retR_fz (d : D) (g : G) : retR (.fz d) g = .ok (.rt (.fz d)) g := rfl
@[simp] theorem ev_retR_ow (d : O) (g : G) : retR (.ow d) g = .ok (.rt (.ow d)) g := rfl
@[simp] theorem ev_retR_at (i : Nat) (g : G) : retR (.at i) g = match g[i]? with
    | some (some (.ow false o)) => .ok (.rt (.ow o)) (g.set i none)
    | some (some (.fz d)) => .ok (.rt (.fz d)) g
    | _ => .bad := rfl
@[simp] theorem ev_sIf (c : M Bool) (a b : M Fl) (g : G) : sIf c a b g = (c g).andThen fun t => if t = true then a else b := rfl
@[simp] theorem ev_set_fz (i : Nat) (d : D) (g : G) : setSl i (.fz d) g = .ok () (g.set i (some (.fz d))) := rfl
@[simp] theorem ev_set_ow (i : Nat) (d : O) (g : G) : setSl i (.ow d) g = .ok () (g.set i (some (.ow false d))) := rfl
@[simp] theorem ev_asg (f : M R) (t : R → M Unit) (g : G) : sAsg f t g = (eA f g).andThen fun r g => (noEx (t r g)).andThen fun _ => mp .nx := rfl
@[simp] theorem ev_eA (f : M R) (g : G) : eA f g = (f g).andThen escA := rfl
@[simp] theorem ev_escA_fz (d : D) (g : G) : escA (.fz d) g = .ok (.fz d) g := rfl
@[simp] theorem ev_escA_ow (d : O) (g : G) : escA (.ow d) g = .ok (.ow d) g := rfl
@[simp] theorem ev_escA_at (i : Nat) (g : G) : escA (.at i) g = escR (.at i) g := rfl
@[simp] theorem ne_ok (a : α) (g : G) : noEx (.ok a g) = .ok a g := rfl
@[simp] theorem ev_chkN (n : Nat) (a : M (List R)) (g : G) : chkN n a g = (a g).andThen fun rs g => if rs.length = n then .ok rs g else .bad := rfl
/-- what a call's end gives -/
def callK (x : Res) (g : G) : Rs R := match x with
      | .ok (.fz d) none => .ok (.fz d) g
      | .ok (.ow o) none => .ok (.ow o) g
      | .ex e none => .ex e g
      | _ => .bad
@[simp] theorem ck_fz (d : D) (g : G) : callK (.ok (.fz d) none) g = .ok (.fz d) g := rfl
@[simp] theorem ck_ow (d : O) (g : G) : callK (.ok (.ow d) none) g = .ok (.ow d) g := rfl
@[simp] theorem ck_ex (e : Ex) (g : G) : callK (.ex e none) g = .ex e g := rfl
@[simp] theorem ck_ite (c : Prop) [Decidable c] (x y : Res) (g : G) : callK (if c then x else y) g = if c then callK x g else callK y g := by split <;> rfl
@[simp] theorem ev_opCall (sem : FSem) (rs : List R) (g : G) : opCall none sem rs g = match allFz rs with
    | some ds => callK (sem none ds) g
    | none => .bad := rfl
@[simp] theorem ev_call (lp : Option Nat) (sem : FSem) (k : M (List R)) (g : G) : eCall lp sem k g = (k g).andThen (opCall lp sem) := rfl
/-- the end of a def without a lent list -/
def endF (x : Rs Fl) : Res := match x with
    | .ok (.rt (.fz d)) g => .ok (.fz d) none
    | .ok (.rt (.ow o)) g => .ok (.ow o) none
    | .ok .nx g => .ok (.fz .non) none
    | .ex e g => .ex e none
    | _ => .bad
theorem bodyF_none (n : Nat) (b : M Fl) (ds : List D) : bodyF n none b none ds = endF (b (fill n (ds.map fun d => some (.fz d)))) := by
  unfold bodyF endF
  show (match b (fill n (ds.map fun d => some (.fz d))) with | _ => _) = _
  cases b (fill n (ds.map fun d => some (.fz d))) with
  | bad => rfl
  | ex e g => rfl
  | ok f g => cases f with
    | rt r => cases r <;> rfl
    | nx => rfl
    | bk => rfl
    | ct => rfl
@[simp] theorem ef_fz (d : D) (g : G) : endF (.ok (.rt (.fz d)) g) = .ok (.fz d) none := rfl
@[simp] theorem ef_ow (d : O) (g : G) : endF (.ok (.rt (.ow d)) g) = .ok (.ow d) none := rfl
@[simp] theorem ef_nx (g : G) : endF (.ok .nx g) = .ok (.fz .non) none := rfl
@[simp] theorem ef_ex (e : Ex) (g : G) : endF (.ex e g) = .ex e none := rfl
@[simp] theorem ef_ite (c : Prop) [Decidable c] (x y : Rs Fl) : endF (if c then x else y) = if c then endF x else endF y := by split <;> rfl

/-! iterators, loops -/
@[simp] theorem ev_iSeq (f : M R) (g : G) : iSeq f g = (esc f g).andThen toIt := rfl
@[simp] theorem ev_toIt (d : D) (g : G) : toIt (.fz d) g = match itemsD d with
    | some ds => .ok ds g
    | none => .bad := rfl
@[simp] theorem it_lst (ds : List D) : itemsD (.lst ds) = some ds := rfl
@[simp] theorem it_tup (ds : List D) : itemsD (.tup ds) = some ds := rfl
@[simp] theorem it_str (z : Str) : itemsD (.str z) = some (Str.signs z) := rfl
@[simp] theorem it_scr (ns : List Int) : itemsD (.scr ns) = some (ns.map D.int) := rfl
@[simp] theorem ev_iRng1 (k : M (List R)) (g : G) : iRng1 k g = (k g).andThen toRng1 := rfl
@[simp] theorem ev_toRng1 (n : Int) (g : G) : toRng1 [.fz (.int n)] g = if -(2 ^ 62) ≤ n ∧ n < 2 ^ 62 then .ok (rngI 0 n.toNat) g else .bad := rfl
@[simp] theorem ev_iRng2 (k : M (List R)) (g : G) : iRng2 k g = (k g).andThen toRng2 := rfl
@[simp] theorem ev_toRng2 (a b : Int) (g : G) : toRng2 [.fz (.int a), .fz (.int b)] g = if -(2 ^ 62) ≤ a ∧ a < 2 ^ 62 ∧ -(2 ^ 62) ≤ b ∧ b < 2 ^ 62 then .ok (rngI a (b - a).toNat) g else .bad := rfl
@[simp] theorem ev_for (it : M (List D)) (t : R → M Unit) (body : M Fl) (g : G) : sFor it t body g = (it g).andThen fun ds => forL t body ds := rfl
@[simp] theorem ev_yes (g : G) : cYes g = .ok true g := rfl
@[simp] theorem for_nil (t : R → M Unit) (body : M Fl) (g : G) : forL t body [] g = .ok .nx g := rfl
/-- one turn -/
def turn (t : R → M Unit) (body : M Fl) (d : D) (g : G) : Rs Fl := (noEx (t (.fz d) g)).andThen fun _ g1 => body g1
theorem for_cons (t : R → M Unit) (body : M Fl) (d : D) (ds : List D) (g : G) : forL t body (d :: ds) g = match turn t body d g with
    | .ok .nx g2 => forL t body ds g2
    | .ok .ct g2 => forL t body ds g2
    | .ok .bk g2 => .ok .nx g2
    | r => r := by
  show ((noEx (t (.fz d) g)).andThen fun _ g1 => match body g1 with
    | .ok .nx g2 => forL t body ds g2
    | .ok .ct g2 => forL t body ds g2
    | .ok .bk g2 => .ok .nx g2
    | r => r) = _
  unfold turn
  cases noEx (t (.fz d) g) <;> rfl
/-- a loop that ends -/
theorem for_inv {t : R → M Unit} {body : M Fl} (I : List D → G → Prop) : ∀ (ds pre : List D) (g : G), I pre g →
    (∀ p d s g, pre ++ ds = p ++ d :: s → I p g → ∃ g2, (turn t body d g = .ok .nx g2 ∨ turn t body d g = .ok .ct g2) ∧ I (p ++ [d]) g2) → ∃ g', forL t body ds g = .ok .nx g' ∧ I (pre ++ ds) g'
  | [], pre, g, h, _ => ⟨g, rfl, by rwa [List.append_nil]⟩
  | d :: ds, pre, g, h, st => by
    obtain ⟨g2, h1, h2⟩ := st pre d ds g rfl h
    obtain ⟨g', h3, h4⟩ := for_inv I ds (pre ++ [d]) g2 h2 fun p d' s g e => st p d' s g (by rw [← e, List.append_assoc]; rfl)
    refine ⟨g', ?_, by rw [show pre ++ d :: ds = pre ++ [d] ++ ds by rw [List.append_assoc]; rfl]; exact h4⟩
    rw [for_cons]
    rcases h1 with h1 | h1 <;> rw [h1] <;> exact h3
/-- a loop that may return early -/
theorem for_find {t : R → M Unit} {body : M Fl} (I : G → Prop) (p : D → Bool) (r : D → R) : ∀ (ds : List D) (g : G), I g →
    (∀ d ∈ ds, ∀ g, I g → (p d = true → ∃ g2, turn t body d g = .ok (.rt (r d)) g2 ∧ I g2) ∧ (p d = false → ∃ g2, (turn t body d g = .ok .nx g2 ∨ turn t body d g = .ok .ct g2) ∧ I g2)) →
    match ds.find? p with
    | some d => ∃ g', forL t body ds g = .ok (.rt (r d)) g' ∧ I g'
    | none => ∃ g', forL t body ds g = .ok .nx g' ∧ I g'
  | [], g, h, _ => ⟨g, rfl, h⟩
  | d :: ds, g, h, st => by
    obtain ⟨h1, h2⟩ := st d List.mem_cons_self g h
    cases e : p d with
    | true =>
      rw [List.find?_cons_of_pos e]
      obtain ⟨g2, h3, h4⟩ := h1 e
      exact ⟨g2, by rw [for_cons, h3], h4⟩
    | false =>
      rw [List.find?_cons_of_neg (by rw [e]; decide)]
      obtain ⟨g2, h3, h4⟩ := h2 e
      have ih := for_find I p r ds g2 h4 fun d' hd => st d' (List.mem_cons_of_mem _ hd)
      have e2 : forL t body (d :: ds) g = forL t body ds g2 := by rw [for_cons]; rcases h3 with h3 | h3 <;> rw [h3]
      rw [e2]; exact ih

/-! comprehensions -/
/-- one turn of a comprehension -/
def lcStep (t : R → M Unit) (c : M Bool) (e : M R) (d : D) (g : G) : Rs (Option D) :=
  (noEx (t (.fz d) g)).andThen fun _ g1 => (noEx (c g1)).andThen fun b g2 =>
      if b = true then (noEx (esc e g2)).andThen fun x g3 => match x with
        | .fz y => .ok (some y) g3
        | _ => .bad
      else .ok none g2
theorem lcL_cons (t : R → M Unit) (c : M Bool) (e : M R) (vs : List Nat) (d : D) (ds acc : List D) (g : G) :
    lcL t c e vs (d :: ds) acc g = (lcStep t c e d (wipeG g vs)).andThen fun y g3 => match y with
      | some y => lcL t c e vs ds (acc ++ [y]) g3
      | none => lcL t c e vs ds acc g3 := by
  show ((noEx (t (.fz d) (wipeG g vs))).andThen fun _ g1 => (noEx (c g1)).andThen fun b g2 =>
      if b = true then (noEx (esc e g2)).andThen fun x g3 => match x with
        | .fz y => lcL t c e vs ds (acc ++ [y]) g3
        | _ => .bad
      else lcL t c e vs ds acc g2) = _
  unfold lcStep
  cases noEx (t (.fz d) (wipeG g vs)) with
  | bad => rfl
  | ex _ _ => rfl
  | ok _ g1 =>
    show (noEx (c g1)).andThen _ = ((noEx (c g1)).andThen _).andThen _
    cases noEx (c g1) with
    | bad => rfl
    | ex _ _ => rfl
    | ok b g2 =>
      cases b with
      | false => rfl
      | true =>
        show (noEx (esc e g2)).andThen _ = ((noEx (esc e g2)).andThen _).andThen _
        cases noEx (esc e g2) with
        | bad => rfl
        | ex _ _ => rfl
        | ok x g3 => cases x <;> rfl
theorem wipeG_at (g : G) (i : Nat) : ∀ vs : List Nat, (wipeG g vs)[i]? = if i ∈ vs ∧ i < g.length then some none else g[i]?
  | [] => by simp [wipeG]
  | v :: vs => by
    have ih := wipeG_at g i vs
    unfold wipeG
    rw [List.getElem?_set, ih, wipeG_len]
    by_cases e : v = i
    · subst e
      by_cases l : v < g.length
      · simp [l]
      · simp [l, List.getElem?_eq_none (Nat.le_of_not_lt l)]
    · simp [e, Ne.symm e, List.mem_cons, show (i = v) = False from eq_false fun z => e z.symm]
theorem backG_leng (g0 g : G) : ∀ vs : List Nat, (backG g0 g vs).length = g.length
  | [] => rfl
  | v :: vs => by unfold backG; rw [List.length_set, backG_leng g0 g vs]
theorem backG_at (g0 g : G) (i : Nat) : ∀ vs : List Nat, (backG g0 g vs)[i]? = if i ∈ vs ∧ i < g.length then some (keepFz g0[i]?) else g[i]?
  | [] => by simp [backG]
  | v :: vs => by
    have ih := backG_at g0 g i vs
    unfold backG
    rw [List.getElem?_set, ih, backG_leng]
    by_cases e : v = i
    · subst e
      by_cases l : v < g.length
      · simp [l]
      · simp [l, List.getElem?_eq_none (Nat.le_of_not_lt l)]
    · simp [e, Ne.symm e, List.mem_cons, show (i = v) = False from eq_false fun z => e z.symm]
theorem backG_wipe (g0 g : G) (vs : List Nat) : backG g0 g vs = backG g0 (wipeG g vs) vs := by
  apply List.ext_getElem?
  intro i
  rw [backG_at, backG_at, wipeG_at, wipeG_len]
  split <;> rename_i h
  · rfl
  · rfl
theorem wipeG_twice (g : G) (vs : List Nat) : wipeG (wipeG g vs) vs = wipeG g vs := by
  apply List.ext_getElem?
  intro i
  rw [wipeG_at, wipeG_at, wipeG_len]
  split <;> rfl
theorem lcL_pure {t : R → M Unit} {c : M Bool} {e : M R} {vs : List Nat} {g : G} {ψ : D → Option D} : ∀ (ds acc : List D) (g1 : G), wipeG g1 vs = wipeG g vs →
    (∀ d ∈ ds, ∃ g3, lcStep t c e d (wipeG g vs) = .ok (ψ d) g3 ∧ wipeG g3 vs = wipeG g vs) → ∃ g', lcL t c e vs ds acc g1 = .ok (acc ++ ds.filterMap ψ) g' ∧ wipeG g' vs = wipeG g vs
  | [], acc, g1, h, _ => ⟨g1, by simp [lcL], h⟩
  | d :: ds, acc, g1, h, st => by
    obtain ⟨g3, h1, h2⟩ := st d List.mem_cons_self
    rw [lcL_cons, h, h1]
    have ih := fun acc => lcL_pure (t := t) (c := c) (e := e) (ψ := ψ) ds acc g3 h2 fun d' hd => st d' (List.mem_cons_of_mem _ hd)
    cases hy : ψ d with
    | none =>
      obtain ⟨g', h3, h4⟩ := ih acc
      exact ⟨g', by rw [List.filterMap_cons_none hy]; exact h3, h4⟩
    | some y =>
      obtain ⟨g', h3, h4⟩ := ih (acc ++ [y])
      exact ⟨g', by rw [List.filterMap_cons_some hy, then_ok]; simpa using h3, h4⟩
/-- a comprehension whose items leave the names outside as they are -/
theorem eLc_pure {it : M (List D)} {t : R → M Unit} {c : M Bool} {e : M R} {vs : List Nat} {g g0 : G} {ds : List D} (ψ : D → Option D) (hi : it g0 = .ok ds g) (hl : ds.length ≤ sizeLine)
    (st : ∀ d ∈ ds, ∃ g3, lcStep t c e d (wipeG g vs) = .ok (ψ d) g3 ∧ wipeG g3 vs = wipeG g vs) : eLc it t c e vs g0 = .ok (.ow (.ls (ds.filterMap ψ))) (backG g (wipeG g vs) vs) := by
  obtain ⟨g', h1, h2⟩ := lcL_pure (ψ := ψ) ds [] g rfl st
  show (it g0).andThen _ = _
  rw [hi, then_ok, if_pos hl, h1, then_ok, backG_wipe, h2]
  rfl
/-- .. with an item for each turn -/
theorem eLc_map {it : M (List D)} {t : R → M Unit} {c : M Bool} {e : M R} {vs : List Nat} {g g0 : G} {ds : List D} (ψ : D → D) (hi : it g0 = .ok ds g) (hl : ds.length ≤ sizeLine)
    (st : ∀ d ∈ ds, ∃ g3, lcStep t c e d (wipeG g vs) = .ok (some (ψ d)) g3 ∧ wipeG g3 vs = wipeG g vs) : eLc it t c e vs g0 = .ok (.ow (.ls (ds.map ψ))) (backG g (wipeG g vs) vs) := by
  rw [eLc_pure (fun d => some (ψ d)) hi hl st, List.filterMap_eq_map']
theorem for_inv_e {t : R → M Unit} {body : M Fl} {ds : List D} {g : G} {F : Rs Fl} (hf : forL t body ds g = F) (I : List D → G → Prop) (h0 : I [] g)
    (st : ∀ p d s g, ds = p ++ d :: s → I p g → ∃ g2, (turn t body d g = .ok .nx g2 ∨ turn t body d g = .ok .ct g2) ∧ I (p ++ [d]) g2) : ∃ g', F = .ok .nx g' ∧ I ds g' := by
  subst hf
  exact for_inv I ds [] g h0 st
theorem for_find_e {t : R → M Unit} {body : M Fl} {ds : List D} {g : G} {F : Rs Fl} (hf : forL t body ds g = F) (I : G → Prop) (p : D → Bool) (r : D → R) (h0 : I g)
    (st : ∀ d ∈ ds, ∀ g, I g → (p d = true → ∃ g2, turn t body d g = .ok (.rt (r d)) g2 ∧ I g2) ∧ (p d = false → ∃ g2, (turn t body d g = .ok .nx g2 ∨ turn t body d g = .ok .ct g2) ∧ I g2)) :
    match ds.find? p with
    | some d => ∃ g', F = .ok (.rt (r d)) g' ∧ I g'
    | none => ∃ g', F = .ok .nx g' ∧ I g' := by
  subst hf
  exact for_find I p r ds g h0 st
theorem eLc_pure_e {it : M (List D)} {t : R → M Unit} {c : M Bool} {e : M R} {vs : List Nat} {g g0 : G} {ds : List D} {F : Rs R} (hf : eLc it t c e vs g0 = F) (ψ : D → Option D) (hi : it g0 = .ok ds g) (hl : ds.length ≤ sizeLine)
    (st : ∀ d ∈ ds, ∃ g3, lcStep t c e d (wipeG g vs) = .ok (ψ d) g3 ∧ wipeG g3 vs = wipeG g vs) : F = .ok (.ow (.ls (ds.filterMap ψ))) (backG g (wipeG g vs) vs) := by
  subst hf; exact eLc_pure ψ hi hl st
theorem eLc_map_e {it : M (List D)} {t : R → M Unit} {c : M Bool} {e : M R} {vs : List Nat} {g g0 : G} {ds : List D} {F : Rs R} (hf : eLc it t c e vs g0 = F) (ψ : D → D) (hi : it g0 = .ok ds g) (hl : ds.length ≤ sizeLine)
    (st : ∀ d ∈ ds, ∃ g3, lcStep t c e d (wipeG g vs) = .ok (some (ψ d)) g3 ∧ wipeG g3 vs = wipeG g vs) : F = .ok (.ow (.ls (ds.map ψ))) (backG g (wipeG g vs) vs) := by
  subst hf; exact eLc_map ψ hi hl st

/-! drawn numbers -/
theorem atI_some {α : Type} (xs : List α) (k : Int) (h0 : 0 ≤ k) (h : k < xs.length) : ∃ x, atI xs k = some x ∧ xs[k.toNat]? = some x := by
  have e : k.toNat < xs.length := by omega
  refine ⟨xs[k.toNat], ?_, List.getElem?_eq_getElem e⟩
  unfold atI ixN
  rw [if_pos h0, if_pos h]
  exact List.getElem?_eq_getElem e
theorem rngI_len (a : Int) (n : Nat) : (rngI a n).length = n := by simp [rngI]
theorem rngI_mem {a : Int} {n : Nat} {d : D} (h : d ∈ rngI a n) : ∃ i : Nat, i < n ∧ d = .int (a + i) := by
  unfold rngI at h
  rw [List.mem_map] at h
  obtain ⟨i, hi, e⟩ := h
  exact ⟨i, List.mem_range.mp hi, e.symm⟩
theorem rngI_mem' {a : Int} {n : Nat} {d : D} (h : d ∈ rngI a n) : ∃ i : Int, a ≤ i ∧ i < a + n ∧ d = .int i := by
  obtain ⟨i, hi, rfl⟩ := rngI_mem h
  exact ⟨a + i, by omega, by omega, rfl⟩
def cellI (ns : List Int) (k : Int) : Int := if k < ns.length then (atI ns k).getD 0 else 0
def Dr (m : Int) (xs : List Int) : Prop := ∀ x ∈ xs, 0 ≤ x ∧ x < m
theorem Dr.snoc {m : Int} {xs : List Int} (h : Dr m xs) (hm : 0 < m) (x : Int) : Dr m (xs ++ [x % m]) := by
  intro y hy
  rcases List.mem_append.mp hy with q | q
  · exact h y q
  · rw [List.mem_singleton.mp q]; exact ⟨Int.emod_nonneg _ (by omega), Int.emod_lt_of_pos _ hm⟩
/-! texts -/
theorem Str.ext {a b : Str} (h : a.cps.toList = b.cps.toList) : a = b := by
  cases a; cases b; congr 1; exact Array.toList_inj.mp h
theorem join_len1 (sep : Str) (hs : sep.length = 0) : ∀ ys : List Str, (∀ y ∈ ys, y.length = 1) → (Txt.join sep ys).length = ys.length := by
  intro ys h
  show (Builtin.Str.glued sep ys).length = _
  rw [StrLaws.glued_eq_join]
  cases ys with
  | nil => rfl
  | cons a l =>
    rw [PyProof.Rows.len_join_cons, hs]
    have : ∀ zs : List Str, (∀ y ∈ zs, y.length = 1) → (zs.map (·.length)).sum = zs.length := by
      intro zs
      induction zs with
      | nil => intro _; rfl
      | cons z r ih => intro h; rw [List.map_cons, List.sum_cons, ih fun y hy => h y (List.mem_cons_of_mem _ hy), h z List.mem_cons_self, List.length_cons]; omega
    rw [this _ h]; omega
theorem len_le_sum : ∀ (zs : List Str), ∀ y ∈ zs, y.length ≤ (zs.map (·.length)).sum
  | z :: r, y, hy => by
    rw [List.map_cons, List.sum_cons]
    rcases List.mem_cons.mp hy with rfl | h
    · omega
    · have := len_le_sum r y h; omega
/-- the pieces of a text are fewer and shorter than it is long -/
theorem split_small (x y : Str) (hy : 1 ≤ y.length) : (Txt.split x y).length ≤ x.length + 1 ∧ (∀ z ∈ Txt.split x y, z.length ≤ x.length + 1) ∧ ((Txt.split x y).map (·.length)).sum ≤ x.length + 1 := by
  have h := PyProof.Rows.split_weight x y hy
  exact ⟨by omega, fun z hz => by have := len_le_sum _ z hz; omega, by omega⟩
theorem split_ok (x y : Str) (hy : 1 ≤ y.length) (hx : x.length + 2 ≤ sizeLine) : mSplit (.str x) [.str y] = some (.ow (.ls ((Txt.split x y).map .str))) := by
  obtain ⟨h1, h2, _⟩ := split_small x y hy
  show (if _ ∧ _ ∧ _ ∧ _ then _ else _) = _
  rw [if_pos]
  exact ⟨by simp; omega, hx, by omega, List.all_eq_true.mpr fun z hz => decide_eq_true (by have := h2 z hz; omega)⟩
/-- a repr's guard, of a list of plain texts -/
theorem weight_strs : ∀ zs : List Str, PyData.weightAll (pyL (zs.map D.str)) = (zs.map (·.length)).sum + zs.length
  | [] => rfl
  | z :: r => by
    show z.cps.size + 1 + PyData.weightAll (pyL (r.map D.str)) = z.length + (r.map (·.length)).sum + (r.length + 1)
    rw [weight_strs r]; show z.length + 1 + _ = _; omega
theorem short_strs (B : Nat) : ∀ zs : List Str, (∀ z ∈ zs, ∀ c ∈ z.cps.toList, c < 16 ^ 8) → PyData.leavesShortAll B (pyL (zs.map D.str)) = true
  | [], _ => rfl
  | z :: r, h => by
    show (PyData.leavesShort B (.str z) && PyData.leavesShortAll B (pyL (r.map D.str))) = true
    rw [short_strs B r fun z hz => h z (List.mem_cons_of_mem _ hz), Bool.and_true]
    show (z.cps.toList.all fun c => decide (c < 16 ^ 8)) = true
    exact List.all_eq_true.mpr fun c hc => decide_eq_true (h z List.mem_cons_self c hc)
theorem flat_strs : ∀ zs : List Str, flatL (zs.map D.str) = true
  | [] => rfl
  | z :: r => by show (true && flatL (r.map D.str)) = true; rw [flat_strs r]; rfl
theorem show_strs : ∀ zs : List Str, PyData.showableAll (pyL (zs.map D.str)) = true
  | [] => rfl
  | z :: r => by show (true && PyData.showableAll (pyL (r.map D.str))) = true; rw [show_strs r]; rfl
theorem depth_strs : ∀ zs : List Str, PyData.depthAll (pyL (zs.map D.str)) ≤ 1
  | [] => Nat.zero_le _
  | z :: r => by
    have := depth_strs r
    show max (PyData.depth (.str z)) (PyData.depthAll (pyL (r.map D.str))) ≤ 1
    have e : PyData.depth (.str z) ≤ 1 := by first | exact Nat.le_refl 1 | exact Nat.zero_le 1
    omega
theorem okRepr_strs (zs : List Str) (h1 : ∀ z ∈ zs, ∀ c ∈ z.cps.toList, c < 16 ^ 8) (h2 : (zs.map (·.length)).sum + zs.length ≤ 100000) : okRepr (.lst (zs.map D.str)) = true := by
  have a := PyData.shown_le 8 (Nat.le_refl _) (.list (pyL (zs.map D.str))) (short_strs 8 zs h1)
  have b : PyData.weight (.list (pyL (zs.map D.str))) = PyData.weightAll (pyL (zs.map D.str)) := rfl
  rw [b, weight_strs] at a
  have d := depth_strs zs
  unfold okRepr
  rw [Bool.and_eq_true, Bool.and_eq_true, Bool.and_eq_true]
  refine ⟨⟨⟨flat_strs zs, show_strs zs⟩, decide_eq_true ?_⟩, decide_eq_true ?_⟩
  · show PyData.depthAll (pyL (zs.map D.str)) + 1 ≤ 64
    omega
  · show (PyData.shown (.list (pyL (zs.map D.str)))).length ≤ 16777216
    omega

/-! signs of a text -/
theorem signs_len (z : Str) : (Str.signs z).length = z.length := by unfold Str.signs; rw [List.length_map]; rfl
theorem signs_mem {z : Str} {d : D} (h : d ∈ Str.signs z) : ∃ c, c ∈ z.cps.toList ∧ d = .str ⟨#[c]⟩ := by
  unfold Str.signs at h
  rw [List.mem_map] at h
  obtain ⟨c, hc, e⟩ := h
  exact ⟨c, hc, e.symm⟩
def inS (S : Str) : D → D
  | .str z => .bl (subS z S)
  | _ => .non
def inB (S z : Str) : List Bool := z.cps.toList.map fun c => decide (c ∈ S.cps.toList)
/-- all signs of z are in S -/
def okC (S z : Str) : Bool := (inB S z).all id
theorem okC_iff {S z : Str} : okC S z = true ↔ ∀ c ∈ z.cps.toList, c ∈ S.cps.toList := by
  unfold okC inB
  rw [List.all_eq_true]
  constructor
  · intro h c hc; exact of_decide_eq_true (h _ (List.mem_map_of_mem hc))
  · intro h b hb
    obtain ⟨c, hc, rfl⟩ := List.mem_map.mp hb
    exact decide_eq_true (h c hc)
@[simp high] theorem fn_all_in (S z : Str) : fAll [.lst ((inB S z).map D.bl)] = some (.fz (.bl (okC S z))) := by rw [fn_all, bolsOf_map]; rfl
theorem signs_in (z S : Str) : (Str.signs z).map (inS S) = (inB S z).map D.bl := by
  unfold Str.signs inB
  rw [List.map_map, List.map_map]
  apply List.map_congr_left
  intro c _
  show D.bl (subS ⟨#[c]⟩ S) = _
  rw [sub_sign]
  rfl
/-- [c in S for c in z] -/
theorem lc_in {g : G} {i v : Nat} {z S : Str} {e : M R} (hg : g[i]? = some (some (.fz (.str z)))) (hv : v < g.length) (hz : z.length ≤ sizeLine) (he : ∀ g', e g' = .ok (.fz (.str S)) g') :
    eLc (iSeq (eVar i)) (setSl v) cYes (eB (cIn false) (eVar v) e) [v] g = .ok (.ow (.ls ((inB S z).map D.bl))) (g.set v (keepFz g[v]?)) := by
  have hb : backG g (wipeG g [v]) [v] = g.set v (keepFz g[v]?) := by simp [backG, wipeG]
  rw [← signs_in, ← hb]
  refine eLc_map (inS S) (by simp [hg]) (by rw [signs_len]; exact hz) fun d hd => ?_
  obtain ⟨c, _, rfl⟩ := signs_mem hd
  refine ⟨g.set v (some (.fz (.str ⟨#[c]⟩))), ?_, ?_⟩
  · simp [lcStep, wipeG, hv, inS, he]
  · simp [wipeG]

@[simp] theorem ev_eCh (op op' : D → D → Option R) (f k j : M R) (g : G) : eCh op op' f k j g = (pk f g).andThen fun x g1 => (pk k g1).andThen fun y g2 => (op2 op x y g2).andThen fun z g3 => (toB z g3).andThen fun t => if t = true then mb (pk j) fun w => op2 op' y w else eC (.bl false) := rfl
theorem fn_str {i : Int} (h : i.natAbs.log2 < 1920 ∧ (toString i : Str).length ≤ sizeLine) : fStr [.int i] = some (.fz (.str (toString i))) := by
  show (if _ then _ else _) = _
  rw [if_pos h]
theorem mem_strs (z : Str) (l : List Str) : memD (.str z) (l.map D.str) = decide (z ∈ l) := by
  unfold memD inV
  rw [List.map_map, List.any_map]
  show l.any (fun a => a == z) = _
  rw [Bool.eq_iff_iff, List.any_eq_true, decide_eq_true_eq]
  constructor
  · rintro ⟨a, ha, e⟩; rw [← eq_of_beq e]; exact ha
  · intro h; exact ⟨z, h, beq_self_eq_true z⟩
theorem flat_all (l : List Str) : (l.map D.str).all flatI = true := by
  rw [List.all_map]; exact List.all_eq_true.mpr fun _ _ => rfl

theorem seq_step {P : Rs Fl → Prop} {a b : M Fl} {g : G} (g1 : G) (h : a g = .ok .nx g1) (k : P (b g1)) : P (sSeq a b g) := by
  rw [sSeq_nx h]; exact k
/-- [e(x) for x in numbers], one sign each -/
theorem lc_pick {it : M (List D)} {e : M R} {v : Nat} {g g0 : G} {xs : List Int} (f : Int → Nat) (hi : it g0 = .ok (xs.map D.int) g) (hl : xs.length ≤ 1000) (hv : v < g.length)
    (he : ∀ x ∈ xs, e (g.set v (some (.fz (.int x)))) = .ok (.fz (.str ⟨#[f x]⟩)) (g.set v (some (.fz (.int x))))) :
    eLc it (setSl v) cYes e [v] g0 = .ok (.ow (.ls ((xs.map fun x => (⟨#[f x]⟩ : Str)).map D.str))) (g.set v (keepFz g[v]?)) := by
  have hb : backG g (wipeG g [v]) [v] = g.set v (keepFz g[v]?) := by simp [backG, wipeG]
  have e1 : (xs.map fun x => (⟨#[f x]⟩ : Str)).map D.str = (xs.map D.int).map fun d => match d with
      | .int x => .str ⟨#[f x]⟩
      | _ => .non := by rw [List.map_map, List.map_map]; rfl
  rw [e1, ← hb]
  refine eLc_map _ hi (by rw [List.length_map]; exact Nat.le_trans hl (by decide)) fun d hd => ?_
  obtain ⟨x, hx, rfl⟩ := List.mem_map.mp hd
  have q := he x hx
  refine ⟨g.set v (some (.fz (.int x))), ?_, by simp [wipeG]⟩
  simp [lcStep, wipeG, q]
/-- the text of single signs -/
def oneS (f : Int → Nat) (xs : List Int) : Str := Txt.join "" (xs.map fun x => (⟨#[f x]⟩ : Str))
theorem oneS_len (f : Int → Nat) (xs : List Int) : (oneS f xs).length = xs.length := by
  unfold oneS
  rw [join_len1 "" rfl _ (by intro y hy; obtain ⟨x, _, rfl⟩ := List.mem_map.mp hy; rfl), List.length_map]
theorem sum_len1 : ∀ ys : List Str, (∀ y ∈ ys, y.length = 1) → (ys.map (·.length)).sum = ys.length
  | [], _ => rfl
  | z :: r, h => by rw [List.map_cons, List.sum_cons, sum_len1 r fun y hy => h y (List.mem_cons_of_mem _ hy), h z List.mem_cons_self, List.length_cons]; omega
theorem join_ok (sep : Str) (ys : List Str) (h : (ys.map (·.length)).sum + ys.length * sep.length ≤ 16777216) : mJoin (.str sep) [.lst (ys.map D.str)] = some (.fz (.str (Txt.join sep ys))) := by
  show (strsOf (ys.map D.str)).bind _ = _
  rw [strsOf_map]
  show (if _ then _ else _) = _
  rw [if_pos h]
theorem join_one (f : Int → Nat) (xs : List Int) (hl : xs.length ≤ 1000) : mJoin (.str (Str.ofString "")) [.lst ((xs.map fun x => (⟨#[f x]⟩ : Str)).map D.str)] = some (.fz (.str (oneS f xs))) := by
  refine join_ok _ _ ?_
  rw [sum_len1 _ (by intro y hy; obtain ⟨x, _, rfl⟩ := List.mem_map.mp hy; rfl), List.length_map]
  have : (Str.ofString "").length = 0 := rfl
  rw [this]; omega
/-- a filtered join is short -/
theorem sum_filter (p : Str → Bool) : ∀ ys : List Str, ((ys.filter p).map (·.length)).sum ≤ (ys.map (·.length)).sum
  | [] => Nat.le_refl _
  | y :: r => by
    have := sum_filter p r
    rw [List.filter_cons]
    split
    · rw [List.map_cons, List.sum_cons, List.map_cons, List.sum_cons]; omega
    · rw [List.map_cons, List.sum_cons]; omega
theorem join_len_le (sep : Str) (ys : List Str) : (Txt.join sep ys).length ≤ (ys.map (·.length)).sum + ys.length * sep.length := by
  show (Builtin.Str.glued sep ys).length ≤ _
  rw [StrLaws.glued_eq_join]
  exact StrLaws.join_length_le sep ys

theorem seq_stepE {P : Rs Fl → Prop} {a b : M Fl} {g : G} (Q : G → Prop) (h : ∃ g1, a g = .ok .nx g1 ∧ Q g1) (k : ∀ g1, Q g1 → P (b g1)) : P (sSeq a b g) := by
  obtain ⟨g1, h1, h2⟩ := h
  rw [sSeq_nx h1]; exact k g1 h2
@[simp] theorem kf_none : keepFz (some none) = none := rfl
@[simp] theorem kf_fz (d : D) : keepFz (some (some (.fz d))) = some (.fz d) := rfl
/-- [w for w in texts if w != ''] -/
theorem lc_ne {it : M (List D)} {v : Nat} {g g0 : G} {ys : List Str} (hi : it g0 = .ok (ys.map D.str) g) (hl : ys.length ≤ 1000) (hv : v < g.length) :
    eLc it (setSl v) (eTest (eB cNe (eVar v) (eC (.str "")))) (eVar v) [v] g0 = .ok (.ow (.ls ((ys.filter fun y => !(y == ("" : Str))).map D.str))) (g.set v (keepFz g[v]?)) := by
  have hb : backG g (wipeG g [v]) [v] = g.set v (keepFz g[v]?) := by simp [backG, wipeG]
  have e1 : (ys.filter fun y => !(y == ("" : Str))).map D.str = (ys.map D.str).filterMap fun d => match d with
      | .str y => if y = "" then none else some (.str y)
      | _ => none := by
    rw [List.filterMap_map]
    induction ys with
    | nil => rfl
    | cons y r ih =>
      have ih' : ∀ r : List Str, (r.filter fun y => !(y == ("" : Str))).map D.str = r.filterMap ((fun d => match d with
        | .str y => if y = "" then none else some (.str y)
        | _ => none) ∘ D.str) := by
        intro r
        induction r with
        | nil => rfl
        | cons y r ih =>
          rw [List.filter_cons, List.filterMap_cons]
          by_cases h : y = ""
          · simp only [h, Function.comp_apply]; simpa using ih
          · simp only [h, Function.comp_apply]; simpa [h] using ih
      exact ih' (y :: r)
  rw [e1, ← hb]
  refine eLc_pure _ hi (by rw [List.length_map]; exact Nat.le_trans hl (by decide)) fun d hd => ?_
  obtain ⟨x, hx, rfl⟩ := List.mem_map.mp hd
  refine ⟨g.set v (some (.fz (.str x))), ?_, by simp [wipeG]⟩
  by_cases h : x = ""
  · simp [lcStep, wipeG, hv, h]
  · simp [lcStep, wipeG, hv, h]
theorem join_cps0 : ∀ ys : List Str, (Str.join ("" : Str) ys).cps.toList = (ys.map fun y => y.cps.toList).flatten
  | [] => rfl
  | [a] => by simp [Str.join]
  | a :: b :: r => by
    have ih := join_cps0 (b :: r)
    show ((a ++ ("" : Str)) ++ Str.join ("" : Str) (b :: r)).cps.toList = _
    rw [Str.cps_append, Str.cps_append, Array.toList_append, Array.toList_append, ih]
    have : (Str.ofString "").cps.toList = [] := rfl
    rw [this, List.append_nil]
    rfl
theorem oneS_cps (f : Int → Nat) (xs : List Int) : (oneS f xs).cps.toList = xs.map f := by
  unfold oneS
  show (Builtin.Str.glued ("" : Str) _).cps.toList = _
  rw [StrLaws.glued_eq_join, join_cps0, List.map_map]
  show (xs.map fun x => [f x]).flatten = _
  induction xs with
  | nil => rfl
  | cons x r ih => rw [List.map_cons, List.flatten_cons, ih]; rfl
end DL

namespace Law
open DL PySem L2
/-! words_of(line): 0 line, 1 words, 2 word, 3 char -/
def b_words_of : M Fl :=
    sSeq (sAsg (eMeth "str" mSplit (eVar 0) (aCons (pk (eC (.str " "))) (aNil))) (setSl 1))
    (sSeq (sFor (iSeq (eVar 1)) (setSl 2) (sIf (tOrM (eTest (eB cEq (eVar 2) (eC (.str "")))) (tNotM (eTru (eCallB fAll (aCons (pk (eLc (iSeq (eVar 2)) (setSl 3) (cYes) (eB (cIn false) (eVar 3) (eC (.str "!\"#$&'()*+,-./0123456789:;<=>?@ABCDEFGHIJKLMNOPQRSTUVWXYZ[\\]^_`abcdefghijklmnopqrstuvwxyz{|}~"))) [3])) (aNil)))))) (sRet (eC .non)) (sNil)))
    (sRet (eVar 1)))
def f_words_of : FSem := bodyF 4 none b_words_of
/-! is_name(word): 0 word, 1 char -/
def b_is_name : M Fl :=
    sRet (vAnd (eCh cLe cLe (eC (.int 1)) (eCallB fLen (aCons (pk (eVar 0)) (aNil))) (eC (.int 12))) (eCallB fAll (aCons (pk (eLc (iSeq (eVar 0)) (setSl 1) (cYes) (eB (cIn false) (eVar 1) (eC (.str "abcdefghijklmnopqrstuvwxyz"))) [1])) (aNil))))
def f_is_name : FSem := bodyF 2 none b_is_name
/-! number_in(word): 0 word, 1 char -/
def b_number_in : M Fl :=
    sSeq (sIf (tOrM (tNotM (eTest (eCh cLe cLe (eC (.int 1)) (eCallB fLen (aCons (pk (eVar 0)) (aNil))) (eC (.int 2))))) (tNotM (eTru (eCallB fAll (aCons (pk (eLc (iSeq (eVar 0)) (setSl 1) (cYes) (eB (cIn false) (eVar 1) (eC (.str "0123456789"))) [1])) (aNil)))))) (sRet (eC .non)) (sNil))
    (sSeq (sIf (tAndM (eTest (eB cEq (eCallB fLen (aCons (pk (eVar 0)) (aNil))) (eC (.int 2)))) (eTest (eB cEq (eB ixD (eVar 0) (eC (.int 0))) (eC (.str "0"))))) (sRet (eC .non)) (sNil))
    (sRet (eCallB fInt (aCons (pk (eVar 0)) (aNil)))))
def f_number_in : FSem := bodyF 2 none b_number_in
/-! told(text): 0 text -/
def b_told : M Fl :=
    sSeq (sIf (eTest (eB cEq (eVar 0) (eC (.str "")))) (sRet (eC (.str "-"))) (sNil))
    (sRet (eVar 0))
def f_told : FSem := bodyF 1 none b_told
/-! untold(word): 0 word -/
def b_untold : M Fl :=
    sSeq (sIf (eTest (eB cEq (eVar 0) (eC (.str "-")))) (sRet (eC (.str ""))) (sNil))
    (sRet (eVar 0))
def f_untold : FSem := bodyF 1 none b_untold
/-! q_cell(q_script, q_k): 0 q_script, 1 q_k -/
def b_q_cell : M Fl :=
    sSeq (sIf (eTest (eB cLt (eVar 1) (eCallB fLen (aCons (pk (eVar 0)) (aNil))))) (sRet (eB ixD (eVar 0) (eVar 1))) (sNil))
    (sRet (eC (.int 0)))
def f_q_cell : FSem := bodyF 2 none b_q_cell
/-! q_values(q_cell_here, q_count, q_size): 0 q_cell_here, 1 q_count, 2 q_size, 3 q_values_here, 4 q_rest, 5 q_k, 6 q_mixed -/
def b_q_values : M Fl :=
    sSeq (sAsg (eLst (aNil)) (setSl 3))
    (sSeq (sAsg (eVar 0) (setSl 4))
    (sSeq (sFor (iRng1 (aCons (esc (eVar 1)) (aNil))) (setSl 5) (sIf (eTest (eB cGe (eVar 4) (eB bPow (eC (.int 10)) (eC (.int 12))))) (sSeq (sExpr (eMut "list" uAppend (eVar 3) (aCons (esc (eB bMod (eCallB fInt (aCons (pk (eVar 4)) (aNil))) (eVar 2))) (aNil))))
    (sAsg (eB bFdiv (eVar 4) (eVar 2)) (setSl 4))) (sSeq (sAsg (eB bMod (eB bAdd (eB bAdd (eB bMul (eB bMod (eCallB fInt (aCons (pk (eVar 0)) (aNil))) (eC (.int 2147483647))) (eC (.int 48271))) (eB bMul (eVar 5) (eC (.int 69621)))) (eC (.int 7))) (eC (.int 2147483647))) (setSl 6))
    (sExpr (eMut "list" uAppend (eVar 3) (aCons (esc (eB bMod (eB bMod (eB bMul (eVar 6) (eC (.int 16807))) (eC (.int 2147483647))) (eVar 2))) (aNil)))))))
    (sRet (eVar 3))))
def f_q_values : FSem := bodyF 7 none b_q_values
/-! q_signs(): 0 q_signs_here -/
def b_q_signs : M Fl :=
    sSeq (sAsg (eC (.str "!\"#$&'()*+,-./0123456789:;<=>?@ABCDEFGHIJKLMNOPQRSTUVWXYZ[\\]^_`")) (setSl 0))
    (sRet (eB bAdd (eVar 0) (eC (.str "abcdefghijklmnopqrstuvwxyz{|}~"))))
def f_q_signs : FSem := bodyF 1 none b_q_signs
/-! q_words(q_line): 0 q_line, 1 q_words_here, 2 q_word, 3 q_char -/
def b_q_words : M Fl :=
    sSeq (sAsg (eMeth "str" mSplit (eVar 0) (aCons (pk (eC (.str " "))) (aNil))) (setSl 1))
    (sSeq (sFor (iSeq (eVar 1)) (setSl 2) (sIf (tOrM (eTest (eB cEq (eVar 2) (eC (.str "")))) (tNotM (eTru (eCallB fAll (aCons (pk (eLc (iSeq (eVar 2)) (setSl 3) (cYes) (eB (cIn false) (eVar 3) (eCall none f_q_signs aNil)) [3])) (aNil)))))) (sRet (eC .non)) (sNil)))
    (sRet (eVar 1)))
def f_q_words : FSem := bodyF 4 none b_q_words
/-! q_is_name(q_word): 0 q_word, 1 q_char -/
def b_q_is_name : M Fl :=
    sRet (vAnd (eCh cLe cLe (eC (.int 1)) (eCallB fLen (aCons (pk (eVar 0)) (aNil))) (eC (.int 12))) (eCallB fAll (aCons (pk (eLc (iSeq (eVar 0)) (setSl 1) (cYes) (eB (cIn false) (eVar 1) (eC (.str "abcdefghijklmnopqrstuvwxyz"))) [1])) (aNil))))
def f_q_is_name : FSem := bodyF 2 none b_q_is_name
/-! q_number(q_word): 0 q_word, 1 q_number_here -/
def b_q_number : M Fl :=
    sSeq (sIf (eTest (eB (cIn true) (eVar 0) (eLc (iRng1 (aCons (esc (eC (.int 100))) (aNil))) (setSl 1) (cYes) (eCallB fStr (aCons (pk (eVar 1)) (aNil))) [1]))) (sRet (eC .non)) (sNil))
    (sRet (eCallB fInt (aCons (pk (eVar 0)) (aNil))))
def f_q_number : FSem := bodyF 2 none b_q_number
/-! law(q_script): 0 q_script, 1 q_chars, 2 q_values_here, 3 q_line, 4 q_long, 5 q_figures, 6 q_digits, 7 q_words_here, 8 q_word, 9 q_value -/
def b_law : M Fl :=
    sSeq (sAsg (eC (.str "abcxyzABC  0123456789()-+~#:,  \"\n\t")) (setSl 1))
    (sSeq (sAsg (eCall none f_q_values (chkN 3 (aCons (esc (eCall none f_q_cell (chkN 2 (aCons (esc (eVar 0)) (aCons (esc (eC (.int 1))) (aNil)))))) (aCons (esc (eB bMod (eCall none f_q_cell (chkN 2 (aCons (esc (eVar 0)) (aCons (esc (eC (.int 0))) (aNil))))) (eC (.int 31)))) (aCons (esc (eC (.int 97))) (aNil)))))) (setSl 2))
    (sSeq (sAsg (eMeth "str" mJoin (eC (.str "")) (aCons (pk (eLc (iSeq (eVar 2)) (setSl 9) (cYes) (eB ixD (eVar 1) (eIf (eTest (eB cGt (eVar 9) (eC (.int 1)))) (eB bMod (eVar 9) (eC (.int 33))) (eC (.int 33)))) [9])) (aNil))) (setSl 3))
    (sSeq (sIf (eTest (eB cGt (eB bMod (eCall none f_q_cell (chkN 2 (aCons (esc (eVar 0)) (aCons (esc (eC (.int 2))) (aNil))))) (eC (.int 3))) (eC (.int 0)))) (sAsg (eMeth "str" mJoin (eC (.str " ")) (aCons (pk (eLc (iSeq (eMeth "str" mSplit (eVar 3) (aCons (pk (eC (.str " "))) (aNil)))) (setSl 8) (eTest (eB cNe (eVar 8) (eC (.str "")))) (eVar 8) [8])) (aNil))) (setSl 3)) (sNil))
    (sSeq (sIf (eTest (eB cNe (eCallB fRepr (aCons (pk (eCall none f_words_of (chkN 1 (aCons (esc (eVar 3)) (aNil))))) (aNil))) (eCallB fRepr (aCons (pk (eCall none f_q_words (chkN 1 (aCons (esc (eVar 3)) (aNil))))) (aNil))))) (sRet (eC (.bl false))) (sNil))
    (sSeq (sAsg (eMeth "str" mJoin (eC (.str "")) (aCons (pk (eLc (iSeq (eCall none f_q_values (chkN 3 (aCons (esc (eCall none f_q_cell (chkN 2 (aCons (esc (eVar 0)) (aCons (esc (eC (.int 3))) (aNil)))))) (aCons (esc (eB bMod (eCall none f_q_cell (chkN 2 (aCons (esc (eVar 0)) (aCons (esc (eC (.int 4))) (aNil))))) (eC (.int 15)))) (aCons (esc (eC (.int 97))) (aNil))))))) (setSl 9) (cYes) (eB ixD (eC (.str "abcz")) (eB bMod (eVar 9) (eC (.int 4)))) [9])) (aNil))) (setSl 4))
    (sSeq (sAsg (eCall none f_q_values (chkN 3 (aCons (esc (eCall none f_q_cell (chkN 2 (aCons (esc (eVar 0)) (aCons (esc (eC (.int 5))) (aNil)))))) (aCons (esc (eB bMod (eCall none f_q_cell (chkN 2 (aCons (esc (eVar 0)) (aCons (esc (eC (.int 4))) (aNil))))) (eC (.int 4)))) (aCons (esc (eC (.int 97))) (aNil)))))) (setSl 5))
    (sSeq (sAsg (eMeth "str" mJoin (eC (.str "")) (aCons (pk (eLc (iSeq (eVar 5)) (setSl 9) (cYes) (eB ixD (eC (.str "0123456789")) (eB bMod (eVar 9) (eC (.int 10)))) [9])) (aNil))) (setSl 6))
    (sSeq (sAsg (eB bAdd (eMeth "str" mSplit (eVar 3) (aCons (pk (eC (.str " "))) (aNil))) (eLst (aCons (esc (eVar 4)) (aCons (esc (eVar 6)) (aCons (esc (eB bAdd (eC (.str "0")) (eVar 6))) (aCons (esc (eB bAdd (eC (.str "-")) (eVar 6))) (aCons (esc (eC (.str "+1"))) (aCons (esc (eC (.str ""))) (aCons (esc (eC (.str "-"))) (aCons (esc (eC (.str "a1"))) (aCons (esc (eC (.str "aA"))) (aCons (esc (eC (.str "99"))) (aCons (esc (eC (.str "100"))) (aCons (esc (eC (.str "00"))) (aNil))))))))))))))) (setSl 7))
    (sSeq (sFor (iSeq (eVar 7)) (setSl 8) (sSeq (sIf (tOrM (eTest (eB cNe (eCallB fRepr (aCons (pk (eCall none f_is_name (chkN 1 (aCons (esc (eVar 8)) (aNil))))) (aNil))) (eCallB fRepr (aCons (pk (eCall none f_q_is_name (chkN 1 (aCons (esc (eVar 8)) (aNil))))) (aNil))))) (eTest (eB cNe (eCallB fRepr (aCons (pk (eCall none f_number_in (chkN 1 (aCons (esc (eVar 8)) (aNil))))) (aNil))) (eCallB fRepr (aCons (pk (eCall none f_q_number (chkN 1 (aCons (esc (eVar 8)) (aNil))))) (aNil)))))) (sRet (eC (.bl false))) (sNil))
    (sIf (tOrM (eTest (eB cNe (eCall none f_told (chkN 1 (aCons (esc (eVar 8)) (aNil)))) (eIf (eTest (eB cEq (eVar 8) (eC (.str "")))) (eC (.str "-")) (eVar 8)))) (eTest (eB cNe (eCall none f_untold (chkN 1 (aCons (esc (eVar 8)) (aNil)))) (eIf (eTest (eB cEq (eVar 8) (eC (.str "-")))) (eC (.str "")) (eVar 8))))) (sRet (eC (.bl false))) (sNil))))
    (sRet (eB cEq (eCall none f_untold (chkN 1 (aCons (esc (eCall none f_told (chkN 1 (aCons (esc (eVar 4)) (aNil))))) (aNil)))) (eVar 4))))))))))))
def f_law : FSem := bodyF 10 none b_law
end Law

namespace Law
open DL PySem PySem.Spec L2
@[simp] theorem sz_line : sizeLine = 16777216 := rfl
theorem cell_ok (ns : List Int) (k : Int) (h0 : 0 ≤ k) : f_q_cell none [.scr ns, .int k] = .ok (.fz (.int (cellI ns k))) none := by
  unfold f_q_cell
  rw [bodyF_none]
  unfold b_q_cell cellI
  by_cases h : k < ns.length
  · obtain ⟨x, hx, _⟩ := atI_some ns k h0 h
    simp [fill, h, hx]
  · simp [fill, h]
theorem values_ok (c n m : Int) (hn : n ≤ 1000) (hn0 : -1000 ≤ n) (hm : 0 < m) (hm2 : m < 1073741824) :
    ∃ xs : List Int, f_q_values none [.int c, .int n, .int m] = .ok (.ow (.ls (xs.map D.int))) none ∧ xs.length = n.toNat ∧ Dr m xs := by
  unfold f_q_values
  rw [bodyF_none]
  unfold b_q_values
  let I : List D → G → Prop := fun pre g => ∃ (xs : List Int) (r : Int) (a b : Option Sl), g = [some (.fz (.int c)), some (.fz (.int n)), some (.fz (.int m)), some (.ow false (.ls (xs.map D.int))), some (.fz (.int r)), a, b] ∧ xs.length = pre.length ∧ Dr m xs
  have hnn : -(4611686018427387904 : Int) ≤ n ∧ n < 4611686018427387904 := by omega
  simp only [fill, List.map_cons, List.map_nil]
  simp [hnn]
  generalize hf : forL _ _ _ _ = F
  obtain ⟨g', rfl, xs, r, a, b, rfl, h2, h3⟩ := for_inv_e hf I ⟨[], c, none, none, rfl, rfl, fun x hx => nomatch hx⟩ (by
      rintro p d s g e ⟨xs, r, a, b, rfl, hl, hd⟩
      obtain ⟨i, hi, _, rfl⟩ := rngI_mem' (a := 0) (n := n.toNat) (d := d) (by rw [e]; simp)
      have hp : p.length < 1001 := by have := congrArg List.length e; rw [rngI_len, List.length_append, List.length_cons] at this; omega
      have hlen : xs.length < 16777216 := by omega
      by_cases hc : (1000000000000 : Int) ≤ r
      · refine ⟨[some (.fz (.int c)), some (.fz (.int n)), some (.fz (.int m)), some (.ow false (.ls ((xs ++ [r % m]).map D.int))), some (.fz (.int (r / m))), some (.fz (.int i)), b], .inl (by simp [turn, hc, hm, hm2, hlen]), xs ++ [r % m], r / m, _, b, rfl, by simp [hl], hd.snoc hm _⟩
      · refine ⟨[some (.fz (.int c)), some (.fz (.int n)), some (.fz (.int m)), some (.ow false (.ls ((xs ++ [(c % 2147483647 * 48271 + i * 69621 + 7) % 2147483647 * 16807 % 2147483647 % m]).map D.int))), some (.fz (.int r)), some (.fz (.int i)), some (.fz (.int ((c % 2147483647 * 48271 + i * 69621 + 7) % 2147483647)))], .inl (by simp [turn, hc, hm, hm2, hlen]), _, r, _, _, rfl, by simp [hl], hd.snoc hm _⟩)
  exact ⟨xs, by simp, by rw [h2]; simp [rngI_len], h3⟩
/-! words -/
def SG : Str := "!\"#$&'()*+,-./0123456789:;<=>?@ABCDEFGHIJKLMNOPQRSTUVWXYZ[\\]^_`abcdefghijklmnopqrstuvwxyz{|}~"
def tw (d : D) : Bool := match d with
  | .str z => (z == "") || !okC SG z
  | _ => false
theorem signs_ok : f_q_signs none [] = .ok (.fz (.str SG)) none := by
  unfold f_q_signs
  rw [bodyF_none]
  unfold b_q_signs
  have e : ("!\"#$&'()*+,-./0123456789:;<=>?@ABCDEFGHIJKLMNOPQRSTUVWXYZ[\\]^_`" : Str) ++ ("abcdefghijklmnopqrstuvwxyz{|}~" : Str) = SG := by decide
  have l : ("!\"#$&'()*+,-./0123456789:;<=>?@ABCDEFGHIJKLMNOPQRSTUVWXYZ[\\]^_`" : Str).length + ("abcdefghijklmnopqrstuvwxyz{|}~" : Str).length ≤ 16777216 := by decide
  simp [fill, e, l]
def words (x : Str) : D := if ((Txt.split x " ").map D.str).any tw then .non else .lst ((Txt.split x " ").map D.str)
theorem space_len : 1 ≤ (" " : Str).length := by decide
theorem words_gen {b : M Fl} {e : M R} (he : ∀ g, e g = .ok (.fz (.str SG)) g)
    (hb : b = sSeq (sAsg (eMeth "str" mSplit (eVar 0) (aCons (pk (eC (.str " "))) (aNil))) (setSl 1))
    (sSeq (sFor (iSeq (eVar 1)) (setSl 2) (sIf (tOrM (eTest (eB cEq (eVar 2) (eC (.str "")))) (tNotM (eTru (eCallB fAll (aCons (pk (eLc (iSeq (eVar 2)) (setSl 3) (cYes) (eB (cIn false) (eVar 3) e) [3])) (aNil)))))) (sRet (eC .non)) (sNil)))
    (sRet (eVar 1)))) (x : Str) (hx : x.length ≤ 1000) : endF (b (fill 4 [some (.fz (.str x))])) = .ok (.fz (words x)) none := by
  subst hb
  have sp := split_ok x " " space_len (by rw [sz_line]; omega)
  obtain ⟨s1, s2, s3⟩ := split_small x " " space_len
  simp [fill, sp]
  generalize hf : forL _ _ _ _ = F
  have h := for_find_e hf (fun g => ∃ a b, g = [some (.fz (.str x)), some (.fz (.lst ((Txt.split x " ").map .str))), a, b]) tw (fun _ => .fz .non) ⟨none, none, rfl⟩ (by
    rintro d hd g ⟨a, b, rfl⟩
    obtain ⟨z, hz, rfl⟩ := List.mem_map.mp hd
    have hz' := s2 z hz
    have hl : z.length ≤ sizeLine := by rw [sz_line]; omega
    have lc := lc_in (g := [some (.fz (.str x)), some (.fz (.lst ((Txt.split x " ").map .str))), some (.fz (.str z)), b]) (i := 2) (v := 3) (S := SG) (e := e) rfl (by simp) hl he
    constructor
    · intro ht
      by_cases hz0 : z = ""
      · exact ⟨[some (.fz (.str x)), some (.fz (.lst ((Txt.split x " ").map .str))), some (.fz (.str z)), b], by simp [turn, hz0], _, _, rfl⟩
      · have : okC SG z = false := by simpa [tw, hz0] using ht
        exact ⟨[some (.fz (.str x)), some (.fz (.lst ((Txt.split x " ").map .str))), some (.fz (.str z)), keepFz (some b)], by simp [turn, hz0, lc, this], _, _, rfl⟩
    · intro ht
      have hz0 : ¬ z = "" := by rintro rfl; simp [tw] at ht
      have : okC SG z = true := by simpa [tw, hz0] using ht
      exact ⟨[some (.fz (.str x)), some (.fz (.lst ((Txt.split x " ").map .str))), some (.fz (.str z)), keepFz (some b)], .inl (by simp [turn, hz0, lc, this]), _, _, rfl⟩)
  unfold words
  cases q : ((Txt.split x " ").map D.str).find? tw with
  | none =>
    rw [q] at h
    obtain ⟨g', rfl, a, b, rfl⟩ := h
    rw [if_neg (by rw [List.any_eq_true]; rintro ⟨d, hd, ht⟩; exact absurd ht (List.find?_eq_none.mp q d hd))]
    simp
  | some d =>
    rw [q] at h
    obtain ⟨g', rfl, a, b, rfl⟩ := h
    rw [if_pos (List.any_eq_true.mpr ⟨d, List.mem_of_find?_eq_some q, List.find?_some q⟩)]
    simp
theorem words_of_ok (x : Str) (hx : x.length ≤ 1000) : f_words_of none [.str x] = .ok (.fz (words x)) none := by
  unfold f_words_of
  rw [bodyF_none]
  exact words_gen (e := eC (.str SG)) (fun _ => rfl) rfl x hx
theorem q_words_ok (x : Str) (hx : x.length ≤ 1000) : f_q_words none [.str x] = .ok (.fz (words x)) none := by
  unfold f_q_words
  rw [bodyF_none]
  exact words_gen (e := eCall none f_q_signs aNil) (fun _ => by simp [signs_ok]) rfl x hx
theorem words_repr (x : Str) (hx : x.length ≤ 1000) : okRepr (words x) = true := by
  unfold words
  split
  · decide
  · rename_i h
    obtain ⟨s1, s2, s3⟩ := split_small x " " space_len
    refine okRepr_strs _ (fun z hz c hc => ?_) (by omega)
    have h' : tw (.str z) = false := by
      cases q : tw (.str z) with
      | false => rfl
      | true => exact absurd (List.any_eq_true.mpr ⟨_, List.mem_map_of_mem hz, q⟩) h
    have h2 : okC SG z = true := by
      unfold tw at h'
      simp at h'
      exact h'.2
    have h4 : c ∈ SG.cps.toList := okC_iff.mp h2 c hc
    have h5 : ∀ c ∈ SG.cps.toList, c < 16 ^ 8 := by decide
    exact h5 c h4

/-! names, numbers -/
def SM : Str := "abcdefghijklmnopqrstuvwxyz"
def FG : Str := "0123456789"
theorem is_name_ok (z : Str) (hz : z.length ≤ 1000) : ∃ b, f_is_name none [.str z] = .ok (.fz (.bl b)) none := by
  unfold f_is_name
  rw [bodyF_none]
  unfold b_is_name
  have lc := lc_in (g := [some (.fz (.str z)), none]) (i := 0) (v := 1) (z := z) (S := SM) (e := eC (.str SM)) rfl (by simp) (by rw [sz_line]; omega) (fun _ => rfl)
  unfold SM at lc
  by_cases h1 : (1 : Int) ≤ z.length
  · by_cases h2 : (z.length : Int) ≤ 12
    · exact ⟨okC "abcdefghijklmnopqrstuvwxyz" z, by simp [fill, lc, h1, h2]⟩
    · exact ⟨false, by simp [fill, h1, h2]⟩
  · exact ⟨false, by simp [fill, h1]⟩
theorem is_name_same : f_q_is_name = f_is_name := rfl
def L100 : List Str := (List.range 100).map fun (i : Nat) => (toString (i : Int) : Str)
def numD (z : Str) : D := if z ∈ L100 then .int ((intText? z).getD 0) else .non
theorem L100_int : ∀ z ∈ L100, intText? z = some ((intText? z).getD 0) := by decide +kernel
theorem L100_is : ∀ z ∈ L100, 1 ≤ z.length ∧ z.length ≤ 2 ∧ okC FG z = true ∧ ¬ (z.length = 2 ∧ z.cps.toList[0]? = some 48) := by decide +kernel
theorem one_is : ∀ a ∈ FG.cps.toList, (⟨#[a]⟩ : Str) ∈ L100 := by decide +kernel
theorem two_is : ∀ a ∈ FG.cps.toList, ∀ b ∈ FG.cps.toList, a ≠ 48 → (⟨#[a, b]⟩ : Str) ∈ L100 := by decide +kernel
theorem is_L100 (z : Str) (h1 : 1 ≤ z.length) (h2 : z.length ≤ 2) (h3 : okC FG z = true) (h4 : ¬ (z.length = 2 ∧ z.cps.toList[0]? = some 48)) : z ∈ L100 := by
  have h3' := okC_iff.mp h3
  obtain ⟨⟨l⟩⟩ := z
  match l with
  | [] => exact absurd h1 (by decide)
  | [a] => exact one_is a (h3' a (by simp))
  | [a, b] => exact two_is a (h3' a (by simp)) b (h3' b (by simp)) fun e => h4 ⟨rfl, by rw [e]; rfl⟩
  | a :: b :: c :: r => exact absurd h2 (by show ¬ r.length + 3 ≤ 2; omega)
theorem fInt_100 {z : Str} (h : z ∈ L100) : fInt [.str z] = some (.fz (numD z)) := by
  have h2 := L100_is z h
  show (if z.length ≤ 640 then (intText? z).map fun n => R.fz (.int n) else none) = _
  rw [if_pos (by omega), L100_int z h]
  unfold numD
  rw [if_pos h, L100_int z h]
  rfl
def sOf : D → D
  | .int i => .str (toString i)
  | _ => .non
theorem small_str : ∀ i : Nat, i < 100 → ((i : Int).natAbs.log2 < 1920 ∧ (toString (i : Int) : Str).length ≤ sizeLine) := by decide +kernel
theorem q_number_ok (z : Str) (hz : z.length ≤ 600) : f_q_number none [.str z] = .ok (.fz (numD z)) none := by
  unfold f_q_number
  rw [bodyF_none]
  unfold b_q_number
  have lc : eLc (iRng1 (aCons (esc (eC (.int 100))) (aNil))) (setSl 1) (cYes) (eCallB fStr (aCons (pk (eVar 1)) (aNil))) [1] [some (.fz (.str z)), none] = .ok (.ow (.ls (L100.map D.str))) [some (.fz (.str z)), none] := by
    have e : L100.map D.str = (rngI 0 100).map sOf := by
      unfold L100 rngI
      rw [List.map_map, List.map_map]
      apply List.map_congr_left
      intro i _
      show D.str (toString (i : Int) : Str) = D.str (toString ((0 : Int) + i) : Str)
      rw [Int.zero_add]
    rw [e]
    refine eLc_map (g := [some (.fz (.str z)), none]) sOf (by simp) (by rw [rngI_len]; decide) fun d hd => ?_
    obtain ⟨i, hi, rfl⟩ := rngI_mem hd
    have f := fn_str (small_str i hi)
    rw [Int.zero_add]
    exact ⟨[some (.fz (.str z)), some (.fz (.int i))], by simp [lcStep, wipeG, f, sOf], by simp [wipeG]⟩
  have fl := flat_all L100
  have mm := mem_strs z L100
  by_cases h : z ∈ L100
  · have fi := fInt_100 h
    have mm' : memD (.str z) (L100.map D.str) = true := by rw [mm]; exact decide_eq_true h
    generalize hL : L100.map D.str = LL at *
    simp [fill, lc, fl, mm', fi, flatI]
  · have mm' : memD (.str z) (L100.map D.str) = false := by rw [mm]; exact decide_eq_false h
    unfold numD
    rw [if_neg h]
    generalize hL : L100.map D.str = LL at *
    simp [fill, lc, fl, mm', flatI]
theorem number_in_ok (z : Str) (hz : z.length ≤ 600) : f_number_in none [.str z] = .ok (.fz (numD z)) none := by
  unfold f_number_in
  rw [bodyF_none]
  unfold b_number_in
  have lc := lc_in (g := [some (.fz (.str z)), none]) (i := 0) (v := 1) (z := z) (S := FG) (e := eC (.str FG)) rfl (by simp) (by rw [sz_line]; omega) (fun _ => rfl)
  unfold FG at lc
  by_cases h : z ∈ L100
  · have fi := fInt_100 h
    obtain ⟨h1, h2, h3, h4⟩ := L100_is z h
    unfold FG at h3
    have h1' : (1 : Int) ≤ z.length := by omega
    have h2' : (z.length : Int) ≤ 2 := by omega
    by_cases hl : (z.length : Int) = 2
    · have hl' : z.length = 2 := by omega
      obtain ⟨x, hx, hy⟩ := atI_some z.cps.toList 0 (Int.le_refl _) (by rw [show z.cps.toList.length = z.length from rfl]; omega)
      have hx0 : ¬ (⟨#[x]⟩ : Str) = "0" := by
        intro e
        have e2 : x = 48 := by have := congrArg Str.cps e; simpa using congrArg Array.toList (this.trans (show (Str.ofString "0").cps = #[48] by decide))
        exact h4 ⟨hl', by rw [← e2]; exact hy⟩
      simp [fill, lc, h1', h2', h3, hl, hx, hx0, fi]
    · simp [fill, lc, h1', h2', h3, hl, fi]
  · unfold numD
    rw [if_neg h]
    by_cases h1 : 1 ≤ z.length
    · by_cases h2 : z.length ≤ 2
      · have h1' : (1 : Int) ≤ z.length := by omega
        have h2' : (z.length : Int) ≤ 2 := by omega
        cases h3 : okC FG z with
        | false => unfold FG at h3; simp [fill, lc, h1', h2', h3]
        | true =>
          have h4 : z.length = 2 ∧ z.cps.toList[0]? = some 48 := by
            apply Classical.byContradiction
            intro q
            exact h (is_L100 z h1 h2 h3 q)
          obtain ⟨x, hx, hy⟩ := atI_some z.cps.toList 0 (Int.le_refl _) (by rw [show z.cps.toList.length = z.length from rfl]; omega)
          have hl : (z.length : Int) = 2 := by omega
          have hx0 : x = 48 := by have := hy.symm.trans h4.2; simpa using this
          subst hx0
          have e : (⟨#[48]⟩ : Str) = "0" := by decide
          unfold FG at h3
          simp [fill, lc, h1', h2', h3, hl, hx, e]
      · have h2' : ¬ (z.length : Int) ≤ 2 := by omega
        have h1' : (1 : Int) ≤ z.length := by omega
        simp [fill, h1', h2']
    · have h1' : ¬ (1 : Int) ≤ z.length := by omega
      simp [fill, h1']
theorem numD_repr (z : Str) : okRepr (numD z) = true := by
  unfold numD
  split
  · rename_i h
    have : ∀ z ∈ L100, okRepr (.int ((intText? z).getD 0)) = true := by decide +kernel
    exact this z h
  · decide
/-! the law -/
theorem told_ok (z : Str) : f_told none [.str z] = .ok (.fz (.str (if z = "" then "-" else z))) none := by
  unfold f_told
  rw [bodyF_none]
  unfold b_told
  by_cases h : z = ""
  · simp [fill, h]
  · simp [fill, h]
theorem untold_ok (z : Str) : f_untold none [.str z] = .ok (.fz (.str (if z = "-" then "" else z))) none := by
  unfold f_untold
  rw [bodyF_none]
  unfold b_untold
  by_cases h : z = "-"
  · simp [fill, h]
  · simp [fill, h]
def CH : Str := "abcxyzABC  0123456789()-+~#:,  \"\n\t"
def AZ : Str := "abcz"
def pick (S : Str) (i : Int) : Nat := (atI S.cps.toList i).getD 0
theorem pick_ok (S : Str) (i : Int) (h0 : 0 ≤ i) (h : i < S.length) : atI S.cps.toList i = some (pick S i) ∧ pick S i ∈ S.cps.toList := by
  obtain ⟨x, h1, h2⟩ := atI_some S.cps.toList i h0 h
  have : pick S i = x := by unfold pick; rw [h1]; rfl
  rw [this]
  exact ⟨h1, List.mem_of_getElem? h2⟩
theorem law_good (ns : List Int) (h : ns.length ≤ 63) : f_law none [.scr ns] = .ok (.fz (.bl true)) none := by
  unfold f_law
  rw [bodyF_none]
  unfold b_law
  have m31 := Int.emod_lt_of_pos (cellI ns 0) (show (0 : Int) < 31 by decide)
  have n31 := Int.emod_nonneg (cellI ns 0) (show (31 : Int) ≠ 0 by decide)
  have m15 := Int.emod_lt_of_pos (cellI ns 4) (show (0 : Int) < 15 by decide)
  have n15 := Int.emod_nonneg (cellI ns 4) (show (15 : Int) ≠ 0 by decide)
  have m4 := Int.emod_lt_of_pos (cellI ns 4) (show (0 : Int) < 4 by decide)
  have n4 := Int.emod_nonneg (cellI ns 4) (show (4 : Int) ≠ 0 by decide)
  obtain ⟨v1, e1, l1, d1⟩ := values_ok (cellI ns 1) (cellI ns 0 % 31) 97 (by omega) (by omega) (by decide) (by decide)
  obtain ⟨v2, e2, l2, d2⟩ := values_ok (cellI ns 3) (cellI ns 4 % 15) 97 (by omega) (by omega) (by decide) (by decide)
  obtain ⟨v3, e3, l3, d3⟩ := values_ok (cellI ns 5) (cellI ns 4 % 4) 97 (by omega) (by omega) (by decide) (by decide)
  have c0 := cell_ok ns 0 (by decide)
  have c1 := cell_ok ns 1 (by decide)
  have c2 := cell_ok ns 2 (by decide)
  have c3 := cell_ok ns 3 (by decide)
  have c4 := cell_ok ns 4 (by decide)
  have c5 := cell_ok ns 5 (by decide)
  let P : Rs Fl → Prop := fun r => endF r = .ok (.fz (.bl true)) none
  show P _
  refine seq_step [some (.fz (.scr ns)), some (.fz (.str CH)), none, none, none, none, none, none, none, none] (by simp [fill, CH]) ?_
  refine seq_step [some (.fz (.scr ns)), some (.fz (.str CH)), some (.ow false (.ls (v1.map D.int))), none, none, none, none, none, none, none] (by simp [c0, c1, e1]) ?_
  let f1 : Int → Nat := fun x => pick CH (if 1 < x then x % 33 else 33)
  have CHl : CH.length = 34 := by decide
  have s3 := lc_pick (it := iSeq (eVar 2)) (e := eB ixD (eVar 1) (eIf (eTest (eB cGt (eVar 9) (eC (.int 1)))) (eB bMod (eVar 9) (eC (.int 33))) (eC (.int 33)))) (v := 9) (xs := v1)
    (g0 := [some (.fz (.scr ns)), some (.fz (.str CH)), some (.ow false (.ls (v1.map D.int))), none, none, none, none, none, none, none])
    (g := [some (.fz (.scr ns)), some (.fz (.str CH)), some (.fz (.lst (v1.map D.int))), none, none, none, none, none, none, none]) f1 (by simp) (by omega) (by simp) (by
      intro x hx
      obtain ⟨hx0, hx1⟩ := d1 x hx
      have b1 := Int.emod_lt_of_pos x (show (0 : Int) < 33 by decide)
      have b2 := Int.emod_nonneg x (show (33 : Int) ≠ 0 by decide)
      by_cases hx2 : 1 < x
      · have p := (pick_ok CH (x % 33) b2 (by rw [CHl]; omega)).1
        simp [hx2, p, f1]
      · have p := (pick_ok CH 33 (by decide) (by rw [CHl]; decide)).1
        simp [hx2, p, f1])
  have j3 := join_one f1 v1 (by omega)
  refine seq_step [some (.fz (.scr ns)), some (.fz (.str CH)), some (.fz (.lst (v1.map D.int))), some (.fz (.str (oneS f1 v1))), none, none, none, none, none, none] (by
    generalize (v1.map fun x => (⟨#[f1 x]⟩ : Str)).map D.str = LL at s3 j3
    simp [s3, j3]) ?_
  have ln := oneS_len f1 v1
  generalize oneS f1 v1 = line0 at ln
  generalize D.lst (v1.map D.int) = V1
  refine seq_stepE (fun g => ∃ line : Str, line.length ≤ 200 ∧ g = [some (.fz (.scr ns)), some (.fz (.str CH)), some (.fz V1), some (.fz (.str line)), none, none, none, none, none, none]) ?_ ?_
  · by_cases hc : 0 < cellI ns 2 % 3
    · have sp := split_ok line0 " " space_len (by rw [sz_line]; omega)
      obtain ⟨s1, s2, s4⟩ := split_small line0 " " space_len
      have ll := lc_ne (it := iSeq (eMeth "str" mSplit (eVar 3) (aCons (pk (eC (.str " "))) (aNil)))) (v := 8) (ys := Txt.split line0 " ")
        (g0 := [some (.fz (.scr ns)), some (.fz (.str CH)), some (.fz V1), some (.fz (.str line0)), none, none, none, none, none, none])
        (g := [some (.fz (.scr ns)), some (.fz (.str CH)), some (.fz V1), some (.fz (.str line0)), none, none, none, none, none, none]) (by simp [sp]) (by omega) (by simp)
      have q1 := sum_filter (fun y => !(y == ("" : Str))) (Txt.split line0 " ")
      have q2 := List.length_filter_le (fun y => !(y == ("" : Str))) (Txt.split line0 " ")
      generalize (Txt.split line0 " ").filter (fun y => !(y == ("" : Str))) = FF at ll q1 q2
      have sl1 : (Str.ofString " ").length = 1 := by decide
      have j4 := join_ok " " FF (by rw [sl1]; omega)
      have j5 := join_len_le " " FF
      refine ⟨[some (.fz (.scr ns)), some (.fz (.str CH)), some (.fz V1), some (.fz (.str (Txt.join " " FF))), none, none, none, none, none, none], ?_, Txt.join " " FF, by rw [sl1] at j5; omega, rfl⟩
      generalize FF.map D.str = LL at ll j4
      simp [c2, hc, ll, j4]
    · exact ⟨_, by simp [c2, hc], line0, by omega, rfl⟩
  rintro g ⟨line, hline, rfl⟩
  have w1 := words_of_ok line (by omega)
  have w2 := q_words_ok line (by omega)
  have w3 := words_repr line (by omega)
  refine seq_step [some (.fz (.scr ns)), some (.fz (.str CH)), some (.fz V1), some (.fz (.str line)), none, none, none, none, none, none] (by simp [w1, w2, w3]) ?_
  let f2 : Int → Nat := fun x => pick AZ (x % 4)
  have s6 := lc_pick (e := eB ixD (eC (.str "abcz")) (eB bMod (eVar 9) (eC (.int 4)))) (v := 9) (xs := v2)
    (it := iSeq (eCall none f_q_values (chkN 3 (aCons (esc (eCall none f_q_cell (chkN 2 (aCons (esc (eVar 0)) (aCons (esc (eC (.int 3))) (aNil)))))) (aCons (esc (eB bMod (eCall none f_q_cell (chkN 2 (aCons (esc (eVar 0)) (aCons (esc (eC (.int 4))) (aNil))))) (eC (.int 15)))) (aCons (esc (eC (.int 97))) (aNil)))))))
    (g0 := [some (.fz (.scr ns)), some (.fz (.str CH)), some (.fz V1), some (.fz (.str line)), none, none, none, none, none, none])
    (g := [some (.fz (.scr ns)), some (.fz (.str CH)), some (.fz V1), some (.fz (.str line)), none, none, none, none, none, none]) f2 (by simp [c3, c4, e2]) (by omega) (by simp) (by
      intro x hx
      have b1 := Int.emod_lt_of_pos x (show (0 : Int) < 4 by decide)
      have b2 := Int.emod_nonneg x (show (4 : Int) ≠ 0 by decide)
      have p := (pick_ok AZ (x % 4) b2 (by show x % 4 < ((4 : Nat) : Int); exact b1)).1
      unfold AZ at p
      simp [p, f2, AZ])
  have j6 := join_one f2 v2 (by omega)
  refine seq_step [some (.fz (.scr ns)), some (.fz (.str CH)), some (.fz V1), some (.fz (.str line)), some (.fz (.str (oneS f2 v2))), none, none, none, none, none] (by
    generalize (v2.map fun x => (⟨#[f2 x]⟩ : Str)).map D.str = LL at s6 j6
    simp [s6, j6]) ?_
  have lz := oneS_len f2 v2
  have nd : ¬ oneS f2 v2 = "-" := by
    intro e
    have e2 := congrArg (fun s : Str => s.cps.toList) e
    have e3 : v2.map f2 = [45] := by rw [← oneS_cps]; exact e2.trans (by decide)
    have e4 : (45 : Nat) ∈ v2.map f2 := by rw [e3]; simp
    obtain ⟨x, _, hx⟩ := List.mem_map.mp e4
    have b1 := Int.emod_lt_of_pos x (show (0 : Int) < 4 by decide)
    have b2 := Int.emod_nonneg x (show (4 : Int) ≠ 0 by decide)
    have p := (pick_ok AZ (x % 4) b2 (by show x % 4 < ((4 : Nat) : Int); exact b1)).2
    rw [show pick AZ (x % 4) = 45 from hx] at p
    exact absurd p (by decide)
  generalize oneS f2 v2 = long at lz nd
  refine seq_step [some (.fz (.scr ns)), some (.fz (.str CH)), some (.fz V1), some (.fz (.str line)), some (.fz (.str long)), some (.ow false (.ls (v3.map D.int))), none, none, none, none] (by simp [c4, c5, e3]) ?_
  let f3 : Int → Nat := fun x => pick FG (x % 10)
  have s8 := lc_pick (it := iSeq (eVar 5)) (e := eB ixD (eC (.str "0123456789")) (eB bMod (eVar 9) (eC (.int 10)))) (v := 9) (xs := v3)
    (g0 := [some (.fz (.scr ns)), some (.fz (.str CH)), some (.fz V1), some (.fz (.str line)), some (.fz (.str long)), some (.ow false (.ls (v3.map D.int))), none, none, none, none])
    (g := [some (.fz (.scr ns)), some (.fz (.str CH)), some (.fz V1), some (.fz (.str line)), some (.fz (.str long)), some (.fz (.lst (v3.map D.int))), none, none, none, none]) f3 (by simp) (by omega) (by simp) (by
      intro x hx
      have b1 := Int.emod_lt_of_pos x (show (0 : Int) < 10 by decide)
      have b2 := Int.emod_nonneg x (show (10 : Int) ≠ 0 by decide)
      have p := (pick_ok FG (x % 10) b2 (by show x % 10 < ((10 : Nat) : Int); exact b1)).1
      unfold FG at p
      simp [p, f3, FG])
  have j8 := join_one f3 v3 (by omega)
  refine seq_step [some (.fz (.scr ns)), some (.fz (.str CH)), some (.fz V1), some (.fz (.str line)), some (.fz (.str long)), some (.fz (.lst (v3.map D.int))), some (.fz (.str (oneS f3 v3))), none, none, none] (by
    generalize (v3.map fun x => (⟨#[f3 x]⟩ : Str)).map D.str = LL at s8 j8
    simp [s8, j8]) ?_
  have ld := oneS_len f3 v3
  generalize oneS f3 v3 = digs at ld
  generalize D.lst (v3.map D.int) = V3
  have sp := split_ok line " " space_len (by rw [sz_line]; omega)
  obtain ⟨s1, s2, s4⟩ := split_small line " " space_len
  have a1 : (Str.ofString "0").length + digs.length ≤ 16777216 := by have : (Str.ofString "0").length = 1 := by decide
                                                                     omega
  have a2 : (Str.ofString "-").length + digs.length ≤ 16777216 := by have : (Str.ofString "-").length = 1 := by decide
                                                                     omega
  let WS : List Str := Txt.split line " " ++ [long, digs, "0" ++ digs, "-" ++ digs, "+1", "", "-", "a1", "aA", "99", "100", "00"]
  have hWS : ∀ z ∈ WS, z.length ≤ 600 := by
    intro z hz
    rcases List.mem_append.mp hz with q | q
    · have := s2 z q; omega
    · have t1 : (Str.ofString "0" ++ digs).length ≤ 600 := by rw [str_add_length]; have : (Str.ofString "0").length = 1 := by decide
                                                              omega
      have t2 : (Str.ofString "-" ++ digs).length ≤ 600 := by rw [str_add_length]; have : (Str.ofString "-").length = 1 := by decide
                                                              omega
      simp only [List.mem_cons, List.not_mem_nil, or_false] at q
      rcases q with rfl | rfl | rfl | rfl | rfl | rfl | rfl | rfl | rfl | rfl | rfl | rfl <;> first | omega | exact t1 | exact t2 | decide
  refine seq_step [some (.fz (.scr ns)), some (.fz (.str CH)), some (.fz V1), some (.fz (.str line)), some (.fz (.str long)), some (.fz V3), some (.fz (.str digs)), some (.ow false (.ls (WS.map D.str))), none, none] (by
    have lb : (Txt.split line " ").length + 12 ≤ 16777216 := by omega
    simp [sp, a1, a2, WS, lb]) ?_
  refine seq_stepE (fun g => ∃ a b, g = [some (.fz (.scr ns)), some (.fz (.str CH)), some (.fz V1), some (.fz (.str line)), some (.fz (.str long)), some (.fz V3), some (.fz (.str digs)), some (.fz (.lst (WS.map D.str))), a, b]) ?_ ?_
  · generalize hW : WS.map D.str = LL
    simp only [ev_for, ev_iSeq, ev_esc, ev_var]
    simp
    generalize hf : forL _ _ _ _ = F
    refine for_inv_e hf (fun _ g => ∃ a b, g = [some (.fz (.scr ns)), some (.fz (.str CH)), some (.fz V1), some (.fz (.str line)), some (.fz (.str long)), some (.fz V3), some (.fz (.str digs)), some (.fz (.lst LL)), a, b]) ⟨none, none, rfl⟩ ?_
    rintro p d s g e ⟨a, b, rfl⟩
    have hd : d ∈ LL := by rw [e]; simp
    rw [← hW] at hd
    obtain ⟨z, hz, rfl⟩ := List.mem_map.mp hd
    have hz' := hWS z hz
    obtain ⟨bb, n1⟩ := is_name_ok z (by omega)
    have n2 : f_q_is_name none [.str z] = .ok (.fz (.bl bb)) none := n1
    have n3 := number_in_ok z hz'
    have n4 := q_number_ok z hz'
    have n5 := numD_repr z
    have n6 : okRepr (.bl bb) = true := by cases bb <;> decide
    have n7 := told_ok z
    have n8 := untold_ok z
    refine ⟨[some (.fz (.scr ns)), some (.fz (.str CH)), some (.fz V1), some (.fz (.str line)), some (.fz (.str long)), some (.fz V3), some (.fz (.str digs)), some (.fz (.lst LL)), some (.fz (.str z)), b], .inl ?_, _, _, rfl⟩
    by_cases q1 : z = ""
    · subst q1
      simp [turn, n1, n2, n3, n4, n5, n6, n7, n8]
    · by_cases q2 : z = "-"
      · subst q2
        simp [turn, n1, n2, n3, n4, n5, n6, n7, n8, q1]
      · simp [turn, n1, n2, n3, n4, n5, n6, n7, n8, q1, q2]
  rintro g ⟨a, b, rfl⟩
  have t1 := told_ok long
  have t2 := untold_ok long
  have t3 := untold_ok "-"
  show endF _ = _
  by_cases q : long = ""
  · subst q
    simp [t1, t3]
  · simp [t1, t2, q, nd]
end Law

set_option maxHeartbeats 4000000
namespace Law
open DL PySem PySem.Spec L2
theorem room_rep {k : Nat} {A : Around} (r : Room k A) : A.units + 128 < cLine := by have := r.un; omega
def topS (i : Nat) : Stmt := PySem.Challenge.pw_leafturner_k88_words_of_lines.main.body.getD i (.Pass ⟨0, 0, 0, 0⟩)
abbrev s_words_of : Stmt := topS 5
abbrev N_words_of : List Str := ["line", "words", "word", "char"]
theorem sc_words_of : FnScope ["line", "words", "word", "char"] ["line"] (defScope s_words_of) := ⟨rfl, rfl, rfl, by decide +kernel, rfl, by decide +kernel, by decide +kernel⟩
abbrev s_is_name : Stmt := topS 6
abbrev N_is_name : List Str := ["word", "char"]
theorem sc_is_name : FnScope ["word", "char"] ["word"] (defScope s_is_name) := ⟨rfl, rfl, rfl, by decide +kernel, rfl, by decide +kernel, by decide +kernel⟩
abbrev s_number_in : Stmt := topS 7
abbrev N_number_in : List Str := ["word", "char"]
theorem sc_number_in : FnScope ["word", "char"] ["word"] (defScope s_number_in) := ⟨rfl, rfl, rfl, by decide +kernel, rfl, by decide +kernel, by decide +kernel⟩
abbrev s_told : Stmt := topS 8
abbrev N_told : List Str := ["text"]
theorem sc_told : FnScope ["text"] ["text"] (defScope s_told) := ⟨rfl, rfl, rfl, by decide +kernel, rfl, by decide +kernel, by decide +kernel⟩
abbrev s_untold : Stmt := topS 9
abbrev N_untold : List Str := ["word"]
theorem sc_untold : FnScope ["word"] ["word"] (defScope s_untold) := ⟨rfl, rfl, rfl, by decide +kernel, rfl, by decide +kernel, by decide +kernel⟩
abbrev s_q_cell : Stmt := topS 11
abbrev N_q_cell : List Str := ["_law_script", "_law_k"]
theorem sc_q_cell : FnScope ["_law_script", "_law_k"] ["_law_script", "_law_k"] (defScope s_q_cell) := ⟨rfl, rfl, rfl, by decide +kernel, rfl, by decide +kernel, by decide +kernel⟩
abbrev s_q_values : Stmt := topS 12
abbrev N_q_values : List Str := ["_law_cell_here", "_law_count", "_law_size", "_law_values_here", "_law_rest", "_law_k", "_law_mixed"]
theorem sc_q_values : FnScope ["_law_cell_here", "_law_count", "_law_size", "_law_values_here", "_law_rest", "_law_k", "_law_mixed"] ["_law_cell_here", "_law_count", "_law_size"] (defScope s_q_values) := ⟨rfl, rfl, rfl, by decide +kernel, rfl, by decide +kernel, by decide +kernel⟩
abbrev s_q_signs : Stmt := topS 13
abbrev N_q_signs : List Str := ["_law_signs_here"]
theorem sc_q_signs : FnScope ["_law_signs_here"] [] (defScope s_q_signs) := ⟨rfl, rfl, rfl, by decide +kernel, rfl, by decide +kernel, by decide +kernel⟩
abbrev s_q_words : Stmt := topS 14
abbrev N_q_words : List Str := ["_law_line", "_law_words_here", "_law_word", "_law_char"]
theorem sc_q_words : FnScope ["_law_line", "_law_words_here", "_law_word", "_law_char"] ["_law_line"] (defScope s_q_words) := ⟨rfl, rfl, rfl, by decide +kernel, rfl, by decide +kernel, by decide +kernel⟩
abbrev s_q_is_name : Stmt := topS 15
abbrev N_q_is_name : List Str := ["_law_word", "_law_char"]
theorem sc_q_is_name : FnScope ["_law_word", "_law_char"] ["_law_word"] (defScope s_q_is_name) := ⟨rfl, rfl, rfl, by decide +kernel, rfl, by decide +kernel, by decide +kernel⟩
abbrev s_q_number : Stmt := topS 16
abbrev N_q_number : List Str := ["_law_word", "_law_number_here"]
theorem sc_q_number : FnScope ["_law_word", "_law_number_here"] ["_law_word"] (defScope s_q_number) := ⟨rfl, rfl, rfl, by decide +kernel, rfl, by decide +kernel, by decide +kernel⟩
abbrev s_law : Stmt := topS 17
abbrev N_law : List Str := ["_law_script", "_law_chars", "_law_values_here", "_law_line", "_law_long", "_law_figures", "_law_digits", "_law_words_here", "_law_word", "_law_value"]
theorem sc_law : FnScope ["_law_script", "_law_chars", "_law_values_here", "_law_line", "_law_long", "_law_figures", "_law_digits", "_law_words_here", "_law_word", "_law_value"] ["_law_script"] (defScope s_law) := ⟨rfl, rfl, rfl, by decide +kernel, rfl, by decide +kernel, by decide +kernel⟩
structure Tx (K : PySem.W.Frag) (mg : Str → Option Value) where
  cls : Str → Value
  a_words_of : Addr
  fd_words_of : FuncData
  F_words_of : Fun K "words_of" "words_of" s_words_of a_words_of fd_words_of
  m_words_of : mg "words_of" = some (.ref a_words_of)
  b_words_of : Binds K fd_words_of ["line"] []
  a_is_name : Addr
  fd_is_name : FuncData
  F_is_name : Fun K "is_name" "is_name" s_is_name a_is_name fd_is_name
  m_is_name : mg "is_name" = some (.ref a_is_name)
  b_is_name : Binds K fd_is_name ["word"] []
  a_number_in : Addr
  fd_number_in : FuncData
  F_number_in : Fun K "number_in" "number_in" s_number_in a_number_in fd_number_in
  m_number_in : mg "number_in" = some (.ref a_number_in)
  b_number_in : Binds K fd_number_in ["word"] []
  a_told : Addr
  fd_told : FuncData
  F_told : Fun K "told" "told" s_told a_told fd_told
  m_told : mg "told" = some (.ref a_told)
  b_told : Binds K fd_told ["text"] []
  a_untold : Addr
  fd_untold : FuncData
  F_untold : Fun K "untold" "untold" s_untold a_untold fd_untold
  m_untold : mg "untold" = some (.ref a_untold)
  b_untold : Binds K fd_untold ["word"] []
  a_q_cell : Addr
  fd_q_cell : FuncData
  F_q_cell : Fun K "_law_cell" "_law_cell" s_q_cell a_q_cell fd_q_cell
  m_q_cell : mg "_law_cell" = some (.ref a_q_cell)
  b_q_cell : Binds K fd_q_cell ["_law_script", "_law_k"] []
  a_q_values : Addr
  fd_q_values : FuncData
  F_q_values : Fun K "_law_values" "_law_values" s_q_values a_q_values fd_q_values
  m_q_values : mg "_law_values" = some (.ref a_q_values)
  b_q_values : Binds K fd_q_values ["_law_cell_here", "_law_count", "_law_size"] []
  a_q_signs : Addr
  fd_q_signs : FuncData
  F_q_signs : Fun K "_law_signs" "_law_signs" s_q_signs a_q_signs fd_q_signs
  m_q_signs : mg "_law_signs" = some (.ref a_q_signs)
  b_q_signs : Binds K fd_q_signs [] []
  a_q_words : Addr
  fd_q_words : FuncData
  F_q_words : Fun K "_law_words" "_law_words" s_q_words a_q_words fd_q_words
  m_q_words : mg "_law_words" = some (.ref a_q_words)
  b_q_words : Binds K fd_q_words ["_law_line"] []
  a_q_is_name : Addr
  fd_q_is_name : FuncData
  F_q_is_name : Fun K "_law_is_name" "_law_is_name" s_q_is_name a_q_is_name fd_q_is_name
  m_q_is_name : mg "_law_is_name" = some (.ref a_q_is_name)
  b_q_is_name : Binds K fd_q_is_name ["_law_word"] []
  a_q_number : Addr
  fd_q_number : FuncData
  F_q_number : Fun K "_law_number" "_law_number" s_q_number a_q_number fd_q_number
  m_q_number : mg "_law_number" = some (.ref a_q_number)
  b_q_number : Binds K fd_q_number ["_law_word"] []
  a_law : Addr
  fd_law : FuncData
  F_law : Fun K "law" "law" s_law a_law fd_law
  m_law : mg "law" = some (.ref a_law)
  b_law : Binds K fd_law ["_law_script"] []
  n_all : mg "all" = none
  n_int : mg "int" = none
  n_len : mg "len" = none
  n_range : mg "range" = none
  n_repr : mg "repr" = none
  n_str : mg "str" = none
  tok_EMPTY : Tok
  v_EMPTY : mg "EMPTY" = some (.str "-" tok_EMPTY)
  tok_FIGURES : Tok
  v_FIGURES : mg "FIGURES" = some (.str "0123456789" tok_FIGURES)
  tok_SIGNS : Tok
  v_SIGNS : mg "SIGNS" = some (.str "!\"#$&'()*+,-./0123456789:;<=>?@ABCDEFGHIJKLMNOPQRSTUVWXYZ[\\]^_`abcdefghijklmnopqrstuvwxyz{|}~" tok_SIGNS)
  tok_SMALL : Tok
  v_SMALL : mg "SMALL" = some (.str "abcdefghijklmnopqrstuvwxyz" tok_SMALL)
section
variable {P : Program} {w : World} {K : PySem.W.Frag} {mg : Str → Option Value} {base : Heap}
theorem ok_words_of (T : Tx K mg) : FnG P w K mg base 1 T.a_words_of T.fd_words_of ["line"] (spD K T.cls none 1 f_words_of) :=
  fn_D none T.F_words_of sc_words_of (by decide) fun cdv A outer s H E hr gd Y hc =>
    ds_cons (ds_asg (de_meth (by decide) PySem.F.plainAttrs_str PySem.F.slot_str_split PySem.F.type_str_split md_split (de_var) (da_cons (de_pk (de_str)) (da_nil))) (dg_name sc_words_of.nd))
    (ds_cons (ds_for (passes_of rfl) rfl (di_seq (de_var)) (dg_name sc_words_of.nd) (ds_one (ds_if (dt_w (dw_or (dt_cmp (od_eq hr.units) (de_var) (de_str) (nomark _)) (dw_or1 (dt_not (dt_truth (de_callB (cd_all rfl) (by rfl) T.n_all PyProof.Rows.boot_all (da_cons (de_pk (de_lc [("char", 3)] rfl sc_words_of.nd (blkOk_by (N := N_words_of) (sc := defScope s_words_of) (by decide +kernel)) (di_seq (de_var)) (fun Z1 hZ1 s H C cl fp => dg_name sc_words_of.nd) (fun Z1 hZ1 s H C cl fp => dts_nil) (fun Z1 hZ1 s H C cl fp => de_cmp od_inT (de_var) ((de_gS T.v_SIGNS)) (by with_unfolding_all rfl)))) (da_nil)))))))) (ds_one (ds_ret (de_non))) (ds_nil))))
    (ds_one (ds_ret (de_var))))
theorem ok_is_name (T : Tx K mg) : FnG P w K mg base 1 T.a_is_name T.fd_is_name ["word"] (spD K T.cls none 1 f_is_name) :=
  fn_D none T.F_is_name sc_is_name (by decide) fun cdv A outer s H E hr gd Y hc =>
    ds_one (ds_ret (de_and (de_chain od_le od_le (de_int) (de_callB cd_len (by rfl) T.n_len PySem.boot_len (da_cons (de_pk (de_var)) (da_nil))) (de_int)) (de_one (de_callB (cd_all rfl) (by rfl) T.n_all PyProof.Rows.boot_all (da_cons (de_pk (de_lc [("char", 1)] rfl sc_is_name.nd (blkOk_by (N := N_is_name) (sc := defScope s_is_name) (by decide +kernel)) (di_seq (de_var)) (fun Z1 hZ1 s H C cl fp => dg_name sc_is_name.nd) (fun Z1 hZ1 s H C cl fp => dts_nil) (fun Z1 hZ1 s H C cl fp => de_cmp od_inT (de_var) ((de_gS T.v_SMALL)) (by with_unfolding_all rfl)))) (da_nil))))))
theorem ok_number_in (T : Tx K mg) : FnG P w K mg base 1 T.a_number_in T.fd_number_in ["word"] (spD K T.cls none 1 f_number_in) :=
  fn_D none T.F_number_in sc_number_in (by decide) fun cdv A outer s H E hr gd Y hc =>
    ds_cons (ds_if (dt_w (dw_or (dt_not (dt_chain od_le od_le (de_int) (de_callB cd_len (by rfl) T.n_len PySem.boot_len (da_cons (de_pk (de_var)) (da_nil))) (de_int))) (dw_or1 (dt_not (dt_truth (de_callB (cd_all rfl) (by rfl) T.n_all PyProof.Rows.boot_all (da_cons (de_pk (de_lc [("char", 1)] rfl sc_number_in.nd (blkOk_by (N := N_number_in) (sc := defScope s_number_in) (by decide +kernel)) (di_seq (de_var)) (fun Z1 hZ1 s H C cl fp => dg_name sc_number_in.nd) (fun Z1 hZ1 s H C cl fp => dts_nil) (fun Z1 hZ1 s H C cl fp => de_cmp od_inT (de_var) ((de_gS T.v_FIGURES)) (by with_unfolding_all rfl)))) (da_nil)))))))) (ds_one (ds_ret (de_non))) (ds_nil))
    (ds_cons (ds_if (dt_w (dw_and (dt_cmp (od_eq hr.units) (de_callB cd_len (by rfl) T.n_len PySem.boot_len (da_cons (de_pk (de_var)) (da_nil))) (de_int) (nomark _)) (dw_and1 (dt_cmp (od_eq hr.units) (de_ix (de_var) (de_int)) (de_str) (nomark _))))) (ds_one (ds_ret (de_non))) (ds_nil))
    (ds_one (ds_ret (de_callTy cd_int (by rfl) T.n_int PyProof.Rows.boot_int (da_cons (de_pk (de_var)) (da_nil))))))
theorem ok_told (T : Tx K mg) : FnG P w K mg base 1 T.a_told T.fd_told ["text"] (spD K T.cls none 1 f_told) :=
  fn_D none T.F_told sc_told (by decide) fun cdv A outer s H E hr gd Y hc =>
    ds_cons (ds_if (dt_cmp (od_eq hr.units) (de_var) (de_str) (nomark _)) (ds_one (ds_ret ((de_gS T.v_EMPTY)))) (ds_nil))
    (ds_one (ds_ret (de_var)))
theorem ok_untold (T : Tx K mg) : FnG P w K mg base 1 T.a_untold T.fd_untold ["word"] (spD K T.cls none 1 f_untold) :=
  fn_D none T.F_untold sc_untold (by decide) fun cdv A outer s H E hr gd Y hc =>
    ds_cons (ds_if (dt_cmp (od_eq hr.units) (de_var) ((de_gS T.v_EMPTY)) (nomark _)) (ds_one (ds_ret (de_str))) (ds_nil))
    (ds_one (ds_ret (de_var)))
theorem ok_q_cell (T : Tx K mg) : FnG P w K mg base 1 T.a_q_cell T.fd_q_cell ["_law_script", "_law_k"] (spD K T.cls none 2 f_q_cell) :=
  fn_D none T.F_q_cell sc_q_cell (by decide) fun cdv A outer s H E hr gd Y hc =>
    ds_cons (ds_if (dt_cmp od_lt (de_var) (de_callB cd_len (by rfl) T.n_len PySem.boot_len (da_cons (de_pk (de_var)) (da_nil))) (nomark _)) (ds_one (ds_ret (de_ix (de_var) (de_var)))) (ds_nil))
    (ds_one (ds_ret (de_int)))
theorem ok_q_values (T : Tx K mg) : FnG P w K mg base 1 T.a_q_values T.fd_q_values ["_law_cell_here", "_law_count", "_law_size"] (spD K T.cls none 3 f_q_values) :=
  fn_D none T.F_q_values sc_q_values (by decide) fun cdv A outer s H E hr gd Y hc =>
    ds_cons (ds_asg (de_lst (da_nil)) (dg_name sc_q_values.nd))
    (ds_cons (ds_asg (de_var) (dg_name sc_q_values.nd))
    (ds_cons (ds_for (passes_of rfl) rfl (di_rng1 (by rfl) T.n_range (da_cons (de_esc (de_var)) (da_nil))) (dg_name sc_q_values.nd) (ds_one (ds_if (dt_cmp od_ge (de_var) (de_bin od_pow (de_int) (de_int)) (nomark _)) (ds_cons (ds_expr (de_mut (by decide) PySem.F.plainAttrs_list PySem.F.slot_list_append PySem.F.type_list_append ud_append (de_var) (da_cons (de_esc (de_bin od_mod (de_callTy cd_int (by rfl) T.n_int PyProof.Rows.boot_int (da_cons (de_pk (de_var)) (da_nil))) (de_var))) (da_nil))))
    (ds_one (ds_asg (de_bin od_fdiv (de_var) (de_var)) (dg_name sc_q_values.nd)))) (ds_cons (ds_asg (de_bin od_mod (de_bin od_add (de_bin od_add (de_bin od_mul (de_bin od_mod (de_callTy cd_int (by rfl) T.n_int PyProof.Rows.boot_int (da_cons (de_pk (de_var)) (da_nil))) (de_int)) (de_int)) (de_bin od_mul (de_var) (de_int))) (de_int)) (de_int)) (dg_name sc_q_values.nd))
    (ds_one (ds_expr (de_mut (by decide) PySem.F.plainAttrs_list PySem.F.slot_list_append PySem.F.type_list_append ud_append (de_var) (da_cons (de_esc (de_bin od_mod (de_bin od_mod (de_bin od_mul (de_var) (de_int)) (de_int)) (de_var))) (da_nil)))))))))
    (ds_one (ds_ret (de_var)))))
theorem ok_q_signs (T : Tx K mg) : FnG P w K mg base 1 T.a_q_signs T.fd_q_signs [] (spD K T.cls none 0 f_q_signs) :=
  fn_D none T.F_q_signs sc_q_signs (by decide) fun cdv A outer s H E hr gd Y hc =>
    ds_cons (ds_asg (de_str) (dg_name sc_q_signs.nd))
    (ds_one (ds_ret (de_bin od_add (de_var) (de_str))))
theorem ok_q_words (T : Tx K mg) : FnG P w K mg base 2 T.a_q_words T.fd_q_words ["_law_line"] (spD K T.cls none 1 f_q_words) :=
  fn_D none T.F_q_words sc_q_words (by decide) fun cdv A outer s H E hr gd Y hc =>
    ds_cons (ds_asg (de_meth (by decide) PySem.F.plainAttrs_str PySem.F.slot_str_split PySem.F.type_str_split md_split (de_var) (da_cons (de_pk (de_str)) (da_nil))) (dg_name sc_q_words.nd))
    (ds_cons (ds_for (passes_of rfl) rfl (di_seq (de_var)) (dg_name sc_q_words.nd) (ds_one (ds_if (dt_w (dw_or (dt_cmp (od_eq hr.units) (de_var) (de_str) (nomark _)) (dw_or1 (dt_not (dt_truth (de_callB (cd_all rfl) (by rfl) T.n_all PyProof.Rows.boot_all (da_cons (de_pk (de_lc [("_law_char", 3)] rfl sc_q_words.nd (blkOk_by (N := N_q_words) (sc := defScope s_q_words) (by decide +kernel)) (di_seq (de_var)) (fun Z1 hZ1 s H C cl fp => dg_name sc_q_words.nd) (fun Z1 hZ1 s H C cl fp => dts_nil) (fun Z1 hZ1 s H C cl fp => de_cmp od_inT (de_var) (de_call0 (ok_q_signs T) (hr.mono (by decide)) gd (by rfl) T.m_q_signs T.F_q_signs.kp T.b_q_signs takes0 (hZ1.trans hc)) (by with_unfolding_all rfl)))) (da_nil)))))))) (ds_one (ds_ret (de_non))) (ds_nil))))
    (ds_one (ds_ret (de_var))))
theorem ok_q_is_name (T : Tx K mg) : FnG P w K mg base 1 T.a_q_is_name T.fd_q_is_name ["_law_word"] (spD K T.cls none 1 f_q_is_name) :=
  fn_D none T.F_q_is_name sc_q_is_name (by decide) fun cdv A outer s H E hr gd Y hc =>
    ds_one (ds_ret (de_and (de_chain od_le od_le (de_int) (de_callB cd_len (by rfl) T.n_len PySem.boot_len (da_cons (de_pk (de_var)) (da_nil))) (de_int)) (de_one (de_callB (cd_all rfl) (by rfl) T.n_all PyProof.Rows.boot_all (da_cons (de_pk (de_lc [("_law_char", 1)] rfl sc_q_is_name.nd (blkOk_by (N := N_q_is_name) (sc := defScope s_q_is_name) (by decide +kernel)) (di_seq (de_var)) (fun Z1 hZ1 s H C cl fp => dg_name sc_q_is_name.nd) (fun Z1 hZ1 s H C cl fp => dts_nil) (fun Z1 hZ1 s H C cl fp => de_cmp od_inT (de_var) (de_str) (by with_unfolding_all rfl)))) (da_nil))))))
theorem ok_q_number (T : Tx K mg) : FnG P w K mg base 1 T.a_q_number T.fd_q_number ["_law_word"] (spD K T.cls none 1 f_q_number) :=
  fn_D none T.F_q_number sc_q_number (by decide) fun cdv A outer s H E hr gd Y hc =>
    ds_cons (ds_if (dt_cmp od_notin (de_var) (de_lc [("_law_number_here", 1)] rfl sc_q_number.nd (blkOk_by (N := N_q_number) (sc := defScope s_q_number) (by decide +kernel)) (di_rng1 (by rfl) T.n_range (da_cons (de_esc (de_int)) (da_nil))) (fun Z1 hZ1 s H C cl fp => dg_name sc_q_number.nd) (fun Z1 hZ1 s H C cl fp => dts_nil) (fun Z1 hZ1 s H C cl fp => de_callTy cd_str (by rfl) T.n_str PyProof.Rows.boot_str (da_cons (de_pk (de_var)) (da_nil)))) (by with_unfolding_all rfl)) (ds_one (ds_ret (de_non))) (ds_nil))
    (ds_one (ds_ret (de_callTy cd_int (by rfl) T.n_int PyProof.Rows.boot_int (da_cons (de_pk (de_var)) (da_nil)))))
theorem ok_law (T : Tx K mg) : FnG P w K mg base 3 T.a_law T.fd_law ["_law_script"] (spD K T.cls none 1 f_law) :=
  fn_D none T.F_law sc_law (by decide) fun cdv A outer s H E hr gd Y hc =>
    ds_cons (ds_asg (de_str) (dg_name sc_law.nd))
    (ds_cons (ds_asg (de_call (ok_q_values T) (hr.mono (by decide)) gd (by rfl) T.m_q_values T.F_q_values.kp T.b_q_values (takes_of rfl rfl rfl rfl) hc (da_cons (de_esc (de_call (ok_q_cell T) (hr.mono (by decide)) gd (by rfl) T.m_q_cell T.F_q_cell.kp T.b_q_cell (takes_of rfl rfl rfl rfl) hc (da_cons (de_esc (de_var)) (da_cons (de_esc (de_int)) (da_nil))))) (da_cons (de_esc (de_bin od_mod (de_call (ok_q_cell T) (hr.mono (by decide)) gd (by rfl) T.m_q_cell T.F_q_cell.kp T.b_q_cell (takes_of rfl rfl rfl rfl) hc (da_cons (de_esc (de_var)) (da_cons (de_esc (de_int)) (da_nil)))) (de_int))) (da_cons (de_esc (de_int)) (da_nil))))) (dg_name sc_law.nd))
    (ds_cons (ds_asg (de_meth (by decide) PySem.F.plainAttrs_str PySem.F.slot_str_join PySem.F.type_str_join md_join (de_str) (da_cons (de_pk (de_lc [("_law_value", 9)] rfl sc_law.nd (blkOk_by (N := N_law) (sc := defScope s_law) (by decide +kernel)) (di_seq (de_var)) (fun Z1 hZ1 s H C cl fp => dg_name sc_law.nd) (fun Z1 hZ1 s H C cl fp => dts_nil) (fun Z1 hZ1 s H C cl fp => de_ix (de_var) (de_ifExp (dt_cmp od_gt (de_var) (de_int) (nomark _)) (de_bin od_mod (de_var) (de_int)) (de_int))))) (da_nil))) (dg_name sc_law.nd))
    (ds_cons (ds_if (dt_cmp od_gt (de_bin od_mod (de_call (ok_q_cell T) (hr.mono (by decide)) gd (by rfl) T.m_q_cell T.F_q_cell.kp T.b_q_cell (takes_of rfl rfl rfl rfl) hc (da_cons (de_esc (de_var)) (da_cons (de_esc (de_int)) (da_nil)))) (de_int)) (de_int) (nomark _)) (ds_one (ds_asg (de_meth (by decide) PySem.F.plainAttrs_str PySem.F.slot_str_join PySem.F.type_str_join md_join (de_str) (da_cons (de_pk (de_lc [("_law_word", 8)] rfl sc_law.nd (blkOk_by (N := N_law) (sc := defScope s_law) (by decide +kernel)) (di_seq (de_meth (by decide) PySem.F.plainAttrs_str PySem.F.slot_str_split PySem.F.type_str_split md_split (de_var) (da_cons (de_pk (de_str)) (da_nil)))) (fun Z2 hZ2 s H C cl fp => dg_name sc_law.nd) (fun Z2 hZ2 s H C cl fp => dts_one (dt_cmp (od_ne hr.units) (de_var) (de_str) (nomark _))) (fun Z2 hZ2 s H C cl fp => de_var))) (da_nil))) (dg_name sc_law.nd))) (ds_nil))
    (ds_cons (ds_if (dt_cmp (od_ne hr.units) (de_callB (cd_repr gd (room_rep hr)) (by rfl) T.n_repr PyProof.Rows.boot_repr (da_cons (de_pk (de_call (ok_words_of T) (hr.mono (by decide)) gd (by rfl) T.m_words_of T.F_words_of.kp T.b_words_of (takes_of rfl rfl rfl rfl) hc (da_cons (de_esc (de_var)) (da_nil)))) (da_nil))) (de_callB (cd_repr gd (room_rep hr)) (by rfl) T.n_repr PyProof.Rows.boot_repr (da_cons (de_pk (de_call (ok_q_words T) (hr.mono (by decide)) gd (by rfl) T.m_q_words T.F_q_words.kp T.b_q_words (takes_of rfl rfl rfl rfl) hc (da_cons (de_esc (de_var)) (da_nil)))) (da_nil))) (nomark _)) (ds_one (ds_ret (de_bl))) (ds_nil))
    (ds_cons (ds_asg (de_meth (by decide) PySem.F.plainAttrs_str PySem.F.slot_str_join PySem.F.type_str_join md_join (de_str) (da_cons (de_pk (de_lc [("_law_value", 9)] rfl sc_law.nd (blkOk_by (N := N_law) (sc := defScope s_law) (by decide +kernel)) (di_seq (de_call (ok_q_values T) (hr.mono (by decide)) gd (by rfl) T.m_q_values T.F_q_values.kp T.b_q_values (takes_of rfl rfl rfl rfl) hc (da_cons (de_esc (de_call (ok_q_cell T) (hr.mono (by decide)) gd (by rfl) T.m_q_cell T.F_q_cell.kp T.b_q_cell (takes_of rfl rfl rfl rfl) hc (da_cons (de_esc (de_var)) (da_cons (de_esc (de_int)) (da_nil))))) (da_cons (de_esc (de_bin od_mod (de_call (ok_q_cell T) (hr.mono (by decide)) gd (by rfl) T.m_q_cell T.F_q_cell.kp T.b_q_cell (takes_of rfl rfl rfl rfl) hc (da_cons (de_esc (de_var)) (da_cons (de_esc (de_int)) (da_nil)))) (de_int))) (da_cons (de_esc (de_int)) (da_nil)))))) (fun Z3 hZ3 s H C cl fp => dg_name sc_law.nd) (fun Z3 hZ3 s H C cl fp => dts_nil) (fun Z3 hZ3 s H C cl fp => de_ix (de_str) (de_bin od_mod (de_var) (de_int))))) (da_nil))) (dg_name sc_law.nd))
    (ds_cons (ds_asg (de_call (ok_q_values T) (hr.mono (by decide)) gd (by rfl) T.m_q_values T.F_q_values.kp T.b_q_values (takes_of rfl rfl rfl rfl) hc (da_cons (de_esc (de_call (ok_q_cell T) (hr.mono (by decide)) gd (by rfl) T.m_q_cell T.F_q_cell.kp T.b_q_cell (takes_of rfl rfl rfl rfl) hc (da_cons (de_esc (de_var)) (da_cons (de_esc (de_int)) (da_nil))))) (da_cons (de_esc (de_bin od_mod (de_call (ok_q_cell T) (hr.mono (by decide)) gd (by rfl) T.m_q_cell T.F_q_cell.kp T.b_q_cell (takes_of rfl rfl rfl rfl) hc (da_cons (de_esc (de_var)) (da_cons (de_esc (de_int)) (da_nil)))) (de_int))) (da_cons (de_esc (de_int)) (da_nil))))) (dg_name sc_law.nd))
    (ds_cons (ds_asg (de_meth (by decide) PySem.F.plainAttrs_str PySem.F.slot_str_join PySem.F.type_str_join md_join (de_str) (da_cons (de_pk (de_lc [("_law_value", 9)] rfl sc_law.nd (blkOk_by (N := N_law) (sc := defScope s_law) (by decide +kernel)) (di_seq (de_var)) (fun Z4 hZ4 s H C cl fp => dg_name sc_law.nd) (fun Z4 hZ4 s H C cl fp => dts_nil) (fun Z4 hZ4 s H C cl fp => de_ix (de_str) (de_bin od_mod (de_var) (de_int))))) (da_nil))) (dg_name sc_law.nd))
    (ds_cons (ds_asg (de_bin od_add (de_meth (by decide) PySem.F.plainAttrs_str PySem.F.slot_str_split PySem.F.type_str_split md_split (de_var) (da_cons (de_pk (de_str)) (da_nil))) (de_lst (da_cons (de_esc (de_var)) (da_cons (de_esc (de_var)) (da_cons (de_esc (de_bin od_add (de_str) (de_var))) (da_cons (de_esc (de_bin od_add (de_str) (de_var))) (da_cons (de_esc (de_str)) (da_cons (de_esc (de_str)) (da_cons (de_esc (de_str)) (da_cons (de_esc (de_str)) (da_cons (de_esc (de_str)) (da_cons (de_esc (de_str)) (da_cons (de_esc (de_str)) (da_cons (de_esc (de_str)) (da_nil))))))))))))))) (dg_name sc_law.nd))
    (ds_cons (ds_for (passes_of rfl) rfl (di_seq (de_var)) (dg_name sc_law.nd) (ds_cons (ds_if (dt_w (dw_or (dt_cmp (od_ne hr.units) (de_callB (cd_repr gd (room_rep hr)) (by rfl) T.n_repr PyProof.Rows.boot_repr (da_cons (de_pk (de_call (ok_is_name T) (hr.mono (by decide)) gd (by rfl) T.m_is_name T.F_is_name.kp T.b_is_name (takes_of rfl rfl rfl rfl) hc (da_cons (de_esc (de_var)) (da_nil)))) (da_nil))) (de_callB (cd_repr gd (room_rep hr)) (by rfl) T.n_repr PyProof.Rows.boot_repr (da_cons (de_pk (de_call (ok_q_is_name T) (hr.mono (by decide)) gd (by rfl) T.m_q_is_name T.F_q_is_name.kp T.b_q_is_name (takes_of rfl rfl rfl rfl) hc (da_cons (de_esc (de_var)) (da_nil)))) (da_nil))) (nomark _)) (dw_or1 (dt_cmp (od_ne hr.units) (de_callB (cd_repr gd (room_rep hr)) (by rfl) T.n_repr PyProof.Rows.boot_repr (da_cons (de_pk (de_call (ok_number_in T) (hr.mono (by decide)) gd (by rfl) T.m_number_in T.F_number_in.kp T.b_number_in (takes_of rfl rfl rfl rfl) hc (da_cons (de_esc (de_var)) (da_nil)))) (da_nil))) (de_callB (cd_repr gd (room_rep hr)) (by rfl) T.n_repr PyProof.Rows.boot_repr (da_cons (de_pk (de_call (ok_q_number T) (hr.mono (by decide)) gd (by rfl) T.m_q_number T.F_q_number.kp T.b_q_number (takes_of rfl rfl rfl rfl) hc (da_cons (de_esc (de_var)) (da_nil)))) (da_nil))) (nomark _))))) (ds_one (ds_ret (de_bl))) (ds_nil))
    (ds_one (ds_if (dt_w (dw_or (dt_cmp (od_ne hr.units) (de_call (ok_told T) (hr.mono (by decide)) gd (by rfl) T.m_told T.F_told.kp T.b_told (takes_of rfl rfl rfl rfl) hc (da_cons (de_esc (de_var)) (da_nil))) (de_ifExp (dt_cmp (od_eq hr.units) (de_var) (de_str) (nomark _)) (de_str) (de_var)) (nomark _)) (dw_or1 (dt_cmp (od_ne hr.units) (de_call (ok_untold T) (hr.mono (by decide)) gd (by rfl) T.m_untold T.F_untold.kp T.b_untold (takes_of rfl rfl rfl rfl) hc (da_cons (de_esc (de_var)) (da_nil))) (de_ifExp (dt_cmp (od_eq hr.units) (de_var) (de_str) (nomark _)) (de_str) (de_var)) (nomark _))))) (ds_one (ds_ret (de_bl))) (ds_nil)))))
    (ds_one (ds_ret (de_cmp (od_eq hr.units) (de_call (ok_untold T) (hr.mono (by decide)) gd (by rfl) T.m_untold T.F_untold.kp T.b_untold (takes_of rfl rfl rfl rfl) hc (da_cons (de_esc (de_call (ok_told T) (hr.mono (by decide)) gd (by rfl) T.m_told T.F_told.kp T.b_told (takes_of rfl rfl rfl rfl) hc (da_cons (de_esc (de_var)) (da_nil)))) (da_nil))) (de_var) (nomark _)))))))))))))
end
end Law

namespace Law
open DL PySem PySem.Spec L2
/-! the facts of the top -/
theorem all_mk {P : Program} {w : World} {K : PySem.W.Frag} {h : Heap} {mg : Str → Option Value} {fa : Addr} (X : K.In h) (G : h.Ns mainGlobals mg) (hfa : mg "law" = some (.ref fa))
    {f0 : Addr} {od0 an0 : Option Addr} {sl0 : Array (Option Value)} {oc0 kV0 dc0 pm0 cd0 ct0 : Value}
    {f1 : Addr} {od1 an1 : Option Addr} {sl1 : Array (Option Value)} {oc1 kV1 dc1 pm1 cd1 ct1 : Value}
    {f2 : Addr} {od2 an2 : Option Addr} {sl2 : Array (Option Value)} {oc2 kV2 dc2 pm2 cd2 ct2 : Value}
    {f3 : Addr} {od3 an3 : Option Addr} {sl3 : Array (Option Value)} {oc3 kV3 dc3 pm3 cd3 ct3 : Value}
    {f4 : Addr} {od4 an4 : Option Addr} {sl4 : Array (Option Value)} {oc4 kV4 dc4 pm4 cd4 ct4 : Value}
    {f5 : Addr} {od5 an5 : Option Addr} {sl5 : Array (Option Value)} {oc5 kV5 dc5 pm5 cd5 ct5 : Value}
    {f6 : Addr} {od6 an6 : Option Addr} {sl6 : Array (Option Value)} {oc6 kV6 dc6 pm6 cd6 ct6 : Value}
    {f7 : Addr} {od7 an7 : Option Addr} {sl7 : Array (Option Value)} {oc7 kV7 dc7 pm7 cd7 ct7 : Value}
    {f8 : Addr} {od8 an8 : Option Addr} {sl8 : Array (Option Value)} {oc8 kV8 dc8 pm8 cd8 ct8 : Value}
    {f9 : Addr} {od9 an9 : Option Addr} {sl9 : Array (Option Value)} {oc9 kV9 dc9 pm9 cd9 ct9 : Value}
    {f10 : Addr} {od10 an10 : Option Addr} {sl10 : Array (Option Value)} {oc10 kV10 dc10 pm10 cd10 ct10 : Value}
    {f11 : Addr} {od11 an11 : Option Addr} {sl11 : Array (Option Value)} {oc11 kV11 dc11 pm11 cd11 ct11 : Value}
    {tok_EMPTY : Tok}
    {tok_FIGURES : Tok}
    {tok_SIGNS : Tok}
    {tok_SMALL : Tok}
    (a0 : PySem.W.nsIn K mainGlobals "words_of" = some (some (.ref f0)))
    (l0 : K.lookup f0 = some ⟨oc0, od0, .func (PySem.W.fnOf "words_of" "words_of" (defArgs s_words_of) (defBody s_words_of) (defScope s_words_of) .none kV0 dc0 pm0 an0 cd0 ct0), sl0⟩)
    (c0 : PySem.W.codeIn K cd0 "words_of" = true)
    (k0 : PySem.W.keepIn K (.ref f0) = true)
    (a1 : PySem.W.nsIn K mainGlobals "is_name" = some (some (.ref f1)))
    (l1 : K.lookup f1 = some ⟨oc1, od1, .func (PySem.W.fnOf "is_name" "is_name" (defArgs s_is_name) (defBody s_is_name) (defScope s_is_name) .none kV1 dc1 pm1 an1 cd1 ct1), sl1⟩)
    (c1 : PySem.W.codeIn K cd1 "is_name" = true)
    (k1 : PySem.W.keepIn K (.ref f1) = true)
    (a2 : PySem.W.nsIn K mainGlobals "number_in" = some (some (.ref f2)))
    (l2 : K.lookup f2 = some ⟨oc2, od2, .func (PySem.W.fnOf "number_in" "number_in" (defArgs s_number_in) (defBody s_number_in) (defScope s_number_in) .none kV2 dc2 pm2 an2 cd2 ct2), sl2⟩)
    (c2 : PySem.W.codeIn K cd2 "number_in" = true)
    (k2 : PySem.W.keepIn K (.ref f2) = true)
    (a3 : PySem.W.nsIn K mainGlobals "told" = some (some (.ref f3)))
    (l3 : K.lookup f3 = some ⟨oc3, od3, .func (PySem.W.fnOf "told" "told" (defArgs s_told) (defBody s_told) (defScope s_told) .none kV3 dc3 pm3 an3 cd3 ct3), sl3⟩)
    (c3 : PySem.W.codeIn K cd3 "told" = true)
    (k3 : PySem.W.keepIn K (.ref f3) = true)
    (a4 : PySem.W.nsIn K mainGlobals "untold" = some (some (.ref f4)))
    (l4 : K.lookup f4 = some ⟨oc4, od4, .func (PySem.W.fnOf "untold" "untold" (defArgs s_untold) (defBody s_untold) (defScope s_untold) .none kV4 dc4 pm4 an4 cd4 ct4), sl4⟩)
    (c4 : PySem.W.codeIn K cd4 "untold" = true)
    (k4 : PySem.W.keepIn K (.ref f4) = true)
    (a5 : PySem.W.nsIn K mainGlobals "_law_cell" = some (some (.ref f5)))
    (l5 : K.lookup f5 = some ⟨oc5, od5, .func (PySem.W.fnOf "_law_cell" "_law_cell" (defArgs s_q_cell) (defBody s_q_cell) (defScope s_q_cell) .none kV5 dc5 pm5 an5 cd5 ct5), sl5⟩)
    (c5 : PySem.W.codeIn K cd5 "_law_cell" = true)
    (k5 : PySem.W.keepIn K (.ref f5) = true)
    (a6 : PySem.W.nsIn K mainGlobals "_law_values" = some (some (.ref f6)))
    (l6 : K.lookup f6 = some ⟨oc6, od6, .func (PySem.W.fnOf "_law_values" "_law_values" (defArgs s_q_values) (defBody s_q_values) (defScope s_q_values) .none kV6 dc6 pm6 an6 cd6 ct6), sl6⟩)
    (c6 : PySem.W.codeIn K cd6 "_law_values" = true)
    (k6 : PySem.W.keepIn K (.ref f6) = true)
    (a7 : PySem.W.nsIn K mainGlobals "_law_signs" = some (some (.ref f7)))
    (l7 : K.lookup f7 = some ⟨oc7, od7, .func (PySem.W.fnOf "_law_signs" "_law_signs" (defArgs s_q_signs) (defBody s_q_signs) (defScope s_q_signs) .none kV7 dc7 pm7 an7 cd7 ct7), sl7⟩)
    (c7 : PySem.W.codeIn K cd7 "_law_signs" = true)
    (k7 : PySem.W.keepIn K (.ref f7) = true)
    (a8 : PySem.W.nsIn K mainGlobals "_law_words" = some (some (.ref f8)))
    (l8 : K.lookup f8 = some ⟨oc8, od8, .func (PySem.W.fnOf "_law_words" "_law_words" (defArgs s_q_words) (defBody s_q_words) (defScope s_q_words) .none kV8 dc8 pm8 an8 cd8 ct8), sl8⟩)
    (c8 : PySem.W.codeIn K cd8 "_law_words" = true)
    (k8 : PySem.W.keepIn K (.ref f8) = true)
    (a9 : PySem.W.nsIn K mainGlobals "_law_is_name" = some (some (.ref f9)))
    (l9 : K.lookup f9 = some ⟨oc9, od9, .func (PySem.W.fnOf "_law_is_name" "_law_is_name" (defArgs s_q_is_name) (defBody s_q_is_name) (defScope s_q_is_name) .none kV9 dc9 pm9 an9 cd9 ct9), sl9⟩)
    (c9 : PySem.W.codeIn K cd9 "_law_is_name" = true)
    (k9 : PySem.W.keepIn K (.ref f9) = true)
    (a10 : PySem.W.nsIn K mainGlobals "_law_number" = some (some (.ref f10)))
    (l10 : K.lookup f10 = some ⟨oc10, od10, .func (PySem.W.fnOf "_law_number" "_law_number" (defArgs s_q_number) (defBody s_q_number) (defScope s_q_number) .none kV10 dc10 pm10 an10 cd10 ct10), sl10⟩)
    (c10 : PySem.W.codeIn K cd10 "_law_number" = true)
    (k10 : PySem.W.keepIn K (.ref f10) = true)
    (a11 : PySem.W.nsIn K mainGlobals "law" = some (some (.ref f11)))
    (l11 : K.lookup f11 = some ⟨oc11, od11, .func (PySem.W.fnOf "law" "law" (defArgs s_law) (defBody s_law) (defScope s_law) .none kV11 dc11 pm11 an11 cd11 ct11), sl11⟩)
    (c11 : PySem.W.codeIn K cd11 "law" = true)
    (k11 : PySem.W.keepIn K (.ref f11) = true)
    (n_all : PySem.W.nsIn K mainGlobals "all" = some none)
    (n_int : PySem.W.nsIn K mainGlobals "int" = some none)
    (n_len : PySem.W.nsIn K mainGlobals "len" = some none)
    (n_range : PySem.W.nsIn K mainGlobals "range" = some none)
    (n_repr : PySem.W.nsIn K mainGlobals "repr" = some none)
    (n_str : PySem.W.nsIn K mainGlobals "str" = some none)
    (v_EMPTY : PySem.W.nsIn K mainGlobals "EMPTY" = some (some (.str "-" tok_EMPTY)))
    (v_FIGURES : PySem.W.nsIn K mainGlobals "FIGURES" = some (some (.str "0123456789" tok_FIGURES)))
    (v_SIGNS : PySem.W.nsIn K mainGlobals "SIGNS" = some (some (.str "!\"#$&'()*+,-./0123456789:;<=>?@ABCDEFGHIJKLMNOPQRSTUVWXYZ[\\]^_`abcdefghijklmnopqrstuvwxyz{|}~" tok_SIGNS)))
    (v_SMALL : PySem.W.nsIn K mainGlobals "SMALL" = some (some (.str "abcdefghijklmnopqrstuvwxyz" tok_SMALL)))
    : ∃ (fd : FuncData) (cls : Str → Value), (∀ (s : Shared) (v : Value), BindsTo s fd ⟨[v], []⟩ [("_law_script", v)]) ∧ ∀ base : Heap, K.In base → base.Ns mainGlobals mg → FnG P w K mg base 3 fa fd ["_law_script"] (spD K cls none 1 f_law) := by
  have e := hfa.symm.trans (PySem.W.mg_of X G a11)
  cases e
  have F0 := fun_mk (st := s_words_of) l0 c0 k0
  have b0 := F0.binds (ps := ["line"]) fun _ _ _ _ _ _ us hl => match us, hl with | [_], _ => rfl
  have F1 := fun_mk (st := s_is_name) l1 c1 k1
  have b1 := F1.binds (ps := ["word"]) fun _ _ _ _ _ _ us hl => match us, hl with | [_], _ => rfl
  have F2 := fun_mk (st := s_number_in) l2 c2 k2
  have b2 := F2.binds (ps := ["word"]) fun _ _ _ _ _ _ us hl => match us, hl with | [_], _ => rfl
  have F3 := fun_mk (st := s_told) l3 c3 k3
  have b3 := F3.binds (ps := ["text"]) fun _ _ _ _ _ _ us hl => match us, hl with | [_], _ => rfl
  have F4 := fun_mk (st := s_untold) l4 c4 k4
  have b4 := F4.binds (ps := ["word"]) fun _ _ _ _ _ _ us hl => match us, hl with | [_], _ => rfl
  have F5 := fun_mk (st := s_q_cell) l5 c5 k5
  have b5 := F5.binds (ps := ["_law_script", "_law_k"]) fun _ _ _ _ _ _ us hl => match us, hl with | [_, _], _ => rfl
  have F6 := fun_mk (st := s_q_values) l6 c6 k6
  have b6 := F6.binds (ps := ["_law_cell_here", "_law_count", "_law_size"]) fun _ _ _ _ _ _ us hl => match us, hl with | [_, _, _], _ => rfl
  have F7 := fun_mk (st := s_q_signs) l7 c7 k7
  have b7 := F7.binds (ps := []) fun _ _ _ _ _ _ us hl => match us, hl with | [], _ => rfl
  have F8 := fun_mk (st := s_q_words) l8 c8 k8
  have b8 := F8.binds (ps := ["_law_line"]) fun _ _ _ _ _ _ us hl => match us, hl with | [_], _ => rfl
  have F9 := fun_mk (st := s_q_is_name) l9 c9 k9
  have b9 := F9.binds (ps := ["_law_word"]) fun _ _ _ _ _ _ us hl => match us, hl with | [_], _ => rfl
  have F10 := fun_mk (st := s_q_number) l10 c10 k10
  have b10 := F10.binds (ps := ["_law_word"]) fun _ _ _ _ _ _ us hl => match us, hl with | [_], _ => rfl
  have F11 := fun_mk (st := s_law) l11 c11 k11
  have b11 := F11.binds (ps := ["_law_script"]) fun _ _ _ _ _ _ us hl => match us, hl with | [_], _ => rfl
  let cls : Str → Value := fun s => (([] : List (Str × Value)).lookup s).getD .none
  let T : Tx K mg := {
    cls := cls
    a_words_of := f0, fd_words_of := _, F_words_of := F0, m_words_of := PySem.W.mg_of X G a0, b_words_of := b0
    a_is_name := f1, fd_is_name := _, F_is_name := F1, m_is_name := PySem.W.mg_of X G a1, b_is_name := b1
    a_number_in := f2, fd_number_in := _, F_number_in := F2, m_number_in := PySem.W.mg_of X G a2, b_number_in := b2
    a_told := f3, fd_told := _, F_told := F3, m_told := PySem.W.mg_of X G a3, b_told := b3
    a_untold := f4, fd_untold := _, F_untold := F4, m_untold := PySem.W.mg_of X G a4, b_untold := b4
    a_q_cell := f5, fd_q_cell := _, F_q_cell := F5, m_q_cell := PySem.W.mg_of X G a5, b_q_cell := b5
    a_q_values := f6, fd_q_values := _, F_q_values := F6, m_q_values := PySem.W.mg_of X G a6, b_q_values := b6
    a_q_signs := f7, fd_q_signs := _, F_q_signs := F7, m_q_signs := PySem.W.mg_of X G a7, b_q_signs := b7
    a_q_words := f8, fd_q_words := _, F_q_words := F8, m_q_words := PySem.W.mg_of X G a8, b_q_words := b8
    a_q_is_name := f9, fd_q_is_name := _, F_q_is_name := F9, m_q_is_name := PySem.W.mg_of X G a9, b_q_is_name := b9
    a_q_number := f10, fd_q_number := _, F_q_number := F10, m_q_number := PySem.W.mg_of X G a10, b_q_number := b10
    a_law := fa, fd_law := _, F_law := F11, m_law := PySem.W.mg_of X G a11, b_law := b11
    n_all := PySem.W.mg_none_of X G n_all
    n_int := PySem.W.mg_none_of X G n_int
    n_len := PySem.W.mg_none_of X G n_len
    n_range := PySem.W.mg_none_of X G n_range
    n_repr := PySem.W.mg_none_of X G n_repr
    n_str := PySem.W.mg_none_of X G n_str
    tok_EMPTY := tok_EMPTY, v_EMPTY := PySem.W.mg_of X G v_EMPTY
    tok_FIGURES := tok_FIGURES, v_FIGURES := PySem.W.mg_of X G v_FIGURES
    tok_SIGNS := tok_SIGNS, v_SIGNS := PySem.W.mg_of X G v_SIGNS
    tok_SMALL := tok_SMALL, v_SMALL := PySem.W.mg_of X G v_SMALL
  }
  exact ⟨_, cls, fun s v => .of_eq rfl, fun base _ _ => ok_law T⟩
end Law
open PySem PySem.W PyProof.Rows in
set_option maxRecDepth 100000 in
set_option maxHeartbeats 0 in
theorem PySem.Challenge.cw_leafturner_k88_words_of_lines_holds : PySem.Challenge.rw_leafturner_k88_words_of_lines.Holds := by
  w_on; o_law; k_head; (case hw => w_witness2)
  k_fill
  refine DL.walk_law (l := PySem.Challenge.rw_leafturner_k88_words_of_lines) (k := 3) (x := "_law_script") rfl rfl ⟨rfl, by decide, by decide⟩ (fun w h Y => PySem.W.kIn_of Y) Law.law_good ?F
  case F =>
    intro w mg fa h KX G hmg
    refine' Law.all_mk KX G hmg ?a0 ?l0 ?c0 ?k0 ?a1 ?l1 ?c1 ?k1 ?a2 ?l2 ?c2 ?k2 ?a3 ?l3 ?c3 ?k3 ?a4 ?l4 ?c4 ?k4 ?a5 ?l5 ?c5 ?k5 ?a6 ?l6 ?c6 ?k6 ?a7 ?l7 ?c7 ?k7 ?a8 ?l8 ?c8 ?k8 ?a9 ?l9 ?c9 ?k9 ?a10 ?l10 ?c10 ?k10 ?a11 ?l11 ?c11 ?k11 ?n_all ?n_int ?n_len ?n_range ?n_repr ?n_str ?v_EMPTY ?v_FIGURES ?v_SIGNS ?v_SMALL
    (case a0 => k_is)
    (case l0 => k_is)
    (case c0 => k_is)
    (case k0 => k_is)
    (case a1 => k_is)
    (case l1 => k_is)
    (case c1 => k_is)
    (case k1 => k_is)
    (case a2 => k_is)
    (case l2 => k_is)
    (case c2 => k_is)
    (case k2 => k_is)
    (case a3 => k_is)
    (case l3 => k_is)
    (case c3 => k_is)
    (case k3 => k_is)
    (case a4 => k_is)
    (case l4 => k_is)
    (case c4 => k_is)
    (case k4 => k_is)
    (case a5 => k_is)
    (case l5 => k_is)
    (case c5 => k_is)
    (case k5 => k_is)
    (case a6 => k_is)
    (case l6 => k_is)
    (case c6 => k_is)
    (case k6 => k_is)
    (case a7 => k_is)
    (case l7 => k_is)
    (case c7 => k_is)
    (case k7 => k_is)
    (case a8 => k_is)
    (case l8 => k_is)
    (case c8 => k_is)
    (case k8 => k_is)
    (case a9 => k_is)
    (case l9 => k_is)
    (case c9 => k_is)
    (case k9 => k_is)
    (case a10 => k_is)
    (case l10 => k_is)
    (case c10 => k_is)
    (case k10 => k_is)
    (case a11 => k_is)
    (case l11 => k_is)
    (case c11 => k_is)
    (case k11 => k_is)
    (case n_all => k_is)
    (case n_int => k_is)
    (case n_len => k_is)
    (case n_range => k_is)
    (case n_repr => k_is)
    (case n_str => k_is)
    (case v_EMPTY => k_is)
    (case v_FIGURES => k_is)
    (case v_SIGNS => k_is)
    (case v_SMALL => k_is)
