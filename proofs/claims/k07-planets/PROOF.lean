import PyProof.Rows.All
import Wide.All
import OpenK.AllK
import Wide.FinOn
import HandS.ForMost
import HandS.ForExc
import HandS.Wide
import HandS.Lambda
import HandS.TupAny
import HandS.TryMany
import HandS.CallSlots
import HandS.Iter
import HandS.Style
import HandS.EndTab
import HandS.EndOwn
import HandS.HeadWalk
import HandS.HeadHook1
import HandS.HeadHook4
import HandS.Head2
import HandS.WordsExc
import HandS.WideMore
import HandS.SortInts
import HandS.More
import HandS.AnyAll
import HandS.JoinGen
import HandS.GenList
import HandS.GenOver
import PyProof.GenCompD
import HandS.Conv
import HandS.Rev
import HandS.Zip
import HandS.DictComp
import HandS.WordsDict
import HandS.Deep
import HandS.Text
import HandS.RevRange
import KE.KExcSuper
import HandS.ExcInit
import HandS.ExcField
import HandS.RevTup
import KE.GoesEnum
import PySem.Challenge.RW_arborhall_k07_planets
set_option Elab.async false
set_option linter.all false
set_option maxRecDepth 100000
set_option maxHeartbeats 4000000
/-! Ar: values as plain data, an evaluator heap, and the relation to the hand layer's abstract heap -/
namespace Ar
open PySem PySem.Spec PyProof.Rows L2

/-- plain data: what does not change any more -/
inductive P where
  | non | bl (b : Bool) | int (i : Int) | str (x : Str)
  | tup (ps : List P) | lst (ps : List P) | dct (ks vs : List P) | dtt (ks vs : List P) | ins (c : Nat) (ns : List Str) (vs : List P)
  | scr (ns : List Int)
/-- a value: plain data, or a place of the evaluator heap -/
inductive D where
  | p (x : P) | loc (n : Nat)
/-- what stands at a place: a list, a dict of plain data; an instance, a list, a tuple whose items may be places; what was given away -/
inductive O where
  | lst (ps : List P) | dct (ks vs : List P) | dtt (ks vs : List P) | ins (c : Nat) (ns : List Str) (vs : List D) | rl (ds : List D) | rt (ds : List D) | dead
abbrev Env := List (Option D)
abbrev Hs := List O
inductive R (α : Type) where
  | ok (a : α) (h : Hs)
  | ex (c : Nat) (fs : List (Str × P)) (h : Hs)
  | bad
inductive S where
  | nx (e : Env) (h : Hs) | rt (d : D) (h : Hs) | bk (e : Env) (h : Hs) | ct (e : Env) (h : Hs)
  | ex (c : Nat) (fs : List (Str × P)) (e : Env) (h : Hs)
  | bad
abbrev FE := Env → Hs → R D
abbrev FT := Env → Hs → R Bool
abbrev FA := Env → Hs → R (List D)
abbrev FS := Env → Hs → S
abbrev Fn := List D → Hs → R D
def R.bind {α β : Type} (r : R α) (k : α → Hs → R β) : R β := match r with
  | .ok a h => k a h
  | .ex c fs h => .ex c fs h
  | .bad => .bad
def R.toS {α : Type} (r : R α) (e : Env) (k : α → Hs → S) : S := match r with
  | .ok a h => k a h
  | .ex c fs h => .ex c fs e h
  | .bad => .bad

/-! ### the relation -/
def Sub (G H : Hp) : Prop := ∀ a o, G a = some o → H a = some o
theorem Sub.refl (G : Hp) : Sub G G := fun _ _ h => h
theorem Sub.trans {A B C : Hp} (h : Sub A B) (k : Sub B C) : Sub A C := fun a o e => k a o (h a o e)
theorem Sub.rd {G H : Hp} {a : Addr} {u : HO} (s : Sub G H) (h : Rd G a u) : Rd H a u := by
  rcases h with h | ⟨o, h⟩
  · exact .inl (s _ _ h)
  · exact .inr ⟨o, s _ _ h⟩
theorem Sub.sqL {K : PySem.W.Frag} {G H : Hp} {a : Addr} {xs : List V} (s : Sub G H) (h : SqL K G a xs) : SqL K H a xs := by
  rcases h with h | h
  · exact .inl (s.rd h)
  · exact .inr h
theorem Sub.sqT {K : PySem.W.Frag} {G H : Hp} {a : Addr} {xs : List V} (s : Sub G H) (h : SqT K G a xs) : SqT K H a xs := by
  rcases h with h | h
  · exact .inl (s.rd h)
  · exact .inr h
theorem Sub.new {G H : Hp} {p : Addr} {o : HO} (s : Sub G H) (hp : H p = none) : Sub (upd G p o) (upd H p o) := fun a u e => by
  by_cases h : a = p
  · subst h; rw [upd_same] at e ⊢; exact e
  · rw [upd_ne h] at e ⊢; exact s _ _ e
theorem sub_upd {G : Hp} {p : Addr} {o : HO} (hp : G p = none) : Sub G (upd G p o) := fun a u e => by rw [upd_ne (ne_of_none e hp)]; exact e

/-- what the text is: where its classes stand, its constant tuples -/
structure Tx where
  C : Nat → Addr
  consts : List (Addr × List Int)
  tabs : List (Addr × Str)
  ex : Bool
/-- what a constant tuple may be -/
def constLists : List (List Int) := [[0, 1], [1, 1], [31, 28, 31, 30, 31, 30, 31, 31, 30, 31, 30, 31]]
def notTbl (o : HO) : Prop := ∀ ps, o ≠ .tbl ps
def plainO (o : HO) : Prop := notTbl o ∧ ∀ ob u, o ≠ .frz ob u
def keyP : Key → P
  | .inl i => .int i
  | .inr x => .str x
/-- a list; in the exact reading perhaps known to the object -/
def LstAt (cs : Tx) (G : Hp) (a : Addr) (xs : List V) : Prop := Rd G a (.lst xs) ∧ (cs.ex = false → G a = some (.lst xs))
/-- an instance; in the exact reading perhaps known to the object, and so its dict -/
def InsAt (cs : Tx) (G : Hp) (a C dx : Addr) (fs : List (Str × V)) : Prop := G a = some (.ins C dx fs) ∨ (cs.ex = true ∧ dx ≠ a ∧ G a = some (.frz (PySem.W.instObj C dx) (.own a)) ∧ ∃ od, G dx = some (.frz od (.xd fs)))
theorem LstAt.new {cs : Tx} {G : Hp} {a : Addr} {xs : List V} (h : G a = some (.lst xs)) : LstAt cs G a xs := ⟨.inl h, fun _ => h⟩
theorem LstAt.mono {cs : Tx} {G G' : Hp} {a : Addr} {xs : List V} (s : Sub G G') (h : LstAt cs G a xs) : LstAt cs G' a xs := ⟨s.rd h.1, fun e => s _ _ (h.2 e)⟩
theorem InsAt.mono {cs : Tx} {G G' : Hp} {a C dx : Addr} {fs : List (Str × V)} (s : Sub G G') (h : InsAt cs G a C dx fs) : InsAt cs G' a C dx fs := by
  rcases h with h | ⟨e, ne, h, od, h2⟩
  · exact .inl (s _ _ h)
  · exact .inr ⟨e, ne, s _ _ h, od, s _ _ h2⟩
mutual
/-- plain data at a value, its objects among the frozen ones -/
inductive RP (K : PySem.W.Frag) (cs : Tx) (G : Hp) : P → V → Prop
  | non : RP K cs G .non .non
  | bl (b : Bool) : RP K cs G (.bl b) (.bl b)
  | int (i : Int) : RP K cs G (.int i) (.int i)
  | str (x : Str) : RP K cs G (.str x) (.str x)
  | tup {a : Addr} {ps : List P} {xs : List V} : Rd G a (.tup xs) → RPs K cs G ps xs → RP K cs G (.tup ps) (.ref a)
  | lst {a : Addr} {ps : List P} {xs : List V} : LstAt cs G a xs → RPs K cs G ps xs → RP K cs G (.lst ps) (.ref a)
  | dct {a : Addr} {ks vs : List P} {kvs : List (Key × V)} : (∃ od, G a = some (.frz od (.dK kvs))) → ks = kvs.map (fun q => keyP q.1) → RPs K cs G vs (kvs.map (·.2)) → RP K cs G (.dct ks vs) (.ref a)
  | dctT {a : Addr} {ks vs : List P} {kvs : List (List Key × V)} : (∃ od, G a = some (.frz od (.dT kvs))) → ks = kvs.map (fun q => P.tup (q.1.map keyP)) → RPs K cs G vs (kvs.map (·.2)) → RP K cs G (.dtt ks vs) (.ref a)
  | scr {a : Addr} {ns : List Int} : SqL K G a (ns.map V.int) → RP K cs G (.scr ns) (.ref a)
  | ins {a dx : Addr} {c : Nat} {ns : List Str} {vs : List P} {fs : List (Str × V)} : InsAt cs G a (cs.C c) dx fs → ns = fs.map (·.1) → RPs K cs G vs (fs.map (·.2)) → RP K cs G (.ins c ns vs) (.ref a)
inductive RPs (K : PySem.W.Frag) (cs : Tx) (G : Hp) : List P → List V → Prop
  | nil : RPs K cs G [] []
  | cons {p : P} {v : V} {ps : List P} {vs : List V} : RP K cs G p v → RPs K cs G ps vs → RPs K cs G (p :: ps) (v :: vs)
end
section
variable {K : PySem.W.Frag} {cs : Tx} {G G' : Hp}
mutual
theorem RP.mono (s : Sub G G') : ∀ {p : P} {v : V}, RP K cs G p v → RP K cs G' p v
  | _, _, .non => .non
  | _, _, .bl b => .bl b
  | _, _, .int i => .int i
  | _, _, .str x => .str x
  | _, _, .tup h r => .tup (s.rd h) (RPs.mono s r)
  | _, _, .lst h r => .lst (h.mono s) (RPs.mono s r)
  | _, _, .scr h => .scr (s.sqL h)
  | _, _, .dct ⟨od, h⟩ e r => .dct ⟨od, s _ _ h⟩ e (RPs.mono s r)
  | _, _, .dctT ⟨od, h⟩ e r => .dctT ⟨od, s _ _ h⟩ e (RPs.mono s r)
  | _, _, .ins h e r => .ins (h.mono s) e (RPs.mono s r)
theorem RPs.mono (s : Sub G G') : ∀ {ps : List P} {vs : List V}, RPs K cs G ps vs → RPs K cs G' ps vs
  | _, _, .nil => .nil
  | _, _, .cons r t => .cons (RP.mono s r) (RPs.mono s t)
end
theorem RPs.length : ∀ {ps : List P} {vs : List V}, RPs K cs G ps vs → ps.length = vs.length
  | _, _, .nil => rfl
  | _, _, .cons _ t => by simp [RPs.length t]
theorem RPs.get : ∀ {ps : List P} {vs : List V} {i : Nat} {p : P}, RPs K cs G ps vs → ps[i]? = some p → ∃ v, vs[i]? = some v ∧ RP K cs G p v
  | _, _, _, _, .nil, e => by simp at e
  | _, _, 0, p, .cons r _, e => by simp at e; subst e; exact ⟨_, rfl, r⟩
  | _, _, i + 1, p, .cons _ t, e => by
    obtain ⟨v, h1, h2⟩ := RPs.get (i := i) t (by simpa using e)
    exact ⟨v, by simpa using h1, h2⟩
theorem RPs.get' : ∀ {ps : List P} {vs : List V} {i : Nat} {v : V}, RPs K cs G ps vs → vs[i]? = some v → ∃ p, ps[i]? = some p ∧ RP K cs G p v
  | _, _, _, _, .nil, e => by simp at e
  | _, _, 0, p, .cons r _, e => by simp at e; subst e; exact ⟨_, rfl, r⟩
  | _, _, i + 1, p, .cons _ t, e => by
    obtain ⟨v, h1, h2⟩ := RPs.get' (i := i) t (by simpa using e)
    exact ⟨v, by simpa using h1, h2⟩
theorem RPs.append : ∀ {ps qs : List P} {vs ws : List V}, RPs K cs G ps vs → RPs K cs G qs ws → RPs K cs G (ps ++ qs) (vs ++ ws)
  | _, _, _, _, .nil, s => s
  | _, _, _, _, .cons r t, s => .cons r (RPs.append t s)
theorem RPs.set {p : P} {v : V} (r : RP K cs G p v) : ∀ {ps : List P} {vs : List V} (i : Nat), RPs K cs G ps vs → RPs K cs G (ps.set i p) (vs.set i v)
  | _, _, _, .nil => .nil
  | _, _, 0, .cons _ t => .cons r t
  | _, _, i + 1, .cons q t => .cons q (RPs.set r i t)
theorem RPs.take : ∀ {ps : List P} {vs : List V} (n : Nat), RPs K cs G ps vs → RPs K cs G (ps.take n) (vs.take n)
  | _, _, 0, _ => .nil
  | _, _, _ + 1, .nil => .nil
  | _, _, n + 1, .cons r t => .cons r (RPs.take n t)
theorem RPs.drop : ∀ {ps : List P} {vs : List V} (n : Nat), RPs K cs G ps vs → RPs K cs G (ps.drop n) (vs.drop n)
  | _, _, 0, r => r
  | _, _, _ + 1, .nil => .nil
  | _, _, n + 1, .cons _ t => RPs.drop n t
theorem RPs.none_of {ps : List P} {vs : List V} {i : Nat} (r : RPs K cs G ps vs) (e : ps[i]? = none) : vs[i]? = none := by
  have := r.length
  rw [List.getElem?_eq_none_iff] at e ⊢
  omega
end

/-- a value of the evaluator -/
inductive RD (K : PySem.W.Frag) (cs : Tx) (ρ : Nat → Addr) (G : Hp) (n : Nat) : D → V → Prop
  | p {x : P} {v : V} : RP K cs G x v → RD K cs ρ G n (.p x) v
  | loc {i : Nat} : i < n → RD K cs ρ G n (.loc i) (.ref (ρ i))
abbrev RDs (K : PySem.W.Frag) (cs : Tx) (ρ : Nat → Addr) (G : Hp) (n : Nat) : List D → List V → Prop := Paired (RD K cs ρ G n)

/-- the ghosts: where the evaluator's places stand; what is frozen -/
structure Gh where
  ρ : Nat → Addr
  G : Hp
/-- what stands at a place -/
def placed (o : HO) : Prop := plainO o ∧ ∀ φ, o ≠ .ext φ
/-- .. or known to its object since -/
def tplaced (o : HO) : Prop := (notTbl o ∧ True) ∧ ∀ φ, o ≠ .ext φ
theorem placed.t {o : HO} (p : placed o) : tplaced o := ⟨⟨p.1.1, trivial⟩, p.2⟩
def RO (K : PySem.W.Frag) (cs : Tx) (g : Gh) (n : Nat) (H : Hp) (a : Addr) : O → Prop
  | .lst ps => ∃ xs, H a = some (.lst xs) ∧ RPs K cs g.G ps xs
  | .dct ks vs => ∃ kvs : List (Key × V), H a = some (.dK kvs) ∧ ks = kvs.map (fun q => keyP q.1) ∧ RPs K cs g.G vs (kvs.map (·.2))
  | .dtt ks vs => ∃ kvs : List (List Key × V), H a = some (.dT kvs) ∧ ks = kvs.map (fun q => P.tup (q.1.map keyP)) ∧ RPs K cs g.G vs (kvs.map (·.2))
  | .ins c ns vs => ∃ dx fs, H a = some (.ins (cs.C c) dx fs) ∧ ns = fs.map (·.1) ∧ RDs K cs g.ρ g.G n vs (fs.map (·.2))
  | .rl ds => ∃ xs, H a = some (.lst xs) ∧ RDs K cs g.ρ g.G n ds xs
  | .rt ds => ∃ xs, H a = some (.tup xs) ∧ RDs K cs g.ρ g.G n ds xs
  | .dead => ∃ u, H a = some u ∧ tplaced u
/-- what may be known to its object -/
def FzOk (cs : Tx) (u : HO) : Prop := (∃ ns ∈ constLists, u = .tup (ns.map V.int)) ∨ (∃ xs, u = .lst xs) ∨ cs.ex = true ∨ (∃ kvs, u = .dK kvs) ∨ (∃ kvs, u = .dT kvs)
structure Rel (K : PySem.W.Frag) (cs : Tx) (g : Gh) (h : Hs) (H : Hp) : Prop where
  sub : Sub g.G H
  inj : ∀ i j, i < h.length → j < h.length → g.ρ i = g.ρ j → i = j
  at_ : ∀ i o, h[i]? = some o → RO K cs g h.length H (g.ρ i) o
  off : ∀ i o, h[i]? = some o → o ≠ .dead → g.G (g.ρ i) = none
  cst : ∀ q ∈ cs.consts, Rd g.G q.1 (.tup (q.2.map V.int))
  fz : ∀ a o u, g.G a = some (.frz o u) → FzOk cs u
  ntb : ∀ a ps, g.G a ≠ some (.tbl ps)
  tabs : LamX.Tabs cs.tabs H
def REnv (K : PySem.W.Frag) (cs : Tx) (g : Gh) (n : Nat) (env : Env) (σ : L2.St) : Prop :=
  env.length = σ.length ∧ ∀ (i : Nat) (d : D), env[i]? = some (some d) → ∃ v, σ[i]? = some (some v) ∧ RD K cs g.ρ g.G n d v
/-- from one state to a later one, n places then, n' now -/
structure Step (g : Gh) (n : Nat) (H : Hp) (g' : Gh) (n' : Nat) (H' : Hp) : Prop where
  le : n ≤ n'
  ext : ∀ i, i < n → g'.ρ i = g.ρ i
  sub : Sub g.G g'.G
  keep : ∀ a o, H a = some o → notTbl o → (∀ i, i < n → a ≠ g.ρ i) → H' a = some o
  steal : ∀ a o, H a = some o → notTbl o → (∀ i, i < n → a ≠ g.ρ i) → g.G a = none → g'.G a = none
  new : ∀ i, n ≤ i → i < n' → ∀ o, H (g'.ρ i) = some o → notTbl o → False
  stay : ∀ a o, H a = some o → notTbl o → ∃ o', H' a = some o' ∧ notTbl o'
section
variable {K : PySem.W.Frag} {cs : Tx} {g g1 g2 : Gh} {n n1 n2 : Nat} {H H1 H2 : Hp}
theorem Step.refl : Step g n H g n H := ⟨Nat.le_refl _, fun _ _ => rfl, Sub.refl _, fun _ _ e _ _ => e, fun _ _ _ _ _ e => e, fun i h1 h2 => absurd h2 (by omega), fun _ o h k => ⟨o, h, k⟩⟩
theorem Step.trans (a : Step g n H g1 n1 H1) (b : Step g1 n1 H1 g2 n2 H2) : Step g n H g2 n2 H2 where
  le := Nat.le_trans a.le b.le
  ext := fun i hi => (b.ext i (Nat.lt_of_lt_of_le hi a.le)).trans (a.ext i hi)
  sub := a.sub.trans b.sub
  keep := fun x o e nt hx => b.keep x o (a.keep x o e nt hx) nt fun i hi => by
    by_cases h : i < n
    · rw [a.ext i h]; exact hx i h
    · intro z
      exact a.new i (by omega) hi o (by rw [← z]; exact e) nt
  steal := fun x o e nt hx q => b.steal x o (a.keep x o e nt hx) nt (fun i hi => by
    by_cases h : i < n
    · rw [a.ext i h]; exact hx i h
    · intro z
      exact a.new i (by omega) hi o (by rw [← z]; exact e) nt) (a.steal x o e nt hx q)
  new := fun i h1 h2 o e nt => by
    by_cases h : i < n1
    · rw [b.ext i h] at e; exact a.new i h1 h o e nt
    · obtain ⟨o', e', nt'⟩ := a.stay _ o e nt
      exact b.new i (by omega) h2 o' e' nt'
  stay := fun x o e nt => let ⟨o', e', nt'⟩ := a.stay x o e nt; b.stay x o' e' nt'
/-- what of a step the walks need -/
structure Soft (g : Gh) (n : Nat) (g' : Gh) (n' : Nat) : Prop where
  le : n ≤ n'
  ext : ∀ i, i < n → g'.ρ i = g.ρ i
  sub : Sub g.G g'.G
theorem Step.soft (s : Step g n H g1 n1 H1) : Soft g n g1 n1 := ⟨s.le, s.ext, s.sub⟩
theorem Soft.refl : Soft g n g n := ⟨Nat.le_refl _, fun _ _ => rfl, Sub.refl _⟩
theorem Soft.trans (a : Soft g n g1 n1) (b : Soft g1 n1 g2 n2) : Soft g n g2 n2 := ⟨Nat.le_trans a.le b.le, fun i hi => (b.ext i (Nat.lt_of_lt_of_le hi a.le)).trans (a.ext i hi), a.sub.trans b.sub⟩
theorem RD.soft {d : D} {v : V} (s : Soft g n g1 n1) (r : RD K cs g.ρ g.G n d v) : RD K cs g1.ρ g1.G n1 d v := by
  cases r with
  | p r => exact .p (r.mono s.sub)
  | loc h => rename_i i; rw [← s.ext i h]; exact .loc (Nat.lt_of_lt_of_le h s.le)
theorem REnv.soft {env : Env} {σ : L2.St} (s : Soft g n g1 n1) (r : REnv K cs g n env σ) : REnv K cs g1 n1 env σ :=
  ⟨r.1, fun i d e => let ⟨v, h1, h2⟩ := r.2 i d e; ⟨v, h1, h2.soft s⟩⟩
theorem RD.step {d : D} {v : V} (s : Step g n H g1 n1 H1) (r : RD K cs g.ρ g.G n d v) : RD K cs g1.ρ g1.G n1 d v := by
  cases r with
  | p r => exact .p (r.mono s.sub)
  | loc h => rename_i i; rw [← s.ext i h]; exact .loc (Nat.lt_of_lt_of_le h s.le)
theorem RDs.step {ds : List D} {vs : List V} (s : Step g n H g1 n1 H1) (r : RDs K cs g.ρ g.G n ds vs) : RDs K cs g1.ρ g1.G n1 ds vs := L2.Paired.mapP r fun _ _ q => q.step s
theorem REnv.step {env : Env} {σ : L2.St} (s : Step g n H g1 n1 H1) (r : REnv K cs g n env σ) : REnv K cs g1 n1 env σ :=
  ⟨r.1, fun i d e => let ⟨v, h1, h2⟩ := r.2 i d e; ⟨v, h1, h2.step s⟩⟩
theorem REnv.set {env : Env} {σ : L2.St} {d : D} {v : V} (i : Nat) (r : REnv K cs g n env σ) (q : RD K cs g.ρ g.G n d v) : REnv K cs g n (env.set i (some d)) (σ.set i (some v)) := by
  refine ⟨by simpa using r.1, fun j e h => ?_⟩
  by_cases hj : j = i
  · subst hj
    have hlt : j < env.length := by
      have := (List.getElem?_eq_some_iff.mp h).1
      simpa using this
    rw [List.getElem?_set_self hlt] at h
    cases h
    exact ⟨v, by rw [List.getElem?_set_self (by rw [← r.1]; exact hlt)], q⟩
  · rw [List.getElem?_set_ne (Ne.symm hj)] at h
    obtain ⟨w, h1, h2⟩ := r.2 j e h
    exact ⟨w, by rw [List.getElem?_set_ne (Ne.symm hj)]; exact h1, h2⟩
theorem REnv.unset {env : Env} {σ : L2.St} (i : Nat) (r : REnv K cs g n env σ) : REnv K cs g n (env.set i none) (σ.set i none) := by
  refine ⟨by simpa using r.1, fun j e h => ?_⟩
  by_cases hj : j = i
  · subst hj
    have hlt : j < env.length := by
      have := (List.getElem?_eq_some_iff.mp h).1
      simpa using this
    rw [List.getElem?_set_self hlt] at h
    cases h
  · rw [List.getElem?_set_ne (Ne.symm hj)] at h
    obtain ⟨w, h1, h2⟩ := r.2 j e h
    exact ⟨w, by rw [List.getElem?_set_ne (Ne.symm hj)]; exact h1, h2⟩
theorem RDs.lift {ps : List P} {vs : List V} : RPs K cs g.G ps vs → RDs K cs g.ρ g.G n (ps.map D.p) vs
  | .nil => .nil
  | .cons r t => .cons (.p r) (RDs.lift t)
/-- all places forgotten -/
theorem Rel.forget {h : Hs} (r : Rel K cs g h H) : Rel K cs g [] H := ⟨r.sub, fun i j h => absurd h (Nat.not_lt_zero _), fun i o e => by simp at e, fun i o e => by simp at e, r.cst, r.fz, r.ntb, r.tabs⟩
theorem Rel.tracked {h : Hs} (r : Rel K cs g h H) {i : Nat} (hi : i < h.length) : H (g.ρ i) ≠ none := by
  intro z
  obtain ⟨o, e⟩ : ∃ o, h[i]? = some o := ⟨h[i], List.getElem?_eq_getElem hi⟩
  have q := r.at_ i o e
  cases o with
  | lst ps => obtain ⟨xs, q, _⟩ := q; rw [z] at q; cases q
  | dct ks vs => obtain ⟨kvs, q, _⟩ := q; rw [z] at q; cases q
  | dtt ks vs => obtain ⟨kvs, q, _⟩ := q; rw [z] at q; cases q
  | ins c ns vs => obtain ⟨dx, fs, q, _⟩ := q; rw [z] at q; cases q
  | rl ds => obtain ⟨xs, q, _⟩ := q; rw [z] at q; cases q
  | rt ds => obtain ⟨xs, q, _⟩ := q; rw [z] at q; cases q
  | dead => obtain ⟨u, q, _⟩ := q; rw [z] at q; cases q
theorem RO.step {a : Addr} {o : O} (s : Step g n H g1 n1 H1) (k : ∀ u, H a = some u → H1 a = some u) (r : RO K cs g n H a o) : RO K cs g1 n1 H1 a o := by
  cases o with
  | lst ps => obtain ⟨xs, q, r⟩ := r; exact ⟨xs, k _ q, r.mono s.sub⟩
  | dct ks vs => obtain ⟨kvs, q, e, r⟩ := r; exact ⟨kvs, k _ q, e, r.mono s.sub⟩
  | dtt ks vs => obtain ⟨kvs, q, e, r⟩ := r; exact ⟨kvs, k _ q, e, r.mono s.sub⟩
  | ins c ns vs => obtain ⟨dx, fs, q, e, r⟩ := r; exact ⟨dx, fs, k _ q, e, r.step s⟩
  | rl ds => obtain ⟨xs, q, r⟩ := r; exact ⟨xs, k _ q, r.step s⟩
  | rt ds => obtain ⟨xs, q, r⟩ := r; exact ⟨xs, k _ q, r.step s⟩
  | dead => obtain ⟨u, q, p⟩ := r; exact ⟨u, k _ q, p⟩
theorem Rel.fz_upd {h : Hs} {p : Addr} {o : HO} (r : Rel K cs g h H) (hp : g.G p = none) (hf : ∀ ob u, o ≠ .frz ob u) : ∀ a ob u, upd g.G p o a = some (.frz ob u) → FzOk cs u := fun a ob u e => by
  by_cases ha : a = p
  · subst ha; rw [upd_same] at e; exact absurd (Option.some.inj e) (hf _ _)
  · rw [upd_ne ha] at e; exact r.fz a ob u e
theorem Rel.ntb_upd {h : Hs} {p : Addr} {o : HO} (r : Rel K cs g h H) (hp : g.G p = none) (ht : notTbl o) : ∀ a ps, upd g.G p o a ≠ some (.tbl ps) := fun a ps e => by
  by_cases ha : a = p
  · subst ha; rw [upd_same] at e; exact absurd (Option.some.inj e) (ht _)
  · rw [upd_ne ha] at e; exact r.ntb a ps e
/-- the places of before, what is frozen grown by a new object -/
theorem Rel.frozen {h : Hs} {p : Addr} {o : HO} (r : Rel K cs g h H) (hp : H p = none) (ho : plainO o := by exact ⟨fun _ z => (nomatch z), fun _ _ z => (nomatch z)⟩) : Rel K cs ⟨g.ρ, upd g.G p o⟩ h (upd H p o) ∧ Step g h.length H ⟨g.ρ, upd g.G p o⟩ h.length (upd H p o) := by
  have gp : g.G p = none := by
    cases z : g.G p with
    | none => rfl
    | some u => rw [r.sub _ _ z] at hp; cases hp
  have s : Step g h.length H ⟨g.ρ, upd g.G p o⟩ h.length (upd H p o) := ⟨Nat.le_refl _, fun _ _ => rfl, sub_upd gp, fun a u e _ _ => by rw [upd_ne (ne_of_none e hp)]; exact e,
    fun a u e _ _ q => by
      show upd g.G p o a = _
      rw [upd_ne (ne_of_none e hp)]; exact q, fun i h1 h2 => absurd h2 (by omega), fun a u e nt => ⟨u, by rw [upd_ne (ne_of_none e hp)]; exact e, nt⟩⟩
  have ne : ∀ i, i < h.length → g.ρ i ≠ p := fun i hi z => r.tracked hi (by rw [z]; exact hp)
  refine ⟨⟨r.sub.new hp, r.inj, fun i u e => (r.at_ i u e).step s fun w hw => ?_, fun i u e hd => ?_, fun q hq => Sub.rd s.sub (r.cst q hq), r.fz_upd gp ho.2, r.ntb_upd gp ho.1, r.tabs.ext fun b u e => by rw [upd_ne (ne_of_none e hp)]; exact e⟩, s⟩
  · rw [upd_ne (ne i (List.getElem?_eq_some_iff.mp e).1)]; exact hw
  · show upd g.G p o (g.ρ i) = _
    rw [upd_ne (ne i (List.getElem?_eq_some_iff.mp e).1)]; exact r.off i u e hd
end
theorem tabs_of {T : List (Addr × Str)} {H H1 : Hp} (t : LamX.Tabs T H) (h1 : ∀ b ps, H b = some (.tbl ps) → H1 b = some (.tbl ps)) (h2 : ∀ b φ, H b = some (.ext φ) → H1 b = some (.ext φ)) : LamX.Tabs T H1 := fun p hp => by
  obtain ⟨ps, a1, a2, a3⟩ := t p hp
  exact ⟨ps, h1 _ _ a1, a2, fun pos cv hc => let ⟨c, e1, e2⟩ := a3 pos cv hc; ⟨c, e1, h2 _ _ e2⟩⟩
theorem RO.plain {K : PySem.W.Frag} {cs : Tx} {g : Gh} {n : Nat} {H : Hp} {a : Addr} {o : O} (r : RO K cs g n H a o) (hd : o ≠ .dead) : ∃ u, H a = some u ∧ placed u := by
  cases o with
  | lst ps => obtain ⟨xs, q, _⟩ := r; exact ⟨_, q, ⟨fun _ z => (nomatch z), fun _ _ z => (nomatch z)⟩, fun _ z => (nomatch z)⟩
  | dct ks vs => obtain ⟨kvs, q, _⟩ := r; exact ⟨_, q, ⟨fun _ z => (nomatch z), fun _ _ z => (nomatch z)⟩, fun _ z => (nomatch z)⟩
  | dtt ks vs => obtain ⟨kvs, q, _⟩ := r; exact ⟨_, q, ⟨fun _ z => (nomatch z), fun _ _ z => (nomatch z)⟩, fun _ z => (nomatch z)⟩
  | ins c ns vs => obtain ⟨dx, fs, q, _⟩ := r; exact ⟨_, q, ⟨fun _ z => (nomatch z), fun _ _ z => (nomatch z)⟩, fun _ z => (nomatch z)⟩
  | rl ds => obtain ⟨xs, q, _⟩ := r; exact ⟨_, q, ⟨fun _ z => (nomatch z), fun _ _ z => (nomatch z)⟩, fun _ z => (nomatch z)⟩
  | rt ds => obtain ⟨xs, q, _⟩ := r; exact ⟨_, q, ⟨fun _ z => (nomatch z), fun _ _ z => (nomatch z)⟩, fun _ z => (nomatch z)⟩
  | dead => exact absurd rfl hd
theorem RO.placed {K : PySem.W.Frag} {cs : Tx} {g : Gh} {n : Nat} {H : Hp} {a : Addr} {o : O} (r : RO K cs g n H a o) : ∃ u, H a = some u ∧ tplaced u := by
  by_cases hd : o = .dead
  · subst hd; exact r
  · obtain ⟨u, e, p⟩ := r.plain hd; exact ⟨u, e, p.t⟩
/-- tables grown, code objects new -/
theorem Rel.extN {K : PySem.W.Frag} {cs : Tx} {g : Gh} {h : Hs} {H H1 : Hp} (r : Rel K cs g h H) (e : LamX.ExtN H H1) (t : LamX.Tabs cs.tabs H1) : Rel K cs g h H1 ∧ Step g h.length H g h.length H1 := by
  have S : Step g h.length H g h.length H1 := ⟨Nat.le_refl _, fun _ _ => rfl, Sub.refl _, fun a o q nt _ => e a o q nt, fun _ _ _ _ _ q => q, fun i h1 h2 => absurd h2 (by omega), fun a o q nt => ⟨o, e a o q nt, nt⟩⟩
  refine ⟨⟨fun a o q => e a o (r.sub a o q) fun ps z => r.ntb a ps (by rw [← z]; exact q), r.inj, fun i o q => ?_, r.off, r.cst, r.fz, r.ntb, t⟩, S⟩
  obtain ⟨w, e2, p⟩ := (r.at_ i o q).placed
  exact (r.at_ i o q).step S fun u z => e _ u z (by rw [e2] at z; cases z; exact p.1.1)
/-- a value that a rule hands back: as it is, or with one new frozen object -/
structure Gives (K : PySem.W.Frag) (cs : Tx) (G H : Hp) (z : P) (Q : VK) : Prop where
  same : ∀ v, RP K cs G z v → Q v H
  new : ∀ p o v, H p = none → plainO o → RP K cs (upd G p o) z v → Q v (upd H p o)
end Ar
namespace Ar
open PySem PySem.Spec PyProof.Rows L2

/-- an exception of the class c with fields fs -/
def RX (K : PySem.W.Frag) (cs : Tx) (g : Gh) (H : Hp) (c : Nat) (fs : List (Str × P)) (cls : Value) (dd : Option Addr) : Prop :=
  cls = .ref (cs.C c) ∧ ((fs = [] ∧ dd = none) ∨ ∃ d vs, dd = some d ∧ H d = some (.xd vs) ∧ fs.map (·.1) = vs.map (·.1) ∧ RPs K cs g.G (fs.map (·.2)) (vs.map (·.2)))
/-- what is wanted of a result -/
def EndR {α β : Type} (K : PySem.W.Frag) (cs : Tx) (rel : Gh → Nat → α → β → Prop) (W : WX) (σ : L2.St) (g : Gh) (n : Nat) (H : Hp) (Q : β → Hp → Prop) (r : R α) : Prop := match r with
  | .ok d h' => ∀ g' v H', Step g n H g' h'.length H' → Rel K cs g' h' H' → rel g' h'.length d v → Q v H'
  | .ex c fs h' => ∀ g' cls dd H', Step g n H g' h'.length H' → Rel K cs g' h' H' → RX K cs g' H' c fs cls dd → W cls dd σ H'
  | .bad => False
def tR {α β : Type} (K : PySem.W.Frag) (cs : Tx) (rel : Gh → Nat → α → β → Prop) (W : WX) (f : Env → Hs → R α) : L2.St → Hp → (β → Hp → Prop) → Prop := fun σ H Q =>
  ∃ (g : Gh) (env : Env) (h : Hs), Rel K cs g h H ∧ REnv K cs g h.length env σ ∧ EndR K cs rel W σ g h.length H Q (f env h)
abbrev relD (K : PySem.W.Frag) (cs : Tx) : Gh → Nat → D → V → Prop := fun g n d v => RD K cs g.ρ g.G n d v
abbrev relDs (K : PySem.W.Frag) (cs : Tx) : Gh → Nat → List D → List V → Prop := fun g n d v => RDs K cs g.ρ g.G n d v
abbrev relB : Gh → Nat → Bool → Bool → Prop := fun _ _ b c => b = c
abbrev tE (K : PySem.W.Frag) (cs : Tx) (W : WX) (f : FE) : TE := tR K cs (relD K cs) W f
abbrev tT (K : PySem.W.Frag) (cs : Tx) (W : WX) (f : FT) : TT := tR K cs relB W f
abbrev tA (K : PySem.W.Frag) (cs : Tx) (W : WX) (f : FA) : TA := tR K cs (relDs K cs) W f
/-- the model's run of an expression does what f computes -/
def GE (X : Cx) (cs : Tx) (e : Expr) (f : FE) : Prop := ∀ W, Takes X W → PE X e (tE X.K cs W f)
def GT (X : Cx) (cs : Tx) (e : Expr) (f : FT) : Prop := ∀ W, Takes X W → PT X e (tT X.K cs W f)
def GA (X : Cx) (cs : Tx) (es : List Expr) (f : FA) : Prop := ∀ W, Takes X W → PA X es (tA X.K cs W f)
/-- .. of a statement -/
def EndS (K : PySem.W.Frag) (cs : Tx) (W : WX) (g : Gh) (n : Nat) (H : Hp) (D' : Ends) (r : S) : Prop := match r with
  | .nx e h' => ∀ g' σ' H', Step g n H g' h'.length H' → Rel K cs g' h' H' → REnv K cs g' h'.length e σ' → D'.nx σ' H'
  | .rt d h' => ∀ g' v H', Step g n H g' h'.length H' → Rel K cs g' h' H' → RD K cs g'.ρ g'.G h'.length d v → D'.rt v H'
  | .bk e h' => ∀ g' σ' H', Step g n H g' h'.length H' → Rel K cs g' h' H' → REnv K cs g' h'.length e σ' → D'.bk σ' H'
  | .ct e h' => ∀ g' σ' H', Step g n H g' h'.length H' → Rel K cs g' h' H' → REnv K cs g' h'.length e σ' → D'.ct σ' H'
  | .ex c fs e h' => ∀ g' σ' cls dd H', Step g n H g' h'.length H' → Rel K cs g' h' H' → REnv K cs g' h'.length e σ' → RX K cs g' H' c fs cls dd → W cls dd σ' H'
  | .bad => False
def tS (K : PySem.W.Frag) (cs : Tx) (W : WX) (f : FS) : TS := fun D' σ H =>
  ∃ (g : Gh) (env : Env) (h : Hs), Rel K cs g h H ∧ REnv K cs g h.length env σ ∧ EndS K cs W g h.length H D' (f env h)
def GS (X : Cx) (cs : Tx) (st : Stmt) (f : FS) : Prop := ∀ W, Takes X W → PS X st (tS X.K cs W f)
def GSs (X : Cx) (cs : Tx) (st : List Stmt) (f : FS) : Prop := ∀ W, Takes X W → PSs X st (tS X.K cs W f)

section
variable {K : PySem.W.Frag} {cs : Tx} {α β γ δ : Type} {rel1 : Gh → Nat → α → β → Prop} {rel2 : Gh → Nat → γ → δ → Prop} {W : WX} {σ : L2.St} {g g1 : Gh} {n n1 : Nat} {H H1 : Hp}
theorem EndR.shift {Q : β → Hp → Prop} {r : R α} (s : Step g n H g1 n1 H1) (h : EndR K cs rel1 W σ g n H Q r) : EndR K cs rel1 W σ g1 n1 H1 Q r := by
  cases r with
  | ok d h' => exact fun g' v H' S R V => h g' v H' (s.trans S) R V
  | ex c fs h' => exact fun g' cls dd H' S R V => h g' cls dd H' (s.trans S) R V
  | bad => exact h
theorem EndS.shift {D' : Ends} {r : S} (s : Step g n H g1 n1 H1) (h : EndS K cs W g n H D' r) : EndS K cs W g1 n1 H1 D' r := by
  cases r with
  | nx e h' => exact fun g' σ' H' S => h g' σ' H' (s.trans S)
  | rt d h' => exact fun g' v H' S => h g' v H' (s.trans S)
  | bk e h' => exact fun g' σ' H' S => h g' σ' H' (s.trans S)
  | ct e h' => exact fun g' σ' H' S => h g' σ' H' (s.trans S)
  | ex c fs e h' => exact fun g' σ' cls dd H' S => h g' σ' cls dd H' (s.trans S)
  | bad => exact h
theorem EndR.of {Q : δ → Hp → Prop} {Q' : β → Hp → Prop} {r : R α} {k : α → Hs → R γ} (hb : EndR K cs rel2 W σ g n H Q (r.bind k))
    (hk : ∀ d h1 g1 v H1, r = .ok d h1 → Step g n H g1 h1.length H1 → Rel K cs g1 h1 H1 → rel1 g1 h1.length d v → EndR K cs rel2 W σ g1 h1.length H1 Q (k d h1) → Q' v H1) : EndR K cs rel1 W σ g n H Q' r := by
  cases r with
  | ok d h' => exact fun g' v H' S R V => hk d h' g' v H' rfl S R V (EndR.shift S hb)
  | ex c fs h' => exact hb
  | bad => exact hb
theorem EndR.ofS {D' : Ends} {Q' : β → Hp → Prop} {r : R α} {env : Env} {k : α → Hs → S} (E : REnv K cs g n env σ) (hb : EndS K cs W g n H D' (r.toS env k))
    (hk : ∀ d h1 g1 v H1, r = .ok d h1 → Step g n H g1 h1.length H1 → Rel K cs g1 h1 H1 → rel1 g1 h1.length d v → EndS K cs W g1 h1.length H1 D' (k d h1) → Q' v H1) : EndR K cs rel1 W σ g n H Q' r := by
  cases r with
  | ok d h' => exact fun g' v H' S R V => hk d h' g' v H' rfl S R V (EndS.shift S hb)
  | ex c fs h' => exact fun g' cls dd H' S R V => hb g' σ cls dd H' S R (E.step S) V
  | bad => exact hb
end

/-! ### weakening -/
section
variable {X : Cx} {cs : Tx}
theorem PE.imp {e : Expr} {t t' : TE} (h : PE X e t) (k : ∀ σ H Q, t' σ H Q → t σ H Q) : PE X e t' := ⟨fun pins s σ H Q I q => h.run pins s σ H Q I (k σ H Q q)⟩
theorem PT.imp {e : Expr} {t t' : TT} (h : PT X e t) (k : ∀ σ H Q, t' σ H Q → t σ H Q) : PT X e t' := ⟨fun pins s σ H Q I q => h.run pins s σ H Q I (k σ H Q q)⟩
theorem PW.imp {e : Expr} {t t' : TT} (h : PW X e t) (k : ∀ σ H Q, t' σ H Q → t σ H Q) : PW X e t' := ⟨fun wh pins s σ H Q I q => h.run wh pins s σ H Q I (k σ H Q q)⟩
theorem PA.imp {es : List Expr} {t t' : TA} (h : PA X es t) (k : ∀ σ H Q, t' σ H Q → t σ H Q) : PA X es t' := ⟨fun pos pins s σ H Q I q => h.run pos pins s σ H Q I (k σ H Q q)⟩
theorem PS.imp {st : Stmt} {t t' : TS} (h : PS X st t) (k : ∀ D' σ H, t' D' σ H → t D' σ H) : PS X st t' := ⟨fun pins s σ H D' I q => h.run pins s σ H D' I (k D' σ H q)⟩
theorem PSs.imp {st : List Stmt} {t t' : TS} (h : PSs X st t) (k : ∀ D' σ H, t' D' σ H → t D' σ H) : PSs X st t' := ⟨fun pins s σ H D' I q => h.run pins s σ H D' I (k D' σ H q)⟩

/-! ### names, constants -/
def cV (i : Nat) : FE := fun env h => match env[i]? with
  | some (some d) => .ok d h
  | _ => .bad
def cK (x : P) : FE := fun _ h => .ok (.p x) h
theorem gV (i : Nat) {x : Str} {pos : Pos} (hN : X.N[i]? = some x := by rfl) (hv : Vis X.env.scope x := by first | exact Or.inl rfl | exact Or.inr (Or.inl rfl) | exact Or.inr (Or.inr rfl)) (hd : (x == ("__debug__" : Str)) = false := by decide)
    (hcd : (x == ("__classdict__" : Str)) = false := by decide) : GE X cs (.Name x pos) (cV i) := fun W _ => by
  refine PE.imp (pe_var (i := i) hN hv hd hcd) fun σ H Q ⟨g, env, h, R, E, F⟩ => ?_
  unfold cV at F
  split at F
  · rename_i d e
    obtain ⟨v, e2, r⟩ := E.2 i d e
    exact ⟨v, e2, F g v H Step.refl R r⟩
  · exact F.elim
theorem gK {e : Expr} {x : P} {v : V} (h : PE X e (tC v)) (r : ∀ G, RP X.K cs G x v) : GE X cs e (cK x) := fun W _ => by
  refine PE.imp h fun σ H Q ⟨g, env, h, R, E, F⟩ => ?_
  exact F g v H Step.refl R (.p (r _))
theorem gInt {i j pos} : GE X cs (.Constant (.int i) j pos) (cK (.int i)) := gK pe_int fun _ => .int i
theorem gStr {x j pos} : GE X cs (.Constant (.str x) j pos) (cK (.str x)) := gK pe_str fun _ => .str x
theorem gBl {b j pos} : GE X cs (.Constant (.bool b) j pos) (cK (.bl b)) := gK pe_bl fun _ => .bl b
theorem gNon {j pos} : GE X cs (.Constant .none j pos) (cK .non) := gK pe_non fun _ => .non
/-- a constant of the module -/
theorem gGlob {x : Str} {v : V} {u : Value} {pos : Pos} {p : P} (hm : X.mg x = some u) (r : RelV v u) (rp : ∀ G, RP X.K cs G p v) (hg : Gl X x := by rfl) (hd : (x == ("__debug__" : Str)) = false := by decide) : GE X cs (.Name x pos) (cK p) := gK (pe_glob hg hm r hd) rp

/-! ### two operands -/
def OpOk (K : PySem.W.Frag) (cs : Tx) (r : R2) (o : P → P → Option P) : Prop := ∀ G H x y p q z Q, Sub G H → RP K cs G p x → RP K cs G q y → o p q = some z → Gives K cs G H z Q → r x y H Q
def ap2 (o : P → P → Option P) (d e : D) (h : Hs) : R D := match d, e with
  | .p x, .p y => (match o x y with
    | some z => .ok (.p z) h
    | none => .bad)
  | _, _ => .bad
def cOp (o : P → P → Option P) (fa fb : FE) : FE := fun env h => (fa env h).bind fun d h1 => (fb env h1).bind fun e h2 => ap2 o d e h2
theorem gives_of {K : PySem.W.Frag} {W : WX} {σ : L2.St} {g : Gh} {h : Hs} {H : Hp} {z : P} {Q : VK} (R : Rel K cs g h H) (F : EndR K cs (relD K cs) W σ g h.length H Q (.ok (.p z) h)) : Gives K cs g.G H z Q where
  same := fun v r => F g v H Step.refl R (.p r)
  new := fun p o v hp ho r => by
    obtain ⟨R', S'⟩ := R.frozen (o := o) hp ho
    exact F _ v _ S' R' (.p r)
theorem op_core {r : R2} {o : P → P → Option P} {fa fb : FE} {W : WX} (hk : OpOk X.K cs r o) {σ : L2.St} {H : Hp} {Q : VK} (h : tE X.K cs W (cOp o fa fb) σ H Q) : tOp r (tE X.K cs W fa) (tE X.K cs W fb) σ H Q := by
  obtain ⟨g, env, h, R, E, F⟩ := h
  refine ⟨g, env, h, R, E, F.of fun d h1 g1 x H1 _ S1 R1 V1 F1 => ⟨g1, env, h1, R1, E.step S1, F1.of fun e h2 g2 y H2 _ S2 R2 V2 F2 => ?_⟩⟩
  have V1' := V1.step S2
  unfold ap2 at F2
  cases V1' with
  | loc _ => exact F2.elim
  | p r1 =>
    cases V2 with
    | loc _ => exact F2.elim
    | p r2 =>
      simp only at F2
      split at F2
      · rename_i z e
        exact hk g2.G H2 x y _ _ z Q R2.sub r1 r2 e (gives_of R2 F2)
      · exact F2.elim
theorem gOp {op : Operator} {r : R2} {o : P → P → Option P} {a b : Expr} {fa fb : FE} {pos : Pos} (ho : OpR X (binaryOp op) r) (hk : OpOk X.K cs r o) (ga : GE X cs a fa) (gb : GE X cs b fb) : GE X cs (.BinOp a op b pos) (cOp o fa fb) := fun W tk =>
  PE.imp (pe_op ho (ga W tk) (gb W tk)) fun _ _ _ h => op_core hk h
/-- a comparison -/
theorem gCmp {op : CmpOp} {r : R2} {o : P → P → Option P} {a b : Expr} {fa fb : FE} {pos : Pos} (ho : OpR X (compareOp op) r) (hk : OpOk X.K cs r o) (ga : GE X cs a fa) (gb : GE X cs b fb) (hm : behindInMarks op b = false := by first | exact nomark _ | rfl) :
    GE X cs (.Compare a [op] [b] pos) (cOp o fa fb) := fun W tk => PE.imp (pe_cmpR ho (ga W tk) (gb W tk) hm) fun _ _ _ h => op_core hk h
/-- a value as a test -/
def toB (d : D) (h : Hs) : R Bool := match d with
  | .p (.bl b) => .ok b h
  | _ => .bad
def cT (f : FE) : FT := fun env h => (f env h).bind toB
theorem gCmpT {op : CmpOp} {r : R2} {o : P → P → Option P} {a b : Expr} {fa fb : FE} {pos : Pos} (ho : OpR X (compareOp op) r) (hk : OpOk X.K cs r o) (ga : GE X cs a fa) (gb : GE X cs b fb) (hm : behindInMarks op b = false := by first | exact nomark _ | rfl) :
    GT X cs (.Compare a [op] [b] pos) (cT (cOp o fa fb)) := fun W tk => by
  refine PT.imp (pt_cmpR ho (ga W tk) (gb W tk) hm) fun σ H Q ⟨g, env, h, R, E, F⟩ => ?_
  refine op_core hk ⟨g, env, h, R, E, F.of fun d h1 g1 x H1 _ S1 R1 V1 F1 => ?_⟩
  unfold toB at F1
  split at F1
  · rename_i b _
    cases V1 with
    | p r => cases r; exact ⟨b, rfl, F1 g1 b H1 Step.refl R1 rfl⟩
  · exact F1.elim
theorem gVT {e : Expr} {f : FE} (ge : GE X cs e f) (he : ∀ whole, isTrue e X.env whole = (do let v ← whole; standAt e.pos; holding [v] (truthy v)) := by intro _; rfl) : GT X cs e (cT f) := fun W tk => by
  refine PT.imp (pt_val (ge W tk) he) fun σ H Q ⟨g, env, h, R, E, F⟩ => ?_
  refine ⟨g, env, h, R, E, F.of fun d h1 g1 x H1 _ S1 R1 V1 F1 => ?_⟩
  unfold toB at F1
  split at F1
  · rename_i b _
    cases V1 with
    | p r => cases r; exact ⟨b, rfl, F1 g1 b H1 Step.refl R1 rfl⟩
  · exact F1.elim
/-! ### and, or, not; a if t else b -/
def cAndT (f k : FT) : FT := fun env h => (f env h).bind fun b h1 => match b with
  | true => k env h1
  | false => .ok false h1
def cOrT (f k : FT) : FT := fun env h => (f env h).bind fun b h1 => match b with
  | true => .ok true h1
  | false => k env h1
def cNotT (f : FT) : FT := fun env h => (f env h).bind fun b h1 => .ok (!b) h1
def GW (X : Cx) (cs : Tx) (e : Expr) (f : FT) : Prop := ∀ W, Takes X W → PW X e (tT X.K cs W f)
section
variable {a b : Expr} {rest : List Expr} {f k : FT} {pos : Pos}
theorem gw_and1 (ga : GT X cs a f) : GW X cs (.BoolOp .And [a] pos) f := fun W tk => pw_and1 (ga W tk)
theorem gw_or1 (ga : GT X cs a f) : GW X cs (.BoolOp .Or [a] pos) f := fun W tk => pw_or1 (ga W tk)
theorem gw_and (ga : GT X cs a f) (gb : GW X cs (.BoolOp .And (b :: rest) pos) k) : GW X cs (.BoolOp .And (a :: b :: rest) pos) (cAndT f k) := fun W tk => by
  refine PW.imp (pw_and (ga W tk) (gb W tk)) fun σ H Q ⟨g, env, h, R, E, F⟩ => ?_
  refine ⟨g, env, h, R, E, F.of fun d h1 g1 x H1 _ S1 R1 V1 F1 => ?_⟩
  obtain rfl : d = x := V1
  cases d with
  | true => exact ⟨g1, env, h1, R1, E.step S1, F1⟩
  | false => exact F1 g1 false H1 Step.refl R1 rfl
theorem gw_or (ga : GT X cs a f) (gb : GW X cs (.BoolOp .Or (b :: rest) pos) k) : GW X cs (.BoolOp .Or (a :: b :: rest) pos) (cOrT f k) := fun W tk => by
  refine PW.imp (pw_or (ga W tk) (gb W tk)) fun σ H Q ⟨g, env, h, R, E, F⟩ => ?_
  refine ⟨g, env, h, R, E, F.of fun d h1 g1 x H1 _ S1 R1 V1 F1 => ?_⟩
  obtain rfl : d = x := V1
  cases d with
  | false => exact ⟨g1, env, h1, R1, E.step S1, F1⟩
  | true => exact F1 g1 true H1 Step.refl R1 rfl
theorem gWT {e : Expr} (h : GW X cs e f) : GT X cs e f := fun W tk => (h W tk).pt
theorem gNotT (ga : GT X cs a f) : GT X cs (.UnaryOp .Not a pos) (cNotT f) := fun W tk => by
  refine PT.imp (pt_not (ga W tk)) fun σ H Q ⟨g, env, h, R, E, F⟩ => ?_
  refine ⟨g, env, h, R, E, F.of fun d h1 g1 x H1 _ S1 R1 V1 F1 => ?_⟩
  obtain rfl : d = x := V1
  exact F1 g1 _ H1 Step.refl R1 rfl
end
/-- .. as values -/
def cAndV (f k : FE) : FE := fun env h => (f env h).bind fun d h1 => match d with
  | .p (.bl true) => k env h1
  | .p (.bl false) => .ok (.p (.bl false)) h1
  | _ => .bad
def cOrV (f k : FE) : FE := fun env h => (f env h).bind fun d h1 => match d with
  | .p (.bl true) => .ok (.p (.bl true)) h1
  | .p (.bl false) => k env h1
  | _ => .bad
def cNotV (f : FE) : FE := fun env h => (f env h).bind fun d h1 => match d with
  | .p (.bl b) => .ok (.p (.bl (!b))) h1
  | _ => .bad
def cIf (c : FT) (f k : FE) : FE := fun env h => (c env h).bind fun b h1 => match b with
  | true => f env h1
  | false => k env h1
section
variable {a b c : Expr} {rest : List Expr} {f k : FE} {fc : FT} {pos : Pos}
theorem gOne {op} (ga : GE X cs a f) : GE X cs (.BoolOp op [a] pos) f := fun W tk => pe_one (ga W tk)
theorem gAndV (ga : GE X cs a f) (gb : GE X cs (.BoolOp .And (b :: rest) pos) k) : GE X cs (.BoolOp .And (a :: b :: rest) pos) (cAndV f k) := fun W tk => by
  refine PE.imp (pe_and (ga W tk) (gb W tk)) fun σ H Q ⟨g, env, h, R, E, F⟩ => ?_
  refine ⟨g, env, h, R, E, F.of fun d h1 g1 x H1 _ S1 R1 V1 F1 => ?_⟩
  split at F1
  · cases V1 with
    | p r => cases r; exact ⟨true, rfl, g1, env, h1, R1, E.step S1, F1⟩
  · cases V1 with
    | p r => cases r; exact ⟨false, rfl, F1 g1 _ H1 Step.refl R1 (.p (.bl false))⟩
  · exact F1.elim
theorem gOrV (ga : GE X cs a f) (gb : GE X cs (.BoolOp .Or (b :: rest) pos) k) : GE X cs (.BoolOp .Or (a :: b :: rest) pos) (cOrV f k) := fun W tk => by
  refine PE.imp (pe_or (ga W tk) (gb W tk)) fun σ H Q ⟨g, env, h, R, E, F⟩ => ?_
  refine ⟨g, env, h, R, E, F.of fun d h1 g1 x H1 _ S1 R1 V1 F1 => ?_⟩
  split at F1
  · cases V1 with
    | p r => cases r; exact ⟨true, rfl, F1 g1 _ H1 Step.refl R1 (.p (.bl true))⟩
  · cases V1 with
    | p r => cases r; exact ⟨false, rfl, g1, env, h1, R1, E.step S1, F1⟩
  · exact F1.elim
theorem gNotV (ga : GE X cs a f) : GE X cs (.UnaryOp .Not a pos) (cNotV f) := fun W tk => by
  refine PE.imp (pe_not (ga W tk)) fun σ H Q ⟨g, env, h, R, E, F⟩ => ?_
  refine ⟨g, env, h, R, E, F.of fun d h1 g1 x H1 _ S1 R1 V1 F1 => ?_⟩
  split at F1
  · rename_i b _
    cases V1 with
    | p r => cases r; exact ⟨b, rfl, F1 g1 _ H1 Step.refl R1 (.p (.bl (!b)))⟩
  · exact F1.elim
theorem gIf (gc : GT X cs c fc) (ga : GE X cs a f) (gb : GE X cs b k) : GE X cs (.IfExp c a b pos) (cIf fc f k) := fun W tk => by
  refine PE.imp (pe_ifExp (gc W tk) (ga W tk) (gb W tk)) fun σ H Q ⟨g, env, h, R, E, F⟩ => ?_
  refine ⟨g, env, h, R, E, F.of fun d h1 g1 x H1 _ S1 R1 V1 F1 => ?_⟩
  obtain rfl : d = x := V1
  cases d with
  | true => exact ⟨g1, env, h1, R1, E.step S1, F1⟩
  | false => exact ⟨g1, env, h1, R1, E.step S1, F1⟩
end
/-! ### one operand -/
def cNeg (f : FE) : FE := fun env h => (f env h).bind fun d h1 => match d with
  | .p (.int i) => .ok (.p (.int (-i))) h1
  | _ => .bad
theorem gNeg {a : Expr} {f : FE} {pos : Pos} (ga : GE X cs a f) : GE X cs (.UnaryOp .USub a pos) (cNeg f) := fun W tk => by
  refine PE.imp (pe_un un_neg (ga W tk)) fun σ H Q ⟨g, env, h, R, E, F⟩ => ?_
  refine ⟨g, env, h, R, E, F.of fun d h1 g1 x H1 _ S1 R1 V1 F1 => ?_⟩
  split at F1
  · rename_i i _
    cases V1 with
    | p r => cases r; exact ⟨i, rfl, F1 g1 _ H1 Step.refl R1 (.p (.int _))⟩
  · exact F1.elim
/-! ### argument lists -/
def aN : FA := fun _ h => .ok [] h
def aC (f : FE) (k : FA) : FA := fun env h => (f env h).bind fun d h1 => (k env h1).bind fun ds h2 => .ok (d :: ds) h2
theorem gaN : GA X cs [] aN := fun W _ => PA.imp pa_nil fun σ H Q ⟨g, env, h, R, E, F⟩ => F g [] H Step.refl R .nil
theorem gaC {e : Expr} {es : List Expr} {f : FE} {k : FA} (ge : GE X cs e f) (gr : GA X cs es k) (hs : starEach (e :: es) X.env = (false, eval e X.env) :: starEach es X.env := by rfl) : GA X cs (e :: es) (aC f k) := fun W tk => by
  refine PA.imp (pa_cons (ge W tk) (gr W tk) hs) fun σ H Q ⟨g, env, h, R, E, F⟩ => ?_
  refine ⟨g, env, h, R, E, F.of fun d h1 g1 x H1 _ S1 R1 V1 F1 => ⟨g1, env, h1, R1, E.step S1, F1.of fun ds h2 g2 xs H2 _ S2 R2 V2 F2 => ?_⟩⟩
  exact F2 g2 (x :: xs) H2 Step.refl R2 (.cons (V1.step S2) V2)
/-- all plain -/
def plain : List D → Option (List P)
  | [] => some []
  | .p x :: r => (match plain r with
    | some xs => some (x :: xs)
    | none => none)
  | .loc _ :: _ => none
theorem plain_rps {K : PySem.W.Frag} {g : Gh} {n : Nat} : ∀ {ds : List D} {vs : List V} {ps : List P}, RDs K cs g.ρ g.G n ds vs → plain ds = some ps → RPs K cs g.G ps vs
  | [], [], ps, _, e => by simp [plain] at e; subst e; exact .nil
  | .p x :: r, v :: vs, ps, .cons q t, e => by
    unfold plain at e
    split at e
    · rename_i xs e2
      cases e
      cases q with
      | p q => exact .cons q (plain_rps t e2)
    · cases e
  | .loc _ :: _, _, _, _, e => by simp [plain] at e
/-- a tuple, a list of plain data -/
def mkTup (ds : List D) (h : Hs) : R D := match plain ds with
  | some ps => if ps.length ≤ 1000 then .ok (.p (.tup ps)) h else .bad
  | none => .bad
def mkLst (ds : List D) (h : Hs) : R D := match plain ds with
  | some ps => if ps.length ≤ 1000 then .ok (.p (.lst ps)) h else .bad
  | none => .bad
def cTup (a : FA) : FE := fun env h => (a env h).bind mkTup
def cLst (a : FA) : FE := fun env h => (a env h).bind mkLst
theorem le1000 {n : Nat} (h : n ≤ 1000) : n ≤ sizeLine := by rw [sizeLine_eq]; omega
theorem gTup {es : List Expr} {f : FA} {k : Nat} {pos : Pos} (ga : GA X cs es f) : GE X cs (.Tuple es k pos) (cTup f) := fun W tk => by
  refine PE.imp (pe_tup (ga W tk)) fun σ H Q ⟨g, env, h, R, E, F⟩ => ?_
  refine ⟨g, env, h, R, E, F.of fun ds h1 g1 xs H1 _ S1 R1 V1 F1 => ?_⟩
  unfold mkTup at F1
  split at F1
  · rename_i ps e
    have r := plain_rps V1 e
    split at F1
    · rename_i hl
      refine ⟨by rw [← r.length]; exact le1000 hl, fun p hp => ?_⟩
      obtain ⟨R', S'⟩ := R1.frozen (o := .tup xs) hp
      exact F1 _ (.ref p) _ S' R' (.p (.tup (.inl upd_same) (r.mono S'.sub)))
    · exact F1.elim
  · exact F1.elim
theorem gLst {es : List Expr} {f : FA} {pos : Pos} (ga : GA X cs es f) : GE X cs (.List es pos) (cLst f) := fun W tk => by
  refine PE.imp (pe_lst (ga W tk)) fun σ H Q ⟨g, env, h, R, E, F⟩ => ?_
  refine ⟨g, env, h, R, E, F.of fun ds h1 g1 xs H1 _ S1 R1 V1 F1 => ?_⟩
  unfold mkLst at F1
  split at F1
  · rename_i ps e
    have r := plain_rps V1 e
    split at F1
    · rename_i hl
      refine ⟨by rw [← r.length]; exact le1000 hl, fun p hp => ?_⟩
      obtain ⟨R', S'⟩ := R1.frozen (o := .lst xs) hp
      exact F1 _ (.ref p) _ S' R' (.p (.lst (.new upd_same) (r.mono S'.sub)))
    · exact F1.elim
  · exact F1.elim
end
end Ar
namespace Ar
open PySem PySem.Spec PyProof.Rows L2

/-- a divisor that is small enough; factors that are -/
def okDiv (j : Int) : Bool := decide (j.natAbs.log2 < 9000)
def okMul (i j : Int) : Bool := decide (i.natAbs.log2 + j.natAbs.log2 < 1000000) || decide (-(2 ^ 64) < i ∧ i < 2 ^ 64) || decide (-(2 ^ 64) < j ∧ j < 2 ^ 64)
def okLen (n : Nat) : Bool := decide (n ≤ 16777216)
theorem okLen_le {n : Nat} (h : okLen n = true) : n ≤ sizeLine := by rw [sizeLine_eq]; exact of_decide_eq_true h
def b2z (b : Bool) : Int := if b then 1 else 0
def oAdd : P → P → Option P
  | .int i, .int j => some (.int (i + j))
  | .int i, .bl k => some (.int (i + b2i k))
  | .str x, .str y => if okLen (x.length + y.length) then some (.str (x ++ y)) else none
  | .tup a, .tup b => if okLen (a.length + b.length) then some (.tup (a ++ b)) else none
  | .lst a, .lst b => if okLen (a.length + b.length) then some (.lst (a ++ b)) else none
  | _, _ => none
def oSub : P → P → Option P
  | .int i, .int j => some (.int (i - j))
  | _, _ => none
def oMul : P → P → Option P
  | .int i, .int j => if okMul i j then some (.int (i * j)) else none
  | .lst a, .int k => if okLen (a.length * k.toNat) && decide (-(2 ^ 63) ≤ k ∧ k < 2 ^ 63) then some (.lst (List.replicate k.toNat a).flatten) else none
  | _, _ => none
def oDiv : P → P → Option P
  | .int i, .int j => if 0 < j then (if okDiv j then some (.int (i / j)) else none) else if j ≠ 0 ∧ j.natAbs < 1073741824 then some (.int (i.fdiv j)) else none
  | _, _ => none
def oMod : P → P → Option P
  | .int i, .int j => if 0 < j then some (.int (i % j)) else if j ≠ 0 then some (.int (i.fmod j)) else none
  | _, _ => none
def oPow : P → P → Option P
  | .int i, .int j => if 0 ≤ j ∧ j ≤ 1000000 ∧ i.natAbs < 2 ^ 64 then some (.int (i ^ j.toNat)) else none
  | _, _ => none
def oLt : P → P → Option P
  | .int i, .int j => some (.bl (decide (i < j)))
  | _, _ => none
def oLe : P → P → Option P
  | .int i, .int j => some (.bl (decide (i ≤ j)))
  | _, _ => none
def oGt : P → P → Option P
  | .int i, .int j => some (.bl (decide (j < i)))
  | _, _ => none
def oGe : P → P → Option P
  | .int i, .int j => some (.bl (decide (j ≤ i)))
  | _, _ => none
def oIs : P → P → Option P
  | x, .non => some (.bl (match x with | .non => true | _ => false))
  | _, _ => none
def oIsNot : P → P → Option P
  | x, .non => some (.bl (match x with | .non => false | _ => true))
  | _, _ => none

/-! ### == at any depth -/
def depLe : Nat → P → Bool
  | _, .non => true
  | _, .bl _ => true
  | _, .int _ => true
  | _, .str x => PyData.strOk x
  | n + 1, .tup ps => ps.all (depLe n)
  | n + 1, .lst ps => ps.all (depLe n)
  | _, _ => false
mutual
def eqP : P → P → Bool
  | .non, .non => true
  | .bl a, .bl b => a == b
  | .bl a, .int j => (if a then 1 else 0) == j
  | .int i, .bl b => i == (if b then 1 else 0)
  | .int i, .int j => i == j
  | .str x, .str y => x == y
  | .lst xs, .lst ys => eqPs xs ys
  | .tup xs, .tup ys => eqPs xs ys
  | _, _ => false
def eqPs : List P → List P → Bool
  | [], [] => true
  | x :: xs, y :: ys => eqP x y && eqPs xs ys
  | _, _ => false
end
mutual
def pd : P → PyData
  | .non => .none
  | .bl b => .bool b
  | .int i => .int i
  | .str x => .str x
  | .tup ps => .tuple (pds ps)
  | .lst ps => .list (pds ps)
  | _ => .none
def pds : List P → List PyData
  | [] => []
  | p :: ps => pd p :: pds ps
end
def okEq (x y : P) : Bool := match x, y with
  | .str _, .str _ => true
  | x, y => depLe 60 x && depLe 60 y
def oEq : P → P → Option P := fun x y => if okEq x y then some (.bl (eqP x y)) else none
def oNe : P → P → Option P := fun x y => if okEq x y then some (.bl (!eqP x y)) else none
theorem pd_shape : ∀ (n : Nat) (p : P), depLe n p = true → (pd p).canLay0 = true ∧ (pd p).depth ≤ n + 1
  | _, .non, _ => ⟨rfl, by simp [pd, PyData.depth]⟩
  | _, .bl _, _ => ⟨rfl, by simp [pd, PyData.depth]⟩
  | _, .int _, _ => ⟨rfl, by simp [pd, PyData.depth]⟩
  | _, .str x, h => ⟨by simpa [pd, PyData.canLay0, depLe] using h, by simp [pd, PyData.depth]⟩
  | n + 1, .tup ps, h => by
    have h' : ps.all (depLe n) = true := by simpa [depLe] using h
    have key : ∀ ps : List P, ps.all (depLe n) = true → PyData.canLayAll0 (pds ps) = true ∧ PyData.depthAll (pds ps) ≤ n + 1 := by
      intro ps
      induction ps with
      | nil => intro _; exact ⟨rfl, by simp [pds, PyData.depthAll]⟩
      | cons p r ih =>
        intro h
        simp only [List.all_cons, Bool.and_eq_true] at h
        obtain ⟨a, b⟩ := pd_shape n p h.1
        obtain ⟨c, d⟩ := ih h.2
        exact ⟨by simp [pds, PyData.canLayAll0, a, c], by simp only [pds, PyData.depthAll]; omega⟩
    obtain ⟨a, b⟩ := key ps h'
    exact ⟨by simpa [pd, PyData.canLay0] using a, by simp only [pd, PyData.depth]; omega⟩
  | n + 1, .lst ps, h => by
    have h' : ps.all (depLe n) = true := by simpa [depLe] using h
    have key : ∀ ps : List P, ps.all (depLe n) = true → PyData.canLayAll0 (pds ps) = true ∧ PyData.depthAll (pds ps) ≤ n + 1 := by
      intro ps
      induction ps with
      | nil => intro _; exact ⟨rfl, by simp [pds, PyData.depthAll]⟩
      | cons p r ih =>
        intro h
        simp only [List.all_cons, Bool.and_eq_true] at h
        obtain ⟨a, b⟩ := pd_shape n p h.1
        obtain ⟨c, d⟩ := ih h.2
        exact ⟨by simp [pds, PyData.canLayAll0, a, c], by simp only [pds, PyData.depthAll]; omega⟩
    obtain ⟨a, b⟩ := key ps h'
    exact ⟨by simpa [pd, PyData.canLay0] using a, by simp only [pd, PyData.depth]; omega⟩
  | 0, .tup ps, h => by simp [depLe] at h
  | 0, .lst ps, h => by simp [depLe] at h
  | _, .dct _ _, h => by simp [depLe] at h
  | _, .dtt _ _, h => by simp [depLe] at h
  | _, .ins _ _ _, h => by simp [depLe] at h
  | _, .scr _, h => by simp [depLe] at h
theorem shaped_pd {p : P} (h : depLe 60 p = true) : SeqAt.shaped (pd p) = true := by
  obtain ⟨a, b⟩ := pd_shape 60 p h
  unfold SeqAt.shaped
  rw [a, Bool.true_and]
  exact decide_eq_true (by omega)
section
variable {K : PySem.W.Frag} {cs : Tx} {G H : Hp}
theorem dp_of (s : Sub G H) : ∀ (n : Nat) (p : P) (v : V), depLe n p = true → RP K cs G p v → Dp K H v (pd p)
  | _, _, _, _, .non => .non
  | _, _, _, _, .bl b => .bl b
  | _, _, _, _, .int i => .int i
  | _, _, _, _, .str x => .str x
  | n + 1, .tup ps, _, h, .tup q r => by
    have h' : ps.all (depLe n) = true := by simpa [depLe] using h
    have key : ∀ (ps : List P) (vs : List V), ps.all (depLe n) = true → RPs K cs G ps vs → DpAll K H vs (pds ps) := by
      intro ps
      induction ps with
      | nil => intro vs _ r; cases r; exact .nil
      | cons p r ih =>
        intro vs h r
        simp only [List.all_cons, Bool.and_eq_true] at h
        cases r with
        | cons r t => exact .cons (dp_of s n p _ h.1 r) (ih _ h.2 t)
    exact .tup (.inl (s.rd q)) (key ps _ h' r)
  | n + 1, .lst ps, _, h, .lst q r => by
    have h' : ps.all (depLe n) = true := by simpa [depLe] using h
    have key : ∀ (ps : List P) (vs : List V), ps.all (depLe n) = true → RPs K cs G ps vs → DpAll K H vs (pds ps) := by
      intro ps
      induction ps with
      | nil => intro vs _ r; cases r; exact .nil
      | cons p r ih =>
        intro vs h r
        simp only [List.all_cons, Bool.and_eq_true] at h
        cases r with
        | cons r t => exact .cons (dp_of s n p _ h.1 r) (ih _ h.2 t)
    exact .lst (.inl (s.rd q.1)) (key ps _ h' r)
  | 0, .tup ps, _, h, _ => by simp [depLe] at h
  | 0, .lst ps, _, h, _ => by simp [depLe] at h
  | _, .dct _ _, _, h, _ => by simp [depLe] at h
  | _, .dtt _ _, _, h, _ => by simp [depLe] at h
  | _, .ins _ _ _, _, h, _ => by simp [depLe] at h
  | _, .scr _, _, h, _ => by simp [depLe] at h
mutual
theorem eqP_eqv : ∀ (x y : P) (n m : Nat), depLe n x = true → depLe m y = true → PyData.eqv (pd x) (pd y) = eqP x y
  | .non, y, n, m, hx, hy => by cases y <;> (try (simp [depLe] at hy; done)) <;> (cases m <;> simp [depLe] at hy) <;> simp [pd, PyData.eqv, eqP]
  | .bl _, y, n, m, hx, hy => by cases y <;> (try (simp [depLe] at hy; done)) <;> (cases m <;> simp [depLe] at hy) <;> simp [pd, PyData.eqv, eqP]
  | .int _, y, n, m, hx, hy => by cases y <;> (try (simp [depLe] at hy; done)) <;> (cases m <;> simp [depLe] at hy) <;> simp [pd, PyData.eqv, eqP]
  | .str _, y, n, m, hx, hy => by cases y <;> (try (simp [depLe] at hy; done)) <;> (cases m <;> simp [depLe] at hy) <;> simp [pd, PyData.eqv, eqP]
  | .tup xs, y, n, m, hx, hy => by
    cases n with
    | zero => simp [depLe] at hx
    | succ n =>
      cases y with
      | tup ys =>
        cases m with
        | zero => simp [depLe] at hy
        | succ m =>
          simp only [pd, PyData.eqv, eqP]
          exact eqPs_eqv xs ys n m (by simpa [depLe] using hx) (by simpa [depLe] using hy)
      | dct _ _ => simp [depLe] at hy
      | dtt _ _ => simp [depLe] at hy
      | ins _ _ _ => simp [depLe] at hy
      | scr _ => simp [depLe] at hy
      | _ => simp [pd, PyData.eqv, eqP]
  | .lst xs, y, n, m, hx, hy => by
    cases n with
    | zero => simp [depLe] at hx
    | succ n =>
      cases y with
      | lst ys =>
        cases m with
        | zero => simp [depLe] at hy
        | succ m =>
          simp only [pd, PyData.eqv, eqP]
          exact eqPs_eqv xs ys n m (by simpa [depLe] using hx) (by simpa [depLe] using hy)
      | dct _ _ => simp [depLe] at hy
      | dtt _ _ => simp [depLe] at hy
      | ins _ _ _ => simp [depLe] at hy
      | scr _ => simp [depLe] at hy
      | _ => simp [pd, PyData.eqv, eqP]
  | .dct _ _, y, n, m, hx, hy => by simp [depLe] at hx
  | .dtt _ _, y, n, m, hx, hy => by simp [depLe] at hx
  | .ins _ _ _, y, n, m, hx, hy => by simp [depLe] at hx
  | .scr _, y, n, m, hx, hy => by simp [depLe] at hx
theorem eqPs_eqv : ∀ (xs ys : List P) (n m : Nat), xs.all (depLe n) = true → ys.all (depLe m) = true → PyData.eqvAll (pds xs) (pds ys) = eqPs xs ys
  | [], [], _, _, _, _ => rfl
  | [], _ :: _, _, _, _, _ => by simp [pds, PyData.eqvAll, eqPs]
  | _ :: _, [], _, _, _, _ => by simp [pds, PyData.eqvAll, eqPs]
  | x :: xs, y :: ys, n, m, hx, hy => by
    simp only [List.all_cons, Bool.and_eq_true] at hx hy
    simp only [pds, PyData.eqvAll, eqPs]
    rw [eqP_eqv x y n m hx.1 hy.1, eqPs_eqv xs ys n m hx.2 hy.2]
end
end

/-! ### the rules -/
def rAddG (K : PySem.W.Frag) : R2 := fun x y H Q => (rI0 (fun i j => .int (i + j)) x y H Q) ∨ ((∃ i k, x = .int i ∧ y = .bl k ∧ Q (.int (i + b2i k)) H) ∨ ((∃ i j, x = .str i ∧ y = .str j ∧ i.length + j.length ≤ sizeLine ∧ Q (.str (i ++ j)) H) ∨ (rCatA K x y H Q ∨ rCat x y H Q)))
section
variable {X : Cx} {cs : Tx}
theorem op_addG : OpR X (binaryOp .Add) (rAddG X.K) := OpR.or op_add (OpR.or op_add_ib (OpR.or op_add_str (OpR.or op_catA op_cat)))
theorem ok_add (hx : cs.ex = false) : OpOk X.K cs (rAddG X.K) oAdd := fun G H x y p q z Q s rx ry e k => by
  unfold oAdd at e
  split at e
  · cases e; cases rx; cases ry; exact .inl ⟨_, _, rfl, rfl, k.same _ (.int _)⟩
  · cases e; cases rx; cases ry
    rename_i b
    refine .inr (.inl ⟨_, _, rfl, rfl, k.same _ ?_⟩)
    cases b <;> exact .int _
  · split at e
    · rename_i hl
      cases e; cases rx; cases ry; exact .inr (.inr (.inl ⟨_, _, rfl, rfl, okLen_le hl, k.same _ (.str _)⟩))
    · cases e
  · split at e
    · rename_i hl
      cases e
      cases rx with
      | tup h1 r1 =>
        cases ry with
        | tup h2 r2 =>
          refine .inr (.inr (.inr (.inl ⟨_, _, _, _, rfl, rfl, .inl (s.rd h1), .inl (s.rd h2), by rw [← r1.length, ← r2.length]; exact okLen_le hl, fun e => ?_, fun _ e => ?_, fun _ _ p hp => ?_⟩)))
          · subst e
            cases r1
            exact k.same _ (.tup h2 r2)
          · subst e
            cases r2
            rw [List.append_nil] at k
            exact k.same _ (.tup h1 r1)
          · exact k.new _ _ _ hp ⟨fun _ z => (nomatch z), fun _ _ z => (nomatch z)⟩ (.tup (.inl upd_same) ((r1.append r2).mono (sub_upd (by
              cases z : G p with
              | none => rfl
              | some u => rw [s _ _ z] at hp; cases hp))))
    · cases e
  · split at e
    · rename_i hl
      cases e
      cases rx with
      | lst h1 r1 =>
        cases ry with
        | lst h2 r2 =>
          refine .inr (.inr (.inr (.inr ⟨_, _, _, _, rfl, rfl, s _ _ (h1.2 hx), s _ _ (h2.2 hx), by rw [← r1.length, ← r2.length]; exact okLen_le hl, fun p hp => ?_⟩)))
          exact k.new _ _ _ hp ⟨fun _ z => (nomatch z), fun _ _ z => (nomatch z)⟩ (.lst (.new upd_same) ((r1.append r2).mono (sub_upd (by
              cases z : G p with
              | none => rfl
              | some u => rw [s _ _ z] at hp; cases hp))))
    · cases e
  · cases e
theorem ok_sub : OpOk X.K cs (rI0 fun i j => .int (i - j)) oSub := fun G H x y p q z Q s rx ry e k => by
  unfold oSub at e
  split at e
  · cases e; cases rx; cases ry; exact ⟨_, _, rfl, rfl, k.same _ (.int _)⟩
  · cases e
def rMulG : R2 := fun x y H Q => (rI CMulW (fun i j => .int (i * j)) x y H Q) ∨ (rI CMul (fun i j => .int (i * j)) x y H Q ∨ rRep x y H Q)
theorem op_mulG : OpR X (binaryOp .Mult) rMulG := OpR.or op_mulW (OpR.or op_mul op_rep)
theorem RPs.rep {K : PySem.W.Frag} {G : Hp} {ps : List P} {xs : List V} (r : RPs K cs G ps xs) : ∀ n : Nat, RPs K cs G (List.replicate n ps).flatten (List.replicate n xs).flatten
  | 0 => .nil
  | n + 1 => by
    rw [List.replicate_succ, List.replicate_succ, List.flatten_cons, List.flatten_cons]
    exact r.append (RPs.rep r n)
theorem ok_mul (hx : cs.ex = false) : OpOk X.K cs rMulG oMul := fun G H x y p q z Q s rx ry e k => by
  unfold oMul at e
  split at e
  · split at e
    · rename_i i j h
      cases e; cases rx; cases ry
      unfold okMul at h
      rw [Bool.or_eq_true, Bool.or_eq_true] at h
      rcases h with (h | h) | h
      · exact .inl ⟨_, _, rfl, rfl, (by unfold CMulW; exact of_decide_eq_true h), k.same _ (.int _)⟩
      · exact .inr (.inl ⟨_, _, rfl, rfl, .inl (of_decide_eq_true h), k.same _ (.int _)⟩)
      · exact .inr (.inl ⟨_, _, rfl, rfl, .inr (of_decide_eq_true h), k.same _ (.int _)⟩)
    · cases e
  · split at e
    · rename_i a j h
      rw [Bool.and_eq_true] at h
      obtain ⟨h1, h2⟩ := h
      have h2 := of_decide_eq_true h2
      cases e
      cases rx with
      | lst q1 r1 =>
        cases ry
        refine .inr (.inr ⟨_, _, _, rfl, rfl, s _ _ (q1.2 hx), h2.1, h2.2, by rw [← r1.length]; exact okLen_le h1, fun p hp => ?_⟩)
        exact k.new _ _ _ hp ⟨fun _ z => (nomatch z), fun _ _ z => (nomatch z)⟩ (.lst (.new upd_same) ((r1.rep _).mono (sub_upd (by
              cases z : G p with
              | none => rfl
              | some u => rw [s _ _ z] at hp; cases hp))))
    · cases e
  · cases e
def rDivG : R2 := fun x y H Q => (rI CDivW (fun i j => .int (i / j)) x y H Q) ∨ (rI CDivN (fun i j => .int (i.fdiv j)) x y H Q)
theorem op_divG : OpR X (binaryOp .FloorDiv) rDivG := OpR.or op_fdivW op_fdivN
theorem ok_div : OpOk X.K cs rDivG oDiv := fun G H x y p q z Q s rx ry e k => by
  unfold oDiv at e
  split at e
  · split at e
    · rename_i h
      split at e
      · rename_i h2
        cases e; cases rx; cases ry
        exact .inl ⟨_, _, rfl, rfl, ⟨h, of_decide_eq_true h2⟩, k.same _ (.int _)⟩
      · cases e
    · split at e
      · rename_i h2
        cases e; cases rx; cases ry
        exact .inr ⟨_, _, rfl, rfl, h2, k.same _ (.int _)⟩
      · cases e
  · cases e
def rModG : R2 := fun x y H Q => (rI (fun _ j => 0 < j) (fun i j => .int (i % j)) x y H Q) ∨ (rI (fun _ j => j ≠ 0) (fun i j => .int (i.fmod j)) x y H Q)
theorem op_modG : OpR X (binaryOp .Mod) rModG := OpR.or op_mod op_modN
theorem ok_mod : OpOk X.K cs rModG oMod := fun G H x y p q z Q s rx ry e k => by
  unfold oMod at e
  split at e
  · split at e
    · rename_i h
      cases e; cases rx; cases ry
      exact .inl ⟨_, _, rfl, rfl, h, k.same _ (.int _)⟩
    · split at e
      · rename_i h2
        cases e; cases rx; cases ry
        exact .inr ⟨_, _, rfl, rfl, h2, k.same _ (.int _)⟩
      · cases e
  · cases e
theorem ok_pow : OpOk X.K cs (rI CPow fun i j => .int (i ^ j.toNat)) oPow := fun G H x y p q z Q s rx ry e k => by
  unfold oPow at e
  split at e
  · split at e
    · rename_i h
      cases e; cases rx; cases ry
      exact ⟨_, _, rfl, rfl, h, k.same _ (.int _)⟩
    · cases e
  · cases e
theorem ok_lt : OpOk X.K cs (rI0 fun i j => .bl (decide (i < j))) oLt := fun G H x y p q z Q s rx ry e k => by
  unfold oLt at e
  split at e
  · cases e; cases rx; cases ry; exact ⟨_, _, rfl, rfl, k.same _ (.bl _)⟩
  · cases e
theorem ok_le : OpOk X.K cs (rI0 fun i j => .bl (decide (i ≤ j))) oLe := fun G H x y p q z Q s rx ry e k => by
  unfold oLe at e
  split at e
  · cases e; cases rx; cases ry; exact ⟨_, _, rfl, rfl, k.same _ (.bl _)⟩
  · cases e
theorem ok_gt : OpOk X.K cs (rI0 fun i j => .bl (decide (j < i))) oGt := fun G H x y p q z Q s rx ry e k => by
  unfold oGt at e
  split at e
  · cases e; cases rx; cases ry; exact ⟨_, _, rfl, rfl, k.same _ (.bl _)⟩
  · cases e
theorem ok_ge : OpOk X.K cs (rI0 fun i j => .bl (decide (j ≤ i))) oGe := fun G H x y p q z Q s rx ry e k => by
  unfold oGe at e
  split at e
  · cases e; cases rx; cases ry; exact ⟨_, _, rfl, rfl, k.same _ (.bl _)⟩
  · cases e
theorem ok_is : OpOk X.K cs (fun x y H Q => y = .non ∧ Q (.bl (decide (x = .non))) H) oIs := fun G H x y p q z Q s rx ry e k => by
  unfold oIs at e
  split at e
  · cases e; cases ry
    refine ⟨rfl, k.same _ ?_⟩
    cases rx <;> exact .bl _
  · cases e
theorem ok_isnot : OpOk X.K cs (fun x y H Q => y = .non ∧ Q (.bl (!decide (x = .non))) H) oIsNot := fun G H x y p q z Q s rx ry e k => by
  unfold oIsNot at e
  split at e
  · cases e; cases ry
    refine ⟨rfl, k.same _ ?_⟩
    cases rx <;> exact .bl _
  · cases e
def rEqG (K : PySem.W.Frag) : R2 := fun x y H Q => rEq x y H Q ∨ rEqD K x y H Q
def rNeG (K : PySem.W.Frag) : R2 := fun x y H Q => rNe x y H Q ∨ rNeD K x y H Q
theorem op_eqG (hu : X.A.units + 64 < cLine) : OpR X (compareOp .Eq) (rEqG X.K) := OpR.or op_eq (op_eqD hu)
theorem op_neG (hu : X.A.units + 64 < cLine) : OpR X (compareOp .NotEq) (rNeG X.K) := OpR.or op_ne (op_neD hu)
theorem ok_eq : OpOk X.K cs (rEqG X.K) oEq := fun G H x y p q z Q s rx ry e k => by
  unfold oEq at e
  split at e
  · rename_i h
    cases e
    unfold okEq at h
    split at h
    · cases rx; cases ry
      refine .inl ⟨rfl, k.same _ ?_⟩
      rw [dec_str]
      simp only [eqP]
      exact .bl _
    · rw [Bool.and_eq_true] at h
      refine .inr ⟨pd p, pd q, dp_of s 60 p x h.1 rx, dp_of s 60 q y h.2 ry, shaped_pd h.1, shaped_pd h.2, k.same _ ?_⟩
      rw [eqP_eqv p q 60 60 h.1 h.2]
      exact .bl _
  · cases e
theorem ok_ne : OpOk X.K cs (rNeG X.K) oNe := fun G H x y p q z Q s rx ry e k => by
  unfold oNe at e
  split at e
  · rename_i h
    cases e
    unfold okEq at h
    split at h
    · cases rx; cases ry
      refine .inl ⟨rfl, k.same _ ?_⟩
      rw [dec_str]
      simp only [eqP]
      exact .bl _
    · rw [Bool.and_eq_true] at h
      refine .inr ⟨pd p, pd q, dp_of s 60 p x h.1 rx, dp_of s 60 q y h.2 ry, shaped_pd h.1, shaped_pd h.2, k.same _ ?_⟩
      rw [eqP_eqv p q 60 60 h.1 h.2]
      exact .bl _
  · cases e
/-- +, * without lists -/
def oAddX : P → P → Option P
  | .int i, .int j => some (.int (i + j))
  | .int i, .bl k => some (.int (i + b2i k))
  | .str x, .str y => if okLen (x.length + y.length) then some (.str (x ++ y)) else none
  | .tup a, .tup b => if okLen (a.length + b.length) then some (.tup (a ++ b)) else none
  | _, _ => none
def oMulX : P → P → Option P
  | .int i, .int j => if okMul i j then some (.int (i * j)) else none
  | _, _ => none
theorem ok_addX : OpOk X.K cs (rAddG X.K) oAddX := fun G H x y p q z Q s rx ry e k => by
  unfold oAddX at e
  split at e
  · cases e; cases rx; cases ry; exact .inl ⟨_, _, rfl, rfl, k.same _ (.int _)⟩
  · cases e; cases rx; cases ry
    rename_i b
    refine .inr (.inl ⟨_, _, rfl, rfl, k.same _ ?_⟩)
    cases b <;> exact .int _
  · split at e
    · rename_i hl
      cases e; cases rx; cases ry; exact .inr (.inr (.inl ⟨_, _, rfl, rfl, okLen_le hl, k.same _ (.str _)⟩))
    · cases e
  · split at e
    · rename_i hl
      cases e
      cases rx with
      | tup h1 r1 =>
        cases ry with
        | tup h2 r2 =>
          refine .inr (.inr (.inr (.inl ⟨_, _, _, _, rfl, rfl, .inl (s.rd h1), .inl (s.rd h2), by rw [← r1.length, ← r2.length]; exact okLen_le hl, fun e => ?_, fun _ e => ?_, fun _ _ p hp => ?_⟩)))
          · subst e
            cases r1
            exact k.same _ (.tup h2 r2)
          · subst e
            cases r2
            rw [List.append_nil] at k
            exact k.same _ (.tup h1 r1)
          · exact k.new _ _ _ hp ⟨fun _ z => (nomatch z), fun _ _ z => (nomatch z)⟩ (.tup (.inl upd_same) ((r1.append r2).mono (sub_upd (by
              cases z : G p with
              | none => rfl
              | some u => rw [s _ _ z] at hp; cases hp))))
    · cases e
  · cases e
theorem ok_mulX : OpOk X.K cs rMulG oMulX := fun G H x y p q z Q s rx ry e k => by
  unfold oMulX at e
  split at e
  · split at e
    · rename_i i j h
      cases e; cases rx; cases ry
      unfold okMul at h
      rw [Bool.or_eq_true, Bool.or_eq_true] at h
      rcases h with (h | h) | h
      · exact .inl ⟨_, _, rfl, rfl, (by unfold CMulW; exact of_decide_eq_true h), k.same _ (.int _)⟩
      · exact .inr (.inl ⟨_, _, rfl, rfl, .inl (of_decide_eq_true h), k.same _ (.int _)⟩)
      · exact .inr (.inl ⟨_, _, rfl, rfl, .inr (of_decide_eq_true h), k.same _ (.int _)⟩)
    · cases e
  · cases e
end
end Ar
namespace Ar
open PySem PySem.Spec PyProof.Rows L2

section
variable {K : PySem.W.Frag} {cs : Tx} {g g1 g2 : Gh} {n n1 n2 : Nat} {H H1 H2 : Hp} {h h1 : Hs}
/-- a place's object is changed -/
theorem Rel.write {i : Nat} {o o' : O} (r : Rel K cs g h H) (e : h[i]? = some o) (hd : o ≠ .dead) (k : ∀ a, a ≠ g.ρ i → H1 a = H a) (new : RO K cs g h.length H1 (g.ρ i) o') :
    Rel K cs g (h.set i o') H1 ∧ Step g h.length H g (h.set i o').length H1 := by
  have hi : i < h.length := (List.getElem?_eq_some_iff.mp e).1
  have ne : ∀ j, j < h.length → j ≠ i → g.ρ j ≠ g.ρ i := fun j hj hne z => hne (r.inj j i hj hi z)
  have hG := r.off i o e hd
  obtain ⟨upl, epl, pl⟩ := (r.at_ i o e).placed
  have tr : H1 (g.ρ i) ≠ none := by
    intro z
    cases o' with
    | lst ps => obtain ⟨xs, q, _⟩ := new; rw [z] at q; cases q
    | dct ks vs => obtain ⟨kvs, q, _⟩ := new; rw [z] at q; cases q
    | dtt ks vs => obtain ⟨kvs, q, _⟩ := new; rw [z] at q; cases q
    | ins c ns vs => obtain ⟨dx, fs, q, _⟩ := new; rw [z] at q; cases q
    | rl ds => obtain ⟨xs, q, _⟩ := new; rw [z] at q; cases q
    | rt ds => obtain ⟨xs, q, _⟩ := new; rw [z] at q; cases q
    | dead => obtain ⟨u, q, _⟩ := new; rw [z] at q; cases q
  have s : Step g h.length H g (h.set i o').length H1 := by
    rw [List.length_set]
    refine ⟨Nat.le_refl _, fun _ _ => rfl, Sub.refl _, fun a u q _ hx => by rw [k a (hx i hi)]; exact q, fun _ _ _ _ _ q => q, fun j h1 h2 => absurd h2 (by omega), fun a o q nt => ?_⟩
    by_cases ha : a = g.ρ i
    · obtain ⟨w, e2, p2⟩ := new.placed
      exact ⟨w, by rw [ha]; exact e2, p2.1.1⟩
    · exact ⟨o, by rw [k a ha]; exact q, nt⟩
  refine ⟨⟨fun a u q => ?_, by rw [List.length_set]; exact r.inj, fun j u q => ?_, fun j u q hu => ?_, r.cst, r.fz, r.ntb, tabs_of r.tabs (fun b ps q => by rw [k b (fun z => pl.1.1 ps (Option.some.inj (epl.symm.trans (by rw [← z]; exact q))))]; exact q) (fun b φ q => by rw [k b (fun z => pl.2 φ (Option.some.inj (epl.symm.trans (by rw [← z]; exact q))))]; exact q)⟩, s⟩
  · rw [k a (fun z => by rw [z, hG] at q; cases q)]; exact r.sub a u q
  · rw [List.length_set] at s ⊢
    by_cases hj : j = i
    · subst hj
      rw [List.getElem?_set_self hi] at q
      cases q
      exact new
    · rw [List.getElem?_set_ne (Ne.symm hj)] at q
      have hjl : j < h.length := (List.getElem?_eq_some_iff.mp q).1
      exact (r.at_ j u q).step s fun w hw => by rw [k _ (ne j hjl hj)]; exact hw
  · by_cases hj : j = i
    · subst hj; exact hG
    · rw [List.getElem?_set_ne (Ne.symm hj)] at q
      exact r.off j u q hu
def addρ (ρ : Nat → Addr) (n : Nat) (p : Addr) : Nat → Addr := fun i => if i = n then p else ρ i
/-- a new place -/
theorem Rel.place {p : Addr} {o : O} {u : HO} (r : Rel K cs g h H) (hp : H p = none) (k : ∀ a, H a ≠ none → H1 a = H a) (hu : H1 p ≠ none) (new : RO K cs ⟨addρ g.ρ h.length p, g.G⟩ (h.length + 1) H1 p o) :
    Rel K cs ⟨addρ g.ρ h.length p, g.G⟩ (h ++ [o]) H1 ∧ Step g h.length H ⟨addρ g.ρ h.length p, g.G⟩ (h ++ [o]).length H1 := by
  have gp : g.G p = none := by
    cases z : g.G p with
    | none => rfl
    | some u => rw [r.sub _ _ z] at hp; cases hp
  have old : ∀ i, i < h.length → addρ g.ρ h.length p i = g.ρ i := fun i hi => if_neg (by omega)
  have own : addρ g.ρ h.length p h.length = p := if_pos rfl
  have hl : (h ++ [o]).length = h.length + 1 := by simp
  have s : Step g h.length H ⟨addρ g.ρ h.length p, g.G⟩ (h ++ [o]).length H1 := by
    rw [hl]
    refine ⟨Nat.le_succ _, old, Sub.refl _, fun a v q _ _ => by rw [k a (by rw [q]; exact fun z => nomatch z)]; exact q, fun _ _ _ _ _ q => q, fun i h1 h2 o q nt => ?_, fun a o q nt => ⟨o, by rw [k a (by rw [q]; exact fun z => nomatch z)]; exact q, nt⟩⟩
    have : i = h.length := by omega
    subst this
    have q : H (addρ g.ρ h.length p h.length) = some o := q
    rw [own, hp] at q; cases q
  refine ⟨⟨fun a v q => ?_, fun i j hi hj q => ?_, fun i v q => ?_, fun i v q hv => ?_, r.cst, r.fz, r.ntb, r.tabs.ext fun b o q => by rw [k b (by rw [q]; exact fun z => nomatch z)]; exact q⟩, s⟩
  · have q' := r.sub a v q
    rw [k a (by rw [q']; exact fun z => nomatch z)]; exact q'
  · rw [hl] at hi hj
    have q : addρ g.ρ h.length p i = addρ g.ρ h.length p j := q
    by_cases h1 : i < h.length
    · by_cases h2 : j < h.length
      · rw [old i h1, old j h2] at q; exact r.inj i j h1 h2 q
      · have : j = h.length := by omega
        subst this
        rw [old i h1, own] at q
        exact absurd hp (by rw [← q]; exact r.tracked h1)
    · have : i = h.length := by omega
      subst this
      by_cases h2 : j < h.length
      · rw [old j h2, own] at q
        exact absurd hp (by rw [q]; exact r.tracked h2)
      · omega
  · rw [hl] at s ⊢
    by_cases h1 : i < h.length
    · rw [List.getElem?_append_left h1] at q
      show RO K cs _ _ H1 (addρ g.ρ h.length p i) v
      rw [old i h1]
      exact (r.at_ i v q).step s fun w hw => by rw [k _ (r.tracked h1)]; exact hw
    · have h2 : i < (h ++ [o]).length := (List.getElem?_eq_some_iff.mp q).1
      have : i = h.length := by omega
      subst this
      rw [List.getElem?_append_right (Nat.le_refl _), Nat.sub_self] at q
      cases q
      show RO K cs _ _ H1 (addρ g.ρ h.length p h.length) o
      rw [own]; exact new
  · by_cases h1 : i < h.length
    · rw [List.getElem?_append_left h1] at q
      show g.G (addρ g.ρ h.length p i) = none
      rw [old i h1]; exact r.off i v q hv
    · have h2 : i < (h ++ [o]).length := (List.getElem?_eq_some_iff.mp q).1
      have : i = h.length := by omega
      subst this
      show g.G (addρ g.ρ h.length p h.length) = none
      rw [own]; exact gp
end

/-! ### what is handed back for good -/
def allSome {α : Type} : List (Option α) → Option (List α)
  | [] => some []
  | some x :: r => (match allSome r with
    | some xs => some (x :: xs)
    | none => none)
  | none :: _ => none
def frz : Nat → Hs → D → Option P
  | _, _, .p x => some x
  | 0, _, .loc _ => none
  | n + 1, h, .loc i => match h[i]? with
    | some (.lst ps) => some (.lst ps)
    | some (.dct ks vs) => some (.dct ks vs)
    | some (.dtt ks vs) => some (.dtt ks vs)
    | some (.ins c ns ds) => (match allSome (ds.map (frz n h)) with | some ps => some (.ins c ns ps) | none => none)
    | some (.rl ds) => (match allSome (ds.map (frz n h)) with | some ps => some (.lst ps) | none => none)
    | some (.rt ds) => (match allSome (ds.map (frz n h)) with | some ps => some (.tup ps) | none => none)
    | _ => none
/-- dicts that are given away are known to their objects from then on -/
def isDo : O → Bool
  | .dct _ _ => true
  | .dtt _ _ => true
  | _ => false
structure LkS (S : List Addr) (H H2 : Hp) : Prop where
  same : ∀ a, a ∉ S → H2 a = H a
  lock : ∀ a, a ∈ S → ∃ u od, H a = some u ∧ Mut (some u) ∧ H2 a = some (.frz od u)
theorem Inv.locks {X : Cx} {pins : List (Addr × Obj)} {σ : L2.St} {H : Hp} {s : Shared} (I : Inv X pins σ H s) : ∀ S : List Addr, (∀ d ∈ S, ∃ u, H d = some u ∧ Mut (some u)) → ∃ H2, Inv X pins σ H2 s ∧ LkS S H H2
  | [], _ => ⟨H, I, fun _ _ => rfl, fun a h => by cases h⟩
  | d :: S, k => by
    obtain ⟨H2, I2, L⟩ := Inv.locks I S fun d hd => k d (List.mem_cons_of_mem _ hd)
    by_cases hd : d ∈ S
    · refine ⟨H2, I2, fun a ha => L.same a fun z => ha (List.mem_cons_of_mem _ z), fun a ha => ?_⟩
      rcases List.mem_cons.mp ha with rfl | ha
      · exact L.lock a hd
      · exact L.lock a ha
    · obtain ⟨u, e, mu⟩ := k d List.mem_cons_self
      obtain ⟨od, I3⟩ := I2.lock (d := d) (u := u) (by rw [L.same d hd]; exact e) mu
      refine ⟨_, I3, fun a ha => ?_, fun a ha => ?_⟩
      · rw [List.mem_cons, not_or] at ha
        rw [upd_ne ha.1]; exact L.same a ha.2
      · rcases List.mem_cons.mp ha with rfl | ha
        · exact ⟨u, od, e, mu, upd_same⟩
        · have : a ≠ d := fun z => hd (z ▸ ha)
          rw [upd_ne this]; exact L.lock a ha
/-- what is wanted, some dicts locked -/
def Lq (Q : VK) : VK := fun v H => ∃ S : List Addr, (∀ d ∈ S, ∃ u, H d = some u ∧ Mut (some u)) ∧ ∀ H2, LkS S H H2 → Q v H2
theorem EP.locks {X : Cx} {pins : List (Addr × Obj)} {σ : L2.St} {Q : VK} {u : Value} {s : Shared} (h : EP X pins σ (Lq Q) u s) : EP X pins σ Q u s := by
  obtain ⟨v, H, I, r, S, k, q⟩ := h
  obtain ⟨H2, I2, L⟩ := Inv.locks I S k
  exact ⟨v, H2, I2, r, q H2 L⟩
theorem PE.locks {X : Cx} {e : Expr} {t : TE} (h : PE X e t) : PE X e (fun σ H Q => t σ H (Lq Q)) := ⟨fun pins s σ H Q I q => thn (h.run pins s σ H _ I q) fun _ _ z => EP.locks z⟩
section
open Classical
/-- everything that stands at a place is frozen -/
noncomputable def allG (g : Gh) (h : Hs) (H : Hp) : Hp := fun a => if (∃ i o, h[i]? = some o ∧ o ≠ .dead ∧ a = g.ρ i) then H a else g.G a
variable {K : PySem.W.Frag} {cs : Tx} {g g1 g2 : Gh} {n n1 n2 : Nat} {H H1 H2 : Hp} {h h1 : Hs}
/-- from H to H2 the dicts at places are locked -/
structure LockOf (g : Gh) (h : Hs) (H H2 : Hp) : Prop where
  same : ∀ a, (∀ i o, h[i]? = some o → isDo o = true → a ≠ g.ρ i) → H2 a = H a
  lock : ∀ i o, h[i]? = some o → isDo o = true → ∃ u od, H (g.ρ i) = some u ∧ H2 (g.ρ i) = some (.frz od u)
theorem nd_of {o : O} (h : isDo o = true) : o ≠ .dead := fun z => by rw [z] at h; cases h
theorem LockOf.plain {H2 : Hp} (L : LockOf g h H H2) (r : Rel K cs g h H) {i : Nat} {o : O} (e : h[i]? = some o) (d : isDo o = false) : H2 (g.ρ i) = H (g.ρ i) := L.same _ fun j u q hu z => by
  have := r.inj i j (List.getElem?_eq_some_iff.mp e).1 (List.getElem?_eq_some_iff.mp q).1 z
  subst this
  rw [e] at q; cases q
  rw [d] at hu; cases hu
theorem LockOf.off {H2 : Hp} (L : LockOf g h H H2) (r : Rel K cs g h H) {a : Addr} (e : g.G a ≠ none) : H2 a = H a := L.same _ fun j u q hu z => e (by rw [z]; exact r.off j u q (nd_of hu))
theorem allG_sub {H2 : Hp} (r : Rel K cs g h H) (L : LockOf g h H H2) : Sub (allG g h H2) H2 := fun a o e => by
  unfold allG at e
  split at e
  · exact e
  · rw [L.off r (by rw [e]; exact fun z => nomatch z)]; exact r.sub a o e
theorem sub_allG {H2 : Hp} (r : Rel K cs g h H) : Sub g.G (allG g h H2) := fun a o e => by
  unfold allG
  split
  · rename_i hx
    obtain ⟨i, oo, h1, h2, rfl⟩ := hx
    rw [r.off i oo h1 h2] at e; cases e
  · exact e
theorem allG_at {i : Nat} {o : O} (e : h[i]? = some o) (hd : o ≠ .dead) : allG g h H (g.ρ i) = H (g.ρ i) := if_pos ⟨i, o, e, hd, rfl⟩
theorem frz_ok {H2 : Hp} (r : Rel K cs g h H) (L : LockOf g h H H2) : ∀ (n : Nat) (d : D) (v : V) (p : P), RD K cs g.ρ g.G h.length d v → frz n h d = some p → RP K cs (allG g h H2) p v
  | n, .p x, v, p, .p q, e => by
    have e' : x = p := by cases n <;> (simp only [frz] at e; exact Option.some.inj e)
    subst e'
    exact q.mono (sub_allG r)
  | 0, .loc i, _, p, .loc hi, e => by simp [frz] at e
  | n + 1, .loc i, _, p, .loc hi, e => by
    simp only [frz] at e
    have many : ∀ (ds : List D) (vs : List V) (ps : List P), RDs K cs g.ρ g.G h.length ds vs → allSome (ds.map (frz n h)) = some ps → RPs K cs (allG g h H2) ps vs := by
      intro ds
      induction ds with
      | nil =>
        intro vs ps q e
        cases q
        simp [allSome] at e
        subst e
        exact .nil
      | cons d ds ih =>
        intro vs ps q e
        cases q with
        | cons q t =>
          rw [List.map_cons] at e
          unfold allSome at e
          split at e
          · rename_i h1; cases h1
          · rename_i x r' h1
            injection h1 with h1 h2
            subst h2
            split at e
            · rename_i xs h3
              cases e
              exact .cons (frz_ok r L n d _ _ q h1) (ih _ _ t h3)
            · cases e
          · cases e
    cases q : h[i]? with
    | none => rw [q] at e; simp at e
    | some o =>
      have ro := r.at_ i o q
      rw [q] at e
      have ae : o ≠ .dead → isDo o = false → allG g h H2 (g.ρ i) = H (g.ρ i) := fun hd h2 => (allG_at q hd).trans (L.plain r q h2)
      cases o with
      | lst ps =>
        obtain ⟨xs, q1, q2⟩ := ro
        simp only [Option.some.injEq] at e
        subst e
        exact .lst (.new ((ae (fun z => nomatch z) rfl).trans q1)) (q2.mono (sub_allG r))
      | dct ks vs =>
        simp only [Option.some.injEq] at e
        subst e
        obtain ⟨kvs, q1, q2, q3⟩ := ro
        obtain ⟨u, od, l1, l2⟩ := L.lock i _ q rfl
        rw [q1] at l1; cases l1
        exact .dct ⟨od, (allG_at q (fun z => nomatch z)).trans l2⟩ q2 (q3.mono (sub_allG r))
      | dtt ks vs =>
        simp only [Option.some.injEq] at e
        subst e
        obtain ⟨kvs, q1, q2, q3⟩ := ro
        obtain ⟨u, od, l1, l2⟩ := L.lock i _ q rfl
        rw [q1] at l1; cases l1
        exact .dctT ⟨od, (allG_at q (fun z => nomatch z)).trans l2⟩ q2 (q3.mono (sub_allG r))
      | ins c ns ds =>
        obtain ⟨dx, fs, q1, q2, q3⟩ := ro
        simp only at e
        split at e
        · rename_i ps h1
          cases e
          exact .ins (.inl ((ae (fun z => nomatch z) rfl).trans q1)) q2 (many _ _ _ q3 h1)
        · cases e
      | rl ds =>
        obtain ⟨xs, q1, q3⟩ := ro
        simp only at e
        split at e
        · rename_i ps h1
          cases e
          exact .lst (.new ((ae (fun z => nomatch z) rfl).trans q1)) (many _ _ _ q3 h1)
        · cases e
      | rt ds =>
        obtain ⟨xs, q1, q3⟩ := ro
        simp only at e
        split at e
        · rename_i ps h1
          cases e
          exact .tup (.inl ((ae (fun z => nomatch z) rfl).trans q1)) (many _ _ _ q3 h1)
        · cases e
      | dead => simp at e
theorem allG_fz {H2 : Hp} (r : Rel K cs g h H) (L : LockOf g h H H2) : ∀ a o u, allG g h H2 a = some (.frz o u) → FzOk cs u := fun a o u e => by
  unfold allG at e
  split at e
  · rename_i hx
    obtain ⟨i, oo, h1, h2, rfl⟩ := hx
    cases hd : isDo oo with
    | false =>
      rw [L.plain r h1 hd] at e
      obtain ⟨w, e2, p⟩ := (r.at_ i oo h1).plain h2
      rw [e2] at e
      exact absurd (Option.some.inj e) (p.1.2 _ _)
    | true =>
      obtain ⟨u', od, l1, l2⟩ := L.lock i _ h1 hd
      rw [l2] at e
      injection e with e
      injection e with _ e
      subst e
      have ro := r.at_ i _ h1
      cases oo with
      | dct ks vs => obtain ⟨kvs, q1, _⟩ := ro; rw [q1] at l1; cases l1; exact .inr (.inr (.inr (.inl ⟨_, rfl⟩)))
      | dtt ks vs => obtain ⟨kvs, q1, _⟩ := ro; rw [q1] at l1; cases l1; exact .inr (.inr (.inr (.inr ⟨_, rfl⟩)))
      | _ => cases hd
  · exact r.fz a o u e
theorem allG_ntb {H2 : Hp} (r : Rel K cs g h H) (L : LockOf g h H H2) : ∀ a ps, allG g h H2 a ≠ some (.tbl ps) := fun a ps e => by
  unfold allG at e
  split at e
  · rename_i hx
    obtain ⟨i, oo, h1, h2, rfl⟩ := hx
    cases hd : isDo oo with
    | false =>
      rw [L.plain r h1 hd] at e
      obtain ⟨w, e2, p⟩ := (r.at_ i oo h1).placed
      rw [e2] at e
      exact absurd (Option.some.inj e) (p.1.1 _)
    | true =>
      obtain ⟨u', od, l1, l2⟩ := L.lock i _ h1 hd
      rw [l2] at e; cases e
  · exact r.ntb a ps e
/-- the places that are dicts -/
def dPlaces (g : Gh) (h : Hs) : List Addr := (List.range h.length).filterMap fun i => match h[i]? with
  | some o => if isDo o then some (g.ρ i) else none
  | none => none
theorem mem_dPlaces {a : Addr} : a ∈ dPlaces g h ↔ ∃ i o, h[i]? = some o ∧ isDo o = true ∧ a = g.ρ i := by
  unfold dPlaces
  rw [List.mem_filterMap]
  constructor
  · rintro ⟨i, hi, e⟩
    split at e
    · rename_i o q
      split at e
      · rename_i hd; cases e; exact ⟨i, o, q, hd, rfl⟩
      · cases e
    · cases e
  · rintro ⟨i, o, q, hd, rfl⟩
    refine ⟨i, List.mem_range.mpr (List.getElem?_eq_some_iff.mp q).1, ?_⟩
    rw [q]
    simp only [hd, if_pos]
theorem dPlaces_mut (r : Rel K cs g h H) : ∀ d ∈ dPlaces g h, ∃ u, H d = some u ∧ Mut (some u) := fun d hd => by
  obtain ⟨i, o, q, hd, rfl⟩ := mem_dPlaces.mp hd
  have ro := r.at_ i o q
  cases o with
  | dct ks vs => obtain ⟨kvs, q1, _⟩ := ro; exact ⟨_, q1, trivial⟩
  | dtt ks vs => obtain ⟨kvs, q1, _⟩ := ro; exact ⟨_, q1, trivial⟩
  | _ => cases hd
theorem lockOf {H2 : Hp} (L : LkS (dPlaces g h) H H2) : LockOf g h H H2 where
  same := fun a ha => L.same a fun z => by
    obtain ⟨i, o, q, hd, e⟩ := mem_dPlaces.mp z
    exact ha i o q hd e
  lock := fun i o q hd => by
    obtain ⟨u, od, h1, _, h2⟩ := L.lock (g.ρ i) (mem_dPlaces.mpr ⟨i, o, q, hd, rfl⟩)
    exact ⟨u, od, h1, h2⟩
/-- a call's steps, its dicts locked at the end -/
theorem Step.locked {g' : Gh} {h' : Hs} {H2 : Hp} (s : Step g 0 H g' h'.length H1) (r : Rel K cs g' h' H1) (L : LockOf g' h' H1 H2) : Step g 0 H g' h'.length H2 where
  le := s.le
  ext := s.ext
  sub := s.sub
  keep := fun a o e nt hx => by
    rw [L.same a fun i u q hu z => s.new i (Nat.zero_le _) (List.getElem?_eq_some_iff.mp q).1 o (by rw [← z]; exact e) nt]
    exact s.keep a o e nt hx
  steal := s.steal
  new := s.new
  stay := fun a o e nt => by
    rw [L.same a fun i u q hu z => s.new i (Nat.zero_le _) (List.getElem?_eq_some_iff.mp q).1 o (by rw [← z]; exact e) nt]
    exact s.stay a o e nt
theorem locked_tabs {g' : Gh} {h' : Hs} {H2 : Hp} {T : List (Addr × Str)} (r : Rel K cs g' h' H1) (L : LockOf g' h' H1 H2) (t : LamX.Tabs T H1) : LamX.Tabs T H2 := by
  have no : ∀ b u, H1 b = some u → ¬ tplaced u → H2 b = some u := fun b u q np => by
    rw [L.same b fun i o e hd z => ?_]
    · exact q
    · obtain ⟨w, e2, p⟩ := (r.at_ i o e).placed
      rw [z, e2] at q; cases q
      exact np p
  exact tabs_of t (fun b ps q => no b _ q fun p => p.1.1 ps rfl) (fun b φ q => no b _ q fun p => p.2 φ rfl)
/-- back from a call that was begun with no places -/
theorem Rel.back {g' : Gh} {n' : Nat} {G' : Hp} (r : Rel K cs g h H) (s : Step g 0 H g' n' H1) (fz : ∀ a o u, G' a = some (.frz o u) → FzOk cs u) (ntb : ∀ a ps, G' a ≠ some (.tbl ps)) (tabs : LamX.Tabs cs.tabs H1) (sub : Sub g.G G') (sub' : Sub G' H1) (st : ∀ a o, H a = some o → notTbl o → g.G a = none → G' a = none) :
    Rel K cs ⟨g.ρ, G'⟩ h H1 ∧ Step g h.length H ⟨g.ρ, G'⟩ h.length H1 := by
  have keep : ∀ a o, H a = some o → notTbl o → H1 a = some o := fun a o e nt => s.keep a o e nt fun i hi => absurd hi (Nat.not_lt_zero _)
  have S : Step g h.length H ⟨g.ρ, G'⟩ h.length H1 := ⟨Nat.le_refl _, fun _ _ => rfl, sub, fun a o e nt _ => keep a o e nt, fun a o e nt _ q => st a o e nt q, fun i h1 h2 => absurd h2 (by omega), s.stay⟩
  exact ⟨⟨sub', r.inj, fun i o e => by
    obtain ⟨w, e2, p⟩ := (r.at_ i o e).placed
    exact (r.at_ i o e).step S fun u q => keep _ u q (by rw [e2] at q; cases q; exact p.1.1), fun i o e hd => by
    obtain ⟨w, e2, p⟩ := (r.at_ i o e).placed
    exact st _ w e2 p.1.1 (r.off i o e hd), fun q hq => Sub.rd sub (r.cst q hq), fz, ntb, tabs⟩, S⟩
theorem allG_steal {g' : Gh} {h' : Hs} {H2 : Hp} (s : Step g 0 H g' h'.length H1) : ∀ a o, H a = some o → notTbl o → g.G a = none → allG g' h' H2 a = none := fun a o e nt q => by
  unfold allG
  split
  · rename_i hx
    obtain ⟨i, oo, h1, _, rfl⟩ := hx
    exact (s.new i (Nat.zero_le _) (List.getElem?_eq_some_iff.mp h1).1 o e nt).elim
  · exact s.steal a o e nt (fun i hi => absurd hi (Nat.not_lt_zero _)) q
end

/-! ### a def's promise -/
def spF (K : PySem.W.Frag) (cs : Tx) (F : Fn) (np : Nat) : Sp := fun vs H Q E => ∃ (g : Gh) (ds : List D) (h : Hs), vs.length = np ∧ Rel K cs g h H ∧ RDs K cs g.ρ g.G h.length ds vs ∧
  EndR K cs (relD K cs) (fun cls dd _ H' => E cls dd H') [] g h.length H Q (F ds h)
def cFn (nslots : Nat) (fb : FS) : Fn := fun ds h => match fb (ds.map some ++ List.replicate (nslots - ds.length) none) h with
  | .nx _ h' => .ok (.p .non) h'
  | .rt d h' => .ok d h'
  | .ex c fs _ h' => .ex c fs h'
  | _ => .bad
theorem renv_start {K : PySem.W.Frag} {cs : Tx} {g : Gh} {n : Nat} {ds : List D} {vs : List V} {N : List Str} (r : RDs K cs g.ρ g.G n ds vs) : REnv K cs g n (ds.map some ++ List.replicate (N.length - ds.length) none) (L2.start N vs) := by
  have hl : ds.length = vs.length := Paired.length r
  refine ⟨by unfold L2.start; simp [hl], fun i d e => ?_⟩
  unfold L2.start
  by_cases hi : i < ds.length
  · rw [List.getElem?_append_left (by simpa using hi)] at e
    rw [List.getElem?_map] at e
    have hv : i < vs.length := by omega
    have key : ∀ (ds : List D) (vs : List V) (i : Nat) (d : D), RDs K cs g.ρ g.G n ds vs → ds[i]? = some d → ∃ v, vs[i]? = some v ∧ RD K cs g.ρ g.G n d v := by
      intro ds
      induction ds with
      | nil => intro vs i d r e; simp at e
      | cons a ds ih =>
        intro vs i d r e
        cases r with
        | cons q t =>
          cases i with
          | zero => simp at e; subst e; exact ⟨_, rfl, q⟩
          | succ i =>
            obtain ⟨v, h1, h2⟩ := ih _ i d t (by simpa using e)
            exact ⟨v, by simpa using h1, h2⟩
    cases q : ds[i]? with
    | none => rw [q] at e; simp at e
    | some d' =>
      rw [q] at e
      simp at e
      subst e
      obtain ⟨v, h1, h2⟩ := key ds vs i _ r q
      refine ⟨v, ?_, h2⟩
      rw [List.getElem?_append_left (by simpa using hv), List.getElem?_map, h1]
      rfl
  · rw [List.getElem?_append_right (by simpa using hi)] at e
    rw [List.getElem?_replicate] at e
    split at e <;> cases e
section
variable {PP : Program} {w : World} {K : PySem.W.Frag} {mg : Str → Option Value} {base : Heap} {cs : Tx}
/-- THE RULE for a def: its body's combinator -/
theorem fnOk {x qual : Str} {st : Stmt} {f : Addr} {fd : FuncData} {N ps : List Str} {k : Nat} {fb : FS} (F : Fun K x qual st f fd) (S : FnScope N ps (defScope st))
    (hb : ∀ (cdv : Value) (A : Around) (outer : List PySem.Env) (s : Shared) (H : Hp) (E : XK), Room k (A.deeper (envOfC qual (defScope st) s.heap.objs.size f cdv)) → GSs (cxOf (L2.CX PP w) PP w K mg base N qual (defScope st) f cdv A outer s H E) cs (defBody st) fb) :
    FnOk PP w K mg base (L2.CX PP w) (k + 1) f fd ps (spF K cs (cFn N.length fb) ps.length) := by
  refine F.okX S (fun vs H Q E ⟨g, ds, h, hl, _⟩ => hl) (fun cdv A outer s H vs Q E hr ⟨g, ds, h, hl, R, r, FF⟩ => ?_)
  refine ⟨_, hb cdv A outer s H E hr (fun cls d _ H => E cls d H) (takes_of rfl rfl rfl rfl), g, _, h, R, renv_start r, ?_⟩
  unfold cFn at FF
  generalize hfb : fb (ds.map some ++ List.replicate (N.length - ds.length) none) h = res at FF ⊢
  cases res with
  | nx e h' => exact fun g' σ' H' S' R' _ => FF g' .non H' S' R' (.p .non)
  | rt d h' => exact fun g' v H' S' R' q => FF g' v H' S' R' q
  | ex c fs e h' => exact fun g' σ' cls dd H' S' R' _ q => FF g' cls dd H' S' R' q
  | bk e h' => exact FF.elim
  | ct e h' => exact FF.elim
  | bad => exact FF.elim
end

/-! ### calls -/
def arity (n : Nat) (F : Fn) : Fn := fun ds h => if ds.length = n then F ds h else .bad
def cCall (n : Nat) (F : Fn) (fa : FA) : FE := fun env h => (fa env h).bind (arity n F)
/-- a call with plain arguments, its places its own, its answer frozen -/
def pureEnd (r : R D) (h : Hs) : R D := match r with
  | .ok d h' => (match frz 6 h' d with
    | some p => .ok (.p p) h
    | none => .bad)
  | .ex c fs _ => .ex c fs h
  | .bad => .bad
def isPlain : List D → Bool
  | [] => true
  | .p _ :: r => isPlain r
  | .loc _ :: _ => false
def callP (F : Fn) (ds : List D) (h : Hs) : R D := if isPlain ds then pureEnd (F ds []) h else .bad
def cCallP (n : Nat) (F : Fn) (fa : FA) : FE := fun env h => (fa env h).bind (arity n (callP F))
theorem plain_zero {K : PySem.W.Frag} {cs : Tx} {g : Gh} {n : Nat} : ∀ {ds : List D} {vs : List V}, RDs K cs g.ρ g.G n ds vs → isPlain ds = true → RDs K cs g.ρ g.G 0 ds vs
  | [], _, .nil, _ => .nil
  | .p x :: r, _, .cons q t, h => .cons (by cases q with | p q => exact .p q) (plain_zero t h)
  | .loc _ :: _, _, _, h => by simp [isPlain] at h
/-- the promise, from a call's end -/
theorem sp_call {K : PySem.W.Frag} {cs : Tx} {F : Fn} {W : WX} {σ : L2.St} {g : Gh} {h : Hs} {H : Hp} {Q : VK} {ds : List D} {vs : List V} (R : Rel K cs g h H) (r : RDs K cs g.ρ g.G h.length ds vs) (FF : EndR K cs (relD K cs) W σ g h.length H Q (F ds h)) : spF K cs F vs.length vs H Q (WE W σ) := by
  refine ⟨g, ds, h, rfl, R, r, ?_⟩
  cases e : F ds h with
  | ok d h' => rw [e] at FF; exact FF
  | ex c fs h' => rw [e] at FF; exact FF
  | bad => rw [e] at FF; exact FF
theorem sp_callP {K : PySem.W.Frag} {cs : Tx} {F : Fn} {W : WX} {σ : L2.St} {g : Gh} {h : Hs} {H : Hp} {Q : VK} {ds : List D} {vs : List V} (R : Rel K cs g h H) (r : RDs K cs g.ρ g.G h.length ds vs) (FF : EndR K cs (relD K cs) W σ g h.length H Q (callP F ds h)) : spF K cs F vs.length vs H (Lq Q) (WE W σ) := by
  unfold callP at FF
  split at FF
  · rename_i hp
    refine ⟨g, ds, [], rfl, R.forget, plain_zero r hp, ?_⟩
    unfold pureEnd at FF
    cases e : F ds [] with
    | ok d h' =>
      rw [e] at FF
      simp only at FF
      intro g' v H' S' R' q
      split at FF
      · rename_i p hz
        refine ⟨dPlaces g' h', dPlaces_mut R', fun H2 L0 => ?_⟩
        have L := lockOf L0
        obtain ⟨R2, S2⟩ := R.back (g' := g') (S'.locked R' L) (allG_fz R' L) (allG_ntb R' L) (locked_tabs R' L R'.tabs) (S'.sub.trans (sub_allG R')) (allG_sub R' L) (allG_steal S')
        exact FF _ v H2 S2 R2 (.p (frz_ok R' L 6 d v p q hz))
      · exact FF.elim
    | ex c fs h' =>
      rw [e] at FF
      intro g' cls dd H' S' R' q
      obtain ⟨R2, S2⟩ := R.back (g' := g') S' R'.fz R'.ntb R'.tabs S'.sub R'.sub (fun a o h1 nt h2 => S'.steal a o h1 nt (fun i hi => absurd hi (Nat.not_lt_zero _)) h2)
      exact FF ⟨g.ρ, g'.G⟩ cls dd H' S2 R2 q
    | bad => rw [e] at FF; exact FF
  · exact FF.elim
section
variable {X : Cx} {cs : Tx} {k : Nat} {f : Addr} {fd : FuncData} {ps : List Str} {F : Fn} {x : Str} {p pos : Pos} {e : Expr} {es : List Expr} {fa : FA}
theorem sp_len {F : Fn} {K : PySem.W.Frag} {n m : Nat} {vs : List V} {H : Hp} {Q : VK} {E : XK} (h : spF K cs F n vs H Q E) (e : n = m) : spF K cs F m vs H Q E := e ▸ h
theorem sp_ar {K : PySem.W.Frag} {W : WX} {σ : L2.St} {g : Gh} {h : Hs} {H : Hp} {Q : VK} {ds : List D} {vs : List V} {n : Nat} (R : Rel K cs g h H) (r : RDs K cs g.ρ g.G h.length ds vs) (FF : EndR K cs (relD K cs) W σ g h.length H Q (arity n F ds h)) : spF K cs F n vs H Q (WE W σ) := by
  unfold arity at FF
  split at FF
  · rename_i hl
    exact sp_len (sp_call R r FF) (by rw [← Paired.length r, hl])
  · exact FF.elim
theorem sp_arP {K : PySem.W.Frag} {W : WX} {σ : L2.St} {g : Gh} {h : Hs} {H : Hp} {Q : VK} {ds : List D} {vs : List V} {n : Nat} (R : Rel K cs g h H) (r : RDs K cs g.ρ g.G h.length ds vs) (FF : EndR K cs (relD K cs) W σ g h.length H Q (arity n (callP F) ds h)) : spF K cs F n vs H (Lq Q) (WE W σ) := by
  unfold arity at FF
  split at FF
  · rename_i hl
    exact sp_len (sp_callP R r FF) (by rw [← Paired.length r, hl])
  · exact FF.elim
/-- what a def of the text is: where it stands, its promise -/
structure FOk (X : Cx) (cs : Tx) (k : Nat) (x : Str) (np : Nat) (F : Fn) : Prop where
  ex : ∃ (f : Addr) (fd : FuncData) (ps : List Str), ps.length = np ∧ FnOk X.prog X.w X.K X.mg X.base (L2.CX X.prog X.w) k f fd ps (spF X.K cs F np) ∧ X.mg x = some (.ref f) ∧ PySem.W.keepIn X.K (.ref f) = true ∧ Binds X.K fd ps []
variable {n : Nat}
theorem gCall (Fo : FOk X cs k x n F) (hr : Room k X.A) (ga : GA X cs (e :: es) fa)
    (hg : Gl X x := by rfl) (hdb : (x == ("__debug__" : Str)) = false := by decide) (he : starEach (e :: es) X.env = (false, eval e X.env) :: starEach es X.env := by rfl) (hpl : (backTo pos (starEach es X.env)).any (·.1) = false := by rfl) :
    GE X cs (.Call (.Name x p) (e :: es) [] pos) (cCall n F fa) := fun W tk => by
  obtain ⟨f, fd, ps, hn, FO, hm, hk, hb⟩ := Fo.ex
  refine PE.imp (pe_callS FO hr hg hm hk hb (fun σ => passAt tk σ) (ga W tk) hdb he hpl) fun σ H Q ⟨g, env, h, R, E, FF⟩ => ?_
  exact ⟨g, env, h, R, E, FF.of fun ds h1 g1 vs H1 e1 S1 R1 V1 F1 => sp_ar R1 V1 F1⟩
theorem gCallP (Fo : FOk X cs k x n F) (hr : Room k X.A) (ga : GA X cs (e :: es) fa)
    (hg : Gl X x := by rfl) (hdb : (x == ("__debug__" : Str)) = false := by decide) (he : starEach (e :: es) X.env = (false, eval e X.env) :: starEach es X.env := by rfl) (hpl : (backTo pos (starEach es X.env)).any (·.1) = false := by rfl) :
    GE X cs (.Call (.Name x p) (e :: es) [] pos) (cCallP n F fa) := fun W tk => by
  obtain ⟨f, fd, ps, hn, FO, hm, hk, hb⟩ := Fo.ex
  refine PE.imp (PE.locks (pe_callS FO hr hg hm hk hb (fun σ => passAt tk σ) (ga W tk) hdb he hpl)) fun σ H Q ⟨g, env, h, R, E, FF⟩ => ?_
  exact ⟨g, env, h, R, E, FF.of fun ds h1 g1 vs H1 e1 S1 R1 V1 F1 => sp_arP R1 V1 F1⟩
/-- f() -/
theorem gCall0 (Fo : FOk X cs k x 0 F) (hr : Room k X.A) (hg : Gl X x := by rfl) (hdb : (x == ("__debug__" : Str)) = false := by decide) : GE X cs (.Call (.Name x p) [] [] pos) (cCall 0 F aN) := fun W tk => by
  obtain ⟨f, fd, ps, hn, FO, hm, hk, hb⟩ := Fo.ex
  refine ⟨fun pins s σ H Q I hh => ?_⟩
  obtain ⟨g, env, h, R, E, FF⟩ := hh
  refine wpAny_Call_Name_kw (ld_glob I hg hm ?_ hdb)
  exact PySem.W.callWith_K0 I.kIn hk (run_fnS (E := WE W) (us := []) FO hr hb (passAt tk σ) I .nil (sp_ar R .nil FF))
theorem gCallP0 (Fo : FOk X cs k x 0 F) (hr : Room k X.A) (hg : Gl X x := by rfl) (hdb : (x == ("__debug__" : Str)) = false := by decide) : GE X cs (.Call (.Name x p) [] [] pos) (cCallP 0 F aN) := fun W tk => by
  obtain ⟨f, fd, ps, hn, FO, hm, hk, hb⟩ := Fo.ex
  refine ⟨fun pins s σ H Q I hh => ?_⟩
  obtain ⟨g, env, h, R, E, FF⟩ := hh
  refine wpAny_Call_Name_kw (ld_glob I hg hm ?_ hdb)
  exact PySem.W.callWith_K0 I.kIn hk (thn (run_fnS (E := WE W) (us := []) FO hr hb (passAt tk σ) I .nil (sp_arP R .nil FF)) fun _ _ z => EP.locks z)
end

/-! ### instances -/
/-- what is known of the class c -/
structure ClsOk (X : Cx) (cs : Tx) (c : Nat) : Prop where
  cl : Cls X.K (cs.C c)
def getN {α : Type} : List Str → List α → Str → Option α
  | n :: ns, v :: vs, f => if n = f then some v else getN ns vs f
  | _, _, _ => none
def putN {α : Type} : List Str → List α → Str → α → List Str × List α
  | n :: ns, v :: vs, f, x => if n = f then (n :: ns, x :: vs) else (n :: (putN ns vs f x).1, v :: (putN ns vs f x).2)
  | _, _, f, x => ([f], [x])
theorem lookup_getN {β : Type} : ∀ (fs : List (Str × V)) (vs : List β) (f : Str), (vs.length = fs.length) → (getN (fs.map (·.1)) vs f).isSome = (fs.lookup f).isSome := by
  intro fs
  induction fs with
  | nil => intro vs f hl; cases vs <;> rfl
  | cons p r ih =>
    intro vs f hl
    cases vs with
    | nil => simp at hl
    | cons v vs =>
      obtain ⟨n, x⟩ := p
      simp only [List.map_cons, getN, List.lookup]
      by_cases h : n = f
      · subst h; simp
      · rw [if_neg h]
        have : (f == n) = false := beq_eq_false_iff_ne.mpr fun e => h e.symm
        rw [this]
        exact ih vs f (by simpa using hl)
theorem getN_rel {α : Type} {Rr : α → V → Prop} : ∀ (fs : List (Str × V)) (vs : List α) (f : Str) (x : α), Paired Rr vs (fs.map (·.2)) → getN (fs.map (·.1)) vs f = some x → ∃ v, fs.lookup f = some v ∧ Rr x v := by
  intro fs
  induction fs with
  | nil => intro vs f x r e; cases r; simp [getN] at e
  | cons p r ih =>
    intro vs f x q e
    obtain ⟨n, y⟩ := p
    cases q with
    | cons q t =>
      simp only [List.map_cons, getN] at e
      by_cases h : n = f
      · subst h
        rw [if_pos rfl] at e
        cases e
        exact ⟨y, by simp [List.lookup], q⟩
      · rw [if_neg h] at e
        obtain ⟨v, h1, h2⟩ := ih _ f x t e
        have : (f == n) = false := beq_eq_false_iff_ne.mpr fun e => h e.symm
        exact ⟨v, by simp only [List.lookup, this]; exact h1, h2⟩
theorem lookup_none : ∀ (fs : List (Str × V)) (f : Str), (fs.map (·.1)).contains f = false → fs.lookup f = none := by
  intro fs
  induction fs with
  | nil => intro f _; rfl
  | cons p r ih =>
    intro f h
    obtain ⟨n, y⟩ := p
    simp only [List.map_cons, List.contains_cons, Bool.or_eq_false_iff] at h
    simp only [List.lookup, h.1]
    exact ih f h.2
theorem rps_paired {K : PySem.W.Frag} {cs : Tx} {G : Hp} : ∀ {ps : List P} {vs : List V}, RPs K cs G ps vs → Paired (RP K cs G) ps vs
  | _, _, .nil => .nil
  | _, _, .cons r t => .cons r (rps_paired t)
theorem paired_rps {K : PySem.W.Frag} {cs : Tx} {G : Hp} : ∀ {ps : List P} {vs : List V}, Paired (RP K cs G) ps vs → RPs K cs G ps vs
  | _, _, .nil => .nil
  | _, _, .cons r t => .cons r (paired_rps t)
theorem putN_rel {α : Type} {Rr : α → V → Prop} {x : α} {y : V} (rx : Rr x y) : ∀ (fs : List (Str × V)) (vs : List α) (f : Str), Paired Rr vs (fs.map (·.2)) → (putN (fs.map (·.1)) vs f x).1 = (putF f y fs).map (·.1) ∧ Paired Rr (putN (fs.map (·.1)) vs f x).2 ((putF f y fs).map (·.2)) := by
  intro fs
  induction fs with
  | nil => intro vs f r; cases r; exact ⟨rfl, .cons rx .nil⟩
  | cons p r ih =>
    intro vs f q
    obtain ⟨n, z⟩ := p
    cases q with
    | cons q t =>
      obtain ⟨i1, i2⟩ := ih _ f t
      simp only [List.map_cons, putN, putF]
      by_cases h : n = f
      · rw [if_pos h, if_pos h]
        exact ⟨rfl, .cons rx t⟩
      · rw [if_neg h, if_neg h]
        exact ⟨by simp only [List.map_cons]; rw [i1], .cons q i2⟩
/-- a field's value -/
def attr (c : Nat) (f : Str) (d : D) (h : Hs) : R D := match d with
  | .p (.ins c' ns vs) => if c' = c then (match getN ns vs f with
    | some v => .ok (.p v) h
    | none => .bad) else .bad
  | .loc i => (match h[i]? with
    | some (.ins c' ns vs) => if c' = c then (match getN ns vs f with
      | some v => .ok v h
      | none => .bad) else .bad
    | _ => .bad)
  | _ => .bad
def cAttr (c : Nat) (f : Str) (fo : FE) : FE := fun env h => (fo env h).bind (attr c f)
section
variable {X : Cx} {cs : Tx} {c : Nat} {f : Str} {o : Expr} {fo : FE} {pos : Pos}
/-- a field, the instance tracked or known to its object -/
def InsH (H : Hp) (a C dx : Addr) (fs : List (Str × V)) : Prop := H a = some (.ins C dx fs) ∨ (dx ≠ a ∧ H a = some (.frz (PySem.W.instObj C dx) (.own a)) ∧ ∃ od, H dx = some (.frz od (.xd fs)))
theorem InsAt.h {G H : Hp} {a C dx : Addr} {fs : List (Str × V)} (s : Sub G H) (h : InsAt cs G a C dx fs) : InsH H a C dx fs := by
  rcases h with h | ⟨_, ne, h, od, h2⟩
  · exact .inl (s _ _ h)
  · exact .inr ⟨ne, s _ _ h, od, s _ _ h2⟩
theorem insH_map {pins : List (Addr × Obj)} {σ : L2.St} {H : Hp} {s : Shared} {a C dx : Addr} {fs : List (Str × V)} (I : Inv X pins σ H s) (e : InsH H a C dx fs) : ∃ mA, ObjM s.heap a dx C mA ∧ ∀ f, RelO (fs.lookup f) (mA f) := by
  rcases e with e | ⟨ne, e1, od, e2⟩
  · obtain ⟨mA, O, r, _⟩ := ins_get I.hok e
    exact ⟨mA, O, r⟩
  · obtain ⟨o1, _⟩ := I.hok _ _ e1
    obtain ⟨_, mA, n, r⟩ := I.hok _ _ e2
    exact ⟨mA, ⟨o1, n, ne⟩, r⟩
def tFldX (K : PySem.W.Frag) (ta : TE) (f : Str) : TE := fun σ H Q => ta σ H fun x H1 => ∃ a C dx fs v, x = .ref a ∧ InsH H1 a C dx fs ∧ Cls K C ∧ NoAttr K C f ∧ fs.lookup f = some v ∧ Q v H1
theorem pe_fldX {ta : TE} (he : PE X o ta) (hb : attributeBase o f X.env (eval o X.env) = eval o X.env) : PE X (.Attribute o f pos) (tFldX X.K ta f) := by
  refine ⟨fun pins s σ H Q I h => attr_of hb (thn (he.run pins s σ H _ I h) fun u s1 ⟨x, H1, I1, rx, a, C, dx, fs, v, ex, ea, c, n, l, q⟩ => ?_)⟩
  subst ex
  cases rx
  obtain ⟨mA, O, r⟩ := insH_map I1 ea
  obtain ⟨u, hu, ru⟩ := RelO.some_of (v := v) (o := mA f) (by rw [← l]; exact r f)
  exact get_map I1.kIn O (c.get f) c.hd n hu (handed_of ru) ⟨v, H1, I1.tok _, ru, q⟩
theorem gAttr (C : Cls X.K (cs.C c)) (nA : NoAttr X.K (cs.C c) f) (go : GE X cs o fo) (hb : attributeBase o f X.env (eval o X.env) = eval o X.env := by rfl) : GE X cs (.Attribute o f pos) (cAttr c f fo) := fun W tk => by
  refine PE.imp (pe_fldX (go W tk) hb) fun σ H Q ⟨g, env, h, R, E, FF⟩ => ?_
  refine ⟨g, env, h, R, E, FF.of fun d h1 g1 x H1 e1 S1 R1 V1 F1 => ?_⟩
  unfold attr at F1
  split at F1
  · split at F1
    · rename_i hc
      subst hc
      split at F1
      · rename_i v e2
        cases V1 with
        | p r =>
          cases r with
          | ins q1 q2 q3 =>
            subst q2
            obtain ⟨y, h2, h3⟩ := getN_rel _ _ f v (rps_paired q3) e2
            exact ⟨_, _, _, _, y, rfl, q1.h R1.sub, C, nA, h2, F1 g1 y H1 Step.refl R1 (.p h3)⟩
      · exact F1.elim
    · exact F1.elim
  · split at F1
    · rename_i c' ns vs e3
      split at F1
      · rename_i hc
        subst hc
        split at F1
        · rename_i v e2
          cases V1 with
          | loc hi =>
            obtain ⟨dx, fs, q1, q2, q3⟩ := R1.at_ _ _ e3
            subst q2
            obtain ⟨y, h2, h3⟩ := getN_rel _ _ f v q3 e2
            exact ⟨_, _, _, _, y, rfl, .inl q1, C, nA, h2, F1 g1 y H1 Step.refl R1 h3⟩
        · exact F1.elim
      · exact F1.elim
    · exact F1.elim
  · exact F1.elim
/-- o.f = e -/
def setAttr (c : Nat) (f : Str) (o v : D) (h : Hs) : R Unit := match o with
  | .loc i => (match h[i]? with
    | some (.ins c' ns vs) => if c' = c ∧ ns.length < 1000 then .ok () (h.set i (.ins c' (putN ns vs f v).1 (putN ns vs f v).2)) else .bad
    | _ => .bad)
  | _ => .bad
def sAttr (c : Nat) (f : Str) (fo fe : FE) : FS := fun env h => (fe env h).toS env fun v h1 => (fo env h1).toS env fun d h2 => (setAttr c f d v h2).toS env fun _ h3 => .nx env h3
theorem gSAttr {e : Expr} {fe : FE} {pos' : Pos} (C : Cls X.K (cs.C c)) (nA : NoAttr X.K (cs.C c) f) (go : GE X cs o fo) (ge : GE X cs e fe) (hs : swapsWith e (some (.Attribute o f pos')) pos.line X.env = pure false := by rfl) : GS X cs (.Assign [.Attribute o f pos'] e pos) (sAttr c f fo fe) := fun W tk => by
  refine PS.imp (ps_fld (go W tk) (ge W tk) hs) fun D' σ H ⟨g, env, h, R, E, FF⟩ => ?_
  refine ⟨g, env, h, R, E, EndR.ofS E FF fun v h1 g1 y H1 e1 S1 R1 V1 F1 => ⟨g1, env, h1, R1, E.step S1, EndR.ofS (E.step S1) F1 fun d h2 g2 x H2 e2 S2 R2 V2 F2 => ?_⟩⟩
  unfold setAttr at F2
  split at F2
  · rename_i i
    split at F2
    · rename_i c' ns vs e3
      split at F2
      · rename_i hc
        obtain ⟨hc, hl⟩ := hc
        subst hc
        cases V2 with
        | loc hi =>
          obtain ⟨dx, fs, q1, q2, q3⟩ := R2.at_ _ _ e3
          subst q2
          have V1' := V1.step S2
          obtain ⟨p1, p2⟩ := putN_rel (Rr := RD X.K cs g2.ρ g2.G h2.length) V1' fs vs f q3
          obtain ⟨R3, S3⟩ := R2.write (H1 := upd H2 (g2.ρ i) (.ins (cs.C c') dx (putF f y fs))) (o' := .ins c' (putN (fs.map (·.1)) vs f v).1 (putN (fs.map (·.1)) vs f v).2) e3 (fun z => nomatch z) (fun a ha => upd_ne ha) ⟨dx, _, upd_same, p1, p2⟩
          refine ⟨_, _, _, _, rfl, q1, C, nA, by simpa using hl, ?_⟩
          exact F2 g2 σ _ S3 R3 (((E.step S1).step S2).step S3)
      · exact F2.elim
    · exact F2.elim
  · exact F2.elim
end
/-! ### methods -/
/-- an instance of the class c without a field m -/
def isIns (c : Nat) (m : Str) (d : D) (h : Hs) : Bool := match d with
  | .p (.ins c' ns _) => decide (c' = c) && !ns.contains m
  | .loc i => (match h[i]? with
    | some (.ins c' ns _) => decide (c' = c) && !ns.contains m
    | _ => false)
  | _ => false
theorem isIns_ok {K : PySem.W.Frag} {cs : Tx} {g : Gh} {h : Hs} {H : Hp} {c : Nat} {m : Str} {d : D} {v : V} (R : Rel K cs g h H) (V1 : RD K cs g.ρ g.G h.length d v) (e : isIns c m d h = true) : ∃ a dx fs, v = .ref a ∧ InsH H a (cs.C c) dx fs ∧ fs.lookup m = none := by
  unfold isIns at e
  split at e
  · simp only [Bool.and_eq_true, decide_eq_true_eq, Bool.not_eq_true'] at e
    obtain ⟨hc, e⟩ := e
    subst hc
    cases V1 with
    | p r =>
      cases r with
      | ins q1 q2 q3 => subst q2; exact ⟨_, _, _, rfl, q1.h R.sub, lookup_none _ _ e⟩
  · split at e
    · rename_i e3
      simp only [Bool.and_eq_true, decide_eq_true_eq, Bool.not_eq_true'] at e
      obtain ⟨hc, e⟩ := e
      subst hc
      cases V1 with
      | loc hi =>
        obtain ⟨dx, fs, q1, q2, q3⟩ := R.at_ _ _ e3
        subst q2
        exact ⟨_, _, _, rfl, .inl q1, lookup_none _ _ e⟩
    · cases e
  · cases e
def cMeth (c : Nat) (m : Str) (n : Nat) (F : Fn) (fo : FE) (fa : FA) : FE := fun env h => (fo env h).bind fun d h1 => if isIns c m d h1 then (fa env h1).bind fun ds h2 => arity n F (d :: ds) h2 else .bad
def cMethP (c : Nat) (m : Str) (n : Nat) (F : Fn) (fo : FE) (fa : FA) : FE := fun env h => (fo env h).bind fun d h1 => if isIns c m d h1 then (fa env h1).bind fun ds h2 => arity n (callP F) (d :: ds) h2 else .bad
structure MOk (X : Cx) (cs : Tx) (k : Nat) (c : Nat) (m : Str) (np : Nat) (F : Fn) : Prop where
  cl : Cls X.K (cs.C c)
  ex : ∃ (f : Addr) (fd : FuncData) (ps : List Str), ps.length = np ∧ FnOk X.prog X.w X.K X.mg X.base (L2.CX X.prog X.w) k f fd ps (spF X.K cs F np) ∧ Meth X.K (cs.C c) m f ∧ Binds X.K fd ps []
def tMethS (C : Addr) (m : Str) (sp : Sp) (E : L2.St → XK) (ta : TE) (t : TA) : TE := fun σ H Q => ta σ H fun x H1 => ∃ a dx fs, x = .ref a ∧ InsH H1 a C dx fs ∧ fs.lookup m = none ∧
  t σ H1 fun vs H2 => sp (x :: vs) H2 Q (E σ)
section
variable {X : Cx} {CX : CXT} {k : Nat} {f C : Addr} {fd : FuncData} {ps : List Str} {sp : Sp} {E : L2.St → XK} {x m : Str} {p pos apos : Pos} {e o : Expr} {es : List Expr} {ta : TE} {t : TA}
theorem getmethX {pins : List (Addr × Obj)} {σ : L2.St} {H : Hp} {s : Shared} {a dx g : Addr} {fs : List (Str × V)} {Q : Value × List Value → Shared → Prop} {pl : Sem Bool} (I : Inv X pins σ H s) (e : InsH H a C dx fs) (c : Cls X.K C) (k : Meth X.K C m g) (l : fs.lookup m = none)
    (h : Q (.ref g, [.ref a]) s) : wpAny (model X.prog X.w) X.A (getMethod (.ref a) m pl) Q X.xe s := by
  obtain ⟨mA, O, r⟩ := insH_map I e
  exact get_meth I.kIn O (c.get m) k.at_ k.fn (RelO.none_of (by rw [← l]; exact r m)) h
/-- o.m(e, ..), the wish at the slots -/
theorem pe_methS {pl : Sem Bool} (he : PE X o ta) (c : Cls X.K C) (hm : Meth X.K C m f) (F : FnOk X.prog X.w X.K X.mg X.base CX k f fd ps sp) (hr : Room k X.A) (hb : Binds X.K fd ps []) (hx : ∀ σ, PassesAt CX X σ (E σ)) (ha : PA X (e :: es) t)
    (hst : starEach (e :: es) X.env = (false, eval e X.env) :: starEach es X.env := by rfl) (hpl : (backTo pos (starEach es X.env)).any (·.1) = false := by rfl)
    (ht : eval (.Call (.Attribute o m apos) (e :: es) [] pos) X.env = (do
      let ov ← eval o X.env
      standAt apos.atName
      let (f, first) ← holding [ov] (getMethod ov m pl)
      callWith pos f first (backTo pos (starEach (e :: es) X.env)) (backToKw pos (keywordEach [] X.env))) := by rfl) :
    PE X (.Call (.Attribute o m apos) (e :: es) [] pos) (tMethS C m sp E ta t) := by
  refine ⟨fun pins s σ H Q I h => ?_⟩
  refine PySem.W.methodCall_KW (pl := pl) (thn (he.run pins s σ H _ I h) fun u s1 ⟨x, H1, I1, rx, a, dx, fs, ex, ea, l, q⟩ => ?_) ht
  subst ex
  obtain rfl : u = Value.ref a := rx
  refine getmethX I1 ea c hm l ?_
  refine PySem.W.callWith_K (first := [.ref a]) (h₀ := X.base) I.ok.mod.kin hm.kp (thn (ha.run pos pins s1 σ H1 _ I1 q) fun us s2 ⟨vs, H2, I2, r, q2⟩ => ⟨I2.kIn, ?_⟩) hst hpl
  exact run_fnS (E := E) (us := .ref a :: us) (vs := .ref a :: vs) F hr hb (hx σ) I2 (.cons rfl r) q2
theorem pe_methS0 {pl : Sem Bool} (he : PE X o ta) (c : Cls X.K C) (hm : Meth X.K C m f) (F : FnOk X.prog X.w X.K X.mg X.base CX k f fd ps sp) (hr : Room k X.A) (hb : Binds X.K fd ps []) (hx : ∀ σ, PassesAt CX X σ (E σ))
    (ht : eval (.Call (.Attribute o m apos) [] [] pos) X.env = (do
      let ov ← eval o X.env
      standAt apos.atName
      let (f, first) ← holding [ov] (getMethod ov m pl)
      callWith pos f first (backTo pos (starEach [] X.env)) (backToKw pos (keywordEach [] X.env))) := by rfl) :
    PE X (.Call (.Attribute o m apos) [] [] pos) (tMethS C m sp E ta tNil) := by
  refine ⟨fun pins s σ H Q I h => ?_⟩
  refine PySem.W.methodCall_KW (pl := pl) (thn (he.run pins s σ H _ I h) fun u s1 ⟨x, H1, I1, rx, a, dx, fs, ex, ea, l, q⟩ => ?_) ht
  subst ex
  obtain rfl : u = Value.ref a := rx
  refine getmethX I1 ea c hm l ?_
  exact PySem.W.callWith_K0 (first := [.ref a]) I1.kIn hm.kp (run_fnS (E := E) (us := [.ref a]) (vs := [.ref a]) F hr hb (hx σ) I1 (.cons rfl .nil) q)
end
section
variable {X : Cx} {cs : Tx} {c k n : Nat} {m : Str} {F : Fn} {o e : Expr} {es : List Expr} {fo : FE} {fa : FA} {pos apos : Pos}
theorem gMeth {pl : Sem Bool} (M : MOk X cs k c m n F) (hr : Room k X.A) (go : GE X cs o fo) (ga : GA X cs (e :: es) fa)
    (hst : starEach (e :: es) X.env = (false, eval e X.env) :: starEach es X.env := by rfl) (hpl : (backTo pos (starEach es X.env)).any (·.1) = false := by rfl)
    (ht : eval (.Call (.Attribute o m apos) (e :: es) [] pos) X.env = (do
      let ov ← eval o X.env
      standAt apos.atName
      let (f, first) ← holding [ov] (getMethod ov m pl)
      callWith pos f first (backTo pos (starEach (e :: es) X.env)) (backToKw pos (keywordEach [] X.env))) := by rfl) : GE X cs (.Call (.Attribute o m apos) (e :: es) [] pos) (cMeth c m n F fo fa) := fun W tk => by
  obtain ⟨f, fd, ps, hn, FO, hm, hb⟩ := M.ex
  refine PE.imp (pe_methS (pl := pl) (go W tk) M.cl hm FO hr hb (fun σ => passAt tk σ) (ga W tk) hst hpl ht) fun σ H Q ⟨g, env, h, R, E, FF⟩ => ?_
  refine ⟨g, env, h, R, E, FF.of fun d h1 g1 x H1 e1 S1 R1 V1 F1 => ?_⟩
  split at F1
  · rename_i hi
    obtain ⟨a, dx, fs, ex, ea, l⟩ := isIns_ok R1 V1 hi
    refine ⟨a, dx, fs, ex, ea, l, g1, env, h1, R1, E.step S1, F1.of fun ds h2 g2 vs H2 e2 S2 R2 V2 F2 => ?_⟩
    exact sp_ar R2 (.cons (V1.step S2) V2) F2
  · exact F1.elim
theorem gMethP {pl : Sem Bool} (M : MOk X cs k c m n F) (hr : Room k X.A) (go : GE X cs o fo) (ga : GA X cs (e :: es) fa)
    (hst : starEach (e :: es) X.env = (false, eval e X.env) :: starEach es X.env := by rfl) (hpl : (backTo pos (starEach es X.env)).any (·.1) = false := by rfl)
    (ht : eval (.Call (.Attribute o m apos) (e :: es) [] pos) X.env = (do
      let ov ← eval o X.env
      standAt apos.atName
      let (f, first) ← holding [ov] (getMethod ov m pl)
      callWith pos f first (backTo pos (starEach (e :: es) X.env)) (backToKw pos (keywordEach [] X.env))) := by rfl) : GE X cs (.Call (.Attribute o m apos) (e :: es) [] pos) (cMethP c m n F fo fa) := fun W tk => by
  obtain ⟨f, fd, ps, hn, FO, hm, hb⟩ := M.ex
  refine PE.imp (PE.locks (pe_methS (pl := pl) (go W tk) M.cl hm FO hr hb (fun σ => passAt tk σ) (ga W tk) hst hpl ht)) fun σ H Q ⟨g, env, h, R, E, FF⟩ => ?_
  refine ⟨g, env, h, R, E, FF.of fun d h1 g1 x H1 e1 S1 R1 V1 F1 => ?_⟩
  split at F1
  · rename_i hi
    obtain ⟨a, dx, fs, ex, ea, l⟩ := isIns_ok R1 V1 hi
    refine ⟨a, dx, fs, ex, ea, l, g1, env, h1, R1, E.step S1, F1.of fun ds h2 g2 vs H2 e2 S2 R2 V2 F2 => ?_⟩
    exact sp_arP R2 (.cons (V1.step S2) V2) F2
  · exact F1.elim
theorem gMeth0 {pl : Sem Bool} (M : MOk X cs k c m n F) (hr : Room k X.A) (go : GE X cs o fo)
    (ht : eval (.Call (.Attribute o m apos) [] [] pos) X.env = (do
      let ov ← eval o X.env
      standAt apos.atName
      let (f, first) ← holding [ov] (getMethod ov m pl)
      callWith pos f first (backTo pos (starEach [] X.env)) (backToKw pos (keywordEach [] X.env))) := by rfl) : GE X cs (.Call (.Attribute o m apos) [] [] pos) (cMeth c m n F fo aN) := fun W tk => by
  obtain ⟨f, fd, ps, hn, FO, hm, hb⟩ := M.ex
  refine PE.imp (pe_methS0 (pl := pl) (go W tk) M.cl hm FO hr hb (fun σ => passAt tk σ) ht) fun σ H Q ⟨g, env, h, R, E, FF⟩ => ?_
  refine ⟨g, env, h, R, E, FF.of fun d h1 g1 x H1 e1 S1 R1 V1 F1 => ?_⟩
  split at F1
  · rename_i hi
    obtain ⟨a, dx, fs, ex, ea, l⟩ := isIns_ok R1 V1 hi
    exact ⟨a, dx, fs, ex, ea, l, sp_ar R1 (.cons V1 .nil) F1⟩
  · exact F1.elim
theorem gMethP0 {pl : Sem Bool} (M : MOk X cs k c m n F) (hr : Room k X.A) (go : GE X cs o fo)
    (ht : eval (.Call (.Attribute o m apos) [] [] pos) X.env = (do
      let ov ← eval o X.env
      standAt apos.atName
      let (f, first) ← holding [ov] (getMethod ov m pl)
      callWith pos f first (backTo pos (starEach [] X.env)) (backToKw pos (keywordEach [] X.env))) := by rfl) : GE X cs (.Call (.Attribute o m apos) [] [] pos) (cMethP c m n F fo aN) := fun W tk => by
  obtain ⟨f, fd, ps, hn, FO, hm, hb⟩ := M.ex
  refine PE.imp (PE.locks (pe_methS0 (pl := pl) (go W tk) M.cl hm FO hr hb (fun σ => passAt tk σ) ht)) fun σ H Q ⟨g, env, h, R, E, FF⟩ => ?_
  refine ⟨g, env, h, R, E, FF.of fun d h1 g1 x H1 e1 S1 R1 V1 F1 => ?_⟩
  split at F1
  · rename_i hi
    obtain ⟨a, dx, fs, ex, ea, l⟩ := isIns_ok R1 V1 hi
    exact ⟨a, dx, fs, ex, ea, l, sp_arP R1 (.cons V1 .nil) F1⟩
  · exact F1.elim
end
end Ar
namespace Ar
open PySem PySem.Spec PyProof.Rows L2

/-! ### new instances -/
/-- C(..): a place with an empty instance, then its __init__ -/
def make (c : Nat) (n : Nat) (F : Fn) : Fn := fun ds h => if ds.length + 1 = n then (match F (.loc h.length :: ds) (h ++ [.ins c [] []]) with
  | .ok (.p .non) h2 => .ok (.loc h.length) h2
  | .ex c' fs h2 => .ex c' fs h2
  | _ => .bad) else .bad
def cMake (c : Nat) (n : Nat) (F : Fn) (fa : FA) : FE := fun env h => (fa env h).bind (make c n F)
def cMakeP (c : Nat) (n : Nat) (F : Fn) (fa : FA) : FE := fun env h => (fa env h).bind (callP (make c n F))
structure KOk (X : Cx) (cs : Tx) (k : Nat) (x : Str) (c : Nat) (np : Nat) (F : Fn) : Prop where
  mg : X.mg x = some (.ref (cs.C c))
  ex : ∃ (f : Addr) (fd : FuncData) (ps : List Str), ps.length = np ∧ FnOk X.prog X.w X.K X.mg X.base (L2.CX X.prog X.w) k f fd ps (spF X.K cs F np) ∧ Mk X.K (cs.C c) f ∧ Binds X.K fd ps []
section
variable {X : Cx} {CX : CXT} {k : Nat} {f C : Addr} {fd : FuncData} {ps : List Str} {sp : Sp} {E : XK} {x m : Str} {p pos apos : Pos} {e o : Expr} {es : List Expr} {ta : TE} {t : TA}
theorem run_makeS {pins : List (Addr × Obj)} {σ : L2.St} {H : Hp} {s : Shared} {Q : VK} {us : List Value} {vs : List V} (M : Mk X.K C f) (F : FnOk X.prog X.w X.K X.mg X.base CX k f fd ps sp) (hr : Room (k + 1) X.A) (hb : Binds X.K fd ps [])
    (hx : PassesAt CX X σ E) (I : Inv X pins σ H s) (r : Vals vs us)
    (h : ∀ x dx, H x = none → H dx = none → dx ≠ x → sp (.ref x :: vs) (upd (upd H dx (.own x)) x (.ins C dx [])) (fun v H2 => v = .non ∧ Q (.ref x) H2) E) :
    wpAny (model X.prog X.w) X.A (call (.ref C) us) (EP X pins σ Q) X.xe s := by
  have hq := h (s.heap.objs.size + 1) s.heap.objs.size (I.hok.fresh (Nat.le_succ _)) (I.hok.fresh (Nat.le_refl _)) (Nat.ne_of_lt (Nat.lt_succ_self _))
  have I2 := Inv.made (C := C) I
  have r2 : Vals (V.ref (s.heap.objs.size + 1) :: vs) (Value.ref (s.heap.objs.size + 1) :: us) := .cons rfl r
  have hl : (Value.ref (s.heap.objs.size + 1) :: us).length = ps.length := by
    have e := r2.length
    rw [F.len _ _ _ _ hq] at e
    exact e.symm
  have hb' := hb { s with heap := (s.heap.push PySem.W.emptyDict).push (PySem.W.instObj C s.heap.objs.size) } (Value.ref (s.heap.objs.size + 1) :: us) I2.kIn (by rw [List.append_nil]; exact hl)
  rw [List.append_nil] at hb'
  refine wpAny_call (make_map (f := f) I.kIn M.makes M.init (beq_iff_eq.mp M.fn) (codeAny_mono (F.run _ X.stack _ _ ⟨Value.ref (s.heap.objs.size + 1) :: us, []⟩ (Value.ref (s.heap.objs.size + 1) :: us) _ _ E (hr.make C us [])
    (I2.env0.make C us []) hb' r2 hq) fun r s' hq' => ?_))
  cases r with
  | error e => exact hx pins _ _ e s' I2 hq'
  | ok fl =>
    cases fl with
    | ret u =>
      obtain ⟨v, H', I3, rv, ev, q3⟩ := I2.after hq'
      subst ev
      exact ⟨rv, ⟨V.ref (s.heap.objs.size + 1), H', I3, rfl, q3⟩⟩
    | next => exact False.elim hq'
    | brk => exact False.elim hq'
    | cont => exact False.elim hq'
end
section
variable {X : Cx} {cs : Tx} {c k n : Nat} {x : Str} {F : Fn} {e : Expr} {es : List Expr} {fa : FA} {p pos : Pos}
theorem sp_make {K : PySem.W.Frag} {W : WX} {σ : L2.St} {g : Gh} {h : Hs} {H : Hp} {Q : VK} {ds : List D} {vs : List V} {n : Nat} (R : Rel K cs g h H) (r : RDs K cs g.ρ g.G h.length ds vs)
    (FF : EndR K cs (relD K cs) W σ g h.length H Q (make c n F ds h)) : ∀ x dx, H x = none → H dx = none → dx ≠ x → spF K cs F n (.ref x :: vs) (upd (upd H dx (.own x)) x (.ins (cs.C c) dx [])) (fun v H2 => v = .non ∧ Q (.ref x) H2) (WE W σ) := by
  intro x dx hx hdx hne
  unfold make at FF
  split at FF
  · rename_i hl
    obtain ⟨R2, S2⟩ := R.place (p := x) (o := .ins c [] []) (u := .ins (cs.C c) dx []) (H1 := upd (upd H dx (.own x)) x (.ins (cs.C c) dx [])) hx
      (fun a ha => by rw [upd_ne (fun z => ha (by rw [z]; exact hx)), upd_ne (fun z => ha (by rw [z]; exact hdx))]) (by rw [upd_same]; exact fun z => nomatch z) ⟨dx, [], upd_same, rfl, .nil⟩
    have own : addρ g.ρ h.length x h.length = x := if_pos rfl
    have r2 : RDs K cs (addρ g.ρ h.length x) g.G (h ++ [O.ins c [] []]).length (.loc h.length :: ds) (.ref x :: vs) := by
      refine .cons ?_ (r.step S2)
      have := RD.loc (K := K) (cs := cs) (ρ := addρ g.ρ h.length x) (G := g.G) (n := (h ++ [O.ins c [] []]).length) (i := h.length) (by simp)
      rw [own] at this
      exact this
    refine ⟨⟨addρ g.ρ h.length x, g.G⟩, .loc h.length :: ds, h ++ [.ins c [] []], by rw [List.length_cons, ← Paired.length r, hl], R2, r2, ?_⟩
    cases e : F (.loc h.length :: ds) (h ++ [.ins c [] []]) with
    | ok d h2 =>
      rw [e] at FF
      cases d with
      | p pp =>
        cases pp with
        | non =>
          intro g' v H' S' R' q
          have ev : v = .non := by cases q with | p q => cases q; rfl
          refine ⟨ev, ?_⟩
          have el : g'.ρ h.length = x := (S'.ext h.length (by simp)).trans own
          have hlt : h.length < h2.length := Nat.lt_of_lt_of_le (by simp) S'.le
          have := RD.loc (K := K) (cs := cs) (ρ := g'.ρ) (G := g'.G) (n := h2.length) (i := h.length) hlt
          rw [el] at this
          exact FF g' _ H' (S2.trans S') R' this
        | _ => exact FF.elim
      | loc _ => exact FF.elim
    | ex c' fs h2 =>
      rw [e] at FF
      exact fun g' cls dd H' S' R' q => FF g' cls dd H' (S2.trans S') R' q
    | bad => rw [e] at FF; exact FF.elim
  · exact FF.elim
theorem sp_makeP {K : PySem.W.Frag} {W : WX} {σ : L2.St} {g : Gh} {h : Hs} {H : Hp} {Q : VK} {ds : List D} {vs : List V} {n : Nat} (R : Rel K cs g h H) (r : RDs K cs g.ρ g.G h.length ds vs)
    (FF : EndR K cs (relD K cs) W σ g h.length H Q (callP (make c n F) ds h)) : ∀ x dx, H x = none → H dx = none → dx ≠ x → spF K cs F n (.ref x :: vs) (upd (upd H dx (.own x)) x (.ins (cs.C c) dx [])) (fun v H2 => v = .non ∧ Lq Q (.ref x) H2) (WE W σ) := by
  unfold callP at FF
  split at FF
  · rename_i hp
    refine sp_make R.forget (plain_zero r hp) ?_
    unfold pureEnd at FF
    cases e : make c n F ds [] with
    | ok d h' =>
      rw [e] at FF
      simp only at FF
      intro g' v H' S' R' q
      split at FF
      · rename_i p hz
        refine ⟨dPlaces g' h', dPlaces_mut R', fun H2 L0 => ?_⟩
        have L := lockOf L0
        obtain ⟨R2, S2⟩ := R.back (g' := g') (S'.locked R' L) (allG_fz R' L) (allG_ntb R' L) (locked_tabs R' L R'.tabs) (S'.sub.trans (sub_allG R')) (allG_sub R' L) (allG_steal S')
        exact FF _ v H2 S2 R2 (.p (frz_ok R' L 6 d v p q hz))
      · exact FF.elim
    | ex c fs h' =>
      rw [e] at FF
      intro g' cls dd H' S' R' q
      obtain ⟨R2, S2⟩ := R.back (g' := g') S' R'.fz R'.ntb R'.tabs S'.sub R'.sub (fun a o h1 nt h2 => S'.steal a o h1 nt (fun i hi => absurd hi (Nat.not_lt_zero _)) h2)
      exact FF ⟨g.ρ, g'.G⟩ cls dd H' S2 R2 q
    | bad => rw [e] at FF; exact FF
  · exact FF.elim
theorem gMake (M : KOk X cs k x c n F) (hr : Room (k + 1) X.A) (ga : GA X cs (e :: es) fa) (hg : Gl X x := by rfl) (hdb : (x == ("__debug__" : Str)) = false := by decide) (he : starEach (e :: es) X.env = (false, eval e X.env) :: starEach es X.env := by rfl) (hpl : (backTo pos (starEach es X.env)).any (·.1) = false := by rfl) :
    GE X cs (.Call (.Name x p) (e :: es) [] pos) (cMake c n F fa) := fun W tk => by
  obtain ⟨f, fd, ps, hn, FO, hm, hb⟩ := M.ex
  refine ⟨fun pins s σ H Q I hh => ?_⟩
  obtain ⟨g, env, h, R, E, FF⟩ := hh
  refine wpAny_Call_Name_kw (ld_glob I hg M.mg ?_ hdb)
  have hq : tA X.K cs W fa σ H (fun vs H1 => ∀ x dx, H1 x = none → H1 dx = none → dx ≠ x → spF X.K cs F n (.ref x :: vs) (upd (upd H1 dx (.own x)) x (.ins (cs.C c) dx [])) (fun v H2 => v = .non ∧ Q (.ref x) H2) (WE W σ)) :=
    ⟨g, env, h, R, E, FF.of fun ds h1 g1 vs H1 e1 S1 R1 V1 F1 => sp_make R1 V1 F1⟩
  refine PySem.W.callWith_K (h₀ := X.base) I.ok.mod.kin hm.kp (thn ((ga W tk).run pos pins s σ H _ I hq) fun us s1 ⟨vs, H1, I1, r, q⟩ => ⟨I1.kIn, ?_⟩) he hpl
  exact run_makeS hm FO hr hb (passAt tk σ) I1 r q
theorem gMakeP (M : KOk X cs k x c n F) (hr : Room (k + 1) X.A) (ga : GA X cs (e :: es) fa) (hg : Gl X x := by rfl) (hdb : (x == ("__debug__" : Str)) = false := by decide) (he : starEach (e :: es) X.env = (false, eval e X.env) :: starEach es X.env := by rfl) (hpl : (backTo pos (starEach es X.env)).any (·.1) = false := by rfl) :
    GE X cs (.Call (.Name x p) (e :: es) [] pos) (cMakeP c n F fa) := fun W tk => by
  obtain ⟨f, fd, ps, hn, FO, hm, hb⟩ := M.ex
  refine ⟨fun pins s σ H Q I hh => ?_⟩
  obtain ⟨g, env, h, R, E, FF⟩ := hh
  refine wpAny_Call_Name_kw (ld_glob I hg M.mg ?_ hdb)
  have hq : tA X.K cs W fa σ H (fun vs H1 => ∀ x dx, H1 x = none → H1 dx = none → dx ≠ x → spF X.K cs F n (.ref x :: vs) (upd (upd H1 dx (.own x)) x (.ins (cs.C c) dx [])) (fun v H2 => v = .non ∧ Lq Q (.ref x) H2) (WE W σ)) :=
    ⟨g, env, h, R, E, FF.of fun ds h1 g1 vs H1 e1 S1 R1 V1 F1 => sp_makeP R1 V1 F1⟩
  refine PySem.W.callWith_K (h₀ := X.base) I.ok.mod.kin hm.kp (thn ((ga W tk).run pos pins s σ H _ I hq) fun us s1 ⟨vs, H1, I1, r, q⟩ => ⟨I1.kIn, ?_⟩) he hpl
  exact thn (run_makeS hm FO hr hb (passAt tk σ) I1 r q) fun _ _ z => EP.locks z
theorem gMake0 (M : KOk X cs k x c n F) (hr : Room (k + 1) X.A) (hg : Gl X x := by rfl) (hdb : (x == ("__debug__" : Str)) = false := by decide) : GE X cs (.Call (.Name x p) [] [] pos) (cMake c n F aN) := fun W tk => by
  obtain ⟨f, fd, ps, hn, FO, hm, hb⟩ := M.ex
  refine ⟨fun pins s σ H Q I hh => ?_⟩
  obtain ⟨g, env, h, R, E, FF⟩ := hh
  refine wpAny_Call_Name_kw (ld_glob I hg M.mg ?_ hdb)
  exact PySem.W.callWith_K0 I.kIn hm.kp (run_makeS (us := []) hm FO hr hb (passAt tk σ) I .nil (sp_make R .nil FF))
end

/-! ### blocks and small statements -/
def sSeq (f k : FS) : FS := fun env h => match f env h with
  | .nx e h' => k e h'
  | r => r
def sNx : FS := fun env h => .nx env h
def sRet (f : FE) : FS := fun env h => (f env h).toS env fun d h1 => .rt d h1
def sRetN : FS := fun _ h => .rt (.p .non) h
def sEx (f : FE) : FS := fun env h => (f env h).toS env fun _ h1 => .nx env h1
def sIf (c : FT) (f k : FS) : FS := fun env h => (c env h).toS env fun b h1 => match b with
  | true => f env h1
  | false => k env h1
def sBk : FS := fun env h => .bk env h
def sCt : FS := fun env h => .ct env h
def sSet (i : Nat) (f : FE) : FS := fun env h => (f env h).toS env fun d h1 => .nx (env.set i (some d)) h1
section
variable {X : Cx} {cs : Tx} {st : Stmt} {rest : List Stmt} {f k : FS} {fe : FE} {fc : FT} {e : Expr} {pos : Pos}
theorem gsN : GSs X cs [] sNx := fun W _ => PSs.imp pss_nil fun D' σ H ⟨g, env, h, R, E, F⟩ => F g σ H Step.refl R E
theorem gsC (h1 : GS X cs st f) (h2 : GSs X cs rest k) : GSs X cs (st :: rest) (sSeq f k) := fun W tk => by
  refine PSs.imp (pss_cons (h1 W tk) (h2 W tk)) fun D' σ H ⟨g, env, h, R, E, F⟩ => ?_
  refine ⟨g, env, h, R, E, ?_⟩
  unfold sSeq at F
  cases q : f env h with
  | nx e h' => rw [q] at F; exact fun g' σ' H' S' R' E' => ⟨g', e, h', R', E', EndS.shift S' F⟩
  | rt d h' => rw [q] at F; exact F
  | bk e h' => rw [q] at F; exact F
  | ct e h' => rw [q] at F; exact F
  | ex c fs e h' => rw [q] at F; exact F
  | bad => rw [q] at F; exact F
theorem gs1 (h1 : GS X cs st f) : GSs X cs [st] f := fun W tk => pss_one (h1 W tk)
theorem gPass : GS X cs (.Pass pos) sNx := fun W _ => PS.imp ps_pass fun D' σ H ⟨g, env, h, R, E, F⟩ => F g σ H Step.refl R E
theorem gBreak : GS X cs (.Break pos) sBk := fun W _ => PS.imp ps_break fun D' σ H ⟨g, env, h, R, E, F⟩ => F g σ H Step.refl R E
theorem gCont : GS X cs (.Continue pos) sCt := fun W _ => PS.imp ps_continue fun D' σ H ⟨g, env, h, R, E, F⟩ => F g σ H Step.refl R E
theorem gRet (ge : GE X cs e fe) : GS X cs (.Return (some e) pos) (sRet fe) := fun W tk => by
  refine PS.imp (ps_ret (ge W tk)) fun D' σ H ⟨g, env, h, R, E, F⟩ => ?_
  exact ⟨g, env, h, R, E, EndR.ofS E F fun d h1 g1 v H1 e1 S1 R1 V1 F1 => F1 g1 v H1 Step.refl R1 V1⟩
theorem gRetN : GS X cs (.Return none pos) sRetN := fun W tk => by
  refine PS.imp ps_retN fun D' σ H ⟨g, env, h, R, E, F⟩ => ?_
  exact F g .non H Step.refl R (.p .non)
theorem gEx (ge : GE X cs e fe) (hs : swapsWith e none pos.line X.env = pure false := by rfl) : GS X cs (.Expr e pos) (sEx fe) := fun W tk => by
  refine PS.imp (ps_expr (ge W tk) hs) fun D' σ H ⟨g, env, h, R, E, F⟩ => ?_
  exact ⟨g, env, h, R, E, EndR.ofS E F fun d h1 g1 v H1 e1 S1 R1 V1 F1 => F1 g1 σ H1 Step.refl R1 (E.step S1)⟩
theorem gIfS {c : Expr} {a b : List Stmt} (gc : GT X cs c fc) (ga : GSs X cs a f) (gb : GSs X cs b k) : GS X cs (.If c a b pos) (sIf fc f k) := fun W tk => by
  refine PS.imp (ps_if (gc W tk) (ga W tk) (gb W tk)) fun D' σ H ⟨g, env, h, R, E, F⟩ => ?_
  refine ⟨g, env, h, R, E, EndR.ofS E F fun d h1 g1 v H1 e1 S1 R1 V1 F1 => ?_⟩
  obtain rfl : d = v := V1
  cases d with
  | true => exact ⟨g1, env, h1, R1, E.step S1, F1⟩
  | false => exact ⟨g1, env, h1, R1, E.step S1, F1⟩
theorem gSet {i : Nat} {x : Str} {pos' : Pos} (hN : X.N.Nodup) (ge : GE X cs e fe) (hi : X.N[i]? = some x := by rfl) (hx : Loc X.env.scope x := by first | exact Or.inl rfl | exact Or.inr rfl) (hs : swapsWith e (some (.Name x pos')) pos.line X.env = pure false := by rfl)
    (hf : X.fn x = true ∨ X.env.scope.names.lookup x = some .local := by first | exact .inl rfl | exact .inr rfl) : GS X cs (.Assign [.Name x pos'] e pos) (sSet i fe) := fun W tk => by
  refine PS.imp (ps_set hN hi hx (ge W tk) hs hf) fun D' σ H ⟨g, env, h, R, E, F⟩ => ?_
  exact ⟨g, env, h, R, E, EndR.ofS E F fun d h1 g1 v H1 e1 S1 R1 V1 F1 => F1 g1 _ H1 Step.refl R1 ((E.step S1).set i V1)⟩
/-- a, b = x, y of plain local names -/
def sPar (i j : Nat) (fa : FA) : FS := fun env h => (fa env h).toS env fun ds h1 => match ds with
  | [a, b] => .nx ((env.set i (some a)).set j (some b)) h1
  | _ => .bad
theorem gPar {i j : Nat} {x y : Str} {a b : Expr} {fa : FA} {px py pt : Pos} {kt k2 pt2} (hc : X.calm = true) (hN : X.N.Nodup) (ga : GA X cs [a, b] fa) (hi : X.N[i]? = some x := by rfl) (hj : X.N[j]? = some y := by rfl) (hij : i ≠ j := by decide)
    (hx : X.env.scope.names.lookup x = some .local := by rfl) (hy : X.env.scope.names.lookup y = some .local := by rfl)
    (hw : swappedStores [.Tuple [.Name x px, .Name y py] kt pt] (.Tuple [a, b] k2 pt2) X.env = pure (some [x, y]) := by rfl)
    (hs : swapsWithSole [.Tuple [.Name x px, .Name y py] kt pt] (.Tuple [a, b] k2 pt2) pos.line X.env = pure false := by rfl) :
    GS X cs (.Assign [.Tuple [.Name x px, .Name y py] kt pt] (.Tuple [a, b] k2 pt2) pos) (sPar i j fa) := fun W tk => by
  refine PS.imp (ps_par hc hN hi hj hij hx hy (ga W tk) hw hs) fun D' σ H ⟨g, env, h, R, E, F⟩ => ?_
  refine ⟨g, env, h, R, E, EndR.ofS E F fun ds h1 g1 vs H1 e1 S1 R1 V1 F1 => ?_⟩
  split at F1
  · cases V1 with
    | cons q1 t1 => cases t1 with
      | cons q2 t2 =>
        cases t2
        exact ⟨_, _, rfl, F1 g1 _ H1 Step.refl R1 (((E.step S1).set i q1).set j q2)⟩
  · exact F1.elim
def sPar3 (i j l : Nat) (fa : FA) : FS := fun env h => (fa env h).toS env fun ds h1 => match ds with
  | [a, b, c] => .nx (((env.set i (some a)).set j (some b)).set l (some c)) h1
  | _ => .bad
end

/-! ### targets -/
abbrev FG := D → Env → Hs → R Env
abbrev FGs := List D → Env → Hs → R Env
def EndG (K : PySem.W.Frag) (cs : Tx) (g : Gh) (n : Nat) (H : Hp) (Q : L2.St → Hp → Prop) (r : R Env) : Prop := match r with
  | .ok env h' => ∀ g' σ' H', Step g n H g' h'.length H' → Rel K cs g' h' H' → REnv K cs g' h'.length env σ' → Q σ' H'
  | _ => False
theorem EndG.shift {K : PySem.W.Frag} {cs : Tx} {g g1 : Gh} {n n1 : Nat} {H H1 : Hp} {Q : L2.St → Hp → Prop} {r : R Env} (s : Step g n H g1 n1 H1) (h : EndG K cs g n H Q r) : EndG K cs g1 n1 H1 Q r := by
  cases r with
  | ok e h' => exact fun g' σ' H' S => h g' σ' H' (s.trans S)
  | ex c fs h' => exact h
  | bad => exact h
def tG (K : PySem.W.Frag) (cs : Tx) (ft : FG) : TG := fun v σ H Q => ∃ g env h d, Rel K cs g h H ∧ REnv K cs g h.length env σ ∧ RD K cs g.ρ g.G h.length d v ∧ EndG K cs g h.length H Q (ft d env h)
def tGs (K : PySem.W.Frag) (cs : Tx) (ft : FGs) : TGs := fun vs σ H Q => ∃ g env h ds, Rel K cs g h H ∧ REnv K cs g h.length env σ ∧ RDs K cs g.ρ g.G h.length ds vs ∧ EndG K cs g h.length H Q (ft ds env h)
def GG (X : Cx) (cs : Tx) (tg : Expr) (ft : FG) : Prop := PG X tg (tG X.K cs ft)
def GGs (X : Cx) (cs : Tx) (tgs : List Expr) (ft : FGs) : Prop := PGs X tgs (tGs X.K cs ft)
theorem PG.imp {X : Cx} {tg : Expr} {t t' : TG} (h : PG X tg t) (k : ∀ v σ H Q, t' v σ H Q → t v σ H Q) : PG X tg t' := ⟨fun pins s σ H v u Q I r q => h.run pins s σ H v u Q I r (k v σ H Q q)⟩
theorem PGs.imp {X : Cx} {tg : List Expr} {t t' : TGs} (h : PGs X tg t) (k : ∀ v σ H Q, t' v σ H Q → t v σ H Q) : PGs X tg t' := ⟨fun pins s σ H v u Q I r q => h.run pins s σ H v u Q I r (k v σ H Q q)⟩
def tN (i : Nat) : FG := fun d env h => .ok (env.set i (some d)) h
def tsN : FGs := fun ds env h => match ds with
  | [] => .ok env h
  | _ => .bad
def tsC (f : FG) (k : FGs) : FGs := fun ds env h => match ds with
  | d :: r => (f d env h).bind fun e h1 => k r e h1
  | [] => .bad
/-- the items of a tuple -/
def tupOf (d : D) (h : Hs) : Option (List D) := match d with
  | .p (.tup ps) => some (ps.map D.p)
  | .loc i => (match h[i]? with
    | some (.rt ds) => some ds
    | _ => none)
  | _ => none
theorem tupOf_ok {K : PySem.W.Frag} {cs : Tx} {g : Gh} {h : Hs} {H : Hp} {d : D} {v : V} {ds : List D} (R : Rel K cs g h H) (V1 : RD K cs g.ρ g.G h.length d v) (e : tupOf d h = some ds) : ∃ a xs, v = .ref a ∧ SqT K H a xs ∧ RDs K cs g.ρ g.G h.length ds xs := by
  unfold tupOf at e
  split at e
  · cases e
    cases V1 with
    | p r =>
      cases r with
      | tup q1 q2 => exact ⟨_, _, rfl, (.inl (R.sub.rd q1)), RDs.lift q2⟩
  · split at e
    · rename_i e3
      cases e
      cases V1 with
      | loc hi =>
        obtain ⟨xs, q1, q2⟩ := R.at_ _ _ e3
        exact ⟨_, _, rfl, SqT.of q1, q2⟩
    · cases e
  · cases e
def tT2 (n : Nat) (k : FGs) : FG := fun d env h => match tupOf d h with
  | some ds => if ds.length = n then k ds env h else .bad
  | none => .bad
section
variable {X : Cx} {cs : Tx} {pos : Pos} {tg : Expr} {tgs : List Expr} {f : FG} {k : FGs} {n : Nat}
theorem tgN {i : Nat} {x : Str} (hN : X.N.Nodup) (hi : X.N[i]? = some x := by rfl) (hx : Loc X.env.scope x := by first | exact Or.inl rfl | exact Or.inr rfl) (hf : X.fn x = true ∨ X.env.scope.names.lookup x = some .local := by first | exact .inl rfl | exact .inr rfl) : GG X cs (.Name x pos) (tN i) :=
  PG.imp (pg_name hN hi hx hf) fun v σ H Q ⟨g, env, h, d, R, E, V1, F⟩ => F g _ H Step.refl R (E.set i V1)
theorem tgsN : GGs X cs [] tsN := PGs.imp pgs_nil fun v σ H Q ⟨g, env, h, d, R, E, V1, F⟩ => by
  unfold tsN at F
  split at F
  · cases V1; exact ⟨rfl, F g _ H Step.refl R E⟩
  · exact F.elim
theorem tgsC (h1 : GG X cs tg f) (h2 : GGs X cs tgs k) (hs : (assignEach (tg :: tgs) X.env).map (·.2) = assign tg X.env :: (assignEach tgs X.env).map (·.2) := by rfl) : GGs X cs (tg :: tgs) (tsC f k) := PGs.imp (pgs_cons h1 h2 hs) fun v σ H Q ⟨g, env, h, d, R, E, V1, F⟩ => by
  unfold tsC at F
  split at F
  · rename_i d r
    cases V1 with
    | cons q t =>
      refine ⟨_, _, rfl, g, env, h, d, R, E, q, ?_⟩
      cases e : f d env h with
      | ok e1 h1 =>
        rw [e] at F
        exact fun g' σ' H' S' R' E' => ⟨g', e1, h1, r, R', E', RDs.step S' t, EndG.shift S' F⟩
      | ex c fs h1 => rw [e] at F; exact F.elim
      | bad => rw [e] at F; exact F.elim
  · exact F.elim
theorem tgT {kk : Nat} (hc : X.calm = true) (gg : GGs X cs tgs k) (hn : (assignEach tgs X.env).length = n := by rfl) (hst : (assignEach tgs X.env).findIdx? (·.1) = none := by rfl) : GG X cs (.Tuple tgs kk pos) (tT2 n k) := PG.imp (pg_tup hc gg hn hst) fun v σ H Q ⟨g, env, h, d, R, E, V1, F⟩ => by
  unfold tT2 at F
  split at F
  · rename_i ds e
    obtain ⟨a, xs, ev, hs, r⟩ := tupOf_ok R V1 e
    split at F
    · rename_i hl
      exact ⟨a, xs, ev, hs, by rw [← Paired.length r, hl], g, env, h, ds, R, E, r, F⟩
    · exact F.elim
  · exact F.elim
/-- target = e -/
def sAsg (fe : FE) (f : FG) : FS := fun env h => (fe env h).toS env fun d h1 => match f d env h1 with
  | .ok e h2 => .nx e h2
  | _ => .bad
theorem gAsg {e : Expr} {fe : FE} (ge : GE X cs e fe) (gg : GG X cs tg f) (hs : swapsWithSole [tg] e pos.line X.env = pure false := by rfl) (hw : swappedStores [tg] e X.env = pure none := by rfl) (h1 : (assignEach [tg] X.env).map (·.2) = [assign tg X.env] := by rfl) :
    GS X cs (.Assign [tg] e pos) (sAsg fe f) := fun W tk => by
  refine PS.imp (ps_asg (ge W tk) gg hs hw h1) fun D' σ H ⟨g, env, h, R, E, F⟩ => ?_
  refine ⟨g, env, h, R, E, EndR.ofS E F fun d h1 g1 v H1 e1 S1 R1 V1 F1 => ⟨g1, env, h1, d, R1, E.step S1, V1, ?_⟩⟩
  cases e : f d env h1 with
  | ok e2 h2 => rw [e] at F1; exact F1
  | ex c fs h2 => rw [e] at F1; exact F1.elim
  | bad => rw [e] at F1; exact F1.elim
/-- a, b = x, y where a tuple is made on the way -/
def sTupTup (fa : FA) (k : FGs) : FS := fun env h => (fa env h).toS env fun ds h1 => if ds.length ≤ 1000 then (match k ds env h1 with
  | .ok e h2 => .nx e h2
  | _ => .bad) else .bad
theorem gTupTup {es : List Expr} {fa : FA} {kk k2 : Nat} {p1 p2 : Pos} (hc : X.calm = true) (ga : GA X cs es fa) (gg : GGs X cs tgs k) (hn : (assignEach tgs X.env).length = es.length := by rfl) (hst : (assignEach tgs X.env).findIdx? (·.1) = none := by rfl)
    (hs : swapsWithSole [.Tuple tgs kk p1] (.Tuple es k2 p2) pos.line X.env = pure false := by rfl) (hw : swappedStores [.Tuple tgs kk p1] (.Tuple es k2 p2) X.env = pure none := by rfl)
    (h1 : (assignEach [.Tuple tgs kk p1] X.env).map (·.2) = [assign (.Tuple tgs kk p1) X.env] := by rfl) (hal : ∀ env h ds h', fa env h = .ok ds h' → ds.length = es.length) :
    GS X cs (.Assign [.Tuple tgs kk p1] (.Tuple es k2 p2) pos) (sTupTup fa k) := fun W tk => by
  refine PS.imp (ps_asg (pe_tup (ga W tk)) (pg_tup hc gg hn hst) hs hw h1) fun D' σ H ⟨g, env, h, R, E, F⟩ => ?_
  refine ⟨g, env, h, R, E, EndR.ofS E F fun ds h1 g1 vs H1 e1 S1 R1 V1 F1 => ?_⟩
  split at F1
  · rename_i hl
    refine ⟨by rw [← Paired.length V1]; exact le1000 hl, fun p hp => ?_⟩
    obtain ⟨R2, S2⟩ := R1.frozen (o := .tup vs) hp
    refine ⟨p, vs, rfl, SqT.of upd_same, by rw [← Paired.length V1]; exact hal _ _ _ _ e1, _, env, h1, ds, R2, (E.step S1).step S2, RDs.step S2 V1, ?_⟩
    cases e : k ds env h1 with
    | ok e2 h2 => rw [e] at F1; exact fun g' σ' H' S' R' E' => F1 g' σ' H' (S2.trans S') R' E'
    | ex c fs h2 => rw [e] at F1; exact F1.elim
    | bad => rw [e] at F1; exact F1.elim
  · exact F1.elim
theorem len_aN : ∀ env h ds h', aN env h = .ok ds h' → ds.length = ([] : List Expr).length := fun env h ds h' e => by
  unfold aN at e; cases e; rfl
theorem len_aC {f : FE} {k : FA} {e : Expr} {es : List Expr} (ih : ∀ env h ds h', k env h = .ok ds h' → ds.length = es.length) : ∀ env h ds h', aC f k env h = .ok ds h' → ds.length = (e :: es).length := fun env h ds h' q => by
  unfold aC at q
  cases q1 : f env h with
  | ok d h1 =>
    rw [q1] at q
    simp only [R.bind] at q
    cases q2 : k env h1 with
    | ok ds2 h2 =>
      rw [q2] at q
      cases q
      simp [ih _ _ _ _ q2]
    | ex c fs h2 => rw [q2] at q; cases q
    | bad => rw [q2] at q; cases q
  | ex c fs h1 => rw [q1] at q; cases q
  | bad => rw [q1] at q; cases q
/-- name op= e -/
def sAug (i : Nat) (o : P → P → Option P) (fe : FE) : FS := fun env h => match env[i]? with
  | some (some a) => (fe env h).toS env fun b h1 => (ap2 o a b h1).toS env fun z h2 => .nx (env.set i (some z)) h2
  | _ => .bad
theorem gAug {i : Nat} {x : Str} {e : Expr} {fe : FE} {op : Operator} {r : R2} {o : P → P → Option P} {pos' : Pos} (hN : X.N.Nodup) (ho : OpR X (inplaceOp op) r) (hk : OpOk X.K cs r o) (ge : GE X cs e fe) (hi : X.N[i]? = some x := by rfl) (hx : Loc X.env.scope x := by first | exact Or.inl rfl | exact Or.inr rfl)
    (hf : X.fn x = true ∨ X.env.scope.names.lookup x = some .local := by first | exact .inl rfl | exact .inr rfl) : GS X cs (.AugAssign (.Name x pos') op e pos) (sAug i o fe) := fun W tk => by
  refine PS.imp (ps_aug hN hi hx (ge W tk) (fun pins s σ H x y v u Q I r1 r2 h => ho pins s σ H x y v u Q I r1 r2 h) hf) fun D' σ H ⟨g, env, h, R, E, F⟩ => ?_
  unfold sAug at F
  split at F
  · rename_i a ea
    obtain ⟨v, ev, ra⟩ := E.2 i a ea
    refine ⟨v, ev, g, env, h, R, E, EndR.ofS E F fun b h1 g1 y H1 e1 S1 R1 V1 F1 => ?_⟩
    have ra' := ra.step S1
    unfold ap2 at F1
    cases ra' with
    | loc _ => exact F1.elim
    | p r1 =>
      cases V1 with
      | loc _ => exact F1.elim
      | p r2 =>
        simp only at F1
        split at F1
        · rename_i z ez
          refine hk g1.G H1 v y _ _ z _ R1.sub r1 r2 ez ⟨fun w rw => ?_, fun p o w hp ho rw => ?_⟩
          · exact F1 g1 _ H1 Step.refl R1 ((E.step S1).set i (.p rw))
          · obtain ⟨R2, S2⟩ := R1.frozen (o := o) hp ho
            exact F1 _ _ _ S2 R2 (((E.step S1).step S2).set i (.p rw))
        · exact F1.elim
  · exact F.elim
end
end Ar
namespace Ar
open PySem PySem.Spec PyProof.Rows L2

/-! ### the very same data -/
mutual
def beqX : P → P → Bool
  | .non, .non => true
  | .bl a, .bl b => a == b
  | .int a, .int b => a == b
  | .str a, .str b => a == b
  | .tup a, .tup b => beqXs a b
  | .lst a, .lst b => beqXs a b
  | .dct a b, .dct c d => beqXs a c && beqXs b d
  | .dtt a b, .dtt c d => beqXs a c && beqXs b d
  | .ins a b c, .ins d e f => a == d && b == e && beqXs c f
  | .scr a, .scr b => a == b
  | _, _ => false
def beqXs : List P → List P → Bool
  | [], [] => true
  | x :: xs, y :: ys => beqX x y && beqXs xs ys
  | _, _ => false
end
mutual
theorem beqX_eq : ∀ {p q : P}, beqX p q = true → p = q
  | .non, q, h => by cases q <;> simp [beqX] at h ⊢
  | .bl _, q, h => by cases q <;> simp [beqX] at h ⊢; exact h
  | .int _, q, h => by cases q <;> simp [beqX] at h ⊢; exact h
  | .str _, q, h => by cases q <;> simp [beqX] at h ⊢; exact h
  | .scr _, q, h => by cases q <;> simp [beqX] at h ⊢; exact h
  | .tup a, q, h => by
    cases q with
    | tup b => simp only [beqX] at h; rw [beqXs_eq h]
    | _ => simp [beqX] at h
  | .lst a, q, h => by
    cases q with
    | lst b => simp only [beqX] at h; rw [beqXs_eq h]
    | _ => simp [beqX] at h
  | .dct a b, q, h => by
    cases q with
    | dct c d => simp only [beqX, Bool.and_eq_true] at h; rw [beqXs_eq h.1, beqXs_eq h.2]
    | _ => simp [beqX] at h
  | .dtt a b, q, h => by
    cases q with
    | dtt c d => simp only [beqX, Bool.and_eq_true] at h; rw [beqXs_eq h.1, beqXs_eq h.2]
    | _ => simp [beqX] at h
  | .ins a b c, q, h => by
    cases q with
    | ins d e f => simp only [beqX, Bool.and_eq_true, beq_iff_eq] at h; rw [h.1.1, h.1.2, beqXs_eq h.2]
    | _ => simp [beqX] at h
theorem beqXs_eq : ∀ {p q : List P}, beqXs p q = true → p = q
  | [], [], _ => rfl
  | [], _ :: _, h => by simp [beqXs] at h
  | _ :: _, [], h => by simp [beqXs] at h
  | x :: xs, y :: ys, h => by
    simp only [beqXs, Bool.and_eq_true] at h
    rw [beqX_eq h.1, beqXs_eq h.2]
end
mutual
theorem beqX_refl : ∀ p : P, beqX p p = true
  | .non => rfl
  | .bl _ => by simp [beqX]
  | .int _ => by simp [beqX]
  | .str _ => by simp [beqX]
  | .scr _ => by simp [beqX]
  | .tup a => by simp only [beqX]; exact beqXs_refl a
  | .lst a => by simp only [beqX]; exact beqXs_refl a
  | .dct a b => by simp only [beqX, beqXs_refl a, beqXs_refl b]; rfl
  | .dtt a b => by simp only [beqX, beqXs_refl a, beqXs_refl b]; rfl
  | .ins a b c => by simp [beqX, beqXs_refl c]
theorem beqXs_refl : ∀ p : List P, beqXs p p = true
  | [] => rfl
  | x :: xs => by simp only [beqXs, beqX_refl x, beqXs_refl xs]; rfl
end
def beqD : D → D → Bool
  | .p x, .p y => beqX x y
  | .loc i, .loc j => i == j
  | _, _ => false
def beqDs : List D → List D → Bool
  | [], [] => true
  | x :: xs, y :: ys => beqD x y && beqDs xs ys
  | _, _ => false
theorem beqD_eq {x y : D} (h : beqD x y = true) : x = y := by
  cases x <;> cases y <;> simp [beqD] at h
  · rw [beqX_eq h]
  · rw [h]
theorem beqDs_eq : ∀ {p q : List D}, beqDs p q = true → p = q
  | [], [], _ => rfl
  | [], _ :: _, h => by simp [beqDs] at h
  | _ :: _, [], h => by simp [beqDs] at h
  | x :: xs, y :: ys, h => by
    simp only [beqDs, Bool.and_eq_true] at h
    rw [beqD_eq h.1, beqDs_eq h.2]
theorem beqD_refl (x : D) : beqD x x = true := by cases x <;> simp [beqD, beqX_refl]
theorem beqDs_refl : ∀ p : List D, beqDs p p = true
  | [] => rfl
  | x :: xs => by simp only [beqDs, beqD_refl x, beqDs_refl xs]; rfl

/-! ### what is walked -/
/-- the iterator J yields the items, as long as inv holds of the places -/
structure ItOk (K : PySem.W.Frag) (cs : Tx) (g0 : Gh) (n0 : Nat) (H0 : Hp) (J : It) (items : List D) (inv : Hs → Bool) : Prop where
  go : ∀ (g : Gh) (h : Hs) (H : Hp) (i : Nat) (d : D), Soft g0 n0 g h.length → Rel K cs g h H → inv h = true → items[i]? = some d →
    J.go i H ∧ ∀ x H', J.yld i H x H' → ∃ g', Step g h.length H g' h.length H' ∧ Rel K cs g' h H' ∧ RD K cs g'.ρ g'.G h.length d x
  stop : ∀ (g : Gh) (h : Hs) (H : Hp), Soft g0 n0 g h.length → Rel K cs g h H → inv h = true → J.stop items.length H
abbrev FI := Env → Hs → R (List D × (Hs → Bool))
def EndI (K : PySem.W.Frag) (cs : Tx) (W : WX) (σ : L2.St) (g : Gh) (n : Nat) (H : Hp) (Rr : It → Hp → Prop) (r : R (List D × (Hs → Bool))) : Prop := match r with
  | .ok it h' => ∀ g' J H', Step g n H g' h'.length H' → Rel K cs g' h' H' → ItOk K cs g' h'.length H' J it.1 it.2 → Rr J H'
  | .ex c fs h' => ∀ g' cls dd H', Step g n H g' h'.length H' → Rel K cs g' h' H' → RX K cs g' H' c fs cls dd → W cls dd σ H'
  | .bad => False
def tI (K : PySem.W.Frag) (cs : Tx) (W : WX) (fi : FI) : TI := fun σ H Rr => ∃ g env h, Rel K cs g h H ∧ REnv K cs g h.length env σ ∧ EndI K cs W σ g h.length H Rr (fi env h)
def GI (X : Cx) (cs : Tx) (tg iter : Expr) (fi : FI) : Prop := ∀ W, Takes X W → PI X tg iter (tI X.K cs W fi)
theorem PI.imp {X : Cx} {tg iter : Expr} {t t' : TI} (h : PI X tg iter t) (k : ∀ σ H R, t' σ H R → t σ H R) : PI X tg iter t' := ⟨fun pins s σ H R I q => h.run pins s σ H R I (k σ H R q)⟩
def iAny (K : PySem.W.Frag) (tl : TE) : TI := fun σ H R => tl σ H fun x H1 => (∃ a, x = .ref a ∧ (∃ xs, SqL K H1 a xs) ∧ R (Itl K a) H1) ∨ (∃ a, x = .ref a ∧ (∃ xs, SqT K H1 a xs) ∧ R (Itt K a) H1)
theorem pi_any {X : Cx} {tg l : Expr} {tl : TE} (hl : PE X l tl) : PI X tg l (iAny X.K tl) := by
  refine ⟨fun pins s σ H R I h => ?_⟩
  refine thn (hl.run pins s σ H _ I h) fun v s1 ⟨x, H1, I1, r1, q1⟩ => ?_
  rcases q1 with ⟨a, e, ⟨xs, hq⟩, q⟩ | ⟨a, e, ⟨xs, hq⟩, q⟩
  · subst e
    cases r1
    obtain ⟨its, rv, p, hz⟩ := I1.list hq
    refine wpAny_pyIter_list p.isList ?_
    refine ⟨s1.heap.objs.size, [s1.heap.objs.size], _, _, H1, rfl, I1.kept (t' := s1.toks) fun b o e => Heap.get?_push_of_some _ e, turn_list a _, ⟨_, Heap.get?_push_size _ rfl, rfl, rfl⟩, fun b hb => ?_, q⟩
    have e : b = s1.heap.objs.size := by simpa using hb
    subst e
    exact I1.fpOk (Nat.le_refl _) (I1.hok.fresh (Nat.le_refl _))
  · subst e
    cases r1
    obtain ⟨its, rv, p, hz⟩ := I1.tuple hq
    refine wpAny_pyIter_tuple (show s1.heap.IsTuple a its.toArray from p) ?_
    refine ⟨s1.heap.objs.size, [s1.heap.objs.size], _, _, H1, rfl, I1.kept (t' := s1.toks) fun b o e => Heap.get?_push_of_some _ e, turn_tuple a _, ⟨_, Heap.get?_push_size _ rfl, rfl, rfl⟩, fun b hb => ?_, q⟩
    have e : b = s1.heap.objs.size := by simpa using hb
    subst e
    exact I1.fpOk (Nat.le_refl _) (I1.hok.fresh (Nat.le_refl _))
/-- the items of a list or a tuple -/
def seqItems (d : D) (h : Hs) : R (List D × (Hs → Bool)) := match d with
  | .p (.lst ps) => .ok (ps.map D.p, fun _ => true) h
  | .p (.tup ps) => .ok (ps.map D.p, fun _ => true) h
  | .loc i => (match h[i]? with
    | some (.lst ps) => .ok (ps.map D.p, fun h' => match h'[i]? with | some (.lst qs) => beqXs ps qs | _ => false) h
    | some (.rl ds) => .ok (ds, fun h' => match h'[i]? with | some (.rl es) => beqDs ds es | _ => false) h
    | some (.rt ds) => .ok (ds, fun h' => match h'[i]? with | some (.rt es) => beqDs ds es | _ => false) h
    | _ => .bad)
  | _ => .bad
def iSeq (fe : FE) : FI := fun env h => (fe env h).bind seqItems
theorem rds_get {K : PySem.W.Frag} {cs : Tx} {ρ : Nat → Addr} {G : Hp} {n : Nat} : ∀ {ds : List D} {vs : List V} {i : Nat} {d : D}, RDs K cs ρ G n ds vs → ds[i]? = some d → ∃ v, vs[i]? = some v ∧ RD K cs ρ G n d v
  | _, _, _, _, .nil, e => by simp at e
  | _, _, 0, d, .cons r _, e => by simp at e; subst e; exact ⟨_, rfl, r⟩
  | _, _, i + 1, d, .cons _ t, e => by
    obtain ⟨v, h1, h2⟩ := rds_get (i := i) t (by simpa using e)
    exact ⟨v, by simpa using h1, h2⟩
section
variable {K : PySem.W.Frag} {cs : Tx} {g0 : Gh} {n0 : Nat} {H0 : Hp} {items : List D} {inv : Hs → Bool} {a : Addr}
theorem itOk_list (key : ∀ (g : Gh) (h : Hs) (H : Hp), Soft g0 n0 g h.length → Rel K cs g h H → inv h = true → ∃ xs, SqL K H a xs ∧ RDs K cs g.ρ g.G h.length items xs) : ItOk K cs g0 n0 H0 (Itl K a) items inv where
  go := fun g h H i d S R hi e => by
    obtain ⟨xs, q, r⟩ := key g h H S R hi
    obtain ⟨v, e2, rv⟩ := rds_get r e
    refine ⟨⟨xs, v, q, e2⟩, fun x H' y => ?_⟩
    obtain ⟨rfl, y⟩ := y
    have := y xs q
    rw [e2] at this
    cases this
    exact ⟨g, Step.refl, R, rv⟩
  stop := fun g h H S R hi => by
    obtain ⟨xs, q, r⟩ := key g h H S R hi
    exact ⟨xs, q, by rw [Paired.length r]; exact Nat.le_refl _⟩
theorem itOk_tup (key : ∀ (g : Gh) (h : Hs) (H : Hp), Soft g0 n0 g h.length → Rel K cs g h H → inv h = true → ∃ xs, SqT K H a xs ∧ RDs K cs g.ρ g.G h.length items xs) : ItOk K cs g0 n0 H0 (Itt K a) items inv where
  go := fun g h H i d S R hi e => by
    obtain ⟨xs, q, r⟩ := key g h H S R hi
    obtain ⟨v, e2, rv⟩ := rds_get r e
    refine ⟨⟨xs, v, q, e2⟩, fun x H' y => ?_⟩
    obtain ⟨rfl, y⟩ := y
    have := y xs q
    rw [e2] at this
    cases this
    exact ⟨g, Step.refl, R, rv⟩
  stop := fun g h H S R hi => by
    obtain ⟨xs, q, r⟩ := key g h H S R hi
    exact ⟨xs, q, by rw [Paired.length r]; exact Nat.le_refl _⟩
end
section
variable {X : Cx} {cs : Tx} {tg e : Expr} {fe : FE}
theorem giSeq (ge : GE X cs e fe) : GI X cs tg e (iSeq fe) := fun W tk => by
  refine PI.imp (pi_any (ge W tk)) fun σ H Rr ⟨g, env, h, R, E, F⟩ => ?_
  refine ⟨g, env, h, R, E, ?_⟩
  unfold iSeq at F
  cases q : fe env h with
  | bad => rw [q] at F; exact F
  | ex c fs h' => rw [q] at F; exact F
  | ok d h1 =>
    rw [q] at F
    simp only [Ar.R.bind] at F
    intro g1 x H1 S1 R1 V1
    unfold seqItems at F
    cases V1 with
    | p r =>
      cases r with
      | lst q1 q2 =>
        refine .inl ⟨_, rfl, ⟨_, .inl (R1.sub.rd q1.1)⟩, F g1 _ H1 S1 R1 (itOk_list fun g h H S R _ => ⟨_, .inl (R.sub.rd (S.sub.rd q1.1)), RDs.lift (q2.mono S.sub)⟩)⟩
      | tup q1 q2 =>
        refine .inr ⟨_, rfl, ⟨_, .inl (R1.sub.rd q1)⟩, F g1 _ H1 S1 R1 (itOk_tup fun g h H S R _ => ⟨_, .inl (R.sub.rd (S.sub.rd q1)), RDs.lift (q2.mono S.sub)⟩)⟩
      | _ => exact F.elim
    | loc hi =>
      rename_i i
      dsimp only at F
      cases e1 : h1[i]? with
      | none => simp only [e1] at F; exact F.elim
      | some o =>
        simp only [e1] at F
        have ro := R1.at_ i o e1
        cases o with
        | lst ps =>
          obtain ⟨xs, q1, q2⟩ := ro
          refine .inl ⟨_, rfl, ⟨_, SqL.of q1⟩, F g1 _ H1 S1 R1 (itOk_list fun g h H S R hiv => ?_)⟩
          cases e2 : h[i]? with
          | none => simp [e2] at hiv
          | some o2 =>
            cases o2 with
            | lst qs =>
              simp only [e2] at hiv
              have := beqXs_eq hiv
              subst this
              obtain ⟨ys, p1, p2⟩ := R.at_ i _ e2
              rw [S.ext i hi] at p1
              exact ⟨ys, SqL.of p1, RDs.lift p2⟩
            | _ => simp [e2] at hiv
        | rl ds =>
          obtain ⟨xs, q1, q2⟩ := ro
          refine .inl ⟨_, rfl, ⟨_, SqL.of q1⟩, F g1 _ H1 S1 R1 (itOk_list fun g h H S R hiv => ?_)⟩
          cases e2 : h[i]? with
          | none => simp [e2] at hiv
          | some o2 =>
            cases o2 with
            | rl qs =>
              simp only [e2] at hiv
              have := beqDs_eq hiv
              subst this
              obtain ⟨ys, p1, p2⟩ := R.at_ i _ e2
              rw [S.ext i hi] at p1
              exact ⟨ys, SqL.of p1, p2⟩
            | _ => simp [e2] at hiv
        | rt ds =>
          obtain ⟨xs, q1, q2⟩ := ro
          refine .inr ⟨_, rfl, ⟨_, SqT.of q1⟩, F g1 _ H1 S1 R1 (itOk_tup fun g h H S R hiv => ?_)⟩
          cases e2 : h[i]? with
          | none => simp [e2] at hiv
          | some o2 =>
            cases o2 with
            | rt qs =>
              simp only [e2] at hiv
              have := beqDs_eq hiv
              subst this
              obtain ⟨ys, p1, p2⟩ := R.at_ i _ e2
              rw [S.ext i hi] at p1
              exact ⟨ys, SqT.of p1, p2⟩
            | _ => simp [e2] at hiv
        | _ => exact F.elim
/-! ### range -/
def zs (lo : Int) : Nat → List D
  | 0 => []
  | n + 1 => .p (.int lo) :: zs (lo + 1) n
theorem zs_len : ∀ (n : Nat) (lo : Int), (zs lo n).length = n
  | 0, _ => rfl
  | n + 1, lo => by simp [zs, zs_len n]
theorem zs_get : ∀ (n : Nat) (lo : Int) (i : Nat) (d : D), (zs lo n)[i]? = some d → i < n ∧ d = .p (.int (lo + i))
  | 0, lo, i, d, e => by simp [zs] at e
  | n + 1, lo, 0, d, e => by simp [zs] at e; subst e; exact ⟨Nat.succ_pos _, by simp⟩
  | n + 1, lo, i + 1, d, e => by
    obtain ⟨h1, h2⟩ := zs_get n (lo + 1) i d (by simpa [zs] using e)
    refine ⟨by omega, ?_⟩
    rw [h2]
    congr 2
    omega
theorem itOk_range {K : PySem.W.Frag} {g0 : Gh} {n0 : Nat} {H0 : Hp} {lo : Int} {n : Nat} : ItOk K cs g0 n0 H0 (Itr lo n) (zs lo n) (fun _ => true) where
  go := fun g h H i d S R _ e => by
    obtain ⟨h1, h2⟩ := zs_get n lo i d e
    refine ⟨h1, fun x H' y => ?_⟩
    obtain ⟨rfl, rfl⟩ := y
    subst h2
    exact ⟨g, Step.refl, R, .p (.int _)⟩
  stop := fun g h H S R _ => by
    rw [zs_len]
    exact Nat.le_refl n
def okI (i : Int) : Bool := decide (-(2 ^ 62) ≤ i ∧ i < 2 ^ 62)
def rngItems1 (ds : List D) (h : Hs) : R (List D × (Hs → Bool)) := match ds with
  | [.p (.int j)] => if okI j then .ok (zs 0 j.toNat, fun _ => true) h else .bad
  | _ => .bad
def rngItems2 (ds : List D) (h : Hs) : R (List D × (Hs → Bool)) := match ds with
  | [.p (.int i), .p (.int j)] => if okI i && okI j then .ok (zs i (j - i).toNat, fun _ => true) h else .bad
  | _ => .bad
def iRng1 (fa : FA) : FI := fun env h => (fa env h).bind rngItems1
def iRng2 (fa : FA) : FI := fun env h => (fa env h).bind rngItems2
theorem giRng1 {a : Expr} {fa : FA} {p pos : Pos} (hm : X.mg "range" = none) (ga : GA X cs [a] fa) (hg : Gl X "range" := by rfl) (hs : starEach [a] X.env = [(false, eval a X.env)] := by rfl) : GI X cs tg (.Call (.Name "range" p) [a] [] pos) (Ar.iRng1 fa) := fun W tk => by
  refine PI.imp (pi_range1 hg hm (ga W tk) hs) fun σ H Rr ⟨g, env, h, R, E, F⟩ => ?_
  refine ⟨g, env, h, R, E, ?_⟩
  unfold Ar.iRng1 at F
  cases q : fa env h with
  | bad => rw [q] at F; exact F
  | ex c fs h' => rw [q] at F; exact F
  | ok d h1 =>
    rw [q] at F
    simp only [Ar.R.bind] at F
    intro g1 x H1 S1 R1 V1
    unfold rngItems1 at F
    split at F
    · cases V1 with
      | cons r t =>
        cases t
        cases r with
        | p r =>
          cases r
          split at F
          · rename_i j hj
            simp only [okI, decide_eq_true_eq] at hj
            exact ⟨j, rfl, hj.1, hj.2, F g1 _ H1 S1 R1 itOk_range⟩
          · exact F.elim
    · exact F.elim
theorem giRng2 {a b : Expr} {fa : FA} {p pos : Pos} (hm : X.mg "range" = none) (ga : GA X cs [a, b] fa) (hg : Gl X "range" := by rfl) (hs : starEach [a, b] X.env = [(false, eval a X.env), (false, eval b X.env)] := by rfl) (hs2 : starEach [b] X.env = [(false, eval b X.env)] := by rfl) : GI X cs tg (.Call (.Name "range" p) [a, b] [] pos) (Ar.iRng2 fa) := fun W tk => by
  refine PI.imp (pi_range2 hg hm (ga W tk) hs hs2) fun σ H Rr ⟨g, env, h, R, E, F⟩ => ?_
  refine ⟨g, env, h, R, E, ?_⟩
  unfold Ar.iRng2 at F
  cases q : fa env h with
  | bad => rw [q] at F; exact F
  | ex c fs h' => rw [q] at F; exact F
  | ok d h1 =>
    rw [q] at F
    simp only [Ar.R.bind] at F
    intro g1 x H1 S1 R1 V1
    unfold rngItems2 at F
    split at F
    · cases V1 with
      | cons r t =>
        cases t with
        | cons r2 t2 =>
          cases t2
          cases r with
          | p r =>
            cases r
            cases r2 with
            | p r2 =>
              cases r2
              split at F
              · rename_i i j hj
                simp only [okI, Bool.and_eq_true, decide_eq_true_eq] at hj
                exact ⟨i, j, rfl, ⟨hj.1.1, hj.1.2, hj.2.1, hj.2.2⟩, F g1 _ H1 S1 R1 itOk_range⟩
              · exact F.elim
    · exact F.elim
/-! ### for -/
def forL (ft : FG) (fb : FS) (inv : Hs → Bool) : List D → Env → Hs → S
  | [], env, h => if inv h then .nx env h else .bad
  | d :: ds, env, h => if inv h then (match ft d env h with
    | .ok e1 h1 => (match fb e1 h1 with
      | .nx e2 h2 => forL ft fb inv ds e2 h2
      | .ct e2 h2 => forL ft fb inv ds e2 h2
      | .bk e2 h2 => .nx e2 h2
      | r => r)
    | _ => .bad) else .bad
def sFor (fi : FI) (ft : FG) (fb : FS) : FS := fun env h => (fi env h).toS env fun it h1 => forL ft fb it.2 it.1 env h1
theorem gFor {iter : Expr} {body : List Stmt} {fi : FI} {ft : FG} {fb : FS} {pos : Pos} (hp : PassesOwn (model X.prog X.w) X.A X.env X.xe) (hc : X.calm = true) (gi : GI X cs tg iter fi) (gg : GG X cs tg ft) (gb : GSs X cs body fb)
    (hs : ∀ x, foldedSetIterable iter X.env x = pure x := by intro _; rfl) : GS X cs (.For tg iter body [] pos) (sFor fi ft fb) := fun W tk => by
  refine PS.imp (ps_for hp hc (gi W tk) gg (gb W tk) hs) fun D' σ H ⟨g, env, h, R, E, F⟩ => ?_
  refine ⟨g, env, h, R, E, ?_⟩
  unfold sFor at F
  cases q : fi env h with
  | bad => rw [q] at F; exact F
  | ex c fs h' => rw [q] at F; exact fun g' cls dd H' S' R' q => F g' σ cls dd H' S' R' (E.step S') q
  | ok it h1 =>
    rw [q] at F
    intro g1 J H1 S1 R1 it1
    have F1 := EndS.shift S1 F
    refine ⟨fun i m σ2 H2 => ∃ g2 env2 h2, Step g1 h1.length H1 g2 h2.length H2 ∧ Rel X.K cs g2 h2 H2 ∧ REnv X.K cs g2 h2.length env2 σ2 ∧ i ≤ it.1.length ∧ m = it.1.length - i ∧ EndS X.K cs W g2 h2.length H2 D' (forL ft fb it.2 (it.1.drop i) env2 h2),
      ⟨it.1.length, g1, env, h1, Step.refl, R1, E.step S1, Nat.zero_le _, rfl, F1⟩, ?_⟩
    rintro i m σ2 H2 ⟨g2, env2, h2, S2, R2, E2, hi, rfl, F2⟩
    by_cases hlt : i < it.1.length
    · obtain ⟨d, hd⟩ : ∃ d, it.1[i]? = some d := ⟨it.1[i], List.getElem?_eq_getElem hlt⟩
      have hdr : it.1.drop i = d :: it.1.drop (i + 1) := by
        rw [List.drop_eq_getElem_cons hlt]
        rw [List.getElem?_eq_getElem hlt] at hd
        cases hd
        rfl
      rw [hdr] at F2
      unfold forL at F2
      split at F2
      · rename_i hiv
        obtain ⟨go, yl⟩ := it1.go g2 h2 H2 i d S2.soft R2 hiv hd
        refine .inr ⟨go, fun σ' H' => ∃ m', m' < it.1.length - i ∧ ∃ g2 env2 h2, Step g1 h1.length H1 g2 h2.length H' ∧ Rel X.K cs g2 h2 H' ∧ REnv X.K cs g2 h2.length env2 σ' ∧ i + 1 ≤ it.1.length ∧ m' = it.1.length - (i + 1) ∧ EndS X.K cs W g2 h2.length H' D' (forL ft fb it.2 (it.1.drop (i + 1)) env2 h2), fun σ' H' h => h, fun x H3 hy => ?_⟩
        obtain ⟨g3, S3, R3, V3⟩ := yl x H3 hy
        refine ⟨g3, env2, h2, d, R3, E2.step S3, V3, ?_⟩
        cases q3 : ft d env2 h2 with
        | ok e4 h4 =>
          rw [q3] at F2
          intro g4 σ4 H4 S4 R4 E4
          refine ⟨g4, e4, h4, R4, E4, ?_⟩
          have S24 := S3.trans S4
          cases q5 : fb e4 h4 with
          | nx e5 h5 =>
            simp only [q5] at F2
            exact fun g5 σ5 H5 S5 R5 E5 => ⟨_, by omega, g5, e5, h5, (S2.trans S24).trans S5, R5, E5, hlt, rfl, EndS.shift (S24.trans S5) F2⟩
          | ct e5 h5 =>
            simp only [q5] at F2
            exact fun g5 σ5 H5 S5 R5 E5 => ⟨_, by omega, g5, e5, h5, (S2.trans S24).trans S5, R5, E5, hlt, rfl, EndS.shift (S24.trans S5) F2⟩
          | bk e5 h5 =>
            simp only [q5] at F2
            exact fun g5 σ5 H5 S5 R5 E5 => F2 g5 σ5 H5 (S24.trans S5) R5 E5
          | rt d5 h5 =>
            simp only [q5] at F2
            exact fun g5 v5 H5 S5 R5 V5 => F2 g5 v5 H5 (S24.trans S5) R5 V5
          | ex c5 fs5 e5 h5 =>
            simp only [q5] at F2
            exact fun g5 σ5 cls dd H5 S5 R5 E5 X5 => F2 g5 σ5 cls dd H5 (S24.trans S5) R5 E5 X5
          | bad => simp only [q5] at F2; exact F2
        | ex c fs h4 => rw [q3] at F2; exact F2.elim
        | bad => rw [q3] at F2; exact F2.elim
      · exact F2.elim
    · have e : i = it.1.length := by omega
      subst e
      rw [List.drop_length] at F2
      unfold forL at F2
      split at F2
      · rename_i hiv
        exact .inl ⟨it1.stop g2 h2 H2 S2.soft R2 hiv, F2 g2 σ2 H2 Step.refl R2 E2⟩
      · exact F2.elim
/-! ### while -/
def whL (c : FT) (fb : FS) : Nat → Env → Hs → S
  | 0, _, _ => .bad
  | n + 1, env, h => (c env h).toS env fun b h1 => match b with
    | true => (match fb env h1 with
      | .nx e2 h2 => whL c fb n e2 h2
      | .ct e2 h2 => whL c fb n e2 h2
      | .bk e2 h2 => .nx e2 h2
      | r => r)
    | false => .nx env h1
def sWhile (n : Nat) (c : FT) (fb : FS) : FS := whL c fb n
theorem gWhile {c : Expr} {body : List Stmt} {fc : FT} {fb : FS} {pos : Pos} (n : Nat) (hp : PassesOwn (model X.prog X.w) X.A X.env X.xe) (gc : GT X cs c fc) (gb : GSs X cs body fb) : GS X cs (.While c body [] pos) (sWhile n fc fb) := fun W tk => by
  refine PS.imp (ps_while hp (gc W tk) (gb W tk)) fun D' σ H ⟨g, env, h, R, E, F⟩ => ?_
  refine ⟨fun m σ2 H2 => ∃ g2 env2 h2, Rel X.K cs g2 h2 H2 ∧ REnv X.K cs g2 h2.length env2 σ2 ∧ EndS X.K cs W g2 h2.length H2 D' (whL fc fb m env2 h2), ⟨n, g, env, h, R, E, F⟩, ?_⟩
  rintro m σ2 H2 ⟨g2, env2, h2, R2, E2, F2⟩
  cases m with
  | zero => exact F2.elim
  | succ m =>
    unfold whL at F2
    refine ⟨g2, env2, h2, R2, E2, EndR.ofS E2 F2 fun b h3 g3 v H3 e3 S3 R3 V3 F3 => ?_⟩
    obtain rfl : b = v := V3
    cases b with
    | true =>
      refine ⟨fun σ' H' => ∃ m', m' < m + 1 ∧ ∃ g2 env2 h2, Rel X.K cs g2 h2 H' ∧ REnv X.K cs g2 h2.length env2 σ' ∧ EndS X.K cs W g2 h2.length H' D' (whL fc fb m' env2 h2), fun σ' H' h => h, g3, env2, h3, R3, E2.step S3, ?_⟩
      cases q5 : fb env2 h3 with
      | nx e5 h5 =>
        simp only [q5] at F3
        exact fun g5 σ5 H5 S5 R5 E5 => ⟨m, by omega, g5, e5, h5, R5, E5, EndS.shift S5 F3⟩
      | ct e5 h5 =>
        simp only [q5] at F3
        exact fun g5 σ5 H5 S5 R5 E5 => ⟨m, by omega, g5, e5, h5, R5, E5, EndS.shift S5 F3⟩
      | bk e5 h5 => simp only [q5] at F3; exact F3
      | rt d5 h5 => simp only [q5] at F3; exact F3
      | ex c5 fs5 e5 h5 => simp only [q5] at F3; exact F3
      | bad => simp only [q5] at F3; exact F3
    | false => exact F3 g3 σ2 H3 Step.refl R3 (E2.step S3)
end
end Ar
namespace Ar
open PySem PySem.Spec PyProof.Rows L2

/-! ### targets of names alone -/
inductive Tg where
  | nm (i : Nat) | tp (ts : List Tg)
mutual
def Tg.slots : Tg → List Nat
  | .nm i => [i]
  | .tp ts => Tg.slotsL ts
def Tg.slotsL : List Tg → List Nat
  | [] => []
  | t :: ts => t.slots ++ Tg.slotsL ts
end
mutual
def Tg.rd (K : PySem.W.Frag) : Tg → TG
  | .nm i => gName i
  | .tp ts => L2.gTup K ts.length (Tg.rdL K ts)
def Tg.rdL (K : PySem.W.Frag) : List Tg → TGs
  | [] => gNil
  | t :: ts => gCons (t.rd K) (Tg.rdL K ts)
end
mutual
def Tg.bind : Tg → D → Env → Hs → Option Env
  | .nm i, d, env, _ => some (env.set i (some d))
  | .tp ts, d, env, h => match tupOf d h with
    | some ds => Tg.bindL ts ds env h
    | none => none
def Tg.bindL : List Tg → List D → Env → Hs → Option Env
  | [], [], env, _ => some env
  | t :: ts, d :: ds, env, h => (match t.bind d env h with
    | some env1 => Tg.bindL ts ds env1 h
    | none => none)
  | _, _, _, _ => none
end
/-- slots outside are as they were -/
def Out (vs : List Nat) (σ σ' : L2.St) : Prop := σ'.length = σ.length ∧ ∀ j, j ∉ vs → σ'[j]? = σ[j]?
theorem Out.trans {vs ws : List Nat} {a b c : L2.St} (h : Out vs a b) (k : Out ws b c) : Out (vs ++ ws) a c :=
  ⟨k.1.trans h.1, fun j hj => by
    rw [List.mem_append, not_or] at hj
    rw [k.2 j hj.2, h.2 j hj.1]⟩
theorem Out.mono {vs ws : List Nat} {a b : L2.St} (h : Out vs a b) (k : ∀ j, j ∈ vs → j ∈ ws) : Out ws a b := ⟨h.1, fun j hj => h.2 j fun z => hj (k j z)⟩
theorem wipe_get (vs : List Nat) (σ : L2.St) (j : Nat) (hj : j < σ.length) : (wipe σ vs)[j]? = if j ∈ vs then some none else σ[j]? := by
  induction vs with
  | nil => simp [wipe]
  | cons v vs ih =>
    unfold wipe
    by_cases h : v = j
    · subst h
      rw [List.getElem?_set_self (by rw [wipe_length]; exact hj)]
      simp
    · rw [List.getElem?_set_ne h, ih]
      have : j ≠ v := fun e => h e.symm
      by_cases h2 : j ∈ vs
      · simp [h2]
      · simp [h2, this]
theorem wipe_out {vs : List Nat} {σ σ' : L2.St} (h : Out vs (wipe σ vs) σ') : wipe σ' vs = wipe σ vs := by
  have hl : σ'.length = σ.length := h.1.trans (wipe_length _ _)
  apply List.ext_getElem?
  intro j
  by_cases hj : j < σ.length
  · rw [wipe_get vs σ' j (by omega), wipe_get vs σ j hj]
    by_cases hv : j ∈ vs
    · rw [if_pos hv, if_pos hv]
    · rw [if_neg hv, if_neg hv, h.2 j hv, wipe_get vs σ j hj, if_neg hv]
  · rw [List.getElem?_eq_none (by rw [wipe_length]; omega), List.getElem?_eq_none (by rw [wipe_length]; omega)]
section
variable {K : PySem.W.Frag} {cs : Tx}
mutual
theorem Tg.rd_ok : ∀ (t : Tg) {g : Gh} {h : Hs} {H : Hp} {env env' : Env} {σ : L2.St} {d : D} {v : V} {Q : L2.St → Hp → Prop}, Rel K cs g h H → REnv K cs g h.length env σ → RD K cs g.ρ g.G h.length d v → t.bind d env h = some env' →
    (∀ σ', REnv K cs g h.length env' σ' → Out t.slots σ σ' → Q σ' H) → t.rd K v σ H Q
  | .nm i, g, h, H, env, env', σ, d, v, Q, R, E, V1, e, k => by
    simp only [Tg.bind, Option.some.injEq] at e
    subst e
    unfold Tg.rd
    exact k _ (E.set i V1) ⟨by simp, fun j hj => by
      simp only [Tg.slots, List.mem_singleton] at hj
      rw [List.getElem?_set_ne (Ne.symm hj)]⟩
  | .tp ts, g, h, H, env, env', σ, d, v, Q, R, E, V1, e, k => by
    simp only [Tg.bind] at e
    split at e
    · rename_i ds e2
      obtain ⟨a, xs, ev, hs, r⟩ := tupOf_ok R V1 e2
      unfold Tg.rd
      have hl : ts.length = ds.length := Tg.bindL_len ts ds env env' h e
      exact ⟨a, xs, ev, hs, by rw [← Paired.length r, hl], Tg.rdL_ok ts R E r e (by simpa [Tg.slots] using k)⟩
    · cases e
theorem Tg.rdL_ok : ∀ (ts : List Tg) {g : Gh} {h : Hs} {H : Hp} {env env' : Env} {σ : L2.St} {ds : List D} {vs : List V} {Q : L2.St → Hp → Prop}, Rel K cs g h H → REnv K cs g h.length env σ → RDs K cs g.ρ g.G h.length ds vs → Tg.bindL ts ds env h = some env' →
    (∀ σ', REnv K cs g h.length env' σ' → Out (Tg.slotsL ts) σ σ' → Q σ' H) → Tg.rdL K ts vs σ H Q
  | [], g, h, H, env, env', σ, ds, vs, Q, R, E, r, e, k => by
    cases ds with
    | cons d ds => simp [Tg.bindL] at e
    | nil =>
      cases r
      simp only [Tg.bindL, Option.some.injEq] at e
      subst e
      unfold Tg.rdL
      exact ⟨rfl, k _ E ⟨rfl, fun _ _ => rfl⟩⟩
  | t :: ts, g, h, H, env, env', σ, ds, vs, Q, R, E, r, e, k => by
    cases ds with
    | nil => simp [Tg.bindL] at e
    | cons d ds =>
      cases r with
      | cons q r =>
        simp only [Tg.bindL] at e
        split at e
        · rename_i env1 e1
          unfold Tg.rdL
          refine ⟨_, _, rfl, Tg.rd_ok t R E q e1 fun σ1 E1 o1 => Tg.rdL_ok ts R E1 r e fun σ2 E2 o2 => k σ2 E2 (by simpa [Tg.slotsL] using o1.trans o2)⟩
        · cases e
theorem Tg.bindL_len : ∀ (ts : List Tg) (ds : List D) (env env' : Env) (h : Hs), Tg.bindL ts ds env h = some env' → ts.length = ds.length
  | [], [], _, _, _, _ => rfl
  | [], _ :: _, _, _, _, e => by simp [Tg.bindL] at e
  | _ :: _, [], _, _, _, e => by simp [Tg.bindL] at e
  | t :: ts, d :: ds, env, env', h, e => by
    simp only [Tg.bindL] at e
    split at e
    · rename_i env1 e1
      simp [Tg.bindL_len ts ds env1 env' h e]
    · cases e
end
end
def GTg (X : Cx) (tg : Expr) (t : Tg) : Prop := PG X tg (t.rd X.K)
def GTgs (X : Cx) (tgs : List Expr) (ts : List Tg) : Prop := PGs X tgs (Tg.rdL X.K ts)
section
variable {X : Cx} {pos : Pos} {tg : Expr} {tgs : List Expr} {t : Tg} {ts : List Tg}
theorem ttN {i : Nat} {x : Str} (hN : X.N.Nodup) (hi : X.N[i]? = some x := by rfl) (hx : Loc X.env.scope x := by first | exact Or.inl rfl | exact Or.inr rfl) (hf : X.fn x = true ∨ X.env.scope.names.lookup x = some .local := by first | exact .inl rfl | exact .inr rfl) : GTg X (.Name x pos) (.nm i) := pg_name hN hi hx hf
theorem ttsN : GTgs X [] [] := pgs_nil
theorem ttsC (h1 : GTg X tg t) (h2 : GTgs X tgs ts) (hs : (assignEach (tg :: tgs) X.env).map (·.2) = assign tg X.env :: (assignEach tgs X.env).map (·.2) := by rfl) : GTgs X (tg :: tgs) (t :: ts) := pgs_cons h1 h2 hs
theorem ttT {kk : Nat} (hc : X.calm = true) (gg : GTgs X tgs ts) (hn : (assignEach tgs X.env).length = ts.length := by rfl) (hst : (assignEach tgs X.env).findIdx? (·.1) = none := by rfl) : GTg X (.Tuple tgs kk pos) (.tp ts) := pg_tup hc gg hn hst
end

/-! ### the tests of a comprehension -/
def GTs (X : Cx) (cs : Tx) (ifs : List Expr) (f : FT) : Prop := ∀ W, Takes X W → PTs X ifs (tT X.K cs W f)
def cYes : FT := fun _ h => .ok true h
theorem PTs.imp {X : Cx} {e : List Expr} {t t' : TT} (h : PTs X e t) (k : ∀ σ H Q, t' σ H Q → t σ H Q) : PTs X e t' := ⟨fun pins s σ H Q I q => h.run pins s σ H Q I (k σ H Q q)⟩
theorem gtsN {X : Cx} {cs : Tx} : GTs X cs [] cYes := fun W _ => PTs.imp pts_nil fun σ H Q ⟨g, env, h, R, E, F⟩ => F g true H Step.refl R rfl
theorem gts1 {X : Cx} {cs : Tx} {c : Expr} {f : FT} (g : GT X cs c f) : GTs X cs [c] f := fun W tk => pts_one (g W tk)

/-! ### the loop -/
def wipeE (env : Env) : List Nat → Env
  | [] => env
  | v :: vs => (wipeE env vs).set v none
def lcL (t : Tg) (ft : FT) (fe : FE) (inv : Hs → Bool) : List D → Env → Hs → R (List D)
  | [], _, h => if inv h then .ok [] h else .bad
  | d :: ds, env, h => if inv h then (match t.bind d env h with
    | some e1 => (match ft e1 h with
      | .ok true h1 => (match fe e1 h1 with
        | .ok x h2 => (match lcL t ft fe inv ds env h2 with
          | .ok xs h3 => .ok (x :: xs) h3
          | _ => .bad)
        | _ => .bad)
      | .ok false h1 => lcL t ft fe inv ds env h1
      | _ => .bad)
    | none => .bad) else .bad
def lcAll (fi : FI) (t : Tg) (ft : FT) (fe : FE) (vs : List Nat) (fin : List D → Hs → R D) : FE := fun env h => (fi env h).bind fun it h1 => if okLen it.1.length then (match lcL t ft fe it.2 it.1 (wipeE env vs) h1 with
  | .ok xs h2 => fin xs h2
  | _ => .bad) else .bad
/-- the list made: frozen; a place of plain data; a place -/
def finP (ds : List D) (h : Hs) : R D := match plain ds with
  | some ps => .ok (.p (.lst ps)) h
  | none => .bad
def finN (ds : List D) (h : Hs) : R D := match plain ds with
  | some ps => .ok (.loc h.length) (h ++ [.lst ps])
  | none => .bad
def finR (ds : List D) (h : Hs) : R D := .ok (.loc h.length) (h ++ [.rl ds])
section
variable {K : PySem.W.Frag} {cs : Tx} {g g1 g2 : Gh} {n n1 n2 : Nat} {H H1 H2 : Hp} {h h1 : Hs} {p : Addr}
theorem REnv.wipe {env : Env} {σ : L2.St} (E : REnv K cs g n env σ) : ∀ vs : List Nat, REnv K cs g n (wipeE env vs) (L2.wipe σ vs)
  | [] => E
  | v :: vs => by unfold wipeE L2.wipe; exact (REnv.wipe E vs).unset v
/-- a list in the making: known to H, to no ghost -/
structure Apart (g : Gh) (n : Nat) (p : Addr) : Prop where
  gp : g.G p = none
  ne : ∀ i, i < n → p ≠ g.ρ i
theorem Rel.apart (r : Rel K cs g h H) (hp : H p = none) : Apart g h.length p := by
  refine ⟨?_, fun i hi z => r.tracked hi (by rw [← z]; exact hp)⟩
  cases z : g.G p with
  | none => rfl
  | some u => rw [r.sub _ _ z] at hp; cases hp
theorem Apart.step {xs : List V} (a : Apart g n p) (s : Step g n H g1 n1 H1) (hp : H p = some (.lst xs)) : Apart g1 n1 p := ⟨s.steal p _ hp (fun _ z => nomatch z) a.ne a.gp, fun i hi => by
  by_cases h : i < n
  · rw [s.ext i h]; exact a.ne i h
  · intro z; exact s.new i (by omega) hi (.lst xs) (by rw [← z]; exact hp) (fun _ z => nomatch z)⟩
theorem Rel.upd_apart {o : HO} (r : Rel K cs g h H) (a : Apart g h.length p) (hT : H p = none ∨ ∃ xs, H p = some (.lst xs)) : Rel K cs g h (upd H p o) := by
  have k : ∀ i, i < h.length → ∀ u, H (g.ρ i) = some u → upd H p o (g.ρ i) = some u := fun i hi u e => by rw [upd_ne (fun z => a.ne i hi z.symm)]; exact e
  refine ⟨fun b u e => by rw [upd_ne (fun z => by rw [z, a.gp] at e; cases e)]; exact r.sub b u e, r.inj, fun i u e => ?_, r.off, r.cst, r.fz, r.ntb, tabs_of r.tabs (fun b ps q => by rw [upd_ne (fun z => by subst z; rcases hT with z | ⟨_, z⟩ <;> rw [z] at q <;> cases q)]; exact q) (fun b φ q => by rw [upd_ne (fun z => by subst z; rcases hT with z | ⟨_, z⟩ <;> rw [z] at q <;> cases q)]; exact q)⟩
  have hi := (List.getElem?_eq_some_iff.mp e).1
  have ro := r.at_ i u e
  cases u with
  | lst ps => obtain ⟨xs, q, r⟩ := ro; exact ⟨xs, k i hi _ q, r⟩
  | dct ks vs => obtain ⟨kvs, q, e, r⟩ := ro; exact ⟨kvs, k i hi _ q, e, r⟩
  | dtt ks vs => obtain ⟨kvs, q, e, r⟩ := ro; exact ⟨kvs, k i hi _ q, e, r⟩
  | ins c ns vs => obtain ⟨dx, fs, q, e, r⟩ := ro; exact ⟨dx, fs, k i hi _ q, e, r⟩
  | rl ds => obtain ⟨xs, q, r⟩ := ro; exact ⟨xs, k i hi _ q, r⟩
  | rt ds => obtain ⟨xs, q, r⟩ := ro; exact ⟨xs, k i hi _ q, r⟩
  | dead => obtain ⟨u, q, p⟩ := ro; exact ⟨u, k i hi u q, p⟩
/-- behind a change of what was not there at the start -/
theorem Step.upd_new {o : HO} (s : Step g n H g1 n1 H1) (hp : H p = none) (ho : notTbl o := by exact fun _ z => nomatch z) : Step g n H g1 n1 (upd H1 p o) :=
  ⟨s.le, s.ext, s.sub, fun a u e nt hx => by rw [upd_ne (ne_of_none e hp)]; exact s.keep a u e nt hx, s.steal, s.new, fun a u e nt => by
    by_cases ha : a = p
    · rw [ha, upd_same]; exact ⟨o, rfl, ho⟩
    · rw [upd_ne ha]; exact s.stay a u e nt⟩
/-- what was apart becomes frozen -/
theorem Rel.freeze {o : HO} (r : Rel K cs g h H) (a : Apart g h.length p) (e : H p = some o) (ho : plainO o := by exact ⟨fun _ z => (nomatch z), fun _ _ z => (nomatch z)⟩) : Rel K cs ⟨g.ρ, upd g.G p o⟩ h H := by
  have sb : Sub g.G (upd g.G p o) := sub_upd a.gp
  refine ⟨fun b u q => ?_, r.inj, fun i u q => ?_, fun i u q hd => ?_, fun q hq => sb.rd (r.cst q hq), r.fz_upd a.gp ho.2, r.ntb_upd a.gp ho.1, r.tabs⟩
  · have q : upd g.G p o b = some u := q
    by_cases hb : b = p
    · subst hb; rw [upd_same] at q; rw [e]; exact q
    · rw [upd_ne hb] at q; exact r.sub b u q
  · have ro := r.at_ i u q
    cases u with
    | lst ps => obtain ⟨xs, q, r⟩ := ro; exact ⟨xs, q, r.mono sb⟩
    | dct ks vs => obtain ⟨kvs, q, e, r⟩ := ro; exact ⟨kvs, q, e, r.mono sb⟩
    | dtt ks vs => obtain ⟨kvs, q, e, r⟩ := ro; exact ⟨kvs, q, e, r.mono sb⟩
    | ins c ns vs => obtain ⟨dx, fs, q, e, r⟩ := ro; exact ⟨dx, fs, q, e, L2.Paired.mapP r fun a b z => by cases z with | p z => exact .p (z.mono sb) | loc z => exact .loc z⟩
    | rl ds => obtain ⟨xs, q, r⟩ := ro; exact ⟨xs, q, L2.Paired.mapP r fun a b z => by cases z with | p z => exact .p (z.mono sb) | loc z => exact .loc z⟩
    | rt ds => obtain ⟨xs, q, r⟩ := ro; exact ⟨xs, q, L2.Paired.mapP r fun a b z => by cases z with | p z => exact .p (z.mono sb) | loc z => exact .loc z⟩
    | dead => exact ro
  · show upd g.G p o (g.ρ i) = none
    rw [upd_ne (fun z => a.ne i (List.getElem?_eq_some_iff.mp q).1 z.symm)]
    exact r.off i u q hd
theorem Step.freeze {o : HO} (s : Step g n H g1 n1 H1) (a : g1.G p = none) (hp : H p = none) : Step g n H ⟨g1.ρ, upd g1.G p o⟩ n1 H1 :=
  ⟨s.le, s.ext, s.sub.trans (sub_upd a), s.keep, fun b u e nt hx q => by
    show upd g1.G p o b = none
    rw [upd_ne (ne_of_none e hp)]
    exact s.steal b u e nt hx q, s.new, s.stay⟩
/-- .. becomes a place -/
theorem Rel.adopt {o : O} (r : Rel K cs g h H) (a : Apart g h.length p) (hp : H p ≠ none) (new : RO K cs ⟨addρ g.ρ h.length p, g.G⟩ (h.length + 1) H p o) : Rel K cs ⟨addρ g.ρ h.length p, g.G⟩ (h ++ [o]) H := by
  have old : ∀ i, i < h.length → addρ g.ρ h.length p i = g.ρ i := fun i hi => if_neg (by omega)
  have own : addρ g.ρ h.length p h.length = p := if_pos rfl
  have hl : (h ++ [o]).length = h.length + 1 := by simp
  have up : ∀ d v, RD K cs g.ρ g.G h.length d v → RD K cs (addρ g.ρ h.length p) g.G (h.length + 1) d v := fun d v q => by
    cases q with
    | p q => exact .p q
    | loc q => rename_i i; rw [← old i q]; exact .loc (Nat.lt_succ_of_lt q)
  refine ⟨r.sub, fun i j hi hj q => ?_, fun i v q => ?_, fun i v q hv => ?_, r.cst, r.fz, r.ntb, r.tabs⟩
  · rw [hl] at hi hj
    have q : addρ g.ρ h.length p i = addρ g.ρ h.length p j := q
    by_cases h1 : i < h.length
    · by_cases h2 : j < h.length
      · rw [old i h1, old j h2] at q; exact r.inj i j h1 h2 q
      · have : j = h.length := by omega
        subst this
        rw [old i h1, own] at q
        exact absurd q.symm (a.ne i h1)
    · have : i = h.length := by omega
      subst this
      by_cases h2 : j < h.length
      · rw [old j h2, own] at q
        exact absurd q (a.ne j h2)
      · omega
  · rw [hl]
    by_cases h1 : i < h.length
    · rw [List.getElem?_append_left h1] at q
      show RO K cs _ _ H (addρ g.ρ h.length p i) v
      rw [old i h1]
      have ro := r.at_ i v q
      cases v with
      | lst ps => exact ro
      | dct ks vs => exact ro
      | dtt ks vs => exact ro
      | ins c ns vs => obtain ⟨dx, fs, q, e, r⟩ := ro; exact ⟨dx, fs, q, e, L2.Paired.mapP r up⟩
      | rl ds => obtain ⟨xs, q, r⟩ := ro; exact ⟨xs, q, L2.Paired.mapP r up⟩
      | rt ds => obtain ⟨xs, q, r⟩ := ro; exact ⟨xs, q, L2.Paired.mapP r up⟩
      | dead => exact ro
    · have h2 : i < (h ++ [o]).length := (List.getElem?_eq_some_iff.mp q).1
      have : i = h.length := by omega
      subst this
      rw [List.getElem?_append_right (Nat.le_refl _), Nat.sub_self] at q
      cases q
      show RO K cs _ _ H (addρ g.ρ h.length p h.length) o
      rw [own]; exact new
  · by_cases h1 : i < h.length
    · rw [List.getElem?_append_left h1] at q
      show g.G (addρ g.ρ h.length p i) = none
      rw [old i h1]; exact r.off i v q hv
    · have h2 : i < (h ++ [o]).length := (List.getElem?_eq_some_iff.mp q).1
      have : i = h.length := by omega
      subst this
      show g.G (addρ g.ρ h.length p h.length) = none
      rw [own]; exact a.gp
theorem Step.adopt (s : Step g n H g1 n1 H1) (hp : H p = none) : Step g n H ⟨addρ g1.ρ n1 p, g1.G⟩ (n1 + 1) H1 :=
  ⟨Nat.le_succ_of_le s.le, fun i hi => (if_neg (by have := s.le; omega)).trans (s.ext i hi), s.sub, s.keep, s.steal, (fun i h1 h2 o e nt => by
    have e : H (addρ g1.ρ n1 p i) = some o := e
    by_cases h : i < n1
    · rw [show addρ g1.ρ n1 p i = g1.ρ i from if_neg (by omega)] at e; exact s.new i h1 h o e nt
    · have : i = n1 := by omega
      subst this
      rw [show addρ g1.ρ i p i = p from if_pos rfl, hp] at e; cases e), s.stay⟩
/-- what an end does of the list made -/
def FinOk (K : PySem.W.Frag) (cs : Tx) (fin : List D → Hs → R D) : Prop := ∀ (g0 : Gh) (n0 : Nat) (H0 : Hp) (g : Gh) (h : Hs) (H : Hp) (ds : List D) (xs : List V) (p : Addr) (W : WX) (σ : L2.St) (Q : VK),
  Step g0 n0 H0 g h.length H → Rel K cs g h H → Apart g h.length p → H0 p = none → H p = some (.lst xs) → RDs K cs g.ρ g.G h.length ds xs → EndR K cs (relD K cs) W σ g0 n0 H0 Q (fin ds h) → (∀ c fs h', fin ds h ≠ .ex c fs h') → Q (.ref p) H
theorem finP_ok : FinOk K cs finP := fun g0 n0 H0 g h H ds xs p W σ Q S R A hp e r F _ => by
  unfold finP at F
  split at F
  · rename_i ps e2
    exact F _ (.ref p) H (S.freeze (o := .lst xs) A.gp hp) (R.freeze A e) (.p (.lst (.new upd_same) ((plain_rps r e2).mono (sub_upd A.gp))))
  · exact F.elim
theorem finN_ok : FinOk K cs finN := fun g0 n0 H0 g h H ds xs p W σ Q S R A hp e r F _ => by
  unfold finN at F
  split at F
  · rename_i ps e2
    have own : addρ g.ρ h.length p h.length = p := if_pos rfl
    have hl : (h ++ [O.lst ps]).length = h.length + 1 := by simp
    have V1 := RD.loc (K := K) (cs := cs) (ρ := addρ g.ρ h.length p) (G := g.G) (n := (h ++ [O.lst ps]).length) (i := h.length) (by simp)
    rw [own] at V1
    exact F ⟨addρ g.ρ h.length p, g.G⟩ (.ref p) H (by rw [hl]; exact S.adopt hp) (R.adopt A (by rw [e]; exact fun z => nomatch z) ⟨xs, e, show RPs K cs g.G ps xs from plain_rps r e2⟩) V1
  · exact F.elim
theorem finR_ok : FinOk K cs finR := fun g0 n0 H0 g h H ds xs p W σ Q S R A hp e r F _ => by
  unfold finR at F
  have own : addρ g.ρ h.length p h.length = p := if_pos rfl
  have old : ∀ i, i < h.length → addρ g.ρ h.length p i = g.ρ i := fun i hi => if_neg (by omega)
  have hl : (h ++ [O.rl ds]).length = h.length + 1 := by simp
  have V1 := RD.loc (K := K) (cs := cs) (ρ := addρ g.ρ h.length p) (G := g.G) (n := (h ++ [O.rl ds]).length) (i := h.length) (by simp)
  rw [own] at V1
  exact F ⟨addρ g.ρ h.length p, g.G⟩ (.ref p) H (by rw [hl]; exact S.adopt hp) (R.adopt A (by rw [e]; exact fun z => nomatch z) ⟨xs, e, L2.Paired.mapP r fun d v q => by
    cases q with
    | p q => exact .p q
    | loc q => rename_i i; rw [← old i q]; exact .loc (Nat.lt_succ_of_lt q)⟩) V1
end
theorem fin_noex {fin : List D → Hs → R D} (h : fin = finP ∨ fin = finN ∨ fin = finR) : ∀ ds hh c fs h', fin ds hh ≠ .ex c fs h' := by
  intro ds hh c fs h' e
  rcases h with rfl | rfl | rfl
  · unfold finP at e; split at e <;> cases e
  · unfold finN at e; split at e <;> cases e
  · unfold finR at e; cases e
section
variable {X : Cx} {cs : Tx}
theorem takesF {X : Cx} : Takes X (fun _ _ _ _ => False) := fun _ _ x => by
  obtain ⟨_, _, _, _, _, _, _, _, _, _, _, _, _, _, _, _, z⟩ := x
  exact z.elim
abbrev wF : WX := fun _ _ _ _ => False
theorem lc_core2 {K : PySem.W.Frag} {fi : FI} {t : Tg} {ft : FT} {fe : FE} {vs : List Nat} {fin : List D → Hs → R D} {W : WX} {σ : L2.St} {H : Hp} {Q : VK} (hv : ∀ i, i ∈ t.slots → i ∈ vs) (hf : FinOk K cs fin) (hx : ∀ ds hh c fs h', fin ds hh ≠ .ex c fs h') (h : tE K cs W (lcAll fi t ft fe vs fin) σ H Q) :
    tLc (tI K cs W fi) (t.rd K) (tT K cs wF ft) (tE K cs wF fe) vs σ H Q := by
  obtain ⟨g, env, h, R, E, F⟩ := h
  refine ⟨g, env, h, R, E, ?_⟩
  unfold lcAll at F
  cases q : fi env h with
  | bad => rw [q] at F; exact F
  | ex c fs h' => rw [q] at F; exact F
  | ok it h1 =>
    rw [q] at F
    intro g1 J H1 S1 R1 it1 p hp
    have F1 := EndR.shift S1 F
    dsimp only [Ar.R.bind] at F1
    split at F1
    · rename_i hlen
      have A1 := R1.apart hp
      have R1' := R1.upd_apart (o := .lst []) A1 (.inl hp)
      have S1' : Step g1 h1.length H1 g1 h1.length (upd H1 p (.lst [])) := Step.refl.upd_new hp
      refine ⟨fun i m H2 => ∃ g2 h2 acc xs r3, Step g1 h1.length H1 g2 h2.length H2 ∧ Rel K cs g2 h2 H2 ∧ Apart g2 h2.length p ∧ H2 p = some (.lst xs) ∧ RDs K cs g2.ρ g2.G h2.length acc xs ∧ acc.length ≤ i ∧ i ≤ it.1.length ∧ m = it.1.length - i ∧
          lcL t ft fe it.2 (it.1.drop i) (wipeE env vs) h2 = r3 ∧ EndR K cs (relD K cs) W σ g1 h1.length H1 Q (match r3 with | .ok ys h3 => fin (acc ++ ys) h3 | _ => .bad),
        ⟨it.1.length, g1, h1, [], [], _, S1', R1', ⟨A1.gp, A1.ne⟩, upd_same, .nil, Nat.le_refl _, Nat.zero_le _, rfl, rfl, by simpa using F1⟩, ?_⟩
      rintro i m H2 ⟨g2, h2, acc, xs, r3, S2, R2, A2, e2, racc, hacc, hi, rfl, hr3, F2⟩
      have E2 : REnv K cs g2 h2.length (wipeE env vs) (L2.wipe σ vs) := ((E.step S1).step S2).wipe vs
      by_cases hlt : i < it.1.length
      · obtain ⟨d, hd⟩ : ∃ d, it.1[i]? = some d := ⟨it.1[i], List.getElem?_eq_getElem hlt⟩
        have hdr : it.1.drop i = d :: it.1.drop (i + 1) := by
          rw [List.drop_eq_getElem_cons hlt]
          rw [List.getElem?_eq_getElem hlt] at hd
          cases hd
          rfl
        rw [hdr] at hr3
        unfold lcL at hr3
        split at hr3
        · rename_i hiv
          obtain ⟨go, yl⟩ := it1.go g2 h2 H2 i d S2.soft R2 hiv hd
          refine .inr ⟨go, fun H' => ∃ m', m' < it.1.length - i ∧ ∃ g2 h2 acc xs r3, Step g1 h1.length H1 g2 h2.length H' ∧ Rel K cs g2 h2 H' ∧ Apart g2 h2.length p ∧ H' p = some (.lst xs) ∧ RDs K cs g2.ρ g2.G h2.length acc xs ∧ acc.length ≤ i + 1 ∧ i + 1 ≤ it.1.length ∧ m' = it.1.length - (i + 1) ∧
            lcL t ft fe it.2 (it.1.drop (i + 1)) (wipeE env vs) h2 = r3 ∧ EndR K cs (relD K cs) W σ g1 h1.length H1 Q (match r3 with | .ok ys h3 => fin (acc ++ ys) h3 | _ => .bad), fun H' h => h, fun x H3 hy => ?_⟩
          obtain ⟨g3, S3, R3, V3⟩ := yl x H3 hy
          have A3 := A2.step S3 e2
          have e3 : H3 p = some (.lst xs) := S3.keep p _ e2 (fun _ z => nomatch z) A2.ne
          have racc3 := RDs.step S3 racc
          have E3 := E2.step S3
          split at hr3
          · rename_i env1 hb
            refine Tg.rd_ok t R3 E3 V3 hb fun σ2 Eσ o2 => ⟨wipe_out (o2.mono hv), g3, env1, h2, R3, Eσ, ?_⟩
            cases q4 : ft env1 h2 with
            | bad => simp only [q4] at hr3; subst hr3; exact F2.elim
            | ex c fs h4 => simp only [q4] at hr3; subst hr3; exact F2.elim
            | ok b h4 =>
              intro g4 b' H4 S4 R4 hb'
              obtain rfl : b = b' := hb'
              have A4 := A3.step S4 e3
              have e4 : H4 p = some (.lst xs) := S4.keep p _ e3 (fun _ z => nomatch z) A3.ne
              have racc4 := RDs.step S4 racc3
              have S24 := (S2.trans S3).trans S4
              cases b with
              | true =>
                simp only [q4] at hr3
                rw [if_pos rfl]
                refine ⟨g4, env1, h4, R4, Eσ.step S4, ?_⟩
                cases q5 : fe env1 h4 with
                | bad => simp only [q5] at hr3; subst hr3; exact F2.elim
                | ex c fs h5 => simp only [q5] at hr3; subst hr3; exact F2.elim
                | ok y h5 =>
                  intro g5 yv H5 S5 R5 V5
                  have A5 := A4.step S5 e4
                  have e5 : H5 p = some (.lst xs) := S5.keep p _ e4 (fun _ z => nomatch z) A4.ne
                  have racc5 := RDs.step S5 racc4
                  have lx : xs.length = acc.length := (Paired.length racc5).symm
                  have hle := okLen_le hlen
                  refine ⟨xs, e5, by omega, _, by omega, g5, h5, acc ++ [y], xs ++ [yv], _, (S24.trans S5).upd_new hp, R5.upd_apart A5 (.inr ⟨_, e5⟩), A5, upd_same, ?_, by simp; omega, hlt, rfl, rfl, ?_⟩
                  · have app : ∀ {as bs : List D} {us ws : List V}, RDs K cs g5.ρ g5.G h5.length as us → RDs K cs g5.ρ g5.G h5.length bs ws → RDs K cs g5.ρ g5.G h5.length (as ++ bs) (us ++ ws) := by
                      intro as bs us ws ha hb
                      induction ha with
                      | nil => exact hb
                      | cons r t ih => exact .cons r ih
                    exact app racc5 (.cons V5 .nil)
                  · simp only [q5] at hr3
                    cases q6 : lcL t ft fe it.2 (it.1.drop (i + 1)) (wipeE env vs) h5 with
                    | bad => simp only [q6] at hr3; subst hr3; exact F2.elim
                    | ex c fs h6 => simp only [q6] at hr3; subst hr3; exact F2.elim
                    | ok ys h6 =>
                      simp only [q6] at hr3
                      subst hr3
                      simpa using F2
              | false =>
                simp only [q4] at hr3
                rw [if_neg Bool.false_ne_true]
                exact ⟨_, by omega, g4, h4, acc, xs, _, S24, R4, A4, e4, racc4, by omega, hlt, rfl, hr3, F2⟩
          · subst hr3; exact F2.elim
        · subst hr3; exact F2.elim
      · have e : i = it.1.length := by omega
        subst e
        rw [List.drop_length] at hr3
        unfold lcL at hr3
        split at hr3
        · rename_i hiv
          subst hr3
          simp only [List.append_nil] at F2
          exact .inl ⟨it1.stop g2 h2 H2 S2.soft R2 hiv, hf g1 h1.length H1 g2 h2 H2 acc xs p W σ Q S2 R2 A2 hp e2 racc F2 (hx _ _)⟩
        · subst hr3; exact F2.elim
    · exact F1.elim
variable {elt tg iter : Expr} {ifs : List Expr} {scope : Scope} {own : List (Str × Nat)} {pos : Pos} {fi : FI} {t : Tg} {ft : FT} {fe : FE} {fin : List D → Hs → R D}
/-- [elt for tg in iter if ..] -/
theorem gLc (hf : FinOk X.K cs fin) (hx : ∀ ds hh c fs h', fin ds hh ≠ .ex c fs h') (hc : X.calm = true) (hN : X.N.Nodup) (gi : GI X cs tg iter fi) (ok : blkC X.N X.env.scope scope own = true)
    (gg : ∀ (s : Shared) (H : Hp) (C : Addr) (cl : List (Str × Addr)) (fp : List Addr), GTg (X.blk s H scope (compEnvC scope cl C X.env) fp) tg t) (gt : ∀ (s : Shared) (H : Hp) (C : Addr) (cl : List (Str × Addr)) (fp : List Addr), GTs (X.blk s H scope (compEnvC scope cl C X.env) fp) cs ifs ft)
    (ge : ∀ (s : Shared) (H : Hp) (C : Addr) (cl : List (Str × Addr)) (fp : List Addr), GE (X.blk s H scope (compEnvC scope cl C X.env) fp) cs elt fe) (hv : ∀ i, i ∈ t.slots → i ∈ own.map (·.2)) (hs : ∀ x, foldedSetIterable iter X.env x = pure x := by intro _; rfl) :
    GE X cs (.ListComp elt [⟨tg, iter, ifs, 0⟩] scope pos) (lcAll fi t ft fe (own.map (·.2)) fin) := fun W tk =>
  PE.imp (pe_lc (g := t.rd X.K) (tt := tT X.K cs wF ft) (te := tE X.K cs wF fe) hc hN (gi W tk) (blkOk_by ok) gg (fun s H C cl fp => gt s H C cl fp wF takesF) (fun s H C cl fp => ge s H C cl fp wF takesF) hs) fun σ H Q h => lc_core2 hv hf hx h
/-- name = [..] on one line, the name a local -/
theorem gSetLc {i : Nat} {y : Str} {py spos : Pos} (hf : FinOk X.K cs fin) (hx : ∀ ds hh c fs h', fin ds hh ≠ .ex c fs h') (hc : X.calm = true) (hN : X.N.Nodup) (gi : GI X cs tg iter fi) (ok : blkC X.N X.env.scope scope own = true)
    (gg : ∀ (s : Shared) (H : Hp) (C : Addr) (cl : List (Str × Addr)) (fp : List Addr), GTg (X.blk s H scope (compEnvC scope cl C X.env) fp) tg t) (gt : ∀ (s : Shared) (H : Hp) (C : Addr) (cl : List (Str × Addr)) (fp : List Addr), GTs (X.blk s H scope (compEnvC scope cl C X.env) fp) cs ifs ft)
    (ge : ∀ (s : Shared) (H : Hp) (C : Addr) (cl : List (Str × Addr)) (fp : List Addr), GE (X.blk s H scope (compEnvC scope cl C X.env) fp) cs elt fe) (hv : ∀ i, i ∈ t.slots → i ∈ own.map (·.2))
    (hy : X.N[i]? = some y := by rfl) (hyl : X.env.scope.names.lookup y = some .local := by rfl) (hsw : swapsWith (.ListComp elt [⟨tg, iter, ifs, 0⟩] scope pos) (some (.Name y py)) spos.line X.env = pure true := by exact sw_true rfl rfl rfl (by decide +kernel))
    (hs : ∀ x, foldedSetIterable iter X.env x = pure x := by intro _; rfl) :
    GS X cs (.Assign [.Name y py] (.ListComp elt [⟨tg, iter, ifs, 0⟩] scope pos) spos) (sSet i (lcAll fi t ft fe (own.map (·.2)) fin)) := fun W tk =>
  PS.imp (ps_setLc (g := t.rd X.K) (tt := tT X.K cs wF ft) (te := tE X.K cs wF fe) hc hN hy hyl hsw (gi W tk) (blkOk_by ok) gg (fun s H C cl fp => gt s H C cl fp wF takesF) (fun s H C cl fp => ge s H C cl fp wF takesF) hs) fun D' σ H ⟨g, env, h, R, E, F⟩ => by
    refine lc_core2 (Q := fun x H1 => gName i x σ H1 D'.nx) hv hf hx ⟨g, env, h, R, E, ?_⟩
    exact EndR.ofS E F fun d h1 g1 v H1 e1 S1 R1 V1 F1 => F1 g1 _ H1 Step.refl R1 ((E.step S1).set i V1)
end
end Ar
namespace Ar
open PySem PySem.Spec PyProof.Rows L2

/-! ### items -/
def atZ {α : Type} (xs : List α) (i : Int) : Option α := match i with
  | .ofNat n => xs[n]?
  | .negSucc n => if n < xs.length then xs[xs.length - 1 - n]? else none
def ixZ (len : Nat) (i : Int) : Option Nat := match i with
  | .ofNat n => if n < len then some n else none
  | .negSucc n => if n < len then some (len - 1 - n) else none
theorem ixZ_ixN (n : Nat) (i : Int) (j : Nat) (h : ixZ n i = some j) : ixN n i = some j := by
  unfold ixZ at h
  unfold ixN
  cases i with
  | ofNat k =>
    dsimp only at h
    split at h
    · cases h
      rename_i hk
      show (if (0 : Int) ≤ ((j : Nat) : Int) then (if ((j : Nat) : Int) < (n : Int) then some ((j : Nat) : Int).toNat else none) else _) = some j
      rw [if_pos (by omega), if_pos (by omega)]
      rfl
    · cases h
  | negSucc k =>
    dsimp only at h
    split at h
    · rename_i hk
      cases h
      rw [if_neg (by omega), if_pos (by omega)]
      congr 1
      omega
    · cases h
theorem atZ_atI {α : Type} {xs : List α} {i : Int} {x : α} (h : atZ xs i = some x) : L2.atI xs i = some x := by
  have key : ∃ j, ixZ xs.length i = some j ∧ xs[j]? = some x := by
    unfold atZ at h
    unfold ixZ
    cases i with
    | ofNat k => exact ⟨k, if_pos (List.getElem?_eq_some_iff.mp h).1, h⟩
    | negSucc k =>
      dsimp only at h ⊢
      split at h
      · rename_i hk; exact ⟨_, if_pos hk, h⟩
      · cases h
  obtain ⟨j, h1, h2⟩ := key
  unfold L2.atI
  rw [ixZ_ixN _ _ _ h1]
  exact h2
theorem atZ_rel {α β : Type} {Rr : α → β → Prop} {xs : List α} {ys : List β} {i : Int} {x : α} (hl : xs.length = ys.length) (hg : ∀ (j : Nat) (x : α), xs[j]? = some x → ∃ y, ys[j]? = some y ∧ Rr x y) (h : atZ xs i = some x) : ∃ y, atZ ys i = some y ∧ Rr x y := by
  unfold atZ at h ⊢
  cases i with
  | ofNat k => exact hg k x h
  | negSucc k =>
    dsimp only at h ⊢
    rw [← hl]
    split at h
    · rename_i hk; rw [if_pos hk]; exact hg _ x h
    · cases h
/-! ### dicts -/
def isKey : P → Bool
  | .int _ => true
  | .str _ => true
  | _ => false
def noC (ps : List P) : Bool := !(constLists.any fun ns => beqXs ps (ns.map P.int))
def isTKey : P → Bool
  | .tup ps => ps.all isKey && noC ps
  | _ => false
def dGet : List P → List P → P → Option P
  | a :: ks, b :: vs, k => if beqX a k then some b else dGet ks vs k
  | _, _, _ => none
def dHas (ks : List P) (k : P) : Bool := ks.any fun a => beqX a k
def dRep : List P → List P → P → P → List P
  | a :: ks, b :: vs, k, v => (if beqX a k then v else b) :: dRep ks vs k v
  | _, _, _, _ => []
def dPut (ks vs : List P) (k v : P) : List P × List P := if dHas ks k then (ks, dRep ks vs k v) else (ks ++ [k], vs ++ [v])
theorem keyP_inj {a b : Key} (h : keyP a = keyP b) : a = b := by
  cases a <;> cases b <;> simp [keyP] at h ⊢ <;> exact h
theorem isKey_of {p : P} (h : isKey p = true) : ∃ k : Key, p = keyP k := by
  cases p with
  | int i => exact ⟨.inl i, rfl⟩
  | str x => exact ⟨.inr x, rfl⟩
  | _ => simp [isKey] at h
theorem isKeys_of : ∀ {ps : List P}, ps.all isKey = true → ∃ k : List Key, ps = k.map keyP
  | [], _ => ⟨[], rfl⟩
  | p :: ps, h => by
    simp only [List.all_cons, Bool.and_eq_true] at h
    obtain ⟨k, e⟩ := isKey_of h.1
    obtain ⟨ks, e2⟩ := isKeys_of h.2
    exact ⟨k :: ks, by rw [e, e2]; rfl⟩
theorem keyV {K : PySem.W.Frag} {cs : Tx} {G : Hp} {k : Key} {v : V} (h : RP K cs G (keyP k) v) : v = kV k := by
  cases k <;> (cases h; rfl)
theorem keysV {K : PySem.W.Frag} {cs : Tx} {G : Hp} : ∀ {k : List Key} {vs : List V}, RPs K cs G (k.map keyP) vs → vs = k.map kV
  | [], _, .nil => rfl
  | k :: ks, _, .cons r t => by rw [keyV r, keysV t]; rfl
theorem tkey_tup {K : PySem.W.Frag} {cs : Tx} {g : Gh} {h : Hs} {H : Hp} {a : Addr} {k : List Key} (R : Rel K cs g h H) (r : Rd g.G a (.tup (k.map kV))) (hc : noC (k.map keyP) = true) (hx : cs.ex = false) : H a = some (.tup (k.map kV)) := by
  rcases r with r | ⟨o, r⟩
  · exact R.sub _ _ r
  · exfalso
    rcases R.fz _ _ _ r with ⟨ns, hn, e⟩ | ⟨xs, e⟩ | e | ⟨kvs, e⟩ | ⟨kvs, e⟩
    · have e : k.map kV = ns.map V.int := by injection e
      have key : ∀ (k : List Key) (ns : List Int), k.map kV = ns.map V.int → k.map keyP = ns.map P.int := by
        intro k
        induction k with
        | nil => intro ns e; cases ns with
          | nil => rfl
          | cons n ns => simp at e
        | cons x k ih => intro ns e; cases ns with
          | nil => simp at e
          | cons n ns =>
            simp only [List.map_cons, List.cons.injEq] at e ⊢
            refine ⟨?_, ih ns e.2⟩
            cases x with
            | inl i => have := e.1; simp only [kV] at this; injection this with this; subst this; rfl
            | inr x => have := e.1; simp only [kV] at this; cases this
      unfold noC at hc
      rw [key k ns e, Bool.not_eq_true', List.any_eq_false] at hc
      exact absurd (beqXs_refl _) (hc ns hn)
    · cases e
    · rw [hx] at e; cases e
    · cases e
    · cases e
theorem keysP_inj : ∀ {a b : List Key}, a.map keyP = b.map keyP → a = b
  | [], [], _ => rfl
  | [], _ :: _, h => by simp at h
  | _ :: _, [], h => by simp at h
  | x :: a, y :: b, h => by
    simp only [List.map_cons, List.cons.injEq] at h
    rw [keyP_inj h.1, keysP_inj h.2]
section
variable {K : PySem.W.Frag} {cs : Tx} {G : Hp} {κ : Type} [DecidableEq κ] {kp : κ → P} (inj : ∀ a b, kp a = kp b → a = b)
include inj
theorem dGet_rel : ∀ (kvs : List (κ × V)) (vs : List P) (k : κ), RPs K cs G vs (kvs.map (·.2)) → (∀ x, dGet (kvs.map fun q => kp q.1) vs (kp k) = some x → ∃ v, valV kvs k = some v ∧ RP K cs G x v) ∧ (dGet (kvs.map fun q => kp q.1) vs (kp k) = none → valV kvs k = none) := by
  intro kvs
  induction kvs with
  | nil => intro vs k r; cases r; exact ⟨fun x e => by simp [dGet] at e, fun _ => rfl⟩
  | cons q r ih =>
    intro vs k rr
    cases rr with
    | cons q1 t1 =>
      rename_i p ps
      obtain ⟨i1, i2⟩ := ih _ k t1
      simp only [List.map_cons, dGet]
      by_cases h : beqX (kp q.1) (kp k) = true
      · have e := inj _ _ (beqX_eq h)
        rw [if_pos h]
        exact ⟨fun x ex => by cases ex; exact ⟨q.2, valV_pos e, q1⟩, fun ex => by cases ex⟩
      · have hne : ¬ q.1 = k := fun e => h (by rw [e]; exact beqX_refl _)
        rw [if_neg h, valV_neg hne]
        exact ⟨i1, i2⟩
theorem beq_dec (a b : κ) : beqX (kp a) (kp b) = decide (a = b) := by
  by_cases h : a = b
  · subst h; rw [beqX_refl, decide_eq_true rfl]
  · rw [decide_eq_false h]
    cases e : beqX (kp a) (kp b) with
    | true => exact absurd (inj _ _ (beqX_eq e)) h
    | false => rfl
theorem dHas_rel (k : κ) : ∀ kvs : List (κ × V), dHas (kvs.map fun q => kp q.1) (kp k) = kvs.any fun kv => decide (kv.1 = k)
  | [] => rfl
  | q :: r => by
    have ih := dHas_rel k r
    unfold dHas at ih ⊢
    rw [List.map_cons, List.any_cons, List.any_cons, beq_dec inj, ih]
theorem dRep_rel {v : P} {y : V} (rv : RP K cs G v y) (k : κ) : ∀ (kvs : List (κ × V)) (vs : List P), RPs K cs G vs (kvs.map (·.2)) → RPs K cs G (dRep (kvs.map fun q => kp q.1) vs (kp k) v) ((kvs.map fun kv => if kv.1 = k then (kv.1, y) else kv).map (·.2)) := by
  intro kvs
  induction kvs with
  | nil => intro vs r; cases r; exact .nil
  | cons q r ih =>
    intro vs rr
    cases rr with
    | cons q1 t1 =>
      simp only [List.map_cons, dRep]
      rw [beq_dec inj]
      by_cases h : q.1 = k
      · rw [decide_eq_true h, if_pos rfl, if_pos h]
        exact .cons rv (ih _ t1)
      · rw [decide_eq_false h, if_neg Bool.false_ne_true, if_neg h]
        exact .cons q1 (ih _ t1)
theorem dPut_rel {v : P} {y : V} (rv : RP K cs G v y) (kvs : List (κ × V)) (vs : List P) (k : κ) (r : RPs K cs G vs (kvs.map (·.2))) : (dPut (kvs.map fun q => kp q.1) vs (kp k) v).1 = (putK kvs k y).map (fun q => kp q.1) ∧ RPs K cs G (dPut (kvs.map fun q => kp q.1) vs (kp k) v).2 ((putK kvs k y).map (·.2)) := by
  unfold dPut putK
  rw [dHas_rel inj]
  by_cases h : (kvs.any fun kv => decide (kv.1 = k)) = true
  · rw [if_pos h, if_pos h]
    refine ⟨?_, dRep_rel inj rv k kvs vs r⟩
    rw [List.map_map]
    refine List.map_congr_left fun q _ => ?_
    dsimp only [Function.comp]
    split <;> rfl
  · rw [if_neg h, if_neg h]
    exact ⟨by simp, by rw [List.map_append]; exact r.append (.cons rv .nil)⟩
end
/-- an item of plain data -/
def ixP : P → P → Option P
  | .tup ps, .int i => atZ ps i
  | .lst ps, .int i => atZ ps i
  | .str z, .int i => if okLen z.length then (atZ z.cps.toList i).map fun c => .str ⟨#[c]⟩ else none
  | .dct ks vs, k => if isKey k then dGet ks vs k else none
  | .dtt ks vs, k => if isTKey k then dGet ks vs k else none
  | _, _ => none
def ixD (d e : D) (h : Hs) : R D := match d, e with
  | .p c, .p k => (match ixP c k with
    | some x => .ok (.p x) h
    | none => .bad)
  | .loc i, .p k => (match h[i]?, k with
    | some (.lst ps), .int j => (match atZ ps j with | some x => .ok (.p x) h | none => .bad)
    | some (.rl ds), .int j => (match atZ ds j with | some x => .ok x h | none => .bad)
    | some (.rt ds), .int j => (match atZ ds j with | some x => .ok x h | none => .bad)
    | some (.dct ks vs), k => if isKey k then (match dGet ks vs k with | some x => .ok (.p x) h | none => .bad) else .bad
    | some (.dtt ks vs), k => if isTKey k then (match dGet ks vs k with | some x => .ok (.p x) h | none => .bad) else .bad
    | _, _ => .bad)
  | _, _ => .bad
def cIx (fa fb : FE) : FE := fun env h => (fa env h).bind fun d h1 => (fb env h1).bind fun e h2 => ixD d e h2
/-- a dict of tuple keys -/
def isDtt (d : D) (h : Hs) : Bool := match d with
  | .p (.dtt _ _) => true
  | .loc i => (match h[i]? with
    | some (.dtt _ _) => true
    | _ => false)
  | _ => false
def cIxX (fa fb : FE) : FE := fun env h => (fa env h).bind fun d h1 => (fb env h1).bind fun e h2 => if isDtt d h2 then .bad else ixD d e h2
def rIxD : R2 := fun x y H Q => ∃ a v, x = .ref a ∧ DGet H a y (some v) ∧ Q v H
def rIxG (K : PySem.W.Frag) : R2 := fun x y H Q => rIxL K x y H Q ∨ (rIxT K x y H Q ∨ (rIxS x y H Q ∨ rIxD x y H Q))
section
variable {X : Cx} {cs : Tx}
theorem ix_dict (hu : X.A.units + 1 < cLine) : IxR X rIxD := by
  intro value slice pins s σ H x y v u Q I rx ry h hs
  obtain ⟨a, z, rfl, g, q⟩ := h
  cases rx
  exact tail_any (dict_typeIs I g) PySem.F.slot_dict_getitem.lookup (d_getItem hu I g ry fun w' s' I' rw' => ⟨z, H, I', rw', q⟩) hs
theorem ix_any (hu : X.A.units + 1 < cLine) : IxR X (rIxG X.K) := ix_list.or (ix_tup.or (ix_str.or (ix_dict hu)))
theorem rps_at {K : PySem.W.Frag} {G : Hp} {ps : List P} {vs : List V} {i : Int} {x : P} (r : RPs K cs G ps vs) (h : atZ ps i = some x) : ∃ v, L2.atI vs i = some v ∧ RP K cs G x v := by
  obtain ⟨y, h1, h2⟩ := atZ_rel r.length (fun j x e => r.get e) h
  exact ⟨y, atZ_atI h1, h2⟩
theorem rds_at {K : PySem.W.Frag} {ρ : Nat → Addr} {G : Hp} {n : Nat} {ds : List D} {vs : List V} {i : Int} {x : D} (r : RDs K cs ρ G n ds vs) (h : atZ ds i = some x) : ∃ v, L2.atI vs i = some v ∧ RD K cs ρ G n x v := by
  obtain ⟨y, h1, h2⟩ := atZ_rel (Paired.length r) (fun j x e => rds_get r e) h
  exact ⟨y, atZ_atI h1, h2⟩
theorem ix_core {K : PySem.W.Frag} {g : Gh} {h : Hs} {H : Hp} {d e : D} {x y : V} {W : WX} {σ : L2.St} {Q : VK} (R : Rel K cs g h H) (V1 : RD K cs g.ρ g.G h.length d x) (V2 : RD K cs g.ρ g.G h.length e y) (hx : cs.ex = false ∨ isDtt d h = false) (F : EndR K cs (relD K cs) W σ g h.length H Q (ixD d e h)) : rIxG K x y H Q := by
  unfold ixD at F
  split at F
  · cases V1 with
    | p r1 =>
      cases V2 with
      | p r2 =>
        split at F
        · rename_i z ez
          have fin : ∀ v, RP K cs g.G z v → Q v H := fun v r => F g v H Step.refl R (.p r)
          unfold ixP at ez
          split at ez
          · cases r1 with
            | tup q1 q2 =>
              cases r2
              obtain ⟨v, h1, h2⟩ := rps_at q2 ez
              exact .inr (.inl ⟨_, _, _, v, rfl, rfl, .inl (R.sub.rd q1), h1, fin v h2⟩)
          · cases r1 with
            | lst q1 q2 =>
              cases r2
              obtain ⟨v, h1, h2⟩ := rps_at q2 ez
              exact .inl ⟨_, _, _, v, rfl, rfl, (.inl (R.sub.rd q1.1)), h1, fin v h2⟩
          · cases r1
            cases r2
            split at ez
            · rename_i zz i hl
              cases e1 : atZ zz.cps.toList i with
              | none => rw [e1] at ez; cases ez
              | some c =>
                rw [e1] at ez
                cases ez
                exact .inr (.inr (.inl ⟨_, _, c, rfl, rfl, okLen_le hl, atZ_atI e1, fin _ (.str _)⟩))
            · cases ez
          · split at ez
            · rename_i hk
              obtain ⟨k, rfl⟩ := isKey_of hk
              have ey := keyV r2
              subst ey
              cases r1 with
              | dct q1 q2 q3 =>
                subst q2
                obtain ⟨v, h1, h2⟩ := (dGet_rel (kp := keyP) (fun _ _ => keyP_inj) _ _ k q3).1 z ez
                exact .inr (.inr (.inr ⟨_, v, rfl, by rw [← h1]; exact .inl ⟨_, k, R.sub.rd (.inr q1), rfl, rfl⟩, fin v h2⟩))
            · cases ez
          · split at ez
            · rename_i hk
              cases r1 with
              | dctT q1 q2 q3 =>
                subst q2
                rename_i kk _ _ _ _
                cases r2 with
                | tup p1 p2 =>
                  simp only [isTKey, Bool.and_eq_true] at hk
                  obtain ⟨k, rfl⟩ := isKeys_of hk.1
                  have ey := keysV p2
                  subst ey
                  obtain ⟨v, h1, h2⟩ := (dGet_rel (kp := fun q : List Key => P.tup (q.map keyP)) (fun a b e => keysP_inj (by injection e)) _ _ k q3).1 z ez
                  exact .inr (.inr (.inr ⟨_, v, rfl, by rw [← h1]; exact .inr ⟨_, k, _, R.sub.rd (.inr q1), rfl, tkey_tup R p1 hk.2 (hx.resolve_right (by simp [isDtt])), rfl⟩, fin v h2⟩))
                | _ => simp [isTKey] at hk
            · cases ez
          · cases ez
        · exact F.elim
  · cases V1 with
    | loc hi =>
      cases V2 with
      | p r2 =>
        split at F
        · rename_i e1
          obtain ⟨xs, q1, q2⟩ := R.at_ _ _ e1
          split at F
          · rename_i z ez
            cases r2
            obtain ⟨v, h1, h2⟩ := rps_at q2 ez
            exact .inl ⟨_, _, _, v, rfl, rfl, SqL.of q1, h1, F g v H Step.refl R (.p h2)⟩
          · exact F.elim
        · rename_i e1
          obtain ⟨xs, q1, q2⟩ := R.at_ _ _ e1
          split at F
          · rename_i z ez
            cases r2
            obtain ⟨v, h1, h2⟩ := rds_at q2 ez
            exact .inl ⟨_, _, _, v, rfl, rfl, SqL.of q1, h1, F g v H Step.refl R h2⟩
          · exact F.elim
        · rename_i e1
          obtain ⟨xs, q1, q2⟩ := R.at_ _ _ e1
          split at F
          · rename_i z ez
            cases r2
            obtain ⟨v, h1, h2⟩ := rds_at q2 ez
            exact .inr (.inl ⟨_, _, _, v, rfl, rfl, SqT.of q1, h1, F g v H Step.refl R h2⟩)
          · exact F.elim
        · rename_i e1
          obtain ⟨kvs, q1, q2, q3⟩ := R.at_ _ _ e1
          subst q2
          split at F
          · rename_i hk
            obtain ⟨k, rfl⟩ := isKey_of hk
            have ey := keyV r2
            subst ey
            split at F
            · rename_i z ez
              obtain ⟨v, h1, h2⟩ := (dGet_rel (kp := keyP) (fun _ _ => keyP_inj) _ _ k q3).1 z ez
              exact .inr (.inr (.inr ⟨_, v, rfl, by rw [← h1]; exact DGet.k q1, F g v H Step.refl R (.p h2)⟩))
            · exact F.elim
          · exact F.elim
        · rename_i e1
          obtain ⟨kvs, q1, q2, q3⟩ := R.at_ _ _ e1
          subst q2
          split at F
          · rename_i hk
            cases r2 with
            | tup p1 p2 =>
              simp only [isTKey, Bool.and_eq_true] at hk
              obtain ⟨k, rfl⟩ := isKeys_of hk.1
              have ey := keysV p2
              subst ey
              split at F
              · rename_i z ez
                obtain ⟨v, h1, h2⟩ := (dGet_rel (kp := fun q : List Key => P.tup (q.map keyP)) (fun a b e => keysP_inj (by injection e)) _ _ k q3).1 z ez
                exact .inr (.inr (.inr ⟨_, v, rfl, by rw [← h1]; exact DGet.t q1 (tkey_tup R p1 hk.2 (hx.resolve_right (by simp [isDtt, e1]))), F g v H Step.refl R (.p h2)⟩))
              · exact F.elim
            | _ => simp [isTKey] at hk
          · exact F.elim
        · exact F.elim
  · exact F.elim
theorem gIx {a b : Expr} {fa fb : FE} {pos : Pos} (hx : cs.ex = false) (hu : X.A.units + 1 < cLine) (ga : GE X cs a fa) (gb : GE X cs b fb) (hs : PlainIx b := by exact fun _ _ => rfl) : GE X cs (.Subscript a b pos) (cIx fa fb) := fun W tk => by
  refine PE.imp (pe_ix (ix_any hu) (ga W tk) (gb W tk) hs) fun σ H Q ⟨g, env, h, R, E, F⟩ => ?_
  exact ⟨g, env, h, R, E, F.of fun d h1 g1 x H1 _ S1 R1 V1 F1 => ⟨g1, env, h1, R1, E.step S1, F1.of fun e h2 g2 y H2 _ S2 R2 V2 F2 => ix_core R2 (V1.step S2) V2 (.inl hx) F2⟩⟩
/-- .. where a dict has no tuple keys -/
theorem gIxX {a b : Expr} {fa fb : FE} {pos : Pos} (hu : X.A.units + 1 < cLine) (ga : GE X cs a fa) (gb : GE X cs b fb) (hs : PlainIx b := by exact fun _ _ => rfl) : GE X cs (.Subscript a b pos) (cIxX fa fb) := fun W tk => by
  refine PE.imp (pe_ix (ix_any hu) (ga W tk) (gb W tk) hs) fun σ H Q ⟨g, env, h, R, E, F⟩ => ?_
  exact ⟨g, env, h, R, E, F.of fun d h1 g1 x H1 _ S1 R1 V1 F1 => ⟨g1, env, h1, R1, E.step S1, F1.of fun e h2 g2 y H2 _ S2 R2 V2 F2 => by
    split at F2
    · exact F2.elim
    · rename_i hd
      exact ix_core R2 (V1.step S2) V2 (.inr (by simpa using hd)) F2⟩⟩

/-! ### slices -/
abbrev FO := Env → Hs → R (Option Int)
abbrev relO : Gh → Nat → Option Int → Option Int → Prop := fun _ _ b c => b = c
def GO (X : Cx) (cs : Tx) (e : Option Expr) (f : FO) : Prop := ∀ W, Takes X W → PO X e (tR X.K cs relO W f)
def oN : FO := fun _ h => .ok none h
def toI (d : D) (h : Hs) : R (Option Int) := match d with
  | .p (.int i) => .ok (some i) h
  | _ => .bad
def oS (f : FE) : FO := fun env h => (f env h).bind toI
theorem PO.imp {e : Option Expr} {t t' : TO} (h : PO X e t) (k : ∀ σ H Q, t' σ H Q → t σ H Q) : PO X e t' := ⟨fun pins s σ H Q I q => h.run pins s σ H Q I (k σ H Q q)⟩
theorem goN : GO X cs none oN := fun W _ => PO.imp po_none fun σ H Q ⟨g, env, h, R, E, F⟩ => F g none H Step.refl R rfl
theorem goS {e : Expr} {f : FE} (ge : GE X cs e f) : GO X cs (some e) (oS f) := fun W tk => by
  refine PO.imp (po_some (ge W tk)) fun σ H Q ⟨g, env, h, R, E, F⟩ => ?_
  refine ⟨g, env, h, R, E, F.of fun d h1 g1 x H1 _ S1 R1 V1 F1 => ?_⟩
  unfold toI at F1
  split at F1
  · rename_i i _
    cases V1 with
    | p r => cases r; exact ⟨i, rfl, F1 g1 _ H1 Step.refl R1 rfl⟩
  · exact F1.elim
end
/-- a slice -/
def cut {α : Type} (xs : List α) (lo hi : Option Int) : List α := (xs.drop (HT.sIx xs.length 0 lo)).take (HT.sIx xs.length xs.length hi - HT.sIx xs.length 0 lo)
def slP : P → Option Int → Option Int → Option P
  | .tup ps, lo, hi => some (.tup (cut ps lo hi))
  | .lst ps, lo, hi => some (.lst (cut ps lo hi))
  | .scr ns, lo, hi => some (.lst ((cut ns lo hi).map P.int))
  | .str z, lo, hi => if okLen z.length then some (.str (cutS z lo hi)) else none
  | _, _, _ => none
def slD (d : D) (lo hi : Option Int) (h : Hs) : R D := match d with
  | .p x => (match slP x lo hi with
    | some z => .ok (.p z) h
    | none => .bad)
  | .loc i => (match h[i]? with
    | some (.lst ps) => .ok (.p (.lst (cut ps lo hi))) h
    | _ => .bad)
def cSl (fe : FE) (fl fh : FO) : FE := fun env h => (fe env h).bind fun d h1 => (fl env h1).bind fun lo h2 => (fh env h2).bind fun hi h3 => slD d lo hi h3
section
variable {X : Cx} {cs : Tx}
def rSlG (K : PySem.W.Frag) : V → Option Int → Option Int → Hp → VK → Prop := fun x lo hi H Q => rSlL K x lo hi H Q ∨ (rSlA K x lo hi H Q ∨ rSlS x lo hi H Q)
theorem sl_any : SlR X (rSlG X.K) := sl_list.or (sl_tupA.or sl_str)
theorem RPs.cut {K : PySem.W.Frag} {G : Hp} {ps : List P} {vs : List V} (r : RPs K cs G ps vs) (lo hi : Option Int) : RPs K cs G (Ar.cut ps lo hi) (cutV vs lo hi) := by
  unfold Ar.cut cutV
  rw [r.length]
  exact (r.drop _).take _
theorem cut_all {α : Type} (xs : List α) (lo hi : Option Int) (h : HT.sIx xs.length 0 lo = 0 ∧ HT.sIx xs.length xs.length hi = xs.length) : cut xs lo hi = xs := by
  unfold cut
  rw [h.1, h.2]
  simp
theorem cutV_map (ns : List Int) (lo hi : Option Int) : cutV (ns.map V.int) lo hi = (cut ns lo hi).map V.int := by
  unfold cutV cut
  rw [List.length_map, List.map_take, List.map_drop]
theorem rps_ints {K : PySem.W.Frag} {G : Hp} : ∀ ns : List Int, RPs K cs G (ns.map P.int) (ns.map V.int)
  | [] => .nil
  | n :: ns => .cons (.int n) (rps_ints ns)
theorem gSl {e : Expr} {lo hi : Option Expr} {fe : FE} {fl fh : FO} {p2 pos : Pos} (ge : GE X cs e fe) (gl : GO X cs lo fl) (gh : GO X cs hi fh) : GE X cs (.Subscript e (.Slice lo hi none p2) pos) (cSl fe fl fh) := fun W tk => by
  refine PE.imp (pe_slice sl_any (ge W tk) (gl W tk) (gh W tk)) fun σ H Q ⟨g, env, h, R, E, F⟩ => ?_
  refine ⟨g, env, h, R, E, F.of fun d h1 g1 x H1 _ S1 R1 V1 F1 => ⟨g1, env, h1, R1, E.step S1, F1.of fun l h2 g2 l' H2 _ S2 R2 V2 F2 => ⟨g2, env, h2, R2, (E.step S1).step S2, F2.of fun u h3 g3 u' H3 _ S3 R3 V3 F3 => ?_⟩⟩⟩
  obtain rfl : l = l' := V2
  obtain rfl : u = u' := V3
  have V1' := (V1.step S2).step S3
  unfold slD at F3
  split at F3
  · cases V1' with
    | p r =>
      split at F3
      · rename_i z ez
        have gv := gives_of R3 F3
        unfold slP at ez
        split at ez
        · cases ez
          cases r with
          | tup q1 q2 =>
            refine .inr (.inl ⟨_, _, rfl, .inl (R3.sub.rd q1), fun hw => ?_, fun hw p hp => ?_⟩)
            · rw [← q2.length] at hw
              rw [cut_all _ _ _ hw] at gv
              exact gv.same _ (.tup q1 q2)
            · exact gv.new _ _ _ hp ⟨fun _ z => (nomatch z), fun _ _ z => (nomatch z)⟩ (.tup (.inl upd_same) ((q2.cut _ _).mono (sub_upd (R3.apart hp).gp)))
        · cases ez
          cases r with
          | lst q1 q2 => exact .inl ⟨_, _, rfl, .inl (R3.sub.rd q1.1), fun p hp => gv.new _ _ _ hp ⟨fun _ z => (nomatch z), fun _ _ z => (nomatch z)⟩ (.lst (.new upd_same) ((q2.cut _ _).mono (sub_upd (R3.apart hp).gp)))⟩
        · cases ez
          cases r with
          | scr q1 =>
            refine .inl ⟨_, _, rfl, R3.sub.sqL q1, fun p hp => gv.new _ _ _ hp ⟨fun _ z => (nomatch z), fun _ _ z => (nomatch z)⟩ (.lst (.new upd_same) ?_)⟩
            rw [cutV_map]
            exact rps_ints _
        · split at ez
          · rename_i hl
            cases ez
            cases r
            exact .inr (.inr ⟨_, rfl, okLen_le hl, gv.same _ (.str _)⟩)
          · cases ez
        · cases ez
      · exact F3.elim
  · split at F3
    · rename_i e1
      cases V1' with
      | loc hi =>
        obtain ⟨xs, q1, q2⟩ := R3.at_ _ _ e1
        refine .inl ⟨_, _, rfl, SqL.of q1, fun p hp => (gives_of R3 F3).new _ _ _ hp ⟨fun _ z => (nomatch z), fun _ _ z => (nomatch z)⟩ (.lst (.new upd_same) ((q2.cut _ _).mono (sub_upd (R3.apart hp).gp)))⟩
    · exact F3.elim
end

/-! ### lists at places -/
def mkN (ds : List D) (h : Hs) : R D := match plain ds with
  | some ps => if ps.length ≤ 1000 then .ok (.loc h.length) (h ++ [.lst ps]) else .bad
  | none => .bad
def mkR (ds : List D) (h : Hs) : R D := if ds.length ≤ 1000 then .ok (.loc h.length) (h ++ [.rl ds]) else .bad
def cLstN (a : FA) : FE := fun env h => (a env h).bind mkN
def cLstR (a : FA) : FE := fun env h => (a env h).bind mkR
/-- o[i] = v -/
def setD (o i v : D) (h : Hs) : R Unit := match o, i with
  | .loc n, .p k => (match h[n]?, k, v with
    | some (.lst ps), .int j, .p x => (match ixZ ps.length j with | some m => .ok () (h.set n (.lst (ps.set m x))) | none => .bad)
    | some (.rl ds), .int j, v => (match ixZ ds.length j with | some m => .ok () (h.set n (.rl (ds.set m v))) | none => .bad)
    | some (.dct ks vs), k, .p x => if isKey k && okLen (ks.length + 1) then .ok () (h.set n (.dct (dPut ks vs k x).1 (dPut ks vs k x).2)) else .bad
    | some (.dtt ks vs), k, .p x => if isTKey k && okLen (ks.length + 1) then .ok () (h.set n (.dtt (dPut ks vs k x).1 (dPut ks vs k x).2)) else .bad
    | _, _, _ => .bad)
  | _, _ => .bad
def tSub (fo fi : FE) : FG := fun d env h => (fo env h).bind fun o h1 => (fi env h1).bind fun i h2 => (setD o i d h2).bind fun _ h3 => .ok env h3
def rSetG : TSet := fun o i v H Q => rSetL o i v H Q ∨ ∃ a H4, o = .ref a ∧ L2.DPut H a i v H4 ∧ Q H4
section
variable {X : Cx} {cs : Tx}
theorem gLstN {es : List Expr} {f : FA} {pos : Pos} (ga : GA X cs es f) : GE X cs (.List es pos) (cLstN f) := fun W tk => by
  refine PE.imp (pe_lst (ga W tk)) fun σ H Q ⟨g, env, h, R, E, F⟩ => ?_
  refine ⟨g, env, h, R, E, F.of fun ds h1 g1 xs H1 _ S1 R1 V1 F1 => ?_⟩
  unfold mkN at F1
  split at F1
  · rename_i ps e
    have r := plain_rps V1 e
    split at F1
    · rename_i hl
      refine ⟨by rw [← r.length]; exact le1000 hl, fun p hp => ?_⟩
      obtain ⟨R2, S2⟩ := R1.place (p := p) (o := .lst ps) (u := .lst xs) (H1 := upd H1 p (.lst xs)) hp (fun a ha => upd_ne fun z => ha (by rw [z]; exact hp)) (by rw [upd_same]; exact fun z => nomatch z) ⟨xs, upd_same, r⟩
      have own : addρ g1.ρ h1.length p h1.length = p := if_pos rfl
      have V2 := RD.loc (K := X.K) (cs := cs) (ρ := addρ g1.ρ h1.length p) (G := g1.G) (n := (h1 ++ [O.lst ps]).length) (i := h1.length) (by simp)
      rw [own] at V2
      exact F1 _ (.ref p) _ S2 R2 V2
    · exact F1.elim
  · exact F1.elim
theorem gLstR {es : List Expr} {f : FA} {pos : Pos} (ga : GA X cs es f) : GE X cs (.List es pos) (cLstR f) := fun W tk => by
  refine PE.imp (pe_lst (ga W tk)) fun σ H Q ⟨g, env, h, R, E, F⟩ => ?_
  refine ⟨g, env, h, R, E, F.of fun ds h1 g1 xs H1 _ S1 R1 V1 F1 => ?_⟩
  unfold mkR at F1
  split at F1
  · rename_i hl
    refine ⟨by rw [← Paired.length V1]; exact le1000 hl, fun p hp => ?_⟩
    have old : ∀ i, i < h1.length → addρ g1.ρ h1.length p i = g1.ρ i := fun i hi => if_neg (by omega)
    obtain ⟨R2, S2⟩ := R1.place (p := p) (o := .rl ds) (u := .lst xs) (H1 := upd H1 p (.lst xs)) hp (fun a ha => upd_ne fun z => ha (by rw [z]; exact hp)) (by rw [upd_same]; exact fun z => nomatch z) ⟨xs, upd_same, L2.Paired.mapP V1 fun d v q => by
      cases q with
      | p q => exact .p q
      | loc q => rename_i i; rw [← old i q]; exact .loc (Nat.lt_succ_of_lt q)⟩
    have own : addρ g1.ρ h1.length p h1.length = p := if_pos rfl
    have V2 := RD.loc (K := X.K) (cs := cs) (ρ := addρ g1.ρ h1.length p) (G := g1.G) (n := (h1 ++ [O.rl ds]).length) (i := h1.length) (by simp)
    rw [own] at V2
    exact F1 _ (.ref p) _ S2 R2 V2
  · exact F1.elim
theorem set_any (hu : X.A.units + 1 < cLine) : PSet X rSetG := by
  intro pins s σ H o i v ov iv u Q I ro ri rv h
  rcases h with h | ⟨a, H4, rfl, g, q⟩
  · exact set_list pins s σ H o i v ov iv u Q I ro ri rv h
  · cases ro
    exact d_setItem hu I g ri rv fun s' I' => ⟨H4, I', q⟩
theorem rds_set {K : PySem.W.Frag} {ρ : Nat → Addr} {G : Hp} {n : Nat} {d : D} {v : V} (r : RD K cs ρ G n d v) : ∀ {ds : List D} {vs : List V} (i : Nat), RDs K cs ρ G n ds vs → RDs K cs ρ G n (ds.set i d) (vs.set i v)
  | _, _, _, .nil => .nil
  | _, _, 0, .cons _ t => .cons r t
  | _, _, i + 1, .cons q t => .cons q (rds_set r i t)
def EndU (K : PySem.W.Frag) (cs : Tx) (g : Gh) (n : Nat) (H : Hp) (Q : Hp → Prop) (r : R Unit) : Prop := match r with
  | .ok _ h' => ∀ H', Step g n H g h'.length H' → Rel K cs g h' H' → Q H'
  | _ => False
theorem set_core {K : PySem.W.Frag} (hx : cs.ex = false) {g : Gh} {h : Hs} {H : Hp} {o i w : D} {ov iv vv : V} {Q : Hp → Prop} (R : Rel K cs g h H) (V1 : RD K cs g.ρ g.G h.length o ov) (V2 : RD K cs g.ρ g.G h.length i iv) (V3 : RD K cs g.ρ g.G h.length w vv)
    (F : EndU K cs g h.length H Q (setD o i w h)) : rSetG ov iv vv H Q := by
  unfold setD at F
  split at F
  · rename_i n k
    cases V1 with
    | loc hi =>
      cases V2 with
      | p r2 =>
        split at F
        · rename_i ps j x e1
          obtain ⟨xs, q1, q2⟩ := R.at_ _ _ e1
          cases r2
          cases V3 with
          | p r3 =>
            cases e2 : ixZ ps.length j with
            | none => rw [e2] at F; exact F.elim
            | some m =>
              rw [e2] at F
              obtain ⟨R', S'⟩ := R.write (o' := .lst (ps.set m x)) (H1 := upd H (g.ρ n) (.lst (xs.set m vv))) e1 (fun z => nomatch z) (fun a ha => upd_ne ha) ⟨_, upd_same, q2.set r3 m⟩
              exact .inl ⟨_, _, _, m, rfl, rfl, q1, by rw [← q2.length]; exact ixZ_ixN _ _ _ e2, F _ S' R'⟩
        · rename_i w _ _ _ ds j e1
          obtain ⟨xs, q1, q2⟩ := R.at_ _ _ e1
          cases r2
          cases e2 : ixZ ds.length j with
          | none => rw [e2] at F; exact F.elim
          | some m =>
            rw [e2] at F
            obtain ⟨R', S'⟩ := R.write (o' := .rl (ds.set m w)) (H1 := upd H (g.ρ n) (.lst (xs.set m vv))) e1 (fun z => nomatch z) (fun a ha => upd_ne ha) ⟨_, upd_same, rds_set V3 m q2⟩
            exact .inl ⟨_, _, _, m, rfl, rfl, q1, by rw [← Paired.length q2]; exact ixZ_ixN _ _ _ e2, F _ S' R'⟩
        · rename_i ks vs x e1
          obtain ⟨kvs, q1, q2, q3⟩ := R.at_ _ _ e1
          subst q2
          split at F
          · rename_i hk
            rw [Bool.and_eq_true] at hk
            obtain ⟨k, rfl⟩ := isKey_of hk.1
            have ey := keyV r2
            subst ey
            cases V3 with
            | p r3 =>
              obtain ⟨h1, h2⟩ := dPut_rel (kp := keyP) (fun _ _ => keyP_inj) r3 kvs vs k q3
              obtain ⟨R', S'⟩ := R.write (o' := .dct (dPut (kvs.map fun q => keyP q.1) vs (keyP k) x).1 (dPut (kvs.map fun q => keyP q.1) vs (keyP k) x).2) (H1 := upd H (g.ρ n) (.dK (putK kvs k vv))) e1 (fun z => nomatch z) (fun a ha => upd_ne ha) ⟨_, upd_same, h1, h2⟩
              refine .inr ⟨_, _, rfl, L2.DPut.k q1 ?_, F _ S' R'⟩
              have := okLen_le hk.2
              rw [List.length_map] at this
              omega
          · exact F.elim
        · rename_i ks vs x e1
          obtain ⟨kvs, q1, q2, q3⟩ := R.at_ _ _ e1
          subst q2
          split at F
          · rename_i hk
            rw [Bool.and_eq_true] at hk
            cases r2 with
            | tup p1 p2 =>
              obtain ⟨hk1, hk2⟩ := hk
              simp only [isTKey, Bool.and_eq_true] at hk1
              obtain ⟨k, rfl⟩ := isKeys_of hk1.1
              have ey := keysV p2
              subst ey
              cases V3 with
              | p r3 =>
                obtain ⟨h1, h2⟩ := dPut_rel (kp := fun q : List Key => P.tup (q.map keyP)) (fun a b e => keysP_inj (by injection e)) r3 kvs vs k q3
                obtain ⟨R', S'⟩ := R.write (o' := .dtt (dPut (kvs.map fun q => P.tup (q.1.map keyP)) vs (P.tup (k.map keyP)) x).1 (dPut (kvs.map fun q => P.tup (q.1.map keyP)) vs (P.tup (k.map keyP)) x).2) (H1 := upd H (g.ρ n) (.dT (putK kvs k vv))) e1 (fun z => nomatch z) (fun a ha => upd_ne ha) ⟨_, upd_same, h1, h2⟩
                refine .inr ⟨_, _, rfl, L2.DPut.t q1 (tkey_tup R p1 hk1.2 hx) ?_, F _ S' R'⟩
                have := okLen_le hk2
                rw [List.length_map] at this
                omega
            | _ => simp [isTKey] at hk
          · exact F.elim
        · exact F.elim
  · exact F.elim
theorem tgSub {o i : Expr} {fo fi : FE} {pos : Pos} (hx : cs.ex = false) (hu : X.A.units + 1 < cLine) (go : GE X cs o fo) (gi : GE X cs i fi) (ha : ∀ v, assign (.Subscript o i pos) X.env v = (do
      let ov ← holding [v] (eval o X.env)
      let iv ← holding [v, ov] (eval i X.env)
      standAt pos
      holding [v, ov, iv] (setItem ov iv v)
      release [v, ov, iv] []) := by intro _; rfl) : GG X cs (.Subscript o i pos) (tSub fo fi) := PG.imp (pg_sub (go wF takesF) (gi wF takesF) (set_any hu) ha) fun v σ H Q ⟨g, env, h, d, R, E, V1, F⟩ => by
  refine ⟨g, env, h, R, E, ?_⟩
  unfold tSub at F
  cases q : fo env h with
  | bad => rw [q] at F; exact F
  | ex c fs h' => rw [q] at F; exact F.elim
  | ok o' h1 =>
    rw [q] at F
    intro g1 ov H1 S1 R1 W1
    refine ⟨g1, env, h1, R1, E.step S1, ?_⟩
    dsimp only [Ar.R.bind] at F
    cases q2 : fi env h1 with
    | bad => rw [q2] at F; exact F
    | ex c fs h' => rw [q2] at F; exact F.elim
    | ok i' h2 =>
      rw [q2] at F
      intro g2 iv H2 S2 R2 W2
      dsimp only [Ar.R.bind] at F
      refine set_core hx R2 (W1.step S2) W2 ((V1.step S1).step S2) ?_
      cases q3 : setD o' i' d h2 with
      | bad => rw [q3] at F; exact F
      | ex c fs h' => rw [q3] at F; exact F.elim
      | ok u h3 =>
        rw [q3] at F
        exact fun H' S' R' => F g2 σ H' ((S1.trans S2).trans S') R' (((E.step S1).step S2).step S')
end

/-! ### built-in functions -/
def CallOk (K : PySem.W.Frag) (cs : Tx) (r : List V → Hp → VK → Prop) (op : List D → Hs → R D) : Prop := ∀ (g : Gh) (h : Hs) (H : Hp) (ds : List D) (vs : List V) (W : WX) (σ : L2.St) (Q : VK), Rel K cs g h H → RDs K cs g.ρ g.G h.length ds vs → EndR K cs (relD K cs) W σ g h.length H Q (op ds h) → r vs H Q
def cB (op : List D → Hs → R D) (fa : FA) : FE := fun env h => (fa env h).bind op
section
variable {X : Cx} {cs : Tx} {x : Str} {id T : String} {r : List V → Hp → VK → Prop} {op : List D → Hs → R D} {e : Expr} {es : List Expr} {fa : FA} {p pos : Pos}
theorem gB (hc : CallR X (.builtin id) r) (hk : CallOk X.K cs r op) (hm : X.mg x = none) (hv : bootBuiltins x = some (.builtin id)) (ga : GA X cs (e :: es) fa) (hg : Gl X x := by rfl) (hn : x ≠ "__name__" := by decide) (hdb : (x == ("__debug__" : Str)) = false := by decide)
    (he : starEach (e :: es) X.env = (false, eval e X.env) :: starEach es X.env := by rfl) (hpl : (backTo pos (starEach es X.env)).any (·.1) = false := by rfl) : GE X cs (.Call (.Name x p) (e :: es) [] pos) (cB op fa) := fun W tk => by
  refine PE.imp (pe_callB hc hg hm hv (ga W tk) hn hdb he hpl) fun σ H Q ⟨g, env, h, R, E, F⟩ => ?_
  exact ⟨g, env, h, R, E, F.of fun ds h1 g1 vs H1 _ S1 R1 V1 F1 => hk g1 h1 H1 ds vs W σ Q R1 V1 F1⟩
theorem gTy (hc : CallR X (.type T) r) (hk : CallOk X.K cs r op) (hm : X.mg x = none) (hv : bootBuiltins x = some (.type T)) (ga : GA X cs (e :: es) fa) (hg : Gl X x := by rfl) (hn : x ≠ "__name__" := by decide) (hdb : (x == ("__debug__" : Str)) = false := by decide)
    (he : starEach (e :: es) X.env = (false, eval e X.env) :: starEach es X.env := by rfl) (hpl : (backTo pos (starEach es X.env)).any (·.1) = false := by rfl) : GE X cs (.Call (.Name x p) (e :: es) [] pos) (cB op fa) := fun W tk => by
  refine PE.imp (pe_callTy hc hg hm hv (ga W tk) hn hdb he hpl) fun σ H Q ⟨g, env, h, R, E, F⟩ => ?_
  exact ⟨g, env, h, R, E, F.of fun ds h1 g1 vs H1 _ S1 R1 V1 F1 => hk g1 h1 H1 ds vs W σ Q R1 V1 F1⟩
end
def bAbs (ds : List D) (h : Hs) : R D := match ds with
  | [.p (.int i)] => .ok (.p (.int (if i < 0 then -i else i))) h
  | _ => .bad
def bInt (ds : List D) (h : Hs) : R D := match ds with
  | [.p (.int i)] => .ok (.p (.int i)) h
  | [.p (.bl b)] => .ok (.p (.int (if b then 1 else 0))) h
  | _ => .bad
def lenP : P → Option Nat
  | .str x => if okLen x.length then some x.length else none
  | .tup ps => some ps.length
  | .lst ps => some ps.length
  | _ => none
def bLen (ds : List D) (h : Hs) : R D := match ds with
  | [.p x] => (match lenP x with
    | some n => .ok (.p (.int n)) h
    | none => .bad)
  | [.loc i] => (match h[i]? with
    | some (.lst ps) => .ok (.p (.int ps.length)) h
    | some (.rl ds) => .ok (.p (.int ds.length)) h
    | some (.rt ds) => .ok (.p (.int ds.length)) h
    | _ => .bad)
  | _ => .bad
section
variable {K : PySem.W.Frag} {cs : Tx}
theorem k_abs : CallOk K cs (fun xs H Q => ∃ i, xs = [.int i] ∧ Q (.int (if i < 0 then -i else i)) H) bAbs := fun g h H ds vs W σ Q R V1 F => by
  unfold bAbs at F
  split at F
  · cases V1 with
    | cons q t => cases t; cases q with | p q => cases q; exact ⟨_, rfl, F g _ H Step.refl R (.p (.int _))⟩
  · exact F.elim
theorem k_int : CallOk K cs (fun xs H Q => (∃ i, xs = [.int i] ∧ Q (.int i) H) ∨ ∃ k, xs = [.bl k] ∧ Q (.int (if k then 1 else 0)) H) bInt := fun g h H ds vs W σ Q R V1 F => by
  unfold bInt at F
  split at F
  · cases V1 with
    | cons q t => cases t; cases q with | p q => cases q; exact .inl ⟨_, rfl, F g _ H Step.refl R (.p (.int _))⟩
  · cases V1 with
    | cons q t => cases t; cases q with | p q => cases q; exact .inr ⟨_, rfl, F g _ H Step.refl R (.p (.int _))⟩
  · exact F.elim
theorem k_len : CallOk K cs (fun xs H Q => ∃ x n, xs = [x] ∧ LenV K x H n ∧ Q (.int n) H) bLen := fun g h H ds vs W σ Q R V1 F => by
  unfold bLen at F
  split at F
  · rename_i x
    cases V1 with
    | cons q t =>
      cases t
      cases q with
      | p q =>
        split at F
        · rename_i n e
          unfold lenP at e
          split at e
          · split at e
            · rename_i hl
              cases e; cases q
              exact ⟨_, _, rfl, ⟨okLen_le hl, rfl⟩, F g _ H Step.refl R (.p (.int _))⟩
            · cases e
          · cases e
            cases q with
            | tup q1 q2 => exact ⟨_, _, rfl, .inr ⟨_, .inl (R.sub.rd q1), q2.length⟩, F g _ H Step.refl R (.p (.int _))⟩
          · cases e
            cases q with
            | lst q1 q2 => exact ⟨_, _, rfl, .inl ⟨_, .inl (R.sub.rd q1.1), q2.length⟩, F g _ H Step.refl R (.p (.int _))⟩
          · cases e
        · exact F.elim
  · cases V1 with
    | cons q t =>
      cases t
      cases q with
      | loc hi =>
        split at F
        · rename_i e1
          obtain ⟨xs, q1, q2⟩ := R.at_ _ _ e1
          exact ⟨_, _, rfl, .inl ⟨_, SqL.of q1, q2.length⟩, F g _ H Step.refl R (.p (.int _))⟩
        · rename_i e1
          obtain ⟨xs, q1, q2⟩ := R.at_ _ _ e1
          exact ⟨_, _, rfl, .inl ⟨_, SqL.of q1, Paired.length q2⟩, F g _ H Step.refl R (.p (.int _))⟩
        · rename_i e1
          obtain ⟨xs, q1, q2⟩ := R.at_ _ _ e1
          exact ⟨_, _, rfl, .inr ⟨_, SqT.of q1, Paired.length q2⟩, F g _ H Step.refl R (.p (.int _))⟩
        · exact F.elim
  · exact F.elim
end
/-! ### raise -/
def sRaise (c : Nat) : FS := fun env h => .ex c [] env h
theorem gRaise {X : Cx} {cs : Tx} {c : Nat} {x m : Str} {j : Nat} {p p2 pos pos2 : Pos} {bmB : List Value} {B newId initId : String} (hc : X.calm = true) (Fc : ExcBaseFacts B newId initId bmB) (q : PySem.W.excIn X.K (cs.C c) bmB newId = true) (gC : X.mg x = some (.ref (cs.C c))) (kC : PySem.W.keepIn X.K (.ref (cs.C c)) = true) (r : Raises X (.ref (cs.C c)))
    (hg : Gl X x := by rfl) (hdb : (x == ("__debug__" : Str)) = false := by decide) : GS X cs (.Raise (some (.Call (.Name x p) [.Constant (.str m) j p2] [] pos)) none pos2) (sRaise c) := fun W tk => by
  refine PS.imp (ps_raise hc tk (pmk_own Fc q gC kC r hg hdb)) fun D' σ H ⟨g, env, h, R, E, F⟩ => ?_
  exact F g σ _ _ H Step.refl R E ⟨rfl, .inl ⟨rfl, rfl⟩⟩
end Ar
namespace Ar
open PySem PySem.Spec PyProof.Rows L2

/-! ### a < b < c -/
def cChain (o1 o2 : P → P → Option P) (fa fb fc : FE) : FE := fun env h => (fa env h).bind fun a h1 => (fb env h1).bind fun b h2 => (ap2 o1 a b h2).bind fun z h3 => match z with
  | .p (.bl true) => (fc env h3).bind fun c h4 => ap2 o2 b c h4
  | .p (.bl false) => .ok (.p (.bl false)) h3
  | _ => .bad
section
variable {X : Cx} {cs : Tx}
theorem op_step {K : PySem.W.Frag} {r : R2} {o : P → P → Option P} {W : WX} {σ : L2.St} {g : Gh} {h : Hs} {H : Hp} {d e : D} {x y : V} {Q : VK} (hk : OpOk K cs r o) (R : Rel K cs g h H) (V1 : RD K cs g.ρ g.G h.length d x) (V2 : RD K cs g.ρ g.G h.length e y) (F : EndR K cs (relD K cs) W σ g h.length H Q (ap2 o d e h)) : r x y H Q := by
  unfold ap2 at F
  cases V1 with
  | loc _ => exact F.elim
  | p r1 =>
    cases V2 with
    | loc _ => exact F.elim
    | p r2 =>
      simp only at F
      split at F
      · rename_i z e
        exact hk g.G H x y _ _ z Q R.sub r1 r2 e (gives_of R F)
      · exact F.elim
theorem chain_core {r1 r2 : R2} {o1 o2 : P → P → Option P} {fa fb fc : FE} {W : WX} (k1 : OpOk X.K cs r1 o1) (k2 : OpOk X.K cs r2 o2) {σ : L2.St} {H : Hp} {Q : VK} (h : tE X.K cs W (cChain o1 o2 fa fb fc) σ H Q) :
    tChain r1 r2 (tE X.K cs W fa) (tE X.K cs W fb) (tE X.K cs W fc) σ H Q := by
  obtain ⟨g, env, h, R, E, F⟩ := h
  refine ⟨g, env, h, R, E, F.of fun a h1 g1 x H1 _ S1 R1 V1 F1 => ⟨g1, env, h1, R1, E.step S1, F1.of fun b h2 g2 y H2 _ S2 R2 V2 F2 => ?_⟩⟩
  refine op_step (W := W) (σ := σ) k1 R2 (V1.step S2) V2 (F2.of fun z h3 g3 zv H3 _ S3 R3 V3 F3 => ?_)
  split at F3
  · cases V3 with
    | p r =>
      cases r
      refine ⟨true, rfl, ?_⟩
      rw [if_pos rfl]
      exact ⟨g3, env, h3, R3, ((E.step S1).step S2).step S3, F3.of fun c h4 g4 w H4 _ S4 R4 V4 F4 => op_step k2 R4 ((V2.step S3).step S4) V4 F4⟩
  · cases V3 with
    | p r =>
      cases r
      refine ⟨false, rfl, ?_⟩
      rw [if_neg Bool.false_ne_true]
      exact F3 g3 _ H3 Step.refl R3 (.p (.bl false))
  · exact F3.elim
theorem gChain {op op' : CmpOp} {r r' : R2} {o o' : P → P → Option P} {a b c : Expr} {fa fb fc : FE} {pos : Pos} (ho : OpR X (compareOp op) r) (hk : OpOk X.K cs r o) (ho' : OpR X (compareOp op') r') (hk' : OpOk X.K cs r' o') (ga : GE X cs a fa) (gb : GE X cs b fb) (gc : GE X cs c fc)
    (hm : lastMarks [op, op'] [b, c] = false := by with_unfolding_all rfl) : GE X cs (.Compare a [op, op'] [b, c] pos) (cChain o o' fa fb fc) := fun W tk =>
  PE.imp (pe_chain ho ho' (ga W tk) (gb W tk) (gc W tk) hm) fun _ _ _ h => chain_core hk hk' h
theorem gChainT {op op' : CmpOp} {r r' : R2} {o o' : P → P → Option P} {a b c : Expr} {fa fb fc : FE} {pos : Pos} (ho : OpR X (compareOp op) r) (hk : OpOk X.K cs r o) (ho' : OpR X (compareOp op') r') (hk' : OpOk X.K cs r' o') (ga : GE X cs a fa) (gb : GE X cs b fb) (gc : GE X cs c fc)
    (hm : lastMarks [op, op'] [b, c] = false := by with_unfolding_all rfl) : GT X cs (.Compare a [op, op'] [b, c] pos) (cT (cChain o o' fa fb fc)) := fun W tk =>
  PT.imp (pt_chain ho ho' (ga W tk) (gb W tk) (gc W tk) hm) fun σ H Q ⟨g, env, h, R, E, F⟩ => by
    refine chain_core hk hk' ⟨g, env, h, R, E, F.of fun d h1 g1 x H1 _ S1 R1 V1 F1 => ?_⟩
    unfold toB at F1
    split at F1
    · rename_i b _
      cases V1 with
      | p r => cases r; exact ⟨b, rfl, F1 g1 b H1 Step.refl R1 rfl⟩
    · exact F1.elim
/-! ### o.f op= e -/
def attrL (c : Nat) (f : Str) (d : D) (h : Hs) : R D := match d with
  | .loc i => (match h[i]? with
    | some (.ins c' ns vs) => if c' = c then (match getN ns vs f with
      | some v => .ok v h
      | none => .bad) else .bad
    | _ => .bad)
  | _ => .bad
def sAttrAug (c : Nat) (f : Str) (o : P → P → Option P) (fo fe : FE) : FS := fun env h => (fo env h).toS env fun d h1 => (attrL c f d h1).toS env fun v h2 => (fe env h2).toS env fun w h3 => (ap2 o v w h3).toS env fun z h4 => (setAttr c f d z h4).toS env fun _ h5 => .nx env h5
theorem op_stepS {K : PySem.W.Frag} {r : R2} {o : P → P → Option P} {W : WX} {g : Gh} {h : Hs} {H : Hp} {d e : D} {x y : V} {Q : VK} {D' : Ends} {env : Env} {σ : L2.St} {k : D → Hs → S} (hk : OpOk K cs r o) (R : Rel K cs g h H) (E : REnv K cs g h.length env σ) (V1 : RD K cs g.ρ g.G h.length d x) (V2 : RD K cs g.ρ g.G h.length e y)
    (F : EndS K cs W g h.length H D' ((ap2 o d e h).toS env k)) (c : ∀ z h1 g1 v H1, Step g h.length H g1 h1.length H1 → Rel K cs g1 h1 H1 → RD K cs g1.ρ g1.G h1.length z v → EndS K cs W g1 h1.length H1 D' (k z h1) → Q v H1) : r x y H Q := by
  unfold ap2 at F
  cases V1 with
  | loc _ => exact F.elim
  | p r1 =>
    cases V2 with
    | loc _ => exact F.elim
    | p r2 =>
      simp only at F
      split at F
      · rename_i z e
        refine hk g.G H x y _ _ z Q R.sub r1 r2 e ⟨fun v r => c _ h g v H Step.refl R (.p r) F, fun p o v hp ho r => ?_⟩
        obtain ⟨R', S'⟩ := R.frozen (o := o) hp ho
        exact c _ h _ v _ S' R' (.p r) (EndS.shift S' F)
      · exact F.elim
theorem gAttrAug {c : Nat} {f : Str} {ob e : Expr} {fo fe : FE} {op : Operator} {r : R2} {o : P → P → Option P} {tpos pos : Pos} (C : Cls X.K (cs.C c)) (nA : NoAttr X.K (cs.C c) f) (ho : OpR X (inplaceOp op) r) (hk : OpOk X.K cs r o) (go : GE X cs ob fo) (ge : GE X cs e fe) :
    GS X cs (.AugAssign (.Attribute ob f tpos) op e pos) (sAttrAug c f o fo fe) := fun W tk => by
  refine PS.imp (ps_fldaug (go W tk) (ge W tk) (fun pins s σ H x y v u Q I r1 r2 h => ho pins s σ H x y v u Q I r1 r2 h)) fun D' σ H ⟨g, env, h, R, E, FF⟩ => ?_
  refine ⟨g, env, h, R, E, EndR.ofS E FF fun d h1 g1 x H1 e1 S1 R1 V1 F1 => ?_⟩
  unfold attrL at F1
  split at F1
  · rename_i i
    split at F1
    · rename_i c' ns vs e3
      split at F1
      · rename_i hc
        subst hc
        split at F1
        · rename_i v e2
          cases V1 with
          | loc hi =>
            obtain ⟨dx, fs, q1, q2, q3⟩ := R1.at_ _ _ e3
            subst q2
            obtain ⟨y, h2, h3⟩ := getN_rel _ _ f v q3 e2
            have E1 := E.step S1
            refine ⟨_, _, _, _, y, rfl, q1, C, nA, h2, g1, env, h1, R1, E1, EndR.ofS E1 F1 fun w h3' g3 wv H3 e3' S3 R3 V3 F3 => ?_⟩
            have E3 := E1.step S3
            refine op_stepS hk R3 E3 (h3.step S3) V3 F3 fun z h4 g4 zv H4 S4 R4 V4 F4 => ?_
            have hi4 : i < h4.length := Nat.lt_of_lt_of_le hi (S3.trans S4).le
            have ei : g4.ρ i = g1.ρ i := (S3.trans S4).ext i hi
            unfold setAttr at F4
            cases e5 : h4[i]? with
            | none => simp only [e5] at F4; exact F4.elim
            | some o5 =>
              simp only [e5] at F4
              cases o5 with
              | ins c5 ns5 vs5 =>
                dsimp only at F4
                split at F4
                · rename_i hc
                  obtain ⟨hc, hl⟩ := hc
                  subst hc
                  obtain ⟨dx5, fs5, p1, p2, p3⟩ := R4.at_ _ _ e5
                  subst p2
                  obtain ⟨t1, t2⟩ := putN_rel (Rr := RD X.K cs g4.ρ g4.G h4.length) V4 fs5 vs5 f p3
                  obtain ⟨R6, S6⟩ := R4.write (H1 := upd H4 (g4.ρ i) (.ins (cs.C c5) dx5 (putF f zv fs5))) (o' := .ins c5 (putN (fs5.map (·.1)) vs5 f z).1 (putN (fs5.map (·.1)) vs5 f z).2) e5 (fun z => nomatch z) (fun a ha => upd_ne ha) ⟨dx5, _, upd_same, t1, t2⟩
                  rw [← ei]
                  refine ⟨dx5, fs5, p1, by simpa using hl, ?_⟩
                  exact F4 g4 σ _ S6 R6 ((E3.step S4).step S6)
                · exact F4.elim
              | _ => exact F4.elim
        · exact F1.elim
      · exact F1.elim
    · exact F1.elim
  · exact F1.elim
end

/-! ### try: return what() / except A: return '..' / except B: return '..' -/
def toldX (K : PySem.W.Frag) (Q : VK) : List (Addr × Str) → Value → Hp → Prop
  | [], _, _ => False
  | (c, ret) :: r, cls, H => ∃ b, PySem.W.exmOne K cls (.ref c) = some b ∧ (b = true → Q (.str ret) H) ∧ (b = false → toldX K Q r cls H)
def TToldM (K : PySem.W.Frag) (l : List (Addr × Str)) : (XK → Hp → VK → Prop) → Hp → VK → Prop := fun tl H Q => tl (fun cls _ H' => toldX K Q l cls H') H Q
def retH (l : List (Addr × Str)) : List (Value × (Addr → Value → Option Addr → TS)) := l.map fun q => (.ref q.1, fun _ _ _ => tRet (tC (.str q.2)))
theorem toldX_wish {K : PySem.W.Frag} {Q : VK} {D' : Ends} {σ : L2.St} {d : Option Addr} {cls : Value} {H : Hp} (e : D'.rt = Q) : ∀ l : List (Addr × Str), toldX K Q l cls H → wMany K (fun _ _ _ _ => False) D' (retH l) cls d σ H
  | [], h => h.elim
  | q :: r, ⟨b, h1, h2, h3⟩ => ⟨b, h1, fun hb a _ => by subst e; exact h2 hb, fun hb => toldX_wish e r (h3 hb)⟩
theorem told_givesM {X : Cx} {Ng : List Str} {x a q : Str} {sg : Scope} {g : Addr} {cdg : Value} {h0 : ExceptHandler} {hds : List ExceptHandler} {l : List (Addr × Str)} {p1 p2 p3 p8 : Pos} (hst : ∀ f : Addr, (L2.start Ng [V.ref f])[0]? = some (some (V.ref f)))
    (hh : ∀ (s : Shared) (H : Hp), HdsOk (cxOf C8.CX0 X.prog X.w X.K X.mg X.base Ng x sg g cdg X.A X.stack s H C8.E0).nox (h0 :: hds) (retH l)) :
    LamX.GivesTo X Ng x sg g cdg [.Try [.Return (some (.Call (.Name a p1) [] [] p2)) p3] (h0 :: hds) [] [] p8] a q (TToldM X.K l) := by
  intro f c' s H Q tl act hc h
  refine ⟨_, pss_one (ps_try_many (X := (cxOf C8.CX0 X.prog X.w X.K X.mg X.base Ng x sg g cdg X.A X.stack s H C8.E0).nox)
      (tb := fun W D σ H => ∃ Ech : XK, (∀ cls d σ' H', Ech cls d H' → W cls d σ' H') ∧ σ[0]? = some (some (.ref f)) ∧ H c' = some (LamX.CodeO c' q) ∧ tl Ech H D.rt)
      rfl rfl LamX.takes0 (fun W pn xe tk _ => ?_) (hh s H)), ?_⟩
  · refine ⟨fun pins s' σ H' D I h' => ?_⟩
    obtain ⟨Ech, hW, h1, h2, h3⟩ := h'
    exact (pss_one (ps_ret (pos := p3) (act W pn xe Ech p1 p2 tk hW))).run pins s' σ H' D I ⟨h1, h2, h3⟩
  · exact ⟨fun cls _ H' => toldX X.K Q l cls H', fun cls d σ' H' w => toldX_wish rfl l w, hst f, hc, h⟩
/-- the combinator: the name told of the exception's class -/
def cTold (l : List (Nat × Str)) (fb : FE) : FE := fun env h => match fb env h with
  | .ok d h' => .ok d h'
  | .ex c _ h' => (match l.lookup c with
    | some ret => .ok (.p (.str ret)) h'
    | none => .bad)
  | .bad => .bad
/-- the def x tells l -/
structure ToldOk (X : Cx) (cs : Tx) (x : Str) (l : List (Nat × Str)) : Prop where
  ex : ∃ (g : Addr) (a : Str) (pg : Arguments) (bg : List Stmt) (sg : Scope) (dV kV doc pm cdv ct oc : Value) (an od : Option Addr) (osl : Array (Option Value)) (Ng : List Str),
    X.mg x = some (.ref g) ∧ PySem.W.keepIn X.K (.ref g) = true ∧ X.K.lookup g = some ⟨oc, od, .func (PySem.W.fnOf x x pg bg sg dV kV doc pm an cdv ct), osl⟩ ∧ PySem.W.codeIn X.K cdv x = true ∧ L2.Binds X.K (PySem.W.fnOf x x pg bg sg dV kV doc pm an cdv ct) [a] [] ∧
    FnScope Ng [a] sg ∧ Ng[0]? = some a ∧ Vis sg a ∧ (a == ("__debug__" : Str)) = false ∧ (a == ("__classdict__" : Str)) = false ∧ ∀ q, LamX.GivesTo X Ng x sg g cdv bg a q (TToldM X.K (l.map fun z => (cs.C z.1, z.2)))
/-- how classes fare with its clauses -/
def MatchOk (K : PySem.W.Frag) (cs : Tx) (l : List (Nat × Str)) : Prop := ∀ c z, z ∈ l → (∃ r, l.lookup c = some r) → PySem.W.exmOne K (.ref (cs.C c)) (.ref (cs.C z.1)) = some (c == z.1)
/-- the def's own table -/
structure TabOk (X : Cx) (cs : Tx) : Prop where
  ex : ∃ c P, LamX.TabB X.base X.mg c P ∧ X.env.code = .ref c ∧ (P, X.env.qual ++ "<lambda>") ∈ cs.tabs ∧ ∀ p ∈ cs.tabs, p.1 = P → p.2 = X.env.qual ++ "<lambda>"
theorem told_look {K : PySem.W.Frag} {cs : Tx} {Q : VK} {H : Hp} {c : Nat} {ret : Str} : ∀ {l : List (Nat × Str)}, (∀ z ∈ l, PySem.W.exmOne K (.ref (cs.C c)) (.ref (cs.C z.1)) = some (c == z.1)) → l.lookup c = some ret → Q (.str ret) H → toldX K Q (l.map fun z => (cs.C z.1, z.2)) (.ref (cs.C c)) H
  | [], _, e, _ => by cases e
  | z :: r, m, e, q => by
    refine ⟨_, m z (List.mem_cons_self ..), fun hb => ?_, fun hb => told_look (fun y hy => m y (List.mem_cons_of_mem _ hy)) ?_ q⟩
    · simp only [List.lookup, hb] at e
      cases e
      exact q
    · simp only [List.lookup, hb] at e
      exact e
theorem gTold {X : Cx} {cs : Tx} {x : Str} {l : List (Nat × Str)} {k : Nat} {params : Arguments} {body : Expr} {scope : Scope} {fb : FE} {p lpos pos : Pos} (T : ToldOk X cs x l) (M : MatchOk X.K cs l) (B : TabOk X cs) (hr : Room (k + 2) X.A) (hg : Gl X x := by rfl) (L : LamX.lamSB X.env.scope scope = true := by rfl) (hdef : defaultsOf params X.env = ([], []) := by rfl)
    (hbind : ∀ (q : Str) (cl : List (Str × Addr)) (pm cv ctv : Value), bindArgs (PySem.W.kla_fn "<lambda>" q params body scope cl pm cv ctv) ⟨[], []⟩ = pure [] := by intros; rfl)
    (hbody : ∀ (A : Around) (outer : List PySem.Env) (s : Shared) (H : Hp) (E : XK) (f c' : Addr), Room k (A.deeper (LamX.lamEnv X scope s.heap.objs.size f c')) → GE (LamX.lamCx X A outer s H E scope f c') cs body fb) (hdb : (x == ("__debug__" : Str)) = false := by decide) :
    GE X cs (.Call (.Name x p) [.Lambda params body scope lpos] [] pos) (cTold l fb) := fun W tk => by
  obtain ⟨g, a, pg, bg, sg, dV, kV, doc, pm, cdv, ct, oc, an, od, osl, Ng, e1, e2, e3, e4, e5, e6, e7, e8, e9, e10, hG⟩ := T.ex
  obtain ⟨c, P, TB, hc, hm, hu⟩ := B.ex
  refine PE.imp (LamX.pe_lamcall (T := cs.tabs) (t := fun E => tE X.K cs (fun cls d _ H => E cls d H) fb) hg e1 e2 e3 e4 e5 e6 e7 e8 (hG _) TB hc hm hu hr (LamX.lamS_by L) hdef hbind (fun A outer s H E f c' hr' => hbody A outer s H E f c' hr' _ (takes_of rfl rfl rfl rfl)) hdb e9 e10) fun σ H Q ⟨g, env, h, R, E, F⟩ => ?_
  refine ⟨R.tabs, fun H1 eN T1 => ?_⟩
  obtain ⟨R1, S1⟩ := R.extN eN T1
  refine ⟨g, env, h, R1, E.step S1, ?_⟩
  unfold cTold at F
  cases q : fb env h with
  | bad => rw [q] at F; exact F
  | ok d h' => rw [q] at F; exact fun g' v H' S' R' V' => F g' v H' (S1.trans S') R' V'
  | ex c fs h' =>
    rw [q] at F
    dsimp only at F
    split at F
    · rename_i ret el
      intro g' cls dd H' S' R' x
      obtain ⟨ec, _⟩ := x
      subst ec
      exact told_look (fun z hz => M c z hz ⟨ret, el⟩) el (F g' _ H' (S1.trans S') R' (.p (.str ret)))
    · exact F.elim
end Ar
namespace Ar
open PySem PySem.Spec PyProof.Rows L2

/-! ### the end of a law -/
def tupObj (its : List Value) : Obj := { cls := .type "tuple", data := .seq its.toArray }
/-- what the law's heap tracks -/
inductive Trk (h : Heap) : Addr → HO → Prop
  | scr {a : Addr} {vs : List Value} {ns : List Int} : h.get? a = some { cls := .type "list", data := .seq vs.toArray } → IntsAre vs ns → ns.length ≤ sizeLine → Trk h a (.frz { cls := .type "list", data := .seq vs.toArray } (.lst (ns.map V.int)))
  | cst {a : Addr} {its : List Value} {ns : List Int} : h.get? a = some (tupObj its) → IntsAre its ns → ns.length ≤ sizeLine → Trk h a (.frz (tupObj its) (.tup (ns.map V.int)))
  | tab {c P : Addr} : h.get? P = some { cls := .none, data := .fields #[] } → PySem.W.CodeHd h c P → Trk h P (.tbl #[])
theorem Trk.obj {h : Heap} {a : Addr} {o : HO} (t : Trk h a o) : ∃ u, h.get? a = some u ∧ u.data ≠ .plain ∧ (∀ es ep, u.data ≠ .dict es ep) ∧ (∀ vs, u.data = .fields vs → vs = #[]) := by
  cases t with
  | scr e _ _ => exact ⟨_, e, fun z => (nomatch z), fun _ _ z => (nomatch z), fun _ z => (nomatch z)⟩
  | cst e _ _ => exact ⟨_, e, fun z => (nomatch z), fun _ _ z => (nomatch z), fun _ z => (nomatch z)⟩
  | tab e _ => exact ⟨_, e, fun z => (nomatch z), fun _ _ z => (nomatch z), fun vs z => by injection z with z; exact z.symm⟩
theorem law_callA {P : Program} {w : World} {K : PySem.W.Frag} {mg mb : Str → Option Value} {CX : CXT} {k : Nat} {fa a : Addr} {cs : List (Addr × Addr)} {fd : FuncData} {x : Str} {sp : Sp} {s₁ : Shared} {H : Hp}
    (KX : K.In s₁.heap) (hns : s₁.heap.Ns mainGlobals mg) (hb : s₁.heap.Ns builtinsNs mb) (hbb : ∀ x : Str, x ≠ "__name__" → mb x = bootBuiltins x) (hlim : s₁.heap.NoLimit) (hg : s₁.gens = #[])
    (hT : ∀ p ∈ cs, s₁.heap.get? p.2 = some { cls := .none, data := .fields #[] }) (C : ∀ p ∈ cs, PySem.W.CodeHd s₁.heap p.1 p.2)
    (hbm : ∃ (bm : Addr) (ob : Obj), mg "__builtins__" = some (.ref bm) ∧ bm ≠ builtinsNs ∧ s₁.heap.get? bm = some ob ∧ ob.cls = .type "module" ∧ ob.dict = some builtinsNs ∧ ob.data = .plain)
    (trk : ∀ b u, H b = some u → Trk s₁.heap b u ∧ K.lookup b = none) (hr : Room k callerA)
    (F : ∀ base : Heap, K.In base → base.Ns mainGlobals mg → (∀ p ∈ cs, LamX.TabB base mg p.1 p.2) → FnOk P w K mg base CX k fa fd [x] sp) (hbind : ∀ (s : Shared) (u : Value), BindsTo s fd ⟨[u], []⟩ [(x, u)])
    (hsp : sp [.ref a] H (fun v _ => v = .bl true) fun _ _ _ => False)
    (hCX : ∀ H e s', CX [] H s₁ (fun _ _ _ => False) e s' → False) :
    codeAny (model P w) callerA (.call (.ref fa) ⟨[.ref a], []⟩) (fun r s' => r = .ok (.ret (.bool true)) ∧ OldK s₁.heap s'.heap ∧ s'.os = s₁.os ∧ AllBare s'.gens) s₁ := by
  have hok : HOk P w H s₁.heap := fun b u e => by
    cases (trk b u e).1 with
    | scr e1 hi hl => exact ⟨e1, by rw [List.length_map]; exact hl, _, _, vals_ints hi, e1⟩
    | cst e1 hi hl => exact ⟨e1, by rw [List.length_map]; exact hl, _, vals_ints hi, _, e1, rfl, _, rfl⟩
    | tab e1 _ => exact e1
  have noD : ∀ {b : Addr} {o : Obj}, s₁.heap.get? b = some o → (∀ u : Obj, some o = some u → u.data = .plain ∨ (∃ es ep, u.data = .dict es ep) ∨ ∃ vs, u.data = .fields vs ∧ vs ≠ #[]) → H b = none := fun {b o} e h => by
    cases q : H b with
    | none => rfl
    | some u =>
      obtain ⟨u', e', n1, n2, n3⟩ := (trk b u q).1.obj
      rw [e] at e'
      rcases h u' e' with z | ⟨es, ep, z⟩ | ⟨vs, z, nz⟩
      · exact absurd z n1
      · exact absurd z (n2 _ _)
      · exact absurd (n3 vs z) nz
  have base_of : ∀ {b : Addr} {o : Obj}, s₁.heap.get? b = some o → H b = none → (hidT s₁.heap H).get? b = some o := fun e n => hidT_get e n
  have nsK : ∀ {b : Addr} {m : Str → Option Value}, s₁.heap.Ns b m → (hidT s₁.heap H).Ns b m := fun {b m} ⟨o, es, ep, e, d, r⟩ => ⟨o, es, ep, base_of e (noD e fun u hu => by cases hu; exact .inr (.inl ⟨_, _, d⟩)), d, r⟩
  have hKb : K.In (hidT s₁.heap H) := fun b o e => base_of (KX b o e) (by
    cases q : H b with
    | none => rfl
    | some u => rw [(trk b u q).2] at e; cases e)
  have hM : L2.Mod K mg (hidT s₁.heap H) := ⟨hKb, nsK hns, ⟨mb, nsK hb, hbb⟩, let ⟨mc, h1, h2⟩ := hlim; ⟨mc, nsK h1, h2⟩⟩
  have TB : ∀ p ∈ cs, LamX.TabB (hidT s₁.heap H) mg p.1 p.2 := fun p hp => by
    have hTp := hT p hp
    refine ⟨?_, ?_, fun z => ?_⟩
    · obtain ⟨o, us, file, tf, flags, tg, inF, text, tt, e1, r1, r2, r3, r4, r5, r6, r7, r8, hne⟩ := C p hp
      refine ⟨o, us, file, tf, flags, tg, inF, text, tt, base_of e1 (noD e1 fun u hu => ?_), r1, r2, r3, r4, r5, r6, r7, r8, hne⟩
      cases hu
      exact .inr (.inr ⟨us, r2, fun z => by subst z; simp at r3⟩)
    · obtain ⟨bm, ob, b1, b2, b3, b4, b5, b6⟩ := hbm
      have nG : bm ≠ mainGlobals := fun q => by
        obtain ⟨o, es, ep, e, hd, _⟩ := hns
        rw [q, e] at b3
        cases b3
        rw [hd] at b6
        cases b6
      have nP : bm ≠ p.2 := fun q => by
        rw [q, hTp] at b3
        cases b3
        cases b6
      exact ⟨bm, ob, b1, b2, nG, nP, base_of b3 (noD b3 fun u hu => by cases hu; exact .inl b6), b4, b5, b6⟩
    · obtain ⟨o, es, ep, e, hd, _⟩ := hns
      rw [z, hTp] at e
      cases e
      cases hd
  have e0 : Env0 P w K mg (hidT s₁.heap H) callerA [] s₁ H := ⟨rfl, hM, fun b o e => of_hidT e, Nat.le_of_eq (hidT_size _ _), trivial, fun b hb => absurd (show b ∈ ([] : List Addr) from hb) (by simp), hok, .of_eq hg⟩
  refine codeAny_mono ((F _ hKb (nsK hns) TB).run callerA [] s₁ H ⟨[.ref a], []⟩ [.ref a] [.ref a] _ _ hr e0 (hbind s₁ (.ref a)) (.cons rfl .nil) hsp) fun r s' h => ?_
  cases r with
  | error e => exact (hCX H e s' h).elim
  | ok fl =>
    cases fl with
    | next => exact False.elim h
    | brk => exact False.elim h
    | cont => exact False.elim h
    | ret u =>
      obtain ⟨v, H', os, bare, un, hok', r', q⟩ := h
      have q' : v = .bl true := q
      subst q'
      obtain rfl : u = Value.bool true := r'
      have all : ∀ b o, s₁.heap.get? b = some o → s'.heap.get? b = some o ∨ (∃ c, PySem.W.CodeHd s₁.heap c b) ∧ o = { cls := .none, data := .fields #[] } ∧ ∃ more : Array Value, s'.heap.get? b = some { cls := .none, data := .fields more } := fun b o e => by
        cases q : H b with
        | none => exact .inl (un.keep b o e q (by intro z; exact absurd (show b ∈ ([] : List Addr) from z) (by simp)) (by simp))
        | some u =>
          have frz : ∀ ob v, u = .frz ob v → s'.heap.get? b = some o := fun ob v z => by
            subst z
            obtain ⟨e1, _⟩ := hok b _ q
            obtain ⟨e2, _⟩ := hok' b _ (un.frzs b ob _ q)
            rw [e] at e1; cases e1
            exact e2
          cases (trk b u q).1 with
          | scr _ _ _ => exact .inl (frz _ _ rfl)
          | cst _ _ _ => exact .inl (frz _ _ rfl)
          | tab e1 hc =>
            obtain ⟨more, z⟩ := un.tbls b #[] q
            rw [e] at e1
            cases e1
            exact .inr ⟨⟨_, hc⟩, rfl, _, hok' b _ z⟩
      refine ⟨rfl, ⟨fun b o e => ?_, fun b o e => ?_⟩, os, bare⟩
      · rcases all b o e with z | ⟨⟨c, hc⟩, rfl, more, hm⟩
        · exact .inl z
        · exact .inr (.inl ⟨(hc.tab e).isCodeTable, rfl, #[], more, rfl, by rw [Array.empty_append]; exact hm⟩)
      · rcases all b o e with z | ⟨_, _, more, hm⟩
        · exact ⟨_, z⟩
        · exact ⟨_, hm⟩

/-- what is known at the head's heap h -/
structure LawAt (l : PySem.W.OpenLaw) (w : World) (K : PySem.W.Frag) (cs : Tx) (tc : List (Addr × Addr)) (k n : Nat) (x : Str) (mg : Str → Option Value) (fa : Addr) (h : Heap) (F : Fn) : Prop where
  tabs : ∀ p ∈ tc, h.get? p.2 = some { cls := .none, data := .fields #[] } ∧ K.lookup p.2 = none ∧ PySem.W.CodeHd h p.1 p.2
  same : ∀ p ∈ cs.tabs, p.1 ∈ tc.map (·.2)
  cons : ∀ q ∈ cs.consts, q.2 ∈ constLists ∧ K.lookup q.1 = none ∧ ∃ its, h.get? q.1 = some (tupObj its) ∧ IntsAre its q.2
  nodup : ∀ q ∈ cs.consts, ∀ r ∈ cs.consts, q.1 = r.1 → q.2 = r.2
  law : ∀ ns : List Int, ns.length ≤ n → (∀ z ∈ ns, Builtin.Int.intBits z ≤ 1048576) → ∃ h', F [.p (.scr ns)] [] = .ok (.p (.bl true)) h'
  ex : ∃ fd : FuncData, (∀ (s : Shared) (u : Value), BindsTo s fd ⟨[u], []⟩ [(x, u)]) ∧
    ∀ base : Heap, K.In base → base.Ns mainGlobals mg → (∀ p ∈ tc, LamX.TabB base mg p.1 p.2) → FnOk l.prog w K mg base (L2.CX l.prog w) k fa fd [x] (spF K cs F 1)
open Classical in
noncomputable def startH (cs : Tx) (tc : List (Addr × Addr)) (K : PySem.W.Frag) (h : Heap) (a : Addr) (vs : List Value) (ns : List Int) : Hp := fun b =>
  if b = a ∧ K.lookup a = none then some (.frz { cls := .type "list", data := .seq vs.toArray } (.lst (ns.map V.int)))
  else if hc : ∃ q ∈ cs.consts, q.1 = b ∧ ∃ its, h.get? b = some (tupObj its) then some (.frz (tupObj hc.choose_spec.2.2.choose) (.tup (hc.choose.2.map V.int)))
  else if b ∈ tc.map (·.2) then some (.tbl #[]) else none
theorem ints_small {its : List Value} {ns : List Int} (h : IntsAre its ns) (m : ns ∈ constLists) : ns.length ≤ sizeLine := by
  rw [sizeLine_eq]
  have : ∀ l ∈ constLists, l.length ≤ 16777216 := by decide
  exact this ns m
theorem law_atA {l : PySem.W.OpenLaw} {w : World} {K : PySem.W.Frag} {cs : Tx} {tc : List (Addr × Addr)} {k n : Nat} {x : Str} {mg mb : Str → Option Value} {fa a : Addr} {F : Fn} {s₁ : Shared} {vs : List Value} {ns : List Int} (L : LawAt l w K cs tc k n x mg fa s₁.heap F)
    (KX : K.In s₁.heap) (hns : s₁.heap.Ns mainGlobals mg) (hb : s₁.heap.Ns builtinsNs mb) (hbb : ∀ x : Str, x ≠ "__name__" → mb x = bootBuiltins x) (hlim : s₁.heap.NoLimit) (hg : s₁.gens = #[])
    (hbm : ∃ (bm : Addr) (ob : Obj), mg "__builtins__" = some (.ref bm) ∧ bm ≠ builtinsNs ∧ s₁.heap.get? bm = some ob ∧ ob.cls = .type "module" ∧ ob.dict = some builtinsNs ∧ ob.data = .plain)
    (ha : s₁.heap.get? a = some { cls := .type "list", data := .seq vs.toArray }) (hi : IntsAre vs ns) (hl : ns.length ≤ sizeLine) (hln : ns.length ≤ n) (bits : ∀ z ∈ ns, Builtin.Int.intBits z ≤ 1048576) (hr : Room k callerA) :
    codeAny (model l.prog w) callerA (.call (.ref fa) ⟨[.ref a], []⟩) (fun r s' => r = .ok (.ret (.bool true)) ∧ OldK s₁.heap s'.heap ∧ s'.os = s₁.os ∧ AllBare s'.gens) s₁ := by
  obtain ⟨fd, hbind, hF⟩ := L.ex
  have trk : ∀ b u, startH cs tc K s₁.heap a vs ns b = some u → Trk s₁.heap b u ∧ K.lookup b = none := fun b u e => by
    unfold startH at e
    split at e
    · rename_i hb
      cases e
      rw [hb.1]
      exact ⟨.scr ha hi hl, hb.2⟩
    · split at e
      · rename_i hc
        cases e
        obtain ⟨h1, h2, h3⟩ := hc.choose_spec
        obtain ⟨c1, c2, its, c3, c4⟩ := L.cons _ h1
        rw [h2] at c2 c3
        have e4 := h3.choose_spec
        rw [e4] at c3
        have e5 : h3.choose.toArray = its.toArray := by
          have := congrArg Obj.data (Option.some.inj c3)
          exact (by injection this)
        have e6 : h3.choose = its := by simpa using congrArg Array.toList e5
        exact ⟨.cst e4 (by rw [e6]; exact c4) (ints_small c4 c1), c2⟩
      · split at e
        · rename_i hb
          cases e
          obtain ⟨p, hp, rfl⟩ := List.mem_map.mp hb
          obtain ⟨t1, t2, t3⟩ := L.tabs p hp
          exact ⟨.tab t1 t3, t2⟩
        · cases e
  have noScr : ∀ b, (∃ its, s₁.heap.get? b = some (tupObj its)) → b ≠ a := fun b ⟨its, e⟩ z => by
    rw [z, ha] at e
    have := congrArg Obj.cls (Option.some.inj e)
    simp [tupObj] at this
  have noTab : ∀ p ∈ tc, p.2 ≠ a ∧ ¬ ∃ its, s₁.heap.get? p.2 = some (tupObj its) := fun p hp => by
    obtain ⟨t1, _⟩ := L.tabs p hp
    refine ⟨fun z => ?_, fun ⟨its, e⟩ => ?_⟩
    · rw [z, ha] at t1; cases t1
    · rw [t1] at e; cases e
  have tabH : ∀ p ∈ tc, startH cs tc K s₁.heap a vs ns p.2 = some (.tbl #[]) := fun p hp => by
    obtain ⟨n1, n2⟩ := noTab p hp
    unfold startH
    rw [if_neg (fun z => n1 z.1), dif_neg (fun ⟨q, _, _, z⟩ => n2 z), if_pos (List.mem_map.mpr ⟨p, hp, rfl⟩)]
  refine law_callA (cs := tc) (H := startH cs tc K s₁.heap a vs ns) KX hns hb hbb hlim hg (fun p hp => (L.tabs p hp).1) (fun p hp => (L.tabs p hp).2.2) hbm trk hr hF hbind ?_ (fun H e s' h => ?_)
  · obtain ⟨h', e⟩ := L.law ns hln bits
    refine ⟨⟨fun _ => 0, fun b => match startH cs tc K s₁.heap a vs ns b with | some (.frz o u) => some (.frz o u) | _ => none⟩, [.p (.scr ns)], [], rfl, ?_, .cons (.p (.scr ?_)) .nil, ?_⟩
    · refine ⟨fun b o q => ?_, fun i j hi => absurd hi (Nat.not_lt_zero _), fun i o q => by simp at q, fun i o q => by simp at q, fun q hq => .inr ?_, fun b o u q => ?_, fun b ps q => ?_, fun p hp => by
        obtain ⟨r, hr, er⟩ := List.mem_map.mp (L.same p hp)
        exact LamX.TabS.nil (by rw [← er]; exact tabH r hr)⟩
      · dsimp only at q
        split at q
        · rename_i o' u' e'; cases q; exact e'
        · cases q
      · obtain ⟨c1, c2, its, c3, c4⟩ := L.cons q hq
        have hex : ∃ r ∈ cs.consts, r.1 = q.1 ∧ ∃ its, s₁.heap.get? q.1 = some (tupObj its) := ⟨q, hq, rfl, its, c3⟩
        have e1 : startH cs tc K s₁.heap a vs ns q.1 = some (.frz (tupObj hex.choose_spec.2.2.choose) (.tup (hex.choose.2.map V.int))) := by
          unfold startH
          rw [if_neg (fun z => noScr q.1 ⟨its, c3⟩ z.1), dif_pos hex]
        have e2 : hex.choose.2 = q.2 := L.nodup _ hex.choose_spec.1 _ hq hex.choose_spec.2.1
        refine ⟨tupObj hex.choose_spec.2.2.choose, ?_⟩
        dsimp only
        rw [e1, e2]
      · dsimp only at q
        split at q
        · rename_i o' u' e'
          cases q
          unfold startH at e'
          split at e'
          · cases e'; exact .inr (.inl ⟨_, rfl⟩)
          · split at e'
            · rename_i hc
              obtain ⟨h1, h2, h3⟩ := hc.choose_spec
              cases e'
              exact .inl ⟨_, (L.cons _ h1).1, rfl⟩
            · split at e' <;> cases e'
        · cases q
      · dsimp only at q
        split at q <;> cases q
    · cases hk : K.lookup a with
      | some o =>
        have e := KX a o hk
        rw [ha] at e
        cases e
        exact .inr ⟨_, vs.toArray, _, hk, rfl, rfl, rfl, by rw [List.size_toArray, hi.length]; exact hl, by simpa using vals_ints hi⟩
      | none =>
        refine .inl (.inr ⟨{ cls := .type "list", data := .seq vs.toArray }, ?_⟩)
        have e1 : startH cs tc K s₁.heap a vs ns a = some (.frz { cls := .type "list", data := .seq vs.toArray } (.lst (ns.map V.int))) := if_pos ⟨rfl, hk⟩
        dsimp only
        rw [e1]
    · rw [e]
      intro g' v H' S' R' V'
      cases V' with
      | p r => cases r; rfl
  · obtain ⟨_, _, _, _, _, _, _, _, _, _, _, _, z⟩ := h
    exact z

theorem walk_A {l : PySem.W.OpenLaw} {n k : Nat} {q : Program} {loose : List Str} {XP : (Str → Option Value) → Heap → Prop} {YP : World → Heap → Prop} {d : DefRec} {x : Str} {F : Fn}
    (hn : l.most = some n) (hn2 : n ≤ sizeLine) (hdf : d.params.defaults = []) (hr : Room k callerA)
    (Y : ∀ (w : World) (mg : Str → Option Value) (fa : Addr) (h : Heap), YP w h → h.Ns mainGlobals mg → mg d.name = some (.ref fa) → ∃ (K : PySem.W.Frag) (cs : Tx) (tc : List (Addr × Addr)), K.In h ∧ LawAt l w K cs tc k n x mg fa h F) :
    PySem.W.WalkO q loose XP YP l.row.toRowW d [] (fun f vs => PySem.call f vs) := by
  refine Att.attach_callB hn hdf fun w s₀ s₁ mg mb fa o pm cd doc a vs ns G Y' ho hd hcd hmg hobj hints hlen hbits hg => ?_
  obtain ⟨K, cs, tc, KX, L⟩ := Y w mg fa _ Y' G.T.g hmg
  exact law_atA L KX G.T.g G.T.b G.T.builtins G.T.nolimit hg G.T.bmain hobj hints (Nat.le_trans hlen hn2) hlen hbits hr
end Ar
namespace Ar
open PySem PySem.Spec PyProof.Rows L2

/-! ### the head's facts -/
/-- what is looked at: the module's reach, without empty tables and the constant tuples -/
def frA (g : Addr → Option Obj) (n : Nat) (cn : List (Str × List Int)) : PySem.W.Frag := (He.frT g (He.asD g n)).filter fun q => !((cn.map fun c => He.ga (He.frT g (He.asD g n)) c.1).contains q.1)
theorem frA_in {h : Heap} {n : Nat} {cn : List (Str × List Int)} : (frA h.get? n cn).In h := fun _ _ e => by
  have h1 := (List.mem_filter.mp (He.lookup_mem e)).1
  exact He.frG_mem (List.mem_filter.mp h1).1
def intsB : List Value → List Int → Bool
  | [], [] => true
  | .int i _ :: r, j :: s => decide (i = j) && intsB r s
  | _, _ => false
theorem intsB_ok : ∀ {vs : List Value} {ns : List Int}, intsB vs ns = true → IntsAre vs ns
  | [], [], _ => .nil
  | [], _ :: _, h => by simp [intsB] at h
  | v :: r, [], h => by cases v <;> simp [intsB] at h
  | v :: r, j :: s, h => by
    cases v with
    | int i t =>
      simp only [intsB, Bool.and_eq_true, decide_eq_true_eq] at h
      obtain ⟨rfl, h2⟩ := h
      exact .cons _ _ (intsB_ok h2)
    | _ => simp [intsB] at h
def tupB (o : Obj) (ns : List Int) : Bool := match o with
  | ⟨.type t, none, .seq its 0, sl⟩ => decide (t = "tuple") && (sl.isEmpty && intsB its.toList ns)
  | _ => false
theorem tupB_ok {o : Obj} {ns : List Int} (h : tupB o ns = true) : ∃ its, o = tupObj its ∧ IntsAre its ns := by
  unfold tupB at h
  split at h
  · rename_i t its sl
    simp only [Bool.and_eq_true, decide_eq_true_eq] at h
    obtain ⟨rfl, h2, h3⟩ := h
    have e2 : sl = #[] := Array.isEmpty_iff.mp h2
    subst e2
    exact ⟨its.toList, rfl, intsB_ok h3⟩
  · cases h
def consB (g : Addr → Option Obj) (K : PySem.W.Frag) (cn : List (Str × List Int)) : Bool := decide ((cn.map fun q => He.ga K q.1).Nodup) && cn.all fun q => (K.lookup (He.ga K q.1)).isNone && (match g (He.ga K q.1) with
  | some o => tupB o q.2
  | none => false)
def tabsA (g : Addr → Option Obj) (K : PySem.W.Frag) (tf : List He.Defn) : Bool := decide ((tf.map fun p => (He.cT K p).2).Nodup) && tf.all fun p => (K.lookup (He.cT K p).2).isNone && (PySem.W.codeHdIn K (He.cT K p).1 (He.cT K p).2 && (match g (He.cT K p).2 with
  | some o => He.emptyTab o
  | none => false))
structure SaysA (fa : List He.Fa) (fn : List He.FnD) (tf : List He.Defn) (cn : List (Str × List Int)) (h : Heap) (K : PySem.W.Frag) : Prop where
  e : He.SaysE fa fn K
  ndT : (tf.map fun p => (He.cT K p).2).Nodup
  ndC : (cn.map fun q => He.ga K q.1).Nodup
  hd : ∀ p ∈ tf, PySem.W.codeHdIn K (He.cT K p).1 (He.cT K p).2 = true
  out : ∀ p ∈ tf, K.lookup (He.cT K p).2 = none
  empty : ∀ p ∈ tf, h.get? (He.cT K p).2 = some { cls := .none, data := .fields #[] }
  cons : ∀ q ∈ cn, K.lookup (He.ga K q.1) = none ∧ ∃ its, h.get? (He.ga K q.1) = some (tupObj its) ∧ IntsAre its q.2
def obsA (n : Nat) (fa : List He.Fa) (fn : List He.FnD) (tf : List He.Defn) (cn : List (Str × List Int)) (g : Addr → Option Obj) : He.Al × Bool := (He.obsE fa fn (frA g n cn), tabsA g (frA g n cn) tf && consB g (frA g n cn) cn)
theorem isNone_eq {α : Type} {o : Option α} (h : o.isNone = true) : o = none := by cases o <;> simp at h ⊢
theorem saysA_of {n : Nat} {fa : List He.Fa} {fn : List He.FnD} {tf : List He.Defn} {cn : List (Str × List Int)} {h : Heap} (e : obsA n fa fn tf cn h.get? = (He.valE fn, true)) : SaysA fa fn tf cn h (frA h.get? n cn) := by
  have e1 : He.obsE fa fn (frA h.get? n cn) = He.valE fn := congrArg Prod.fst e
  have e2 : (tabsA h.get? (frA h.get? n cn) tf && consB h.get? (frA h.get? n cn) cn) = true := congrArg Prod.snd e
  rw [Bool.and_eq_true] at e2
  obtain ⟨h1, h2⟩ := e2
  have h1 : (decide ((tf.map fun p => (He.cT (frA h.get? n cn) p).2).Nodup) && tf.all fun p => ((frA h.get? n cn).lookup (He.cT (frA h.get? n cn) p).2).isNone && (PySem.W.codeHdIn (frA h.get? n cn) (He.cT (frA h.get? n cn) p).1 (He.cT (frA h.get? n cn) p).2 && (match h.get? (He.cT (frA h.get? n cn) p).2 with
  | some o => He.emptyTab o
  | none => false))) = true := h1
  have h2 : (decide ((cn.map fun q => He.ga (frA h.get? n cn) q.1).Nodup) && cn.all fun q => ((frA h.get? n cn).lookup (He.ga (frA h.get? n cn) q.1)).isNone && (match h.get? (He.ga (frA h.get? n cn) q.1) with
  | some o => tupB o q.2
  | none => false)) = true := h2
  rw [Bool.and_eq_true] at h1 h2
  obtain ⟨n1, h1⟩ := h1
  obtain ⟨n2, h2⟩ := h2
  have key : ∀ p ∈ tf, (frA h.get? n cn).lookup (He.cT (frA h.get? n cn) p).2 = none ∧ PySem.W.codeHdIn (frA h.get? n cn) (He.cT (frA h.get? n cn) p).1 (He.cT (frA h.get? n cn) p).2 = true ∧ h.get? (He.cT (frA h.get? n cn) p).2 = some { cls := .none, data := .fields #[] } := fun p hp => by
    have z := List.all_eq_true.mp h1 p hp
    rw [Bool.and_eq_true, Bool.and_eq_true] at z
    obtain ⟨z1, z2, z3⟩ := z
    refine ⟨isNone_eq z1, z2, ?_⟩
    cases q : h.get? (He.cT (frA h.get? n cn) p).2 with
    | none => rw [q] at z3; cases z3
    | some o => rw [q] at z3; rw [He.emptyTab_eq z3]
  refine ⟨e1, of_decide_eq_true n1, of_decide_eq_true n2, fun p hp => (key p hp).2.1, fun p hp => (key p hp).1, fun p hp => (key p hp).2.2, fun q hq => ?_⟩
  have z := List.all_eq_true.mp h2 q hq
  rw [Bool.and_eq_true] at z
  obtain ⟨z1, z2⟩ := z
  refine ⟨isNone_eq z1, ?_⟩
  cases qq : h.get? (He.ga (frA h.get? n cn) q.1) with
  | none => rw [qq] at z2; cases z2
  | some o =>
    rw [qq] at z2
    obtain ⟨its, e1, e2⟩ := tupB_ok z2
    exact ⟨its, by rw [e1], e2⟩
def hookA (n : Nat) (fa : List He.Fa) (fn : List He.FnD) (tf : List He.Defn) (cn : List (Str × List Int)) : PySem.W.Hook where
  α := He.Al × Bool
  obs := fun s => obsA n fa fn tf cn s.heap.get?
  val := fun _ => (He.valE fn, true)
  says := fun _ h => ∃ K : PySem.W.Frag, K.In h ∧ SaysA fa fn tf cn h K
  of := fun _ _ e => ⟨_, frA_in, saysA_of e⟩
  keeps := fun _ _ _ ⟨K, hK, c⟩ k => ⟨K, PySem.W.Frag.In.keeps hK k, ⟨c.e, c.ndT, c.ndC, c.hd, c.out, fun p hp => k _ _ (c.empty p hp), fun q hq => let ⟨a, its, b, d⟩ := c.cons q hq; ⟨a, its, k _ _ b, d⟩⟩⟩
theorem obsA_eq {n : Nat} {fa : List He.Fa} {fn : List He.FnD} {tf : List He.Defn} {cn : List (Str × List Int)} {g : Addr → Option Obj} {s : Shared} (h : ∀ a, g a = s.heap.get? a) : obsA n fa fn tf cn g = (hookA n fa fn tf cn).obs s := by
  have e : g = s.heap.get? := funext h
  rw [e] <;> rfl
/-- the text: classes by place, constants, tables -/
def mkTx (K : PySem.W.Frag) (cl : List Str) (cn : List (Str × List Int)) (tf : List (He.Defn × Str)) (b : Bool := false) : Tx where
  ex := b
  C := fun i => He.ga K (cl.getD i "")
  consts := cn.map fun q => (He.ga K q.1, q.2)
  tabs := tf.map fun p => ((He.cT K p.1).2, p.2)

/-! ### what the derivations rest on -/
structure Dn (P : Program) (w : World) (K : PySem.W.Frag) (mg : Str → Option Value) (base : Heap) (cs : Tx) (k : Nat) (x : Str) (np : Nat) (F : Fn) : Prop where
  ex : ∃ (f : Addr) (fd : FuncData) (ps : List Str), ps.length = np ∧ FnOk P w K mg base (L2.CX P w) k f fd ps (spF K cs F np) ∧ mg x = some (.ref f) ∧ PySem.W.keepIn K (.ref f) = true ∧ Binds K fd ps []
structure Mn (P : Program) (w : World) (K : PySem.W.Frag) (mg : Str → Option Value) (base : Heap) (cs : Tx) (k : Nat) (c : Nat) (m : Str) (np : Nat) (F : Fn) : Prop where
  cl : Cls K (cs.C c)
  ex : ∃ (f : Addr) (fd : FuncData) (ps : List Str), ps.length = np ∧ FnOk P w K mg base (L2.CX P w) k f fd ps (spF K cs F np) ∧ Meth K (cs.C c) m f ∧ Binds K fd ps []
structure Kn (P : Program) (w : World) (K : PySem.W.Frag) (mg : Str → Option Value) (base : Heap) (cs : Tx) (k : Nat) (x : Str) (c : Nat) (np : Nat) (F : Fn) : Prop where
  gm : mg x = some (.ref (cs.C c))
  ex : ∃ (f : Addr) (fd : FuncData) (ps : List Str), ps.length = np ∧ FnOk P w K mg base (L2.CX P w) k f fd ps (spF K cs F np) ∧ Mk K (cs.C c) f ∧ Binds K fd ps []
section
variable {P : Program} {w : World} {K : PySem.W.Frag} {mg : Str → Option Value} {base : Heap} {cs : Tx}
theorem fnOkC {x qual : Str} {st : Stmt} {at_ : He.Defn} {fd : FuncData} {N ps : List Str} {k : Nat} {fb : FS} (F : Fun K x qual st (He.fAd K at_) fd) (S : FnScope N ps (defScope st))
    (hb : ∀ (cdv : Value) (A : Around) (outer : List PySem.Env) (s : Shared) (H : Hp) (E : XK), cdv = .ref (He.codeOf K at_) → Room k (A.deeper (envOfC qual (defScope st) s.heap.objs.size (He.fAd K at_) cdv)) → GSs (cxOf (L2.CX P w) P w K mg base N qual (defScope st) (He.fAd K at_) cdv A outer s H E) cs (defBody st) fb) :
    FnOk P w K mg base (L2.CX P w) (k + 1) (He.fAd K at_) fd ps (spF K cs (cFn N.length fb) ps.length) := by
  obtain ⟨oc, od, kV, doc, pm, an, cdv, ct, osl, rfl, lk, hcd⟩ := F.ex
  have hc : cdv = .ref (He.codeOf K at_) := by
    obtain ⟨c, e⟩ := He.codeIn_ref hcd
    rw [He.codeOf_eq lk (show (PySem.W.fnOf x qual (defArgs st) (defBody st) (defScope st) .none kV doc pm an cdv ct).code = .ref c from e)]
    exact e
  refine fn_of lk hcd S (fun vs H Q E ⟨g, ds, h, hl, _⟩ => hl) fun A outer s H vs Q E hr ⟨g, ds, h, hl, R, r, FF⟩ => ?_
  refine ⟨_, hb cdv A outer s H E hc hr (fun cls d _ H => E cls d H) (takes_of rfl rfl rfl rfl), g, _, h, R, renv_start r, ?_⟩
  unfold cFn at FF
  generalize hfb : fb (ds.map some ++ List.replicate (N.length - ds.length) none) h = res at FF ⊢
  cases res with
  | nx e h' => exact fun g' σ' H' S' R' _ => FF g' .non H' S' R' (.p .non)
  | rt d h' => exact fun g' v H' S' R' q => FF g' v H' S' R' q
  | ex c fs e h' => exact fun g' σ' cls dd H' S' R' _ q => FF g' cls dd H' S' R' q
  | bk e h' => exact FF.elim
  | ct e h' => exact FF.elim
  | bad => exact FF.elim
variable {fa : List He.Fa} {fn : List He.FnD} {tf : List He.Defn} {cn : List (Str × List Int)} {h : Heap}
theorem SaysA.fun_ (c : SaysA fa fn tf cn h K) (i : Nat) {at_ : He.Defn} {x qual : Str} {st : Stmt} (e : fn[i]? = some ⟨at_, x, qual, defArgs st, defBody st, defScope st⟩) (kp : PySem.W.keepIn K (.ref (He.fAd K at_)) = true) : ∃ fd, Fun K x qual st (He.fAd K at_) fd := by
  obtain ⟨oc, od, osl, kV, doc, pm, an, cdv, ct, l, hc⟩ := c.e.def_ i e
  exact ⟨_, fun_mk l hc kp⟩
/-- THE RULE for a def of the module -/
theorem dn_of {x : Str} {st : Stmt} {N ps : List Str} {k np : Nat} {fb : FS} {Fn_ : Fn} (c : SaysA fa fn tf cn h K) (i : Nat) (hg : mg x = some (.ref (He.ga K x))) (kp : PySem.W.keepIn K (.ref (He.ga K x)) = true) (S : FnScope N ps (defScope st)) (hF : Fn_ = cFn N.length fb)
    (bd : ∀ (kV doc pm : Value) (an : Option Addr) (cdv ct : Value) (us : List Value), us.length = ps.length → bindArgs (PySem.W.fnOf x x (defArgs st) (defBody st) (defScope st) .none kV doc pm an cdv ct) ⟨us, []⟩ = pure (ps.zip us))
    (hb : ∀ (cdv : Value) (A : Around) (outer : List PySem.Env) (s : Shared) (H : Hp) (E : XK), cdv = .ref (He.codeOf K (x, none)) → Room k (A.deeper (envOfC x (defScope st) s.heap.objs.size (He.ga K x) cdv)) → GSs (cxOf (L2.CX P w) P w K mg base N x (defScope st) (He.ga K x) cdv A outer s H E) cs (defBody st) fb)
    (e : fn[i]? = some ⟨(x, none), x, x, defArgs st, defBody st, defScope st⟩ := by rfl) (hn : ps.length = np := by rfl) : Dn P w K mg base cs (k + 1) x np Fn_ := by
  subst hn hF
  obtain ⟨fd, F⟩ := c.fun_ i e kp
  exact ⟨_, fd, ps, rfl, fnOkC (at_ := (x, none)) F S hb, hg, kp, F.binds bd⟩
/-- .. for a method -/
theorem mn_of {ci : Nat} {C m qual : Str} {st : Stmt} {N ps : List Str} {k np : Nat} {fb : FS} {Fn_ : Fn} (c : SaysA fa fn tf cn h K) (i : Nat) (hC : cs.C ci = He.ga K C) (hc : Cls K (He.ga K C)) (hm : Meth K (He.ga K C) m (He.ma K (He.ga K C) m)) (S : FnScope N ps (defScope st)) (hF : Fn_ = cFn N.length fb)
    (bd : ∀ (kV doc pm : Value) (an : Option Addr) (cdv ct : Value) (us : List Value), us.length = ps.length → bindArgs (PySem.W.fnOf m qual (defArgs st) (defBody st) (defScope st) .none kV doc pm an cdv ct) ⟨us, []⟩ = pure (ps.zip us))
    (hb : ∀ (cdv : Value) (A : Around) (outer : List PySem.Env) (s : Shared) (H : Hp) (E : XK), cdv = .ref (He.codeOf K (C, some m)) → Room k (A.deeper (envOfC qual (defScope st) s.heap.objs.size (He.fAd K (C, some m)) cdv)) → GSs (cxOf (L2.CX P w) P w K mg base N qual (defScope st) (He.fAd K (C, some m)) cdv A outer s H E) cs (defBody st) fb)
    (e : fn[i]? = some ⟨(C, some m), m, qual, defArgs st, defBody st, defScope st⟩ := by rfl) (hn : ps.length = np := by rfl) : Mn P w K mg base cs (k + 1) ci m np Fn_ := by
  subst hn hF
  obtain ⟨fd, F⟩ := c.fun_ i e hm.kp
  exact ⟨by rw [hC]; exact hc, _, fd, ps, rfl, fnOkC (at_ := (C, some m)) F S hb, by rw [hC]; exact hm, F.binds bd⟩
/-- .. for an __init__ -/
theorem kn_of {ci : Nat} {C qual : Str} {st : Stmt} {N ps : List Str} {k np : Nat} {fb : FS} {Fn_ : Fn} (c : SaysA fa fn tf cn h K) (i : Nat) (hC : cs.C ci = He.ga K C) (hg : mg C = some (.ref (He.ga K C))) (hm : Mk K (He.ga K C) (He.ma K (He.ga K C) "__init__")) (kp : PySem.W.keepIn K (.ref (He.ma K (He.ga K C) "__init__")) = true) (S : FnScope N ps (defScope st)) (hF : Fn_ = cFn N.length fb)
    (bd : ∀ (kV doc pm : Value) (an : Option Addr) (cdv ct : Value) (us : List Value), us.length = ps.length → bindArgs (PySem.W.fnOf "__init__" qual (defArgs st) (defBody st) (defScope st) .none kV doc pm an cdv ct) ⟨us, []⟩ = pure (ps.zip us))
    (hb : ∀ (cdv : Value) (A : Around) (outer : List PySem.Env) (s : Shared) (H : Hp) (E : XK), cdv = .ref (He.codeOf K (C, some "__init__")) → Room k (A.deeper (envOfC qual (defScope st) s.heap.objs.size (He.fAd K (C, some "__init__")) cdv)) → GSs (cxOf (L2.CX P w) P w K mg base N qual (defScope st) (He.fAd K (C, some "__init__")) cdv A outer s H E) cs (defBody st) fb)
    (e : fn[i]? = some ⟨(C, some "__init__"), "__init__", qual, defArgs st, defBody st, defScope st⟩ := by rfl) (hn : ps.length = np := by rfl) : Kn P w K mg base cs (k + 1) C ci np Fn_ := by
  subst hn hF
  obtain ⟨fd, F⟩ := c.fun_ i e kp
  exact ⟨by rw [hC]; exact hg, _, fd, ps, rfl, fnOkC (at_ := (C, some "__init__")) F S hb, by rw [hC]; exact hm, F.binds bd⟩
end

theorem toldOk_of {X : Cx} {cs : Tx} {x a : Str} {st : Stmt} {N : List Str} {l : List (Nat × Str)} {f : Addr} {fd : FuncData} {h0 : ExceptHandler} {hds : List ExceptHandler} {p1 p2 p3 p8 : Pos} (F : Fun X.K x x st f fd) (hg : X.mg x = some (.ref f)) (S : FnScope N [a] (defScope st))
    (bd : ∀ (kV doc pm : Value) (an : Option Addr) (cdv ct : Value) (us : List Value), us.length = [a].length → bindArgs (PySem.W.fnOf x x (defArgs st) (defBody st) (defScope st) .none kV doc pm an cdv ct) ⟨us, []⟩ = pure ([a].zip us))
    (hb : defBody st = [.Try [.Return (some (.Call (.Name a p1) [] [] p2)) p3] (h0 :: hds) [] [] p8]) (hst : ∀ f : Addr, (L2.start N [V.ref f])[0]? = some (some (V.ref f)))
    (hh : ∀ (cdv : Value) (s : Shared) (H : Hp), HdsOk (cxOf C8.CX0 X.prog X.w X.K X.mg X.base N x (defScope st) f cdv X.A X.stack s H C8.E0).nox (h0 :: hds) (retH (l.map fun z => (cs.C z.1, z.2)))) (hN : N[0]? = some a := by rfl) (hv : Vis (defScope st) a := by exact Or.inl rfl) (hd : (a == ("__debug__" : Str)) = false := by decide) (hcd : (a == ("__classdict__" : Str)) = false := by decide) : ToldOk X cs x l := by
  have bb := F.binds bd
  have kp := F.kp
  obtain ⟨oc, od, kV, doc, pm, an, cdv, ct, osl, rfl, lk, hc⟩ := F.ex
  refine ⟨f, a, defArgs st, defBody st, defScope st, .none, kV, doc, pm, cdv, ct, oc, an, od, osl, N, hg, kp, lk, hc, bb, S, hN, hv, hd, hcd, fun q => ?_⟩
  rw [hb]
  exact told_givesM hst (hh cdv)
theorem tabOk_of {X : Cx} {cs : Tx} {at_ : He.Defn} (hc : X.env.code = .ref (He.codeOf X.K at_)) (TB : LamX.TabB X.base X.mg (He.cT X.K at_).1 (He.cT X.K at_).2) (hm : ((He.cT X.K at_).2, X.env.qual ++ "<lambda>") ∈ cs.tabs) (hu : ∀ p ∈ cs.tabs, p.1 = (He.cT X.K at_).2 → p.2 = X.env.qual ++ "<lambda>") : TabOk X cs := ⟨_, _, TB, hc, hm, hu⟩
theorem mkr_ok {K : PySem.W.Frag} {cs : Tx} {l : List (Nat × Str)} (h : ∀ c ∈ l.map (·.1), ∀ z ∈ l, PySem.W.exmOne K (.ref (cs.C c)) (.ref (cs.C z.1)) = some (c == z.1)) : MatchOk K cs l := fun c z hz ⟨r, hr⟩ => h c (by
  have key : ∀ l : List (Nat × Str), l.lookup c = some r → c ∈ l.map (·.1) := by
    intro l
    induction l with
    | nil => intro h; cases h
    | cons q t ih =>
      intro h
      simp only [List.lookup] at h
      split at h
      · rename_i e; simp [beq_iff_eq.mp e]
      · exact List.mem_cons_of_mem _ (ih h)
  exact key l hr) z hz

theorem nodup_inj {α β : Type} {f : α → β} : ∀ {l : List α}, (l.map f).Nodup → ∀ {a b : α}, a ∈ l → b ∈ l → f a = f b → a = b
  | [], _, _, _, h, _, _ => by cases h
  | x :: l, nd, a, b, ha, hb, e => by
    rw [List.map_cons, List.nodup_cons] at nd
    rcases List.mem_cons.mp ha with rfl | ha'
    · rcases List.mem_cons.mp hb with rfl | hb'
      · rfl
      · exact absurd (by rw [e]; exact List.mem_map_of_mem hb') nd.1
    · rcases List.mem_cons.mp hb with rfl | hb'
      · exact absurd (by rw [← e]; exact List.mem_map_of_mem ha') nd.1
      · exact nodup_inj nd.2 ha' hb' e
section
variable {K : PySem.W.Frag} {cl : List Str} {cn : List (Str × List Int)} {tf : List (He.Defn × Str)} {fa : List He.Fa} {fn : List He.FnD} {h : Heap}
theorem tx_mem {p : He.Defn × Str} (hp : p ∈ tf) : ((He.cT K p.1).2, p.2) ∈ (mkTx K cl cn tf).tabs := List.mem_map.mpr ⟨p, hp, rfl⟩
theorem tx_uniq (S : SaysA fa fn (tf.map (·.1)) cn h K) {p : He.Defn × Str} (hp : p ∈ tf) : ∀ q ∈ (mkTx K cl cn tf).tabs, q.1 = (He.cT K p.1).2 → q.2 = p.2 := fun q hq e => by
  obtain ⟨r, hr, rfl⟩ := List.mem_map.mp hq
  have nd : (tf.map fun p => (He.cT K p.1).2).Nodup := by
    have := S.ndT
    rw [List.map_map] at this
    exact this
  rw [nodup_inj nd hr hp e]
theorem tx_const {q : Str × List Int} (hq : q ∈ cn) : (He.ga K q.1, q.2) ∈ (mkTx K cl cn tf).consts := List.mem_map.mpr ⟨q, hq, rfl⟩
theorem lawAt_of {l : PySem.W.OpenLaw} {w : World} {k n : Nat} {x : Str} {mg : Str → Option Value} {f : Addr} {F : Fn} (X : K.In h) (S : SaysA fa fn (tf.map (·.1)) cn h K) (hc : ∀ q ∈ cn, q.2 ∈ constLists)
    (law : ∀ ns : List Int, ns.length ≤ n → (∀ z ∈ ns, Builtin.Int.intBits z ≤ 1048576) → ∃ h', F [.p (.scr ns)] [] = .ok (.p (.bl true)) h')
    (ex : ∃ fd : FuncData, (∀ (s : Shared) (u : Value), BindsTo s fd ⟨[u], []⟩ [(x, u)]) ∧ ∀ base : Heap, K.In base → base.Ns mainGlobals mg → (∀ p ∈ tf.map (·.1), LamX.TabB base mg (He.cT K p).1 (He.cT K p).2) → FnOk l.prog w K mg base (L2.CX l.prog w) k f fd [x] (spF K (mkTx K cl cn tf) F 1)) :
    LawAt l w K (mkTx K cl cn tf) (tf.map fun p => He.cT K p.1) k n x mg f h F where
  tabs := fun p hp => by
    obtain ⟨q, hq, rfl⟩ := List.mem_map.mp hp
    have hm : q.1 ∈ tf.map (·.1) := List.mem_map_of_mem hq
    exact ⟨S.empty _ hm, S.out _ hm, PySem.W.codeHd_of_K X (S.hd _ hm)⟩
  same := fun p hp => by
    obtain ⟨q, hq, rfl⟩ := List.mem_map.mp hp
    exact List.mem_map.mpr ⟨He.cT K q.1, List.mem_map.mpr ⟨q, hq, rfl⟩, rfl⟩
  cons := fun p hp => by
    obtain ⟨q, hq, rfl⟩ := List.mem_map.mp hp
    obtain ⟨a, b⟩ := S.cons q hq
    exact ⟨hc q hq, a, b⟩
  nodup := fun p hp r hr e => by
    obtain ⟨q, hq, rfl⟩ := List.mem_map.mp hp
    obtain ⟨q', hq', rfl⟩ := List.mem_map.mp hr
    have := nodup_inj S.ndC hq hq' e
    rw [this]
  law := law
  ex := by
    obtain ⟨fd, b, F⟩ := ex
    refine ⟨fd, b, fun base kb nb TB => F base kb nb fun p hp => ?_⟩
    obtain ⟨q, hq, rfl⟩ := List.mem_map.mp hp
    exact TB _ (List.mem_map.mpr ⟨q, hq, rfl⟩)
end

theorem law_ex {P : Program} {w : World} {K : PySem.W.Frag} {mg : Str → Option Value} {cs : Tx} {fa : List He.Fa} {fn : List He.FnD} {tf : List He.Defn} {cn : List (Str × List Int)} {h : Heap} {x a : Str} {st : Stmt} {N : List Str} {k : Nat} {fb : FS} {F_ : Fn} {f : Addr} (c : SaysA fa fn tf cn h K) (i : Nat)
    (hf : mg x = some (.ref f)) (hg : mg x = some (.ref (He.ga K x))) (kp : PySem.W.keepIn K (.ref (He.ga K x)) = true) (S : FnScope N [a] (defScope st)) (hF : F_ = cFn N.length fb)
    (bd : ∀ (kV doc pm : Value) (an : Option Addr) (cdv ct : Value) (us : List Value), us.length = [a].length → bindArgs (PySem.W.fnOf x x (defArgs st) (defBody st) (defScope st) .none kV doc pm an cdv ct) ⟨us, []⟩ = pure ([a].zip us))
    (hb : ∀ base : Heap, K.In base → base.Ns mainGlobals mg → (∀ p ∈ tf, LamX.TabB base mg (He.cT K p).1 (He.cT K p).2) → ∀ (cdv : Value) (A : Around) (outer : List PySem.Env) (s : Shared) (H : Hp) (E : XK), cdv = .ref (He.codeOf K (x, none)) → Room k (A.deeper (envOfC x (defScope st) s.heap.objs.size (He.ga K x) cdv)) → GSs (cxOf (L2.CX P w) P w K mg base N x (defScope st) (He.ga K x) cdv A outer s H E) cs (defBody st) fb)
    (e : fn[i]? = some ⟨(x, none), x, x, defArgs st, defBody st, defScope st⟩ := by rfl) : ∃ fd : FuncData, (∀ (s : Shared) (u : Value), BindsTo s fd ⟨[u], []⟩ [(a, u)]) ∧ ∀ base : Heap, K.In base → base.Ns mainGlobals mg → (∀ p ∈ tf, LamX.TabB base mg (He.cT K p).1 (He.cT K p).2) → FnOk P w K mg base (L2.CX P w) (k + 1) f fd [a] (spF K cs F_ 1) := by
  rw [hg] at hf
  cases hf
  subst hF
  obtain ⟨fd, F⟩ := c.fun_ i e kp
  refine ⟨fd, fun s u => ?_, fun base kb nb TB => fnOkC (at_ := (x, none)) F S (hb base kb nb TB)⟩
  obtain ⟨oc, od, kV, doc, pm, an, cdv, ct, osl, rfl, lk, hcd⟩ := F.ex
  exact BindsTo.of_eq (bd kV doc pm an cdv ct [u] rfl)
end Ar
namespace Ar
open PySem PySem.Spec PyProof.Rows L2
section
variable {X : Cx} {cs : Tx}
/-! ### in place -/
def oAddI : P → P → Option P
  | .int i, .int j => some (.int (i + j))
  | .str x, .str y => if okLen (x.length + y.length) then some (.str (x ++ y)) else none
  | _, _ => none
def oMulI : P → P → Option P
  | .int i, .int j => if okMul i j then some (.int (i * j)) else none
  | _, _ => none
def oDivI : P → P → Option P
  | .int i, .int j => if 0 < j then (if okDiv j then some (.int (i / j)) else none) else none
  | _, _ => none
def oModI : P → P → Option P
  | .int i, .int j => if 0 < j then some (.int (i % j)) else none
  | _, _ => none
def rAddI : R2 := fun x y H Q => (rI0 (fun i j => .int (i + j)) x y H Q) ∨ (∃ i j, x = .str i ∧ y = .str j ∧ i.length + j.length ≤ sizeLine ∧ Q (.str (i ++ j)) H)
theorem ip_addG : OpR X (inplaceOp .Add) rAddI := OpR.or iop_add iop_add_str
theorem ok_addI : OpOk X.K cs rAddI oAddI := fun G H x y p q z Q s rx ry e k => by
  unfold oAddI at e
  split at e
  · cases e; cases rx; cases ry; exact .inl ⟨_, _, rfl, rfl, k.same _ (.int _)⟩
  · split at e
    · rename_i hl
      cases e; cases rx; cases ry; exact .inr ⟨_, _, rfl, rfl, okLen_le hl, k.same _ (.str _)⟩
    · cases e
  · cases e
theorem ip_subG : OpR X (inplaceOp .Sub) (rI0 fun i j => .int (i - j)) := iop_sub
theorem iop_mulW : OpR X (inplaceOp .Mult) (rI CMulW fun i j => .int (i * j)) := opI fun _ _ _ _ _ _ _ hc q => imul_int q hc.ok
def rMulI : R2 := fun x y H Q => (rI CMulW (fun i j => .int (i * j)) x y H Q) ∨ (rI CMul (fun i j => .int (i * j)) x y H Q)
theorem ip_mulG : OpR X (inplaceOp .Mult) rMulI := OpR.or iop_mulW iop_mul
theorem ok_mulI : OpOk X.K cs rMulI oMulI := fun G H x y p q z Q s rx ry e k => by
  unfold oMulI at e
  split at e
  · split at e
    · rename_i i j h
      cases e; cases rx; cases ry
      unfold okMul at h
      rw [Bool.or_eq_true, Bool.or_eq_true] at h
      rcases h with (h | h) | h
      · exact .inl ⟨_, _, rfl, rfl, (by unfold CMulW; exact of_decide_eq_true h), k.same _ (.int _)⟩
      · exact .inr ⟨_, _, rfl, rfl, .inl (of_decide_eq_true h), k.same _ (.int _)⟩
      · exact .inr ⟨_, _, rfl, rfl, .inr (of_decide_eq_true h), k.same _ (.int _)⟩
    · cases e
  · cases e
theorem ip_divG : OpR X (inplaceOp .FloorDiv) (rI CDivW fun i j => .int (i / j)) := iop_fdivW
theorem ok_divI : OpOk X.K cs (rI CDivW fun i j => .int (i / j)) oDivI := fun G H x y p q z Q s rx ry e k => by
  unfold oDivI at e
  split at e
  · split at e
    · rename_i h
      split at e
      · rename_i h2
        cases e; cases rx; cases ry
        exact ⟨_, _, rfl, rfl, ⟨h, of_decide_eq_true h2⟩, k.same _ (.int _)⟩
      · cases e
    · cases e
  · cases e
theorem ip_modG : OpR X (inplaceOp .Mod) (rI (fun _ j => 0 < j) fun i j => .int (i % j)) := iop_mod
theorem ok_modI : OpOk X.K cs (rI (fun _ j => 0 < j) fun i j => .int (i % j)) oModI := fun G H x y p q z Q s rx ry e k => by
  unfold oModI at e
  split at e
  · split at e
    · rename_i h
      cases e; cases rx; cases ry
      exact ⟨_, _, rfl, rfl, h, k.same _ (.int _)⟩
    · cases e
  · cases e
/-! ### a constant tuple of the module -/
theorem rps_intsV {K : PySem.W.Frag} {cs : Tx} {G : Hp} : ∀ ns : List Int, RPs K cs G (ns.map P.int) (ns.map V.int)
  | [] => .nil
  | n :: r => .cons (.int n) (rps_intsV r)
theorem gCst {x : Str} {a : Addr} {ns : List Int} {ps : List P} {pos : Pos} (hm : X.mg x = some (.ref a)) (hq : (a, ns) ∈ cs.consts) (e : ps = ns.map P.int := by rfl) (hg : Gl X x := by rfl) (hd : (x == ("__debug__" : Str)) = false := by decide) : GE X cs (.Name x pos) (cK (.tup ps)) := fun W _ => by
  subst e
  refine PE.imp (pe_glob (v := .ref a) hg hm rfl hd) fun σ H Q ⟨g, env, h, R, E, F⟩ => ?_
  exact F g _ H Step.refl R (.p (.tup (R.cst _ hq) (rps_intsV ns)))
theorem gStrG {x z : Str} {t : Tok} {pos : Pos} (hm : X.mg x = some (.str z t)) (hg : Gl X x := by rfl) (hd : (x == ("__debug__" : Str)) = false := by decide) : GE X cs (.Name x pos) (cK (.str z)) := gGlob (v := .str z) hm ⟨t, rfl⟩ (fun _ => .str z) hg hd
/-! ### a, b, c = x, y, z of plain local names -/
theorem gPar3 {i j l : Nat} {x y z : Str} {a b c : Expr} {fa : FA} {px py pz pt pos : Pos} {kt k2 pt2} (hc : X.calm = true) (hN : X.N.Nodup) (ga : GA X cs [a, b, c] fa) (hi : X.N[i]? = some x := by rfl) (hj : X.N[j]? = some y := by rfl) (hl : X.N[l]? = some z := by rfl) (hij : i ≠ j := by decide) (hil : i ≠ l := by decide) (hjl : j ≠ l := by decide)
    (hx : X.env.scope.names.lookup x = some .local := by rfl) (hy : X.env.scope.names.lookup y = some .local := by rfl) (hz : X.env.scope.names.lookup z = some .local := by rfl)
    (hw : swappedStores [.Tuple [.Name x px, .Name y py, .Name z pz] kt pt] (.Tuple [a, b, c] k2 pt2) X.env = pure (some [x, y, z]) := by rfl)
    (hs : swapsWithSole [.Tuple [.Name x px, .Name y py, .Name z pz] kt pt] (.Tuple [a, b, c] k2 pt2) pos.line X.env = pure false := by rfl) :
    GS X cs (.Assign [.Tuple [.Name x px, .Name y py, .Name z pz] kt pt] (.Tuple [a, b, c] k2 pt2) pos) (sPar3 i j l fa) := fun W tk => by
  refine PS.imp (ps_par3 hc hN hi hj hl hij hil hjl hx hy hz (ga W tk) hw hs) fun D' σ H ⟨g, env, h, R, E, F⟩ => ?_
  refine ⟨g, env, h, R, E, EndR.ofS E F fun ds h1 g1 vs H1 e1 S1 R1 V1 F1 => ?_⟩
  split at F1
  · cases V1 with
    | cons q1 t1 => cases t1 with
      | cons q2 t2 => cases t2 with
        | cons q3 t3 =>
          cases t3
          exact ⟨_, _, _, rfl, F1 g1 _ H1 Step.refl R1 ((((E.step S1).set i q1).set j q2).set l q3)⟩
  · exact F1.elim
end
end Ar
namespace Ar
open PySem PySem.Spec PyProof.Rows L2

/-! ### methods of a list -/
def isLst (d : D) (h : Hs) : Bool := match d with
  | .p (.lst _) => true
  | .loc i => (match h[i]? with
    | some (.lst _) => true
    | some (.rl _) => true
    | _ => false)
  | _ => false
def cLM (op : D → List D → Hs → R D) (fo : FE) (fa : FA) : FE := fun env h => (fo env h).bind fun d h1 => if isLst d h1 then (fa env h1).bind fun ds h2 => op d ds h2 else .bad
def MethOk (K : PySem.W.Frag) (cs : Tx) (r : V → List V → Hp → VK → Prop) (op : D → List D → Hs → R D) : Prop := ∀ (g : Gh) (h : Hs) (H : Hp) (d : D) (ds : List D) (x : V) (xs : List V) (W : WX) (σ : L2.St) (Q : VK),
  Rel K cs g h H → RD K cs g.ρ g.G h.length d x → RDs K cs g.ρ g.G h.length ds xs → EndR K cs (relD K cs) W σ g h.length H Q (op d ds h) → r x xs H Q
section
variable {X : Cx} {cs : Tx} {o e : Expr} {es : List Expr} {fo : FE} {fa : FA} {name : Str} {id : String} {r : V → List V → Hp → VK → Prop} {op : D → List D → Hs → R D} {apos cpos : Pos}
theorem isLst_ty {K : PySem.W.Frag} {g : Gh} {h : Hs} {H : Hp} {d : D} {x : V} (R : Rel K cs g h H) (V1 : RD K cs g.ρ g.G h.length d x) (e : isLst d h = true) : tyV K "list" x H := by
  unfold isLst at e
  split at e
  · cases V1 with
    | p r => cases r with
      | lst q1 q2 => exact .inl ⟨rfl, _, .inl (R.sub.rd q1.1)⟩
  · split at e
    · rename_i e1
      cases V1 with
      | loc hi => obtain ⟨xs, q1, _⟩ := R.at_ _ _ e1; exact .inl ⟨rfl, _, SqL.of q1⟩
    · rename_i e1
      cases V1 with
      | loc hi => obtain ⟨xs, q1, _⟩ := R.at_ _ _ e1; exact .inl ⟨rfl, _, SqL.of q1⟩
    · cases e
  · cases e
/-- o.m(e, ..), o a list -/
theorem gLM (slot : Slot "list" name id) (hty : typeOf (.builtin id) = pure (.type "method_descriptor")) (hm : MtR X id r) (hk : MethOk X.K cs r op) (go : GE X cs o fo) (ga : GA X cs (e :: es) fa)
    (hbase : attributeBase o name X.env (eval o X.env) = eval o X.env := by rfl) (hfew : (((backTo cpos (starEach (e :: es) X.env)).all fun x => !x.1) && ((backToKw cpos (keywordEach [] X.env)).all fun x => x.1.isSome) && decide ((e :: es).length + ([] : List Keyword).length + (if ([] : List Keyword).isEmpty = true then 0 else 1) < 30)) = true := by rfl) (hline : (apos.endLine == cpos.line) = true := by rfl)
    (hs : starEach (e :: es) X.env = (false, eval e X.env) :: starEach es X.env := by rfl) (hpl : (backTo cpos (starEach es X.env)).any (·.1) = false := by rfl) : GE X cs (.Call (.Attribute o name apos) (e :: es) [] cpos) (cLM op fo fa) := fun W tk => by
  refine PE.imp (pe_bm PySem.F.plainAttrs_list slot hty hm (go W tk) (ga W tk) hbase hfew hline hs hpl) fun σ H Q ⟨g, env, h, R, E, F⟩ => ?_
  refine ⟨g, env, h, R, E, F.of fun d h1 g1 x H1 _ S1 R1 V1 F1 => ?_⟩
  split at F1
  · rename_i hl
    refine ⟨isLst_ty R1 V1 hl, g1, env, h1, R1, E.step S1, F1.of fun ds h2 g2 xs H2 _ S2 R2 V2 F2 => hk g2 h2 H2 d ds x xs W σ Q R2 (V1.step S2) V2 F2⟩
  · exact F1.elim
theorem gLM0 (slot : Slot "list" name id) (hty : typeOf (.builtin id) = pure (.type "method_descriptor")) (hm : MtR X id r) (hk : MethOk X.K cs r op) (go : GE X cs o fo)
    (hbase : attributeBase o name X.env (eval o X.env) = eval o X.env := by rfl) (hline : (apos.endLine == cpos.line) = true := by rfl) : GE X cs (.Call (.Attribute o name apos) [] [] cpos) (cLM op fo aN) := fun W tk => by
  refine PE.imp (pe_bm0 PySem.F.plainAttrs_list slot hty hm (go W tk) hbase hline) fun σ H Q ⟨g, env, h, R, E, F⟩ => ?_
  refine ⟨g, env, h, R, E, F.of fun d h1 g1 x H1 _ S1 R1 V1 F1 => ?_⟩
  split at F1
  · rename_i hl
    exact ⟨isLst_ty R1 V1 hl, hk g1 h1 H1 d [] x [] W σ Q R1 V1 .nil F1⟩
  · exact F1.elim
end
def mAppend (d : D) (ds : List D) (h : Hs) : R D := match d, ds with
  | .loc i, [v] => (match h[i]?, v with
    | some (.lst ps), .p x => if okLen (ps.length + 1) then .ok (.p .non) (h.set i (.lst (ps ++ [x]))) else .bad
    | some (.rl es), v => if okLen (es.length + 1) then .ok (.p .non) (h.set i (.rl (es ++ [v]))) else .bad
    | _, _ => .bad)
  | _, _ => .bad
def mPop (d : D) (ds : List D) (h : Hs) : R D := match d, ds with
  | .loc i, [] => (match h[i]? with
    | some (.lst ps) => (match ps[ps.length - 1]? with
      | some x => .ok (.p x) (h.set i (.lst ps.dropLast))
      | none => .bad)
    | some (.rl es) => (match es[es.length - 1]? with
      | some x => .ok x (h.set i (.rl es.dropLast))
      | none => .bad)
    | _ => .bad)
  | _, _ => .bad
def mInsert (d : D) (ds : List D) (h : Hs) : R D := match d, ds with
  | .loc i, [.p (.int k), .p x] => (match h[i]? with
    | some (.lst ps) => if okLen (ps.length + 1) && decide (0 ≤ k ∧ k < 2 ^ 60) then .ok (.p .non) (h.set i (.lst (ps.take k.toNat ++ [x] ++ ps.drop k.toNat))) else .bad
    | _ => .bad)
  | _, _ => .bad
section
variable {K : PySem.W.Frag} {cs : Tx}
theorem rds_append {ρ : Nat → Addr} {G : Hp} {n : Nat} : ∀ {as bs : List D} {us ws : List V}, RDs K cs ρ G n as us → RDs K cs ρ G n bs ws → RDs K cs ρ G n (as ++ bs) (us ++ ws)
  | _, _, _, _, .nil, s => s
  | _, _, _, _, .cons r t, s => .cons r (rds_append t s)
theorem rps_dropLast {G : Hp} : ∀ {ps : List P} {xs : List V}, RPs K cs G ps xs → RPs K cs G ps.dropLast xs.dropLast
  | _, _, .nil => .nil
  | _, _, .cons _ .nil => .nil
  | _, _, .cons r (.cons s t) => .cons r (rps_dropLast (.cons s t))
theorem rds_dropLast {ρ : Nat → Addr} {G : Hp} {n : Nat} : ∀ {ps : List D} {xs : List V}, RDs K cs ρ G n ps xs → RDs K cs ρ G n ps.dropLast xs.dropLast
  | _, _, .nil => .nil
  | _, _, .cons _ .nil => .nil
  | _, _, .cons r (.cons s t) => .cons r (rds_dropLast (.cons s t))
theorem okLen_lt {n : Nat} (h : okLen (n + 1) = true) : n < sizeLine := Nat.lt_of_lt_of_le (Nat.lt_succ_self n) (okLen_le h)
theorem k_append : MethOk K cs rAppend mAppend := fun g h H d ds x xs W σ Q R V1 V2 F => by
  unfold mAppend at F
  split at F
  · rename_i i v
    cases V1 with
    | loc hi =>
      cases V2 with
      | cons r2 t2 =>
        cases t2
        cases e1 : h[i]? with
        | none => simp only [e1] at F; exact F.elim
        | some o1 =>
          have ro := R.at_ _ _ e1
          cases o1 with
          | lst ps =>
            obtain ⟨ys, q1, q2⟩ := ro
            cases v with
            | loc _ => simp only [e1] at F; exact F.elim
            | p y =>
              simp only [e1] at F
              split at F
              · rename_i hl
                cases r2 with
                | p r2 =>
                  rw [q2.length] at hl
                  obtain ⟨R', S'⟩ := R.write (o' := .lst (ps ++ [y])) (H1 := upd H (g.ρ i) (.lst (ys ++ [_]))) e1 (fun z => nomatch z) (fun a ha => upd_ne ha) ⟨_, upd_same, q2.append (.cons r2 .nil)⟩
                  exact ⟨_, _, _, rfl, rfl, q1, okLen_lt hl, F g .non _ S' R' (.p .non)⟩
              · exact F.elim
          | rl es =>
            obtain ⟨ys, q1, q2⟩ := ro
            have F : EndR K cs (relD K cs) W σ g h.length H Q (if okLen (es.length + 1) then .ok (.p .non) (h.set i (.rl (es ++ [v]))) else .bad) := by
              simp only [e1] at F
              cases v <;> exact F
            split at F
            · rename_i hl
              have hl' : okLen (ys.length + 1) = true := by rw [← Paired.length q2]; exact hl
              obtain ⟨R', S'⟩ := R.write (o' := .rl (es ++ [v])) (H1 := upd H (g.ρ i) (.lst (ys ++ [_]))) e1 (fun z => nomatch z) (fun a ha => upd_ne ha) ⟨_, upd_same, rds_append q2 (.cons r2 .nil)⟩
              exact ⟨_, _, _, rfl, rfl, q1, okLen_lt hl', F g .non _ S' R' (.p .non)⟩
            · exact F.elim
          | _ => simp only [e1] at F; exact F.elim
  · exact F.elim
theorem k_pop : MethOk K cs rPop mPop := fun g h H d ds x xs W σ Q R V1 V2 F => by
  unfold mPop at F
  split at F
  · rename_i i
    cases V1 with
    | loc hi =>
      cases V2
      split at F
      · rename_i ps e1
        obtain ⟨ys, q1, q2⟩ := R.at_ _ _ e1
        split at F
        · rename_i y ey
          obtain ⟨v, ev, rv⟩ := q2.get ey
          obtain ⟨R', S'⟩ := R.write (o' := .lst ps.dropLast) (H1 := upd H (g.ρ i) (.lst ys.dropLast)) e1 (fun z => nomatch z) (fun a ha => upd_ne ha) ⟨_, upd_same, rps_dropLast q2⟩
          exact ⟨_, _, v, rfl, rfl, q1, by rw [← q2.length]; exact ev, F g v _ S' R' (.p rv)⟩
        · exact F.elim
      · rename_i es e1
        obtain ⟨ys, q1, q2⟩ := R.at_ _ _ e1
        split at F
        · rename_i y ey
          obtain ⟨v, ev, rv⟩ := rds_get q2 ey
          obtain ⟨R', S'⟩ := R.write (o' := .rl es.dropLast) (H1 := upd H (g.ρ i) (.lst ys.dropLast)) e1 (fun z => nomatch z) (fun a ha => upd_ne ha) ⟨_, upd_same, rds_dropLast q2⟩
          exact ⟨_, _, v, rfl, rfl, q1, by rw [← Paired.length q2]; exact ev, F g v _ S' R' (rv.step S')⟩
        · exact F.elim
      · exact F.elim
  · exact F.elim
theorem k_insert : MethOk K cs (fun x vs H Q => ∃ (l : Addr) (xs : List V) (i : Int) (y : V), x = .ref l ∧ vs = [.int i, y] ∧ H l = some (.lst xs) ∧ xs.length < sizeLine ∧ 0 ≤ i ∧ i < 2 ^ 63 ∧
    Q .non (upd H l (.lst (xs.take i.toNat ++ [y] ++ xs.drop i.toNat)))) mInsert := fun g h H d ds x xs W σ Q R V1 V2 F => by
  unfold mInsert at F
  split at F
  · rename_i i k y
    cases V1 with
    | loc hi =>
      cases V2 with
      | cons r1 t1 =>
        cases t1 with
        | cons r2 t2 =>
          cases t2
          cases r1 with
          | p r1 =>
            cases r1
            cases r2 with
            | p r2 =>
              split at F
              · rename_i ps e1
                obtain ⟨ys, q1, q2⟩ := R.at_ _ _ e1
                split at F
                · rename_i hl
                  rw [Bool.and_eq_true] at hl
                  have hb := of_decide_eq_true hl.2
                  have hn : okLen (ys.length + 1) = true := by rw [← q2.length]; exact hl.1
                  obtain ⟨R', S'⟩ := R.write (o' := .lst (ps.take k.toNat ++ [y] ++ ps.drop k.toNat)) (H1 := upd H (g.ρ i) (.lst (ys.take k.toNat ++ [_] ++ ys.drop k.toNat))) e1 (fun z => nomatch z) (fun a ha => upd_ne ha) ⟨_, upd_same, ((q2.take _).append (.cons r2 .nil)).append (q2.drop _)⟩
                  exact ⟨_, _, k, _, rfl, rfl, q1, okLen_lt hn, hb.1, by omega, F g .non _ S' R' (.p .non)⟩
                · exact F.elim
              · exact F.elim
  · exact F.elim
end

/-! ### built-in functions over rows -/
def bMax2 (ds : List D) (h : Hs) : R D := match ds with
  | [.p (.int i), .p (.int j)] => .ok (.p (.int (if j > i then j else i))) h
  | _ => .bad
def bMin2 (ds : List D) (h : Hs) : R D := match ds with
  | [.p (.int i), .p (.int j)] => .ok (.p (.int (if j < i then j else i))) h
  | _ => .bad
/-- the plain items of a list, a tuple -/
def rowP (d : D) (h : Hs) : Option (List P) := match d with
  | .p (.lst ps) => some ps
  | .p (.tup ps) => some ps
  | .loc i => (match h[i]? with
    | some (.lst ps) => some ps
    | _ => none)
  | _ => none
def lstP (d : D) (h : Hs) : Option (List P) := match d with
  | .p (.lst ps) => some ps
  | .loc i => (match h[i]? with
    | some (.lst ps) => some ps
    | _ => none)
  | _ => none
def intP : List P → Option (List Int)
  | [] => some []
  | .int i :: r => (match intP r with
    | some ns => some (i :: ns)
    | none => none)
  | _ :: _ => none
def bTuple (ds : List D) (h : Hs) : R D := match ds with
  | [d] => (match rowP d h with
    | some ps => .ok (.p (.tup ps)) h
    | none => .bad)
  | _ => .bad
def bListP (ds : List D) (h : Hs) : R D := match ds with
  | [d] => (match rowP d h with
    | some ps => .ok (.p (.lst ps)) h
    | none => .bad)
  | _ => .bad
def bListN (ds : List D) (h : Hs) : R D := match ds with
  | [d] => (match rowP d h with
    | some ps => .ok (.loc h.length) (h ++ [.lst ps])
    | none => .bad)
  | _ => .bad
def sumZ : List Int → Int
  | [] => 0
  | n :: r => n + sumZ r
def maxZ : List Int → Option Int
  | [] => none
  | n :: r => (match maxZ r with
    | some m => some (if m ≤ n then n else m)
    | none => some n)
def minZ : List Int → Option Int
  | [] => none
  | n :: r => (match minZ r with
    | some m => some (if n ≤ m then n else m)
    | none => some n)
def bInts (k : List Int → Option P) (ds : List D) (h : Hs) : R D := match ds with
  | [d] => (match lstP d h with
    | some ps => (match intP ps with
      | some ns => (match k ns with
        | some z => .ok (.p z) h
        | none => .bad)
      | none => .bad)
    | none => .bad)
  | _ => .bad
def bSum : List D → Hs → R D := bInts fun ns => some (.int (sumZ ns))
def bMaxL : List D → Hs → R D := bInts fun ns => (maxZ ns).map P.int
def bMinL : List D → Hs → R D := bInts fun ns => (minZ ns).map P.int
def insZ (n : Int) : List Int → List Int
  | [] => [n]
  | m :: r => if n ≤ m then n :: m :: r else m :: insZ n r
def sortZ : List Int → List Int
  | [] => []
  | n :: r => insZ n (sortZ r)
def bSorted : List D → Hs → R D := bInts fun ns => some (.lst ((sortZ ns).map P.int))
section
variable {K : PySem.W.Frag} {cs : Tx} {g : Gh} {h : Hs} {H : Hp} {d : D} {v : V}
theorem rowP_ok {ps : List P} (R : Rel K cs g h H) (V1 : RD K cs g.ρ g.G h.length d v) (e : rowP d h = some ps) : ∃ a xs, v = .ref a ∧ RPs K cs g.G ps xs ∧ (SqL K H a xs ∨ (SqT K H a xs ∧ RP K cs g.G (.tup ps) v)) := by
  unfold rowP at e
  split at e
  · cases e
    cases V1 with
    | p r => cases r with
      | lst q1 q2 => exact ⟨_, _, rfl, q2, .inl (.inl (R.sub.rd q1.1))⟩
  · cases e
    cases V1 with
    | p r => cases r with
      | tup q1 q2 => exact ⟨_, _, rfl, q2, .inr ⟨.inl (R.sub.rd q1), .tup q1 q2⟩⟩
  · split at e
    · rename_i e1
      cases e
      cases V1 with
      | loc hi =>
        obtain ⟨xs, q1, q2⟩ := R.at_ _ _ e1
        exact ⟨_, xs, rfl, q2, .inl (SqL.of q1)⟩
    · cases e
  · cases e
theorem lstP_ok {ps : List P} (R : Rel K cs g h H) (V1 : RD K cs g.ρ g.G h.length d v) (e : lstP d h = some ps) : ∃ a xs, v = .ref a ∧ RPs K cs g.G ps xs ∧ SqL K H a xs := by
  unfold lstP at e
  split at e
  · cases e
    cases V1 with
    | p r => cases r with
      | lst q1 q2 => exact ⟨_, _, rfl, q2, .inl (R.sub.rd q1.1)⟩
  · split at e
    · rename_i e1
      cases e
      cases V1 with
      | loc hi =>
        obtain ⟨xs, q1, q2⟩ := R.at_ _ _ e1
        exact ⟨_, xs, rfl, q2, SqL.of q1⟩
    · cases e
  · cases e
theorem intP_ok {G : Hp} : ∀ {ps : List P} {xs : List V} {ns : List Int}, RPs K cs G ps xs → intP ps = some ns → xs = ns.map V.int
  | [], _, ns, .nil, e => by simp [intP] at e; subst e; rfl
  | p :: ps, _, ns, .cons r t, e => by
    cases p with
    | int i =>
      simp only [intP] at e
      split at e
      · rename_i ms em
        cases e
        cases r
        rw [intP_ok t em]
        rfl
      · cases e
    | _ => simp [intP] at e
theorem sumZ_eq : ∀ ns : List Int, sumZ ns = ns.sum
  | [] => rfl
  | n :: r => by rw [List.sum_cons, ← sumZ_eq r]; rfl
theorem maxZ_spec : ∀ {ns : List Int} {z : Int}, maxZ ns = some z → z ∈ ns ∧ ∀ y ∈ ns, y ≤ z
  | [], _, e => by cases e
  | n :: r, z, e => by
    simp only [maxZ] at e
    split at e
    · rename_i m em
      obtain ⟨a, b⟩ := maxZ_spec em
      have e := Option.some.inj e
      split at e
      · rename_i hl
        subst e
        exact ⟨List.mem_cons_self, fun y hy => by
          rcases List.mem_cons.mp hy with rfl | hy
          · exact Int.le_refl _
          · exact Int.le_trans (b y hy) hl⟩
      · rename_i hl
        subst e
        exact ⟨List.mem_cons_of_mem _ a, fun y hy => by
          rcases List.mem_cons.mp hy with rfl | hy
          · omega
          · exact b y hy⟩
    · rename_i em
      cases r with
      | nil =>
        have e := Option.some.inj e
        subst e
        exact ⟨List.mem_cons_self, fun y hy => by
          rcases List.mem_cons.mp hy with rfl | hy
          · exact Int.le_refl _
          · cases hy⟩
      | cons m r =>
        simp only [maxZ] at em
        split at em <;> cases em
theorem minZ_spec : ∀ {ns : List Int} {z : Int}, minZ ns = some z → z ∈ ns ∧ ∀ y ∈ ns, z ≤ y
  | [], _, e => by cases e
  | n :: r, z, e => by
    simp only [minZ] at e
    split at e
    · rename_i m em
      obtain ⟨a, b⟩ := minZ_spec em
      have e := Option.some.inj e
      split at e
      · rename_i hl
        subst e
        exact ⟨List.mem_cons_self, fun y hy => by
          rcases List.mem_cons.mp hy with rfl | hy
          · exact Int.le_refl _
          · exact Int.le_trans hl (b y hy)⟩
      · rename_i hl
        subst e
        exact ⟨List.mem_cons_of_mem _ a, fun y hy => by
          rcases List.mem_cons.mp hy with rfl | hy
          · omega
          · exact b y hy⟩
    · rename_i em
      cases r with
      | nil =>
        have e := Option.some.inj e
        subst e
        exact ⟨List.mem_cons_self, fun y hy => by
          rcases List.mem_cons.mp hy with rfl | hy
          · exact Int.le_refl _
          · cases hy⟩
      | cons m r =>
        simp only [minZ] at em
        split at em <;> cases em
theorem insZ_perm (n : Int) : ∀ ns : List Int, (insZ n ns).Perm (n :: ns)
  | [] => .refl _
  | m :: r => by
    unfold insZ
    split
    · exact .refl _
    · exact ((insZ_perm n r).cons m).trans (List.Perm.swap n m r)
theorem sortZ_perm : ∀ ns : List Int, (sortZ ns).Perm ns
  | [] => .refl _
  | n :: r => (insZ_perm n (sortZ r)).trans ((sortZ_perm r).cons n)
theorem insZ_sorted (n : Int) : ∀ {ns : List Int}, ns.Pairwise (· ≤ ·) → (insZ n ns).Pairwise (· ≤ ·)
  | [], _ => List.pairwise_singleton _ _
  | m :: r, h => by
    rw [List.pairwise_cons] at h
    unfold insZ
    split
    · rename_i hl
      rw [List.pairwise_cons, List.pairwise_cons]
      exact ⟨fun y hy => by
        rcases List.mem_cons.mp hy with rfl | hy
        · exact hl
        · exact Int.le_trans hl (h.1 y hy), h⟩
    · rename_i hl
      rw [List.pairwise_cons]
      refine ⟨fun y hy => ?_, insZ_sorted n h.2⟩
      rcases List.mem_cons.mp ((insZ_perm n r).mem_iff.mp hy) with rfl | hy
      · omega
      · exact h.1 y hy
theorem sortZ_sorted : ∀ ns : List Int, (sortZ ns).Pairwise (· ≤ ·)
  | [] => .nil
  | n :: r => insZ_sorted n (sortZ_sorted r)
theorem sorted_uniq : ∀ {a b : List Int}, a.Perm b → a.Pairwise (· ≤ ·) → b.Pairwise (· ≤ ·) → a = b
  | [], b, p, _, _ => (List.nil_perm.mp p).symm
  | x :: a, [], p, _, _ => by have := p.length_eq; simp at this
  | x :: a, y :: b, p, ha, hb => by
    rw [List.pairwise_cons] at ha hb
    have h1 : x ∈ y :: b := p.mem_iff.mp List.mem_cons_self
    have h2 : y ∈ x :: a := p.mem_iff.mpr List.mem_cons_self
    have e : x = y := by
      rcases List.mem_cons.mp h1 with z | z
      · exact z
      · rcases List.mem_cons.mp h2 with u | u
        · exact u.symm
        · have := ha.1 y u
          have := hb.1 x z
          omega
    subst e
    rw [sorted_uniq (List.Perm.cons_inv p) ha.2 hb.2]
theorem k_max2 : CallOk K cs (fun xs H Q => ∃ i j, xs = [.int i, .int j] ∧ Q (.int (if j > i then j else i)) H) bMax2 := fun g h H ds vs W σ Q R V1 F => by
  unfold bMax2 at F
  split at F
  · cases V1 with
    | cons q t => cases t with
      | cons q2 t => cases t; cases q with | p q => cases q; cases q2 with | p q2 => cases q2; exact ⟨_, _, rfl, F g _ H Step.refl R (.p (.int _))⟩
  · exact F.elim
theorem k_min2 : CallOk K cs (fun xs H Q => ∃ i j, xs = [.int i, .int j] ∧ Q (.int (if j < i then j else i)) H) bMin2 := fun g h H ds vs W σ Q R V1 F => by
  unfold bMin2 at F
  split at F
  · cases V1 with
    | cons q t => cases t with
      | cons q2 t => cases t; cases q with | p q => cases q; cases q2 with | p q2 => cases q2; exact ⟨_, _, rfl, F g _ H Step.refl R (.p (.int _))⟩
  · exact F.elim
theorem k_tuple : CallOk K cs (fun xs H Q => ∃ p ys, xs = [.ref p] ∧ ((SqL K H p ys ∧ ∀ l, H l = none → Q (.ref l) (upd H l (.tup ys))) ∨ (SqT K H p ys ∧ Q (.ref p) H))) bTuple := fun g h H ds vs W σ Q R V1 F => by
  unfold bTuple at F
  split at F
  · cases V1 with
    | cons q t =>
      cases t
      split at F
      · rename_i ps e
        obtain ⟨a, xs, rfl, r, hs⟩ := rowP_ok R q e
        rcases hs with hs | ⟨hs, rt⟩
        · refine ⟨a, xs, rfl, .inl ⟨hs, fun l hl => ?_⟩⟩
          obtain ⟨R', S'⟩ := R.frozen (o := .tup xs) hl
          exact F _ (.ref l) _ S' R' (.p (.tup (.inl upd_same) (r.mono S'.sub)))
        · exact ⟨a, xs, rfl, .inr ⟨hs, F g _ H Step.refl R (.p rt)⟩⟩
      · exact F.elim
  · exact F.elim
theorem k_listP : CallOk K cs (fun xs H Q => ∃ p ys, xs = [.ref p] ∧ (SqL K H p ys ∨ SqT K H p ys) ∧ ∀ l, H l = none → Q (.ref l) (upd H l (.lst ys))) bListP := fun g h H ds vs W σ Q R V1 F => by
  unfold bListP at F
  split at F
  · cases V1 with
    | cons q t =>
      cases t
      split at F
      · rename_i ps e
        obtain ⟨a, xs, rfl, r, hs⟩ := rowP_ok R q e
        refine ⟨a, xs, rfl, hs.imp (fun z => z) (fun z => z.1), fun l hl => ?_⟩
        obtain ⟨R', S'⟩ := R.frozen (o := .lst xs) hl
        exact F _ (.ref l) _ S' R' (.p (.lst (.new upd_same) (r.mono S'.sub)))
      · exact F.elim
  · exact F.elim
theorem k_listN : CallOk K cs (fun xs H Q => ∃ p ys, xs = [.ref p] ∧ (SqL K H p ys ∨ SqT K H p ys) ∧ ∀ l, H l = none → Q (.ref l) (upd H l (.lst ys))) bListN := fun g h H ds vs W σ Q R V1 F => by
  unfold bListN at F
  split at F
  · cases V1 with
    | cons q t =>
      cases t
      split at F
      · rename_i ps e
        obtain ⟨a, xs, rfl, r, hs⟩ := rowP_ok R q e
        refine ⟨a, xs, rfl, hs.imp (fun z => z) (fun z => z.1), fun l hl => ?_⟩
        obtain ⟨R2, S2⟩ := R.place (p := l) (o := .lst ps) (u := .lst xs) (H1 := upd H l (.lst xs)) hl (fun a ha => upd_ne fun z => ha (by rw [z]; exact hl)) (by rw [upd_same]; exact fun z => nomatch z) ⟨xs, upd_same, r⟩
        have own : addρ g.ρ h.length l h.length = l := if_pos rfl
        have V2 := RD.loc (K := K) (cs := cs) (ρ := addρ g.ρ h.length l) (G := g.G) (n := (h ++ [O.lst ps]).length) (i := h.length) (by simp)
        rw [own] at V2
        exact F _ (.ref l) _ S2 R2 V2
      · exact F.elim
  · exact F.elim
theorem k_sum : CallOk K cs (rSum K) bSum := fun g h H ds vs W σ Q R V1 F => by
  unfold bSum bInts at F
  split at F
  · cases V1 with
    | cons q t =>
      cases t
      split at F
      · rename_i ps e
        obtain ⟨a, xs, rfl, r, hs⟩ := lstP_ok R q e
        split at F
        · rename_i ns en
          have ex := intP_ok r en
          subst ex
          refine ⟨a, ns, rfl, hs, ?_⟩
          rw [← sumZ_eq]
          exact F g _ H Step.refl R (.p (.int _))
        · exact F.elim
      · exact F.elim
  · exact F.elim
theorem k_maxL : CallOk K cs (rMax K) bMaxL := fun g h H ds vs W σ Q R V1 F => by
  unfold bMaxL bInts at F
  split at F
  · cases V1 with
    | cons q t =>
      cases t
      split at F
      · rename_i ps e
        obtain ⟨a, xs, rfl, r, hs⟩ := lstP_ok R q e
        split at F
        · rename_i ns en
          have ex := intP_ok r en
          subst ex
          cases em : maxZ ns with
          | none => dsimp only at F; rw [em] at F; exact F.elim
          | some z =>
            dsimp only at F; rw [em] at F
            obtain ⟨z1, z2⟩ := maxZ_spec em
            refine ⟨a, ns, rfl, hs, List.length_pos_of_mem z1, fun m h1 h2 => ?_⟩
            have : m = z := by have := z2 m h1; have := h2 z z1; omega
            subst this
            exact F g _ H Step.refl R (.p (.int _))
        · exact F.elim
      · exact F.elim
  · exact F.elim
theorem k_minL : CallOk K cs (rMin K) bMinL := fun g h H ds vs W σ Q R V1 F => by
  unfold bMinL bInts at F
  split at F
  · cases V1 with
    | cons q t =>
      cases t
      split at F
      · rename_i ps e
        obtain ⟨a, xs, rfl, r, hs⟩ := lstP_ok R q e
        split at F
        · rename_i ns en
          have ex := intP_ok r en
          subst ex
          cases em : minZ ns with
          | none => dsimp only at F; rw [em] at F; exact F.elim
          | some z =>
            dsimp only at F; rw [em] at F
            obtain ⟨z1, z2⟩ := minZ_spec em
            refine ⟨a, ns, rfl, hs, List.length_pos_of_mem z1, fun m h1 h2 => ?_⟩
            have : m = z := by have := z2 m h1; have := h2 z z1; omega
            subst this
            exact F g _ H Step.refl R (.p (.int _))
        · exact F.elim
      · exact F.elim
  · exact F.elim
theorem k_sorted : CallOk K cs (rSortedI K) bSorted := fun g h H ds vs W σ Q R V1 F => by
  unfold bSorted bInts at F
  split at F
  · cases V1 with
    | cons q t =>
      cases t
      split at F
      · rename_i ps e
        obtain ⟨a, xs, rfl, r, hs⟩ := lstP_ok R q e
        split at F
        · rename_i ns en
          have ex := intP_ok r en
          subst ex
          refine ⟨a, ns, rfl, hs, fun ns' l hp hsrt hl => ?_⟩
          have : ns' = sortZ ns := sorted_uniq (hp.trans (sortZ_perm ns).symm) hsrt (sortZ_sorted ns)
          subst this
          obtain ⟨R', S'⟩ := R.frozen (o := .lst ((sortZ ns).map V.int)) hl
          exact F _ (.ref l) _ S' R' (.p (.lst (.new upd_same) (rps_intsV _)))
        · exact F.elim
      · exact F.elim
  · exact F.elim
end
end Ar
namespace Ar
open PySem
/-! ### the plain law's words -/
theorem okEq_int (a b : Int) : okEq (.int a) (.int b) = true := rfl
theorem okEq_bl (a b : Bool) : okEq (.bl a) (.bl b) = true := rfl
theorem okEq_str (a b : Str) : okEq (.str a) (.str b) = true := rfl
theorem okEq_ii (a b c d : Int) : okEq (.tup [.int a, .int b]) (.tup [.int c, .int d]) = true := rfl
theorem okEq_iii (a b c d e f : Int) : okEq (.tup [.int a, .int b, .int c]) (.tup [.int d, .int e, .int f]) = true := rfl
theorem oEq_int (a b : Int) : oEq (.int a) (.int b) = some (.bl (decide (a = b))) := by simp [oEq, okEq_int, eqP]; rfl
theorem oNe_int (a b : Int) : oNe (.int a) (.int b) = some (.bl (!decide (a = b))) := by simp [oNe, okEq_int, eqP]; rfl
theorem oEq_bl (a b : Bool) : oEq (.bl a) (.bl b) = some (.bl (a == b)) := by simp [oEq, okEq_bl, eqP]
theorem oNe_bl (a b : Bool) : oNe (.bl a) (.bl b) = some (.bl (!(a == b))) := by simp [oNe, okEq_bl, eqP]
theorem oEq_str (a b : Str) : oEq (.str a) (.str b) = some (.bl (a == b)) := by simp [oEq, okEq_str, eqP]
theorem oNe_str (a b : Str) : oNe (.str a) (.str b) = some (.bl (!(a == b))) := by simp [oNe, okEq_str, eqP]
theorem oNe_iii (a b c d e f : Int) : oNe (.tup [.int a, .int b, .int c]) (.tup [.int d, .int e, .int f]) = some (.bl (!(decide (a = d) && (decide (b = e) && decide (c = f))))) := by
  simp [oNe, okEq_iii, eqP, eqPs, Bool.beq_eq_decide_eq]
theorem oMul_small (a b : Int) (h : -(2 ^ 64) < b ∧ b < 2 ^ 64) : oMul (.int a) (.int b) = some (.int (a * b)) := by
  simp only [oMul]
  rw [if_pos (by unfold okMul; rw [Bool.or_eq_true]; exact .inr (decide_eq_true h))]
theorem oMul_smallL (a b : Int) (h : -(2 ^ 64) < a ∧ a < 2 ^ 64) : oMul (.int a) (.int b) = some (.int (a * b)) := by
  simp only [oMul]
  rw [if_pos (by unfold okMul; rw [Bool.or_eq_true, Bool.or_eq_true]; exact .inl (.inr (decide_eq_true h)))]
theorem okDiv_small {b : Int} (h : b.natAbs < 2 ^ 100) : okDiv b = true := by
  unfold okDiv
  refine decide_eq_true ?_
  by_cases h0 : b.natAbs = 0
  · rw [h0]; decide
  · have := (Nat.log2_lt h0).mpr h
    omega
theorem oDiv_small (a b : Int) (h : 0 < b) (h2 : b.natAbs < 2 ^ 100) : oDiv (.int a) (.int b) = some (.int (a / b)) := by
  simp only [oDiv]
  rw [if_pos h, if_pos (okDiv_small h2)]
theorem oMod_pos (a b : Int) (h : 0 < b) : oMod (.int a) (.int b) = some (.int (a % b)) := by
  simp only [oMod]
  rw [if_pos h]

/-! ### the dice -/
def Dice (h : Hs) (i : Nat) : Prop := ∃ a b c : Int, h[i]? = some (.lst [.int a, .int b, .int c])
/-- the same but for the place i, maybe longer -/
def Same (i : Nat) (h h' : Hs) : Prop := h.length ≤ h'.length ∧ ∀ j, j < h.length → j ≠ i → h'[j]? = h[j]?
theorem Same.refl (i : Nat) (h : Hs) : Same i h h := ⟨Nat.le_refl _, fun _ _ _ => rfl⟩
theorem Same.trans {i : Nat} {a b c : Hs} (x : Same i a b) (y : Same i b c) : Same i a c :=
  ⟨Nat.le_trans x.1 y.1, fun j hj hi => (y.2 j (Nat.lt_of_lt_of_le hj x.1) hi).trans (x.2 j hj hi)⟩
theorem Same.set (i : Nat) (h : Hs) (o : O) : Same i h (h.set i o) := ⟨by simp, fun j _ hi => by rw [List.getElem?_set_ne (Ne.symm hi)]⟩
theorem Same.push (i : Nat) (h : Hs) (o : O) : Same i h (h ++ [o]) := ⟨by simp, fun j hj _ => by rw [List.getElem?_append_left hj]⟩
def fRoll : Fn := cFn 3 ((sSeq (sIf (cOrT (cT (cOp oEq (cIx (cV 0) (cK (.int 2))) (cK (.int 2)))) (cAndT (cT (cOp oEq (cIx (cV 0) (cK (.int 2))) (cK (.int 1)))) (cT (cOp oGt (cIx (cV 0) (cK (.int 0))) (cK (.int 0)))))) (sSeq (sSet 2 (cOp oMod (cB bInt (aC (cIx (cV 0) (cK (.int 0))) aN)) (cV 1)))
  (sSeq (sAsg (cOp oDiv (cIx (cV 0) (cK (.int 0))) (cV 1)) (tSub (cV 0) (cK (.int 0))))
  (sRet (cV 2)))) sNx)
  (sSeq (sAsg (cK (.int 0)) (tSub (cV 0) (cK (.int 2))))
  (sSeq (sAsg (cOp oMod (cB bInt (aC (cOp oAdd (cOp oAdd (cOp oMul (cIx (cV 0) (cK (.int 0))) (cK (.int 48271))) (cOp oMul (cIx (cV 0) (cK (.int 1))) (cK (.int 69621)))) (cK (.int 11))) aN)) (cK (.int 2147483647))) (tSub (cV 0) (cK (.int 0))))
  (sSeq (sAsg (cOp oAdd (cIx (cV 0) (cK (.int 1))) (cK (.int 1))) (tSub (cV 0) (cK (.int 1))))
  (sRet (cOp oMod (cB bInt (aC (cOp oAdd (cOp oDiv (cIx (cV 0) (cK (.int 0))) (cK (.int 7))) (cIx (cV 0) (cK (.int 0)))) aN)) (cV 1))))))))
theorem roll_ok {h : Hs} {i : Nat} {m : Int} (d : Dice h i) (m0 : 0 < m) (m1 : m < 2 ^ 90) : ∃ v o, 0 ≤ v ∧ v < m ∧ Dice (h.set i o) i ∧ fRoll [.loc i, .p (.int m)] h = .ok (.p (.int v)) (h.set i o) := by
  obtain ⟨a, b, c, e⟩ := d
  have hi : i < h.length := (List.getElem?_eq_some_iff.mp e).1
  have mn : m.natAbs < 2 ^ 100 := by omega
  have e1 : ∀ o, (h.set i o)[i]? = some o := fun o => List.getElem?_set_self hi
  by_cases hc : c = 2 ∨ (c = 1 ∧ 0 < a)
  · refine ⟨a % m, .lst [.int (a / m), .int b, .int c], Int.emod_nonneg _ (by omega), Int.emod_lt_of_pos _ m0, ⟨_, _, _, e1 _⟩, ?_⟩
    rcases hc with rfl | ⟨rfl, ha⟩
    · simp [fRoll, cFn, sSeq, sIf, cOrT, cT, cOp, cIx, cV, cK, R.bind, R.toS, ixD, e, atZ, ap2, oEq_int, toB, sSet, cB, bInt, aC, aN, oMod_pos _ _ m0, sAsg, oDiv_small _ _ m0 mn, tSub, setD, ixZ, sRet]
    · simp [fRoll, cFn, sSeq, sIf, cOrT, cAndT, cT, cOp, cIx, cV, cK, R.bind, R.toS, ixD, e, atZ, ap2, oEq_int, oGt, ha, toB, sSet, cB, bInt, aC, aN, oMod_pos _ _ m0, sAsg, oDiv_small _ _ m0 mn, tSub, setD, ixZ, sRet]
  · have e2 : ∀ (o o' : O) , ((h.set i o).set i o')= h.set i o' := fun o o' => List.set_set ..
    have k1 : ∀ x : Int, oMul (.int x) (.int 48271) = some (.int (x * 48271)) := fun x => oMul_small _ _ (by decide)
    have k2 : ∀ x : Int, oMul (.int x) (.int 69621) = some (.int (x * 69621)) := fun x => oMul_small _ _ (by decide)
    have k3 : ∀ x : Int, oMod (.int x) (.int 2147483647) = some (.int (x % 2147483647)) := fun x => oMod_pos _ _ (by decide)
    have k4 : ∀ x : Int, oDiv (.int x) (.int 7) = some (.int (x / 7)) := fun x => oDiv_small _ _ (by decide) (by decide)
    refine ⟨((a * 48271 + b * 69621 + 11) % 2147483647 / 7 + (a * 48271 + b * 69621 + 11) % 2147483647) % m, .lst [.int ((a * 48271 + b * 69621 + 11) % 2147483647), .int (b + 1), .int 0], Int.emod_nonneg _ (by omega), Int.emod_lt_of_pos _ m0, ⟨_, _, _, e1 _⟩, ?_⟩
    by_cases h1 : c = 1
    · subst h1
      have ha : ¬ 0 < a := fun z => hc (.inr ⟨rfl, z⟩)
      simp [fRoll, cFn, sSeq, sIf, cOrT, cAndT, cT, cOp, cIx, cV, cK, R.bind, R.toS, ixD, e, atZ, ap2, oEq_int, oGt, ha, toB, sSet, cB, bInt, aC, aN, oMod_pos _ _ m0, sAsg, tSub, setD, ixZ, sRet, e1, e2, sNx, k1, k2, k3, k4, oAdd]
    · have h2 : ¬ c = 2 := fun z => hc (.inl z)
      simp [fRoll, cFn, sSeq, sIf, cOrT, cAndT, cT, cOp, cIx, cV, cK, R.bind, R.toS, ixD, e, atZ, ap2, oEq_int, oGt, h1, h2, toB, sSet, cB, bInt, aC, aN, oMod_pos _ _ m0, sAsg, tSub, setD, ixZ, sRet, e1, e2, sNx, k1, k2, k3, k4, oAdd]
def fDice : Fn := cFn 1 ((sSeq (sIf (cT (cChain oLt oLt (cOp oSub (cK (.int 0)) (cK (.int 10))) (cV 0) (cK (.int 10)))) (sRet (cLstN (aC (cB bAbs (aC (cV 0) aN)) (aC (cK (.int 0)) (aC (cK (.int 2)) aN))))) sNx)
  (sRet (cLstN (aC (cV 0) (aC (cOp oAdd (cK (.int 1)) (cOp oMod (cB bInt (aC (cV 0) aN)) (cK (.int 1009)))) (aC (cB bInt (aC (cOp oGe (cV 0) (cOp oPow (cK (.int 10)) (cK (.int 18)))) aN)) aN)))))))
theorem dice_ok (h : Hs) (n : Int) : ∃ a b c : Int, fDice [.p (.int n)] h = .ok (.loc h.length) (h ++ [.lst [.int a, .int b, .int c]]) := by
  have k1 : oPow (.int 10) (.int 18) = some (.int (10 ^ 18)) := rfl
  have k3 : ∀ x : Int, oMod (.int x) (.int 1009) = some (.int (x % 1009)) := fun x => oMod_pos _ _ (by decide)
  by_cases h1 : -10 < n
  · by_cases h2 : n < 10
    · exact ⟨_, 0, 2, by simp [fDice, cFn, sSeq, sIf, cT, cChain, cOp, cV, cK, R.bind, R.toS, ap2, oSub, oLt, h1, h2, toB, sRet, cLstN, aC, aN, cB, bAbs, mkN, plain]; rfl⟩
    · exact ⟨_, _, _, by simp [fDice, cFn, sSeq, sIf, cT, cChain, cOp, cV, cK, R.bind, R.toS, ap2, oSub, oLt, h1, h2, toB, sRet, cLstN, aC, aN, cB, bInt, oGe, k1, k3, oAdd, sNx, mkN, plain]; exact ⟨rfl, rfl, rfl⟩⟩
  · exact ⟨_, _, _, by simp [fDice, cFn, sSeq, sIf, cT, cChain, cOp, cV, cK, R.bind, R.toS, ap2, oSub, oLt, h1, toB, sRet, cLstN, aC, aN, cB, bInt, oGe, k1, k3, oAdd, sNx, mkN, plain]; exact ⟨rfl, rfl, rfl⟩⟩

/-! ### the rounds -/
def fRounds : Fn := cFn 4 ((sSeq (sSet 2 (cSl (cV 0) oN (oS (cV 1))))
  (sSeq (sIf (cT (cOp oEq (cV 2) (cLst aN))) (sSet 2 (cLst (aC (cK (.int 0)) aN))) sNx)
  (sRet (lcAll (iSeq (cV 2)) (.nm 3) cYes (cCall 1 fDice (aC (cV 3) aN)) [3] finR)))))
theorem dep_ints (n : Nat) : ∀ ns : List Int, (ns.map P.int).all (depLe n) = true
  | [] => rfl
  | x :: r => by rw [List.map_cons, List.all_cons, dep_ints n r]; cases n <;> rfl
theorem oEq_nil (ns : List Int) : oEq (.lst (ns.map P.int)) (.lst []) = some (.bl ns.isEmpty) := by
  have h : okEq (.lst (ns.map P.int)) (.lst []) = true := by
    show (depLe 60 (.lst (ns.map P.int)) && depLe 60 (.lst [])) = true
    rw [show depLe 60 (.lst (ns.map P.int)) = (ns.map P.int).all (depLe 59) from rfl, dep_ints]
    rfl
  unfold oEq
  rw [if_pos h]
  cases ns <;> rfl
theorem cut_len {α : Type} (xs : List α) (lo hi : Option Int) : (cut xs lo hi).length ≤ xs.length := by
  unfold cut
  rw [List.length_take, List.length_drop]
  omega
theorem dices_ok : ∀ (ns : List Int) (env : Env) (h : Hs), env.length = 4 → ∃ ds os, lcL (.nm 3) cYes (cCall 1 fDice (aC (cV 3) aN)) (fun _ => true) ((ns.map P.int).map D.p) env h = .ok ds (h ++ os) ∧ ∀ d ∈ ds, ∃ i, d = .loc i ∧ Dice (h ++ os) i
  | [], env, h, _ => ⟨[], [], by simp [lcL], fun d hd => by cases hd⟩
  | n :: r, env, h, he => by
    obtain ⟨a, b, c, e⟩ := dice_ok h n
    obtain ⟨ds, os, e2, k⟩ := dices_ok r env (h ++ [.lst [.int a, .int b, .int c]]) he
    refine ⟨.loc h.length :: ds, .lst [.int a, .int b, .int c] :: os, ?_, fun d hd => ?_⟩
    · rw [List.map_cons, List.map_cons]
      unfold lcL
      have h3 : (env.set 3 (some (D.p (.int n))))[3]? = some (some (D.p (.int n))) := List.getElem?_set_self (by omega)
      simp only [if_pos, Tg.bind, cYes, cCall, aC, aN, cV, h3, R.bind, arity, List.length_cons, List.length_nil, e, e2, List.append_assoc, List.cons_append, List.nil_append]
    · rw [show h ++ .lst [.int a, .int b, .int c] :: os = (h ++ [.lst [.int a, .int b, .int c]]) ++ os by simp]
      rcases List.mem_cons.mp hd with rfl | hd
      · refine ⟨h.length, rfl, a, b, c, ?_⟩
        rw [List.append_assoc, List.getElem?_append_right (Nat.le_refl _)]
        simp
      · exact k d hd
theorem rounds_ok (ns : List Int) (most : Int) (hl : ns.length ≤ 63) : ∃ ds os, fRounds [.p (.scr ns), .p (.int most)] [] = .ok (.loc os.length) (os ++ [.rl ds]) ∧ ∀ d ∈ ds, ∃ i, d = .loc i ∧ Dice os i := by
  have key : ∀ ms : List Int, ms.length ≤ 63 → ∃ ds os, lcAll (iSeq (cV 2)) (.nm 3) cYes (cCall 1 fDice (aC (cV 3) aN)) [3] finR [some (.p (.scr ns)), some (.p (.int most)), some (.p (.lst (ms.map P.int))), none] [] = .ok (.loc os.length) (os ++ [.rl ds]) ∧ ∀ d ∈ ds, ∃ i, d = .loc i ∧ Dice os i := fun ms hm => by
    obtain ⟨ds, os, e, k⟩ := dices_ok ms (wipeE [some (.p (.scr ns)), some (.p (.int most)), some (.p (.lst (ms.map P.int))), none] [3]) [] rfl
    refine ⟨ds, os, ?_, k⟩
    have ol : okLen ((ms.map P.int).map D.p).length = true := by
      unfold okLen
      rw [List.length_map, List.length_map]
      exact decide_eq_true (by omega)
    unfold lcAll
    simp only [iSeq, cV, List.getElem?_cons_succ, List.getElem?_cons_zero, R.bind, seqItems, ol, if_pos, e, finR, List.nil_append]
  obtain ⟨ms, hm, e⟩ : ∃ ms : List Int, ms.length ≤ 63 ∧ slP (.scr ns) none (some most) = some (.lst (ms.map P.int)) := ⟨_, Nat.le_trans (cut_len ns none (some most)) hl, rfl⟩
  cases hz : ms.isEmpty with
  | true =>
    obtain ⟨ds, os, e2, k⟩ := key [0] (by decide)
    refine ⟨ds, os, ?_, k⟩
    have e3 : lcAll (iSeq (cV 2)) (.nm 3) cYes (cCall 1 fDice (aC (cV 3) aN)) [3] finR [some (.p (.scr ns)), some (.p (.int most)), some (.p (.lst [.int 0])), none] [] = .ok (.loc os.length) (os ++ [.rl ds]) := e2
    simp [fRounds, cFn, sSeq, sSet, cSl, cV, R.bind, R.toS, oN, oS, toI, slD, e, sIf, cT, cOp, cLst, aN, mkLst, plain, ap2, oEq_nil, hz, toB, aC, cK, sRet, e3]
  | false =>
    obtain ⟨ds, os, e2, k⟩ := key ms hm
    refine ⟨ds, os, ?_, k⟩
    simp [fRounds, cFn, sSeq, sSet, cSl, cV, R.bind, R.toS, oN, oS, toI, slD, e, sIf, cT, cOp, cLst, aN, mkLst, plain, ap2, oEq_nil, hz, toB, aC, cK, sRet, e2, sNx]
/-! ### the law's loop -/
def CaseOk (F : Fn) : Prop := ∀ (h : Hs) (i : Nat), Dice h i → ∃ h', F [.loc i] h = .ok (.p (.bl true)) h' ∧ Same i h h' ∧ Dice h' i
theorem seqItems_rl {h : Hs} {k : Nat} {ds : List D} (e : h[k]? = some (.rl ds)) : ∃ inv, seqItems (.loc k) h = .ok (ds, inv) h ∧ ∀ h' : Hs, h'[k]? = some (.rl ds) → inv h' = true :=
  ⟨fun h' => match h'[k]? with | some (.rl es) => beqDs ds es | _ => false, by unfold seqItems; simp only [e] <;> rfl, fun h' e' => by simp only [e', beqDs_refl]⟩
theorem seqItems_lst {h : Hs} {k : Nat} {ps : List P} (e : h[k]? = some (.lst ps)) : ∃ inv, seqItems (.loc k) h = .ok (ps.map D.p, inv) h ∧ ∀ h' : Hs, h'[k]? = some (.lst ps) → inv h' = true :=
  ⟨fun h' => match h'[k]? with | some (.lst qs) => beqXs ps qs | _ => false, by unfold seqItems; simp only [e] <;> rfl, fun h' e' => by simp only [e', beqXs_refl]⟩
theorem loop_ok {F : Fn} (hF : CaseOk F) {k : Nat} {es : List D} {inv : Hs → Bool} (hinv : ∀ h' : Hs, h'[k]? = some (.rl es) → inv h' = true) : ∀ (ds : List D) (env : Env) (h : Hs), env.length = 2 → h[k]? = some (.rl es) → (∀ d ∈ ds, ∃ i, d = .loc i ∧ Dice h i) →
    ∃ env' h', forL (tN 1) (sIf (cNotT (cT (cCall 1 F (aC (cV 1) aN)))) (sRet (cK (.bl false))) sNx) inv ds env h = .nx env' h'
  | [], env, h, _, hk, _ => ⟨env, h, by unfold forL; rw [hinv h hk]; rfl⟩
  | d :: ds, env, h, he, hk, hd => by
    obtain ⟨i, rfl, di⟩ := hd d List.mem_cons_self
    obtain ⟨h1, e1, s1, d1⟩ := hF h i di
    have hki : k ≠ i := fun z => by
      obtain ⟨a, b, c, q⟩ := di
      rw [← z, hk] at q; cases q
    have hk1 : h1[k]? = some (.rl es) := (s1.2 k (List.getElem?_eq_some_iff.mp hk).1 hki).trans hk
    obtain ⟨env', h', e2⟩ := loop_ok hF hinv ds (env.set 1 (some (.loc i))) h1 (by simpa using he) hk1 fun d' hd' => by
      obtain ⟨j, rfl, a, b, c, q⟩ := hd d' (List.mem_cons_of_mem _ hd')
      by_cases hj : j = i
      · subst hj; exact ⟨j, rfl, d1⟩
      · exact ⟨j, rfl, a, b, c, (s1.2 j (List.getElem?_eq_some_iff.mp q).1 hj).trans q⟩
    refine ⟨env', h', ?_⟩
    unfold forL
    have g1 : (env.set 1 (some (D.loc i)))[1]? = some (some (.loc i)) := List.getElem?_set_self (by omega)
    simp only [hinv h hk, if_pos, tN, sIf, cNotT, cT, cCall, aC, aN, cV, g1, R.bind, R.toS, arity, List.length_cons, List.length_nil, e1, toB, sNx, Bool.not_true]
    exact e2
def fLaw (most : Int) (F : Fn) : Fn := cFn 2 ((sSeq (sFor (iSeq (cCall 2 fRounds (aC (cV 0) (aC (cK (.int most)) aN)))) (tN 1) (sIf (cNotT (cT (cCall 1 F (aC (cV 1) aN)))) (sRet (cK (.bl false))) sNx))
  (sRet (cK (.bl true)))))
theorem law_ok {F : Fn} (hF : CaseOk F) (most : Int) (ns : List Int) (hl : ns.length ≤ 63) : ∃ h', fLaw most F [.p (.scr ns)] [] = .ok (.p (.bl true)) h' := by
  obtain ⟨ds, os, e, k⟩ := rounds_ok ns most hl
  have hk : (os ++ [O.rl ds])[os.length]? = some (.rl ds) := by simp
  obtain ⟨inv, e3, hinv⟩ := seqItems_rl hk
  obtain ⟨env', h', e2⟩ := loop_ok hF hinv ds [some (.p (.scr ns)), none] (os ++ [.rl ds]) rfl hk fun d hd => by
    obtain ⟨i, rfl, a, b, c, q⟩ := k d hd
    exact ⟨i, rfl, a, b, c, by rw [List.getElem?_append_left (List.getElem?_eq_some_iff.mp q).1]; exact q⟩
  refine ⟨h', ?_⟩
  simp [fLaw, cFn, sSeq, sFor, iSeq, cCall, aC, cV, cK, aN, R.bind, R.toS, arity, e, e3, e2, sRet]

/-! ### step by step -/
section
variable {e e' : Ar.Env} {h h1 h2 h' : Hs} {fa fb fc : FE} {x y z : P} {d : D} {ds : List D} {o : P → P → Option P} {b : Bool} {ft : FT} {f k : FS} {n i : Nat} {F : Fn} {a : FA}
theorem cOp_ok (q1 : fa e h = .ok (.p x) h1) (q2 : fb e h1 = .ok (.p y) h2) (q3 : o x y = some z) : cOp o fa fb e h = .ok (.p z) h2 := by
  simp only [cOp, q1, q2, R.bind, ap2, q3]
theorem cT_ok (q : fa e h = .ok (.p (.bl b)) h1) : cT fa e h = .ok b h1 := by simp only [cT, q, R.bind, toB]
theorem cNotT_ok (q : ft e h = .ok b h1) : cNotT ft e h = .ok (!b) h1 := by simp only [cNotT, q, R.bind]
theorem cOrT_t {gt : FT} (q : ft e h = .ok true h1) : cOrT ft gt e h = .ok true h1 := by simp only [cOrT, q, R.bind]
theorem cOrT_f {gt : FT} (q : ft e h = .ok false h1) (q2 : gt e h1 = .ok b h2) : cOrT ft gt e h = .ok b h2 := by simp only [cOrT, q, R.bind, q2]
theorem cAndT_f {gt : FT} (q : ft e h = .ok false h1) : cAndT ft gt e h = .ok false h1 := by simp only [cAndT, q, R.bind]
theorem cAndT_t {gt : FT} (q : ft e h = .ok true h1) (q2 : gt e h1 = .ok b h2) : cAndT ft gt e h = .ok b h2 := by simp only [cAndT, q, R.bind, q2]
theorem sIf_t (q : ft e h = .ok true h1) : sIf ft f k e h = f e h1 := by simp only [sIf, q, R.toS]
theorem sIf_f (q : ft e h = .ok false h1) : sIf ft f k e h = k e h1 := by simp only [sIf, q, R.toS]
theorem seq_nx (q : f e h = .nx e' h') : sSeq f k e h = k e' h' := by unfold sSeq; rw [q]
theorem set_nx (q : fa e h = .ok d h') : sSet i fa e h = .nx (e.set i (some d)) h' := by unfold sSet; rw [q]; rfl
theorem sRet_ok (q : fa e h = .ok d h') : sRet fa e h = .rt d h' := by unfold sRet; rw [q]; rfl
theorem aC_ok (q : fa e h = .ok d h1) (q2 : a e h1 = .ok ds h2) : aC fa a e h = .ok (d :: ds) h2 := by simp only [aC, q, R.bind, q2]
theorem cCall_ok {r : R D} (q : a e h = .ok ds h1) (hn : ds.length = n) (q2 : F ds h1 = r) : cCall n F a e h = r := by simp only [cCall, q, R.bind, arity, hn, if_pos, q2]
theorem callP_ok {h0 : Hs} (h : Hs) (hp : isPlain ds = true) (e : F ds [] = .ok (.p x) h0) : callP F ds h = .ok (.p x) h := by
  unfold callP
  rw [if_pos hp, e]
  rfl
theorem cCallP_ok {h0 : Hs} (q : a e h = .ok ds h1) (hn : ds.length = n) (hp : isPlain ds = true) (q2 : F ds [] = .ok (.p x) h0) : cCallP n F a e h = .ok (.p x) h1 := by
  simp only [cCallP, q, R.bind, arity, hn, if_pos, callP_ok h1 hp q2]
theorem mod_ok (a : Int) {b : Int} (h : 0 < b) : oMod (.int a) (.int b) = some (.int (a % b)) := oMod_pos a b h
theorem last_at (h : Hs) (o : O) : (h ++ [o])[h.length]? = some o := by simp
theorem last_set (h : Hs) (o o' : O) : (h ++ [o]).set h.length o' = h ++ [o'] := by simp
theorem Dice.push {h : Hs} {i : Nat} (d : Dice h i) (o : O) : Dice (h ++ [o]) i := by
  obtain ⟨a, b, c, q⟩ := d
  exact ⟨a, b, c, by rw [List.getElem?_append_left (List.getElem?_eq_some_iff.mp q).1]; exact q⟩
theorem Dice.lt {h : Hs} {i : Nat} (d : Dice h i) : i < h.length := by
  obtain ⟨a, b, c, q⟩ := d
  exact (List.getElem?_eq_some_iff.mp q).1
theorem forL_cons {gt : FG} {gb : FS} {inv : Hs → Bool} {e2 : Ar.Env} (hi : inv h = true) (q1 : gt d e h = .ok e' h1) (q2 : gb e' h1 = .nx e2 h2) : forL gt gb inv (d :: ds) e h = forL gt gb inv ds e2 h2 := by
  conv => lhs; unfold forL
  rw [if_pos hi]
  simp only [q1, q2]
theorem forL_nil {gt : FG} {gb : FS} {inv : Hs → Bool} (hi : inv h = true) : forL gt gb inv [] e h = .nx e h := by
  unfold forL
  rw [if_pos hi]
theorem sPar_ok {j : Nat} {d1 d2 : D} (q : a e h = .ok [d1, d2] h') : sPar i j a e h = .nx ((e.set i (some d1)).set j (some d2)) h' := by unfold sPar; rw [q]; rfl
theorem sFor_nx {fi : FI} {gt : FG} {gb : FS} {it : List D × (Hs → Bool)} (q : fi e h = .ok it h1) (q2 : forL gt gb it.2 it.1 e h1 = .nx e' h') : sFor fi gt gb e h = .nx e' h' := by
  unfold sFor; rw [q]; exact q2
theorem cFn_rt {nslots : Nat} {fb : FS} (q : fb (ds.map some ++ List.replicate (nslots - ds.length) none) h = .rt d h') : cFn nslots fb ds h = .ok d h' := by
  unfold cFn; rw [q]
end
end Ar
/-! any(.. for .. in ..), all(..): the generator's turns under a context of its own frame -/
namespace Ar
open PySem PySem.Spec PyProof.Rows L2

/-- a look at the generator expression's scope: sc the maker's scope, own: its names' slots -/
def genB (N : List Str) (sc scope : Scope) (own : List (Str × Nat)) : Bool :=
  decide (scope.kind = .function) && !scope.isCoroutine && decide (scope.names.lookup (".0" : Str) = some .local) && !N.contains (".0" : Str) && own.all (fun q => decide (N[q.2]? = some q.1)) &&
    scope.names.all fun y => !decide (y.2 = .cell) && (!decide (y.2 = .local) || decide (y.1 = (".0" : Str)) || own.any fun q => decide (q.1 = y.1)) && (!decide (y.2 = .free) || decide (sc.names.lookup y.1 = some .cell) || decide (sc.names.lookup y.1 = some .free))
structure GenSc (N : List Str) (sc scope : Scope) (own : List (Str × Nat)) : Prop where
  kind : scope.kind = .function
  co : scope.isCoroutine = false
  dot : scope.names.lookup (".0" : Str) = some .local
  nodot : (".0" : Str) ∉ N
  at_ : ∀ q ∈ own, N[q.2]? = some q.1
  cell : ∀ y ∈ scope.names, y.2 ≠ .cell
  loc : ∀ y ∈ scope.names, y.2 = .local → y.1 = (".0" : Str) ∨ ∃ q ∈ own, q.1 = y.1
  free : ∀ y ∈ scope.names, y.2 = .free → sc.names.lookup y.1 = some .cell ∨ sc.names.lookup y.1 = some .free
theorem genSc_by {N : List Str} {sc scope : Scope} {own : List (Str × Nat)} (h : genB N sc scope own = true) : GenSc N sc scope own := by
  unfold genB at h
  simp only [Bool.and_eq_true, Bool.or_eq_true, Bool.not_eq_true', decide_eq_true_eq, decide_eq_false_iff_not, List.all_eq_true, List.any_eq_true] at h
  obtain ⟨⟨⟨⟨⟨h1, h2⟩, h3⟩, h4⟩, h5⟩, h6⟩ := h
  refine ⟨h1, h2, h3, fun z => ?_, h5, fun y hy => (h6 y hy).1.1, fun y hy e => ?_, fun y hy e => ?_⟩
  · rw [List.contains_iff_mem.mpr z] at h4; cases h4
  · rcases (h6 y hy).1.2 with (z | z) | z
    · exact absurd e z
    · exact .inl z
    · exact .inr z
  · rcases (h6 y hy).2 with (z | z) | z
    · exact absurd e z
    · exact .inl z
    · exact .inr z
abbrev gEnv (X : Cx) (scope : Scope) (C : Addr) (code : Value) (bi : Addr) : PySem.Env := genEnv scope (cloFrom X.env.cells scope.names []) C code bi X.env
/-- the context of the generator's frame; s the state ahead of it, A around it -/
def genCx (X : Cx) (A : Around) (s : Shared) (H : Hp) (scope : Scope) (code : Value) (bi : Addr) (fp : List Addr) (pn : List (Addr × Obj)) : Cx where
  prog := X.prog
  w := X.w
  K := X.K
  mg := X.mg
  base := X.base
  A := A
  N := X.N
  s_0 := s
  H_0 := H
  env := gEnv X scope s.heap.objs.size code bi
  outer := X.stack
  stack := gEnv X scope s.heap.objs.size code bi :: X.stack
  ex := fp
  fn := fun _ => false
  calm := true
  pn := pn
  xe := fun _ _ => False
section
variable {X : Cx} {pins : List (Addr × Obj)} {σ : L2.St} {H : Hp} {s : Shared} {scope : Scope} {own : List (Str × Nat)}
theorem wipe_some {vs : List Nat} {σ : L2.St} {i : Nat} {v : V} (h : (L2.wipe σ vs)[i]? = some (some v)) : i ∉ vs ∧ σ[i]? = some (some v) := by
  have hl : i < σ.length := by
    have := (List.getElem?_eq_some_iff.mp h).1
    rwa [wipe_length] at this
  rw [wipe_get vs σ i hl] at h
  by_cases hv : i ∈ vs
  · rw [if_pos hv] at h; cases h
  · rw [if_neg hv] at h; exact ⟨hv, h⟩
theorem gen_start {A : Around} {code : Value} {h₁ : Heap} {tk : Nat} {g' : Array GenState} {m : Str → Option Value} {fp : List Addr} (I : Inv X pins σ H s) (hfp : ∀ b ∈ fp, FpOk X pins H b ∧ b < s.heap.objs.size) (S : GenSc X.N X.env.scope scope own) (hN : X.N.Nodup) (hd : A.handled = none) (hf : A.frames = some (gEnv X scope s.heap.objs.size code builtinsNs :: X.stack)) (hb : AllBare g')
    {pn : List (Addr × Obj)} (hpn : ∀ p ∈ pn, h₁.get? p.1 = some p.2 ∧ s.heap.objs.size < p.1 ∧ ∀ v, p.2.data ≠ .cell v)
    (hns : h₁.Ns s.heap.objs.size m) (kp : ∀ b o, s.heap.get? b = some o → h₁.get? b = some o) : Inv (genCx X A s H scope code builtinsNs fp pn) [] (L2.wipe σ (own.map (·.2))) H { s with heap := h₁, gens := g', toks := tk } := by
  have e0 := I.env0
  have fr : ∀ y ∈ scope.names, y.2 = .free → ∃ c, X.env.cells.lookup y.1 = some c := fun y hy e => by
    rcases S.free y hy e with k | k
    · exact I.ok.has _ (.inl k)
    · exact I.ok.has _ (.inr k)
  have cm : ∀ {y c}, (cloFrom X.env.cells scope.names []).lookup y = some c → X.env.cells.lookup y = some c := fun {y c} e => by
    rcases cloFrom_mem (PySem.mem_of_lookup e) with hm | ⟨h1, h2⟩
    · cases hm
    · obtain ⟨c1, hc⟩ := fr _ h1 rfl
      have hc : X.env.cells.lookup y = some c1 := hc
      have e2 : c = c1 := by rw [h2, hc] <;> rfl
      rw [e2]; exact hc
  have look : ∀ {y}, scope.names.lookup y = some .free → ∃ c, (cloFrom X.env.cells scope.names []).lookup y = some c := fun {y} hl =>
    mem_lookup (cloFrom_has (cells := X.env.cells) (acc := []) (show (y, NameKind.free) ∈ scope.names from PySem.mem_of_lookup hl))
  have noex : ∀ b o, X.base.get? b = some o → b ∉ fp := fun b o e z => by
    rcases (hfp b z).1.2.2.2.1 with k | k
    · exact I.ok.noex b o e k
    · exact absurd (Nat.lt_of_lt_of_le (Heap.lt_size e) (Nat.le_trans I.ok.bsz k)) (Nat.lt_irrefl _)
  have cellK : ∀ {c : Addr} {v : Option Value}, s.heap.IsCell c v → h₁.IsCell c v := fun {c v} ⟨o, ho, hd⟩ => ⟨o, kp _ _ ho, hd⟩
  refine ⟨⟨e0.mod, S.kind, I.ok.glob, rfl, Nat.le_refl _, fun y z c e1 e2 => I.ok.inj y z c (cm e1) (cm e2), fun y hy => ?_, fun y c z _ => ?_, fun _ => hd, hf, .inr ⟨rfl, rfl⟩, fun b z => ⟨Nat.ne_of_lt (hfp b z).2, fun y c e => (hfp b z).1.2.2.2.2.1 y c (cm e)⟩, e0.bs, e0.bsz, noex,
      fun b z => ?_, e0.funs, e0.frf⟩,
    rfl, hb, Un.kept kp, ⟨m, hns, fun i y v e1 e2 e3 => ?_⟩, fun y c e => ?_, e0.hok.fresh (Nat.le_refl _), fun y c e => I.freeC y c (cm e), fun q hq => ?_, e0.hok.kept kp, by rw [wipe_length]; exact I.len⟩
  · have hy : scope.names.lookup y = some .cell ∨ scope.names.lookup y = some .free := hy
    rcases hy with hy | hy
    · exact absurd rfl (S.cell _ (PySem.mem_of_lookup hy))
    · exact look hy
  · have z : false = true := z
    cases z
  · obtain ⟨⟨_, f1, f2, _⟩, _⟩ := hfp b z
    exact fun q => (List.mem_cons.mp (I.stkSub b q)).elim f1 f2
  · obtain ⟨ni, e2⟩ := wipe_some e2
    have e3 : Vis scope y := e3
    rcases e3 with k | k | k
    · rcases S.loc _ (PySem.mem_of_lookup k) rfl with z | ⟨q, hq, z⟩
      · have z : y = (".0" : Str) := z
        exact absurd (List.mem_of_getElem? e1) (by rw [z]; exact S.nodot)
      · exfalso
        have eq := S.at_ q hq
        have hi := (List.getElem?_eq_some_iff.mp e1).1
        have : i = q.2 := by
          have h1 : X.N[i]? = X.N[q.2]? := by rw [eq, show q.1 = y from z]; exact e1
          exact (List.getElem?_inj hi hN).mp h1
        exact ni (by rw [this]; exact List.mem_map.mpr ⟨q, hq, rfl⟩)
    · exact absurd rfl (S.cell _ (PySem.mem_of_lookup k))
    · obtain ⟨m', hn, hl⟩ := I.loc
      have hvis : Vis X.env.scope y := (S.free _ (PySem.mem_of_lookup k) rfl).elim (fun k => .inr (.inl k)) (fun k => .inr (.inr k))
      obtain ⟨w', r, q⟩ := hl i y v e1 e2 hvis
      obtain ⟨c2, h2⟩ := look k
      refine ⟨w', r, .inr ⟨.inr k, c2, h2, ?_⟩⟩
      have c1 := cm h2
      rcases q with ⟨k', _⟩ | ⟨_, c3, e', z⟩
      · have k' : X.env.scope.names.lookup y = some .local := k'
        rcases S.free _ (PySem.mem_of_lookup k) rfl with k2 | k2 <;> rw [show X.env.scope.names.lookup y = _ from k2] at k' <;> cases k'
      · rw [c1] at e'
        cases e'
        exact cellK z
  · obtain ⟨w', z⟩ := I.cell y c (cm e)
    exact ⟨w', cellK z⟩
  · obtain ⟨p1, p2, p3⟩ := hpn q (by simpa using (show q ∈ pn ++ [] from hq))
    exact ⟨p1, e0.hok.fresh (Nat.le_of_lt p2), Nat.ne_of_gt p2, fun z => (List.mem_cons.mp (I.stkSub _ z)).elim (fun e => Nat.lt_irrefl _ (Nat.lt_trans p2 (e ▸ I.lt))) (I.nofs (Nat.le_of_lt p2)), p3⟩
end

/-! ### the turns -/
/-- where the generator stands ahead of item i, m measures what is left -/
def GJ (gn : Nat) (Y : Cx) (fp : List Addr) (tn : Nat → Heap → Prop) (Wt : Nat → Nat → L2.St → Hp → Prop) (i m : Nat) (s : Shared) : Prop := gn ≤ s.gens.size ∧ ∃ σ H, Inv Y [] σ H s ∧ tn i s.heap ∧ (∀ b ∈ fp, H b = none) ∧ Wt i m σ H
/-- what is known of the turns: the end, or an item, its target, the element, a bool; at st it is the last -/
def Turns (J : It) (gr : TG) (te : TE) (st : Bool → Bool) (Qe Qh : Hp → Prop) (Wt : Nat → Nat → L2.St → Hp → Prop) : Prop := ∀ i m σ H, Wt i m σ H →
  (J.stop i H ∧ Qe H) ∨ (J.go i H ∧ ∀ x H1, J.yld i H x H1 → gr x σ H1 fun σ2 H2 => te σ2 H2 fun y H3 => ∃ b, y = .bl b ∧ (st b = true → Qh H3) ∧ (st b = false → ∃ m', m' < m ∧ Wt (i + 1) m' σ2 H3))
def gF (Y : Cx) (Qe : Hp → Prop) : Nat → Shared → Shared → Prop := fun _ _ s1 => ∃ σ H, Inv Y [] σ H s1 ∧ Qe H
def gR (Y : Cx) (Qe : Hp → Prop) : GenEnd := fun n s₀ r s₁ => ((r = .ok (.ret .none) ∨ r = .ok .next) ∧ gF Y Qe n s₀ s₁) ∨ ∃ e, r = .error e ∧ (fun _ _ => False : Value → Shared → Prop) e s₁
def gY (gn : Nat) (Y : Cx) (fp : List Addr) (tn : Nat → Heap → Prop) (Wt : Nat → Nat → L2.St → Hp → Prop) (st : Bool → Bool) (Qh : Hp → Prop) : Protocol := fun k _ v s kap => ∃ b, v = .bool b ∧
  (st b = true → ∃ σ H, Inv Y [] σ H s ∧ Qh H) ∧ (st b = false → ∃ i m, m < k ∧ GJ gn Y fp tn Wt i m s ∧ ∀ s'', GJ gn Y fp tn Wt i m s'' → kap (.send .none) s'')
theorem seg_turn {A : Around} {Y : Cx} {elt iter tgt : Expr} {scope : Scope} {pos : Pos} {it : Addr} {fp : List Addr} {tn : Nat → Heap → Prop} {J : It} {gr : TG} {te : TE} {st : Bool → Bool} {Qe Qh : Hp → Prop} {Wt : Nat → Nat → L2.St → Hp → Prop} {gn : Nat}
    (hA : Y.A = A.over (.compLoop (.GeneratorExp elt [⟨tgt, iter, [], 0⟩] scope pos) 0 (.ref it) .none Y.env) []) (hc : Y.calm = true) (hxe : Y.xe = fun _ _ => False) (T : Turn Y.prog Y.w Y.K tgt J fp it tn) (hg : PG Y tgt gr) (he : PE Y elt te) (hw : Turns J gr te st Qe Qh Wt)
    (hco : Y.env.scope.isCoroutine = false) (hfp : ∀ b ∈ fp, b ≠ Y.env.locals ∧ b ∉ Y.fs ∧ (b ∈ Y.ex ∨ Y.s_0.heap.objs.size ≤ b) ∧ (∀ x c, Y.env.cells.lookup x = some c → c ≠ b) ∧ ∀ p ∈ Y.pn ++ [], p.1 ≠ b) :
    ∀ (k i m : Nat) (s₀ s : Shared), m < k → GJ gn Y fp tn Wt i m s → Seg (model Y.prog Y.w) A (gR Y Qe) (gY gn Y fp tn Wt st Qh) k s₀ (.compLoop (.GeneratorExp elt [⟨tgt, iter, [], 0⟩] scope pos) 0 (.ref it) .none Y.env) ((model Y.prog Y.w).den (.compLoop (.GeneratorExp elt [⟨tgt, iter, [], 0⟩] scope pos) 0 (.ref it) .none Y.env)) [] s := by
  have stat : ∀ {H' : Hp}, (∀ b ∈ fp, H' b = none) → ∀ b ∈ fp, FpOk Y [] H' b := fun hn b hb => ⟨hn b hb, hfp b hb⟩
  intro k
  induction k with
  | zero => exact fun i m s₀ s hm => absurd hm (Nat.not_lt_zero _)
  | succ k ih =>
    rintro i m s₀ s hm ⟨gs0, σ, H, I, tni, fr, w⟩
    show Seg _ A _ _ _ s₀ _ ((compTurn (.GeneratorExp elt [⟨tgt, iter, [], 0⟩] scope pos) 0 (.ref it) .none Y.env).onRaise (leaving Y.env)) [] s
    rw [compTurn_gen, Sem.onRaise_eq_wrap]
    refine seg_bind_wrap (wpAny_standAt ?_)
    rcases hw i m σ H w with ⟨stop, qe⟩ | ⟨go, step⟩
    · refine seg_bind_wrap (by
        rw [← hA]
        refine thn (T.done Y rfl rfl rfl hc i [] s σ H _ I (stat fr) tni stop) fun r s1 ⟨hr, I1⟩ => ?_
        subst hr
        exact seg_end (.ok .next) (.inl ⟨.inr rfl, σ, H, I1, qe⟩))
    · refine seg_bind_wrap (by
        rw [← hA]
        refine GenW.wpAny_gsz gs0 (wpAny_mono (T.item Y rfl rfl rfl hc i [] s σ H _ I (stat fr) tni go) (fun r s1 ⟨u, hr, h4⟩ gs1 => ?_) (fun _ _ z _ => z))
        subst hr
        refine seg_bind_wrap (by
          rw [← hA]
          refine GenW.wpAny_gsz gs1 (wpAny_mono h4 (fun _ s5 ⟨x, H5, I5, r5, y5, st5, fr5⟩ gs5 => ?_) (fun _ _ z _ => z))
          have I5' := I5.pinned (stat fr5) (T.obj _ _ st5)
          refine seg_bind_wrap (by
            rw [← hA]
            refine GenW.wpAny_gsz gs5 (wpAny_mono (hg.run _ s5 σ H5 x u _ I5' r5 (step x H5 y5)) (fun _ s6 ⟨σ6, H6, I6, q6⟩ gs6 => ?_) (fun _ _ z => by rw [hxe] at z; exact z.elim))
            refine seg_bind_wrap (wpAny_pure ?_)
            simp only [if_true]
            have hy : ∀ v, yieldOut Y.env v = yieldValue v := fun v => by simp only [yieldOut, hco, Bool.false_eq_true, if_false]
            simp only [hy]
            rw [Sem.bind_eq_wrap', Sem.bind_eq_wrap', Sem.wrap_wrap, Sem.wrap_wrap]
            refine seg_wrap (by
              rw [← hA]
              refine GenW.wpAny_gsz gs6 (wpAny_mono (he.run _ s6 σ6 H6 _ I6 q6) (fun y s7 ⟨yv, H7, I7, ry, b, eb, hhit, hnext⟩ gs7 => ?_) (fun _ _ z => by rw [hxe] at z; exact z.elim))
              subst eb
              obtain rfl : y = Value.bool b := ry
              refine seg_at (seg_yield rfl rfl rfl ⟨b, rfl, fun hb => ⟨σ6, H7, I7.unpinned, hhit hb⟩, fun hb => ?_⟩)
              obtain ⟨m', hm', w'⟩ := hnext hb
              refine ⟨i + 1, m', by omega, ⟨gs7, σ6, H7, I7.unpinned, T.keep _ _ _ st5 fun b hb o e => (I7.pin (b, o) (List.mem_append_right _ (List.mem_append_right _ (mem_pinsAt hb e)))).1, fun b hb => ?_, w'⟩, fun s'' gj => ?_⟩
              · obtain ⟨o, e, d⟩ := T.obj _ _ st5 b hb
                exact (I7.pin (b, o) (List.mem_append_right _ (List.mem_append_right _ (mem_pinsAt hb e)))).2.1
              · exact seg_again rfl (ih (i + 1) m' s'' s'' (by omega) gj)))))

theorem seg_begin {A : Around} {Y : Cx} {elt iter tgt : Expr} {scope : Scope} {pos : Pos} {it : Addr} {fp : List Addr} {tn : Nat → Heap → Prop} {J : It} {gr : TG} {te : TE} {st : Bool → Bool} {Qe Qh : Hp → Prop} {Wt : Nat → Nat → L2.St → Hp → Prop} {gn : Nat}
    (hA : Y.A = A.over (.compLoop (.GeneratorExp elt [⟨tgt, iter, [], 0⟩] scope pos) 0 (.ref it) .none Y.env) []) (hc : Y.calm = true) (hxe : Y.xe = fun _ _ => False) (T : Turn Y.prog Y.w Y.K tgt J fp it tn) (hg : PG Y tgt gr) (he : PE Y elt te) (hw : Turns J gr te st Qe Qh Wt)
    (hco : Y.env.scope.isCoroutine = false) (hfp : ∀ b ∈ fp, b ≠ Y.env.locals ∧ b ∉ Y.fs ∧ (b ∈ Y.ex ∨ Y.s_0.heap.objs.size ≤ b) ∧ (∀ x c, Y.env.cells.lookup x = some c → c ≠ b) ∧ ∀ p ∈ Y.pn ++ [], p.1 ≠ b)
    (k i m : Nat) (s₀ s : Shared) (hm : m < k) (gj : GJ gn Y fp tn Wt i m s) : Seg (model Y.prog Y.w) A (gR Y Qe) (gY gn Y fp tn Wt st Qh) k s₀ (.compStart (.GeneratorExp elt [⟨tgt, iter, [], 0⟩] scope pos) 0 (.ref it) .none Y.env) ((model Y.prog Y.w).den (.compStart (.GeneratorExp elt [⟨tgt, iter, [], 0⟩] scope pos) 0 (.ref it) .none Y.env)) [] s := by
  have loop := seg_turn hA hc hxe T hg he hw hco hfp k i m s₀ s hm gj
  obtain ⟨_, _, _, _, t0, _⟩ := gj
  show Seg _ A _ _ _ s₀ _ ((compStart (.GeneratorExp elt [⟨tgt, iter, [], 0⟩] scope pos) 0 (.ref it) .none Y.env).onRaise (leaving Y.env)) [] s
  unfold compStart
  rw [Sem.onRaise_eq_wrap]
  show Seg _ A _ _ _ s₀ _ ((ask >>= _).wrap _ _ _ _) [] s
  refine seg_bind_wrap (wpAny_askSetting ?_)
  split
  · exact seg_again rfl loop
  · first
      | exact seg_bind_wrap (wpAny_rule (seg_bind_wrap (wpAny_standAt (seg_bind_wrap (T.self _ i s _ _ t0 (seg_again rfl loop))))))
      | (refine seg_bind_wrap (wpAny_rule ?_); show Seg _ A _ _ _ s₀ _ ((standAt iter.pos >>= _).wrap _ _ _ _) [] s; exact seg_bind_wrap (wpAny_standAt (seg_bind_wrap (T.self _ i s _ _ t0 (seg_again rfl loop)))))

/-! ### next -/
theorem Inv.gens {X : Cx} {pins : List (Addr × Obj)} {σ : L2.St} {H : Hp} {s : Shared} {g' : Array GenState} (I : Inv X pins σ H s) (hb : AllBare g') : Inv X pins σ H { s with gens := g' } := ⟨I.ok, I.os, hb, I.base, I.loc, I.cell, I.free, I.freeC, I.pin, I.hok, I.len⟩
/-- the generator sleeps, more may come -/
def GState (A : Around) (g : Nat) (Y : Cx) (fp : List Addr) (tn : Nat → Heap → Prop) (Wt : Nat → Nat → L2.St → Hp → Prop) (st : Bool → Bool) (Qe Qh : Hp → Prop) (k : Nat) (s : Shared) : Prop :=
  ∃ gs i m, s.gens[g]? = some gs ∧ m < k ∧ GJ (g + 1) Y fp tn Wt i m s ∧ ∀ s'', GJ (g + 1) Y fp tn Wt i m s'' → gs.Goes (model Y.prog Y.w) A.in1 (gR Y Qe) (gY (g + 1) Y fp tn Wt st Qh) k (.send .none) s''
theorem GJ.gens {gn : Nat} {Y : Cx} {fp : List Addr} {tn : Nat → Heap → Prop} {Wt : Nat → Nat → L2.St → Hp → Prop} {i m g : Nat} {s : Shared} {x : GenState} (h : GJ gn Y fp tn Wt i m s) (hx : x.bare = true) : GJ gn Y fp tn Wt i m (s.setGen g x) := by
  obtain ⟨h0, σ, H, I, h1, h2, h3⟩ := h
  refine ⟨by rw [GenW.setGen_size]; exact h0, σ, H, Inv.gens I (allBare_setGen I.bare hx), h1, h2, h3⟩
theorem gen_next {A : Around} {g : Nat} {a : Addr} {Y : Cx} {fp : List Addr} {tn : Nat → Heap → Prop} {Wt : Nat → Nat → L2.St → Hp → Prop} {st : Bool → Bool} {Qe Qh : Hp → Prop} {s : Shared} {Q : Option Value → Shared → Prop} {E : Value → Shared → Prop} {k : Nat}
    (hh : A.handled = none) (hroom : A.depth < recursionLimit) (hg : ∀ σ H s', Inv Y [] σ H s' → s'.heap.IsGen a g) (S : GState A g Y fp tn Wt st Qe Qh k s)
    (hdone : ∀ σ H s', Inv Y [] σ H s' → Qe H → Q none s') (hhit : ∀ b σ H s', st b = true → Inv Y [] σ H s' → Qh H → Q (some (.bool b)) s') (hmore : ∀ b k' s', k' < k → st b = false → GState A g Y fp tn Wt st Qe Qh k' s' → Q (some (.bool b)) s') : wpAny (model Y.prog Y.w) A (pyNext (.ref a)) Q E s := by
  obtain ⟨gs, i, m, e, hm, gj, hgo⟩ := S
  obtain ⟨h0, σ, H, I, _⟩ := _root_.id gj
  refine next_genG (F := gF Y Qe) (Er := fun _ _ => False) hh I.nolimit hroom (hg _ _ _ I) e (hgo _ (gj.gens rfl)) (fun v s1 gs' hb hv => ?_) (fun s1 ⟨σ1, H1, I1, qe⟩ h' kp => ?_) (fun _ _ z => z.elim)
  · cases k with
    | zero => exact absurd hm (Nat.not_lt_zero _)
    | succ k =>
      obtain ⟨b, rfl, h1, h2⟩ := hv
      cases hb2 : st b with
      | true =>
        obtain ⟨σ1, H1, I1, qh⟩ := h1 hb2
        exact hhit b σ1 H1 _ hb2 (Inv.gens I1 (allBare_setGen I1.bare hb)) qh
      | false =>
        obtain ⟨i1, m1, hm1, gj1, kap⟩ := h2 hb2
        exact hmore b k _ (Nat.lt_succ_self k) hb2 ⟨gs', i1, m1, setGen_at (Nat.lt_of_succ_le gj1.1), hm1, gj1.gens hb, fun s'' gj'' => kap s'' gj''⟩
  · exact hdone σ1 H1 _ (Inv.kept (t' := s1.toks) (Inv.gens I1 (allBare_setGen I1.bare rfl)) kp) qe

/-! ### any, all -/
section
variable {A : Around} {g : Nat} {a : Addr} {Y : Cx} {fp : List Addr} {tn : Nat → Heap → Prop} {Wt : Nat → Nat → L2.St → Hp → Prop} {Qe Qh : Hp → Prop} {R : Result → Shared → Prop}
theorem any_loop (hh : A.handled = none) (hroom : A.depth < recursionLimit) (hg : ∀ σ H s', Inv Y [] σ H s' → s'.heap.IsGen a g) (h0 : ∀ σ H s', Inv Y [] σ H s' → Qe H → R (.ok (.ret (.bool false))) s') (h1 : ∀ σ H s', Inv Y [] σ H s' → Qh H → R (.ok (.ret (.bool true))) s') :
    ∀ (k : Nat) (s : Shared), GState A.in1 g Y fp tn Wt (fun b => b) Qe Qh k s → codeAny (model Y.prog Y.w) A (.builtin "any.loop" ⟨[.ref a], []⟩) R s := by
  intro k
  induction k using Nat.strongRecOn with
  | _ k ih =>
    intro s S
    refine codeAny_builtin F.entry_any_loop ?_
    rw [Around.under_plainId F.plain_any_loop _]
    show wpAny _ A.in1 (pyNext (.ref a) >>= _) _ _ s
    refine wpAny_bind (gen_next hh hroom hg S (fun σ H s' I q => ?_) (fun b σ H s' hb I q => ?_) (fun b k' s' hk hb S' => ?_))
    · exact wpAny_bind (wpAny_rule (wpAny_pure (h0 σ H s' I q)))
    · subst hb
      refine wpAny_bind (wpAny_holding (wpAny_truthy_bool (wpAny_bind (wpAny_letGo ?_))))
      simp only [if_true]
      exact wpAny_bind (wpAny_rule (wpAny_pure (h1 σ H s' I q)))
    · subst hb
      refine wpAny_bind (wpAny_holding (wpAny_truthy_bool (wpAny_bind (wpAny_letGo ?_))))
      simp only [Bool.false_eq_true, if_false]
      exact wpAny_pure ⟨plainId_quiet F.plain_any_loop _, ih k' hk s' S'⟩
theorem all_loop (hh : A.handled = none) (hroom : A.depth < recursionLimit) (hg : ∀ σ H s', Inv Y [] σ H s' → s'.heap.IsGen a g) (h0 : ∀ σ H s', Inv Y [] σ H s' → Qe H → R (.ok (.ret (.bool true))) s') (h1 : ∀ σ H s', Inv Y [] σ H s' → Qh H → R (.ok (.ret (.bool false))) s') :
    ∀ (k : Nat) (s : Shared), GState A.in1 g Y fp tn Wt (fun b => !b) Qe Qh k s → codeAny (model Y.prog Y.w) A (.builtin "all.loop" ⟨[.ref a], []⟩) R s := by
  intro k
  induction k using Nat.strongRecOn with
  | _ k ih =>
    intro s S
    refine codeAny_builtin F.entry_all_loop ?_
    rw [Around.under_plainId F.plain_all_loop _]
    show wpAny _ A.in1 (pyNext (.ref a) >>= _) _ _ s
    refine wpAny_bind (gen_next hh hroom hg S (fun σ H s' I q => ?_) (fun b σ H s' hb I q => ?_) (fun b k' s' hk hb S' => ?_))
    · exact wpAny_bind (wpAny_rule (wpAny_pure (h0 σ H s' I q)))
    · cases b with
      | true => cases hb
      | false =>
        refine wpAny_bind (wpAny_holding (wpAny_truthy_bool (wpAny_bind (wpAny_letGo ?_))))
        simp only [Bool.false_eq_true, if_false]
        exact wpAny_bind (wpAny_rule (wpAny_pure (h1 σ H s' I q)))
    · cases b with
      | false => cases hb
      | true =>
        refine wpAny_bind (wpAny_holding (wpAny_truthy_bool (wpAny_bind (wpAny_letGo ?_))))
        simp only [if_true]
        exact wpAny_pure ⟨plainId_quiet F.plain_all_loop _, ih k' hk s' S'⟩
end

/-! ### the making -/
theorem tabs_grow {T : List (Addr × Str)} {H : Hp} {P c : Addr} {q : Str} {ps : Array Value} {pos : Pos} (hT : LamX.Tabs T H) (hP : H P = some (.tbl ps)) (hc : H c = none) (hu : ∀ p ∈ T, p.1 = P → p.2 = q) (ht : TriplesOk ps.toList)
    (ha : ∀ (pos : Pos) (cv : Value), codeAmong pos ps.toList = some cv → ∃ c, cv = .ref c ∧ H c = some (LamX.CodeO c q)) :
    LamX.ExtN H (upd (upd H P (.tbl (ps ++ #[rawInt pos.line, rawInt pos.col, .ref c]))) c (LamX.CodeO c q)) ∧ LamX.Tabs T (upd (upd H P (.tbl (ps ++ #[rawInt pos.line, rawInt pos.col, .ref c]))) c (LamX.CodeO c q)) := by
  have hE : LamX.ExtN H (upd (upd H P (.tbl (ps ++ #[rawInt pos.line, rawInt pos.col, .ref c]))) c (LamX.CodeO c q)) := fun b o e n => by
    rw [upd_ne (ne_of_none e hc), upd_ne (fun z => n ps (Option.some.inj (e.symm.trans (by rw [z]; exact hP))))]
    exact e
  refine ⟨hE, fun p hp => ?_⟩
  by_cases hb : p.1 = P
  · rw [hu p hp hb, hb]
    refine ⟨ps ++ #[rawInt pos.line, rawInt pos.col, .ref c], by rw [upd_ne (ne_of_none hP hc), upd_same], ?_, fun p' cv hcv => ?_⟩
    · rw [show (ps ++ #[rawInt pos.line, rawInt pos.col, .ref c]).toList = ps.toList ++ [rawInt pos.line, rawInt pos.col, .ref c] by simp]
      exact PySem.TriplesOk_snoc _ _ _ _ ht
    · rw [show (ps ++ #[rawInt pos.line, rawInt pos.col, .ref c]).toList = ps.toList ++ [rawInt pos.line, rawInt pos.col, .ref c] by simp] at hcv
      rcases LamX.among_app _ ht hcv with z | z
      · obtain ⟨c0, e1, e2⟩ := ha p' cv z
        exact ⟨c0, e1, hE _ _ e2 LamX.codeO_ne⟩
      · exact ⟨c, z, upd_same⟩
  · obtain ⟨ps', a1, a2, a3⟩ := hT p hp
    refine ⟨ps', by rw [upd_ne (ne_of_none a1 hc), upd_ne hb]; exact a1, a2, fun p' cv hcv => ?_⟩
    obtain ⟨c0, e1, e2⟩ := a3 p' cv hcv
    exact ⟨c0, e1, hE _ _ e2 LamX.codeO_ne⟩
section
variable {X : Cx} {pins : List (Addr × Obj)} {σ : L2.St} {H : Hp} {s : Shared}
theorem gen_code {T : List (Addr × Str)} {c P : Addr} {q : Str} {pos : Pos} {scope : Scope} {E : Value → Shared → Prop} {Q : Value → Shared → Prop} (I : Inv X pins σ H s) (TB : LamX.TabB X.base X.mg c P) (hcode : X.env.code = .ref c) (hm : (P, q) ∈ T) (hu : ∀ p ∈ T, p.1 = P → p.2 = q) (hT : LamX.Tabs T H)
    (h : ∀ code H1 s', Inv X pins σ H1 s' → LamX.ExtN H H1 → LamX.Tabs T H1 → (∀ b, H b = none → b < s.heap.objs.size → H1 b = none) → (∀ b o, H b = none → s.heap.get? b = some o → s'.heap.get? b = some o) → s.heap.objs.size ≤ s'.heap.objs.size → Q code s') :
    wpAny (model X.prog X.w) X.A (genexprCode X.env pos q scope) Q E s := by
  obtain ⟨ps, hP, ht, ha⟩ := hT _ hm
  have hPs : s.heap.get? P = some { cls := .none, data := .fields ps } := I.hok P _ hP
  have cd : PySem.W.CodeHd s.heap c P := TB.code.keeps I.bk
  have np : ∀ b, H b = none → b ≠ P := fun b e z => by rw [z, hP] at e; cases e
  cases hf : codeAmong pos ps.toList with
  | some cv => exact wpAny_genexprCode_hit hcode (cd.code hPs ht) hf (h cv H s I (LamX.ExtN.refl H) hT (fun _ e _ => e) (fun _ _ _ e => e) (Nat.le_refl _))
  | none =>
    refine wpAny_genexprCodeX hcode (cd.code hPs ht) (cd.tab hPs) hf fun c' h' tk hx hge hlt hco hrec htab _ => ?_
    obtain ⟨c2, oc, vs, t, e2, hoc, hd, hv⟩ := hrec
    cases e2
    have nC : H c' = none := I.hok.fresh hge
    obtain ⟨eN, T1⟩ := tabs_grow (pos := pos) hT hP nC hu ht ha
    refine h _ _ _ (LamX.inv_table (t' := tk) (more := #[rawInt pos.line, rawInt pos.col, .ref c']) (h' := h') (c := c') (q := q) I hP (fun b o hb e => hx b o hb e) htab.2 hge ⟨oc, vs, t, hoc, hd, hv⟩) eN T1 (fun b e hb => ?_) (fun b o e e1 => hx b o (np b e) e1) (Nat.le_trans hge (Nat.le_of_lt hlt))
    rw [upd_ne (Nat.ne_of_lt (Nat.lt_of_lt_of_le hb hge)), upd_ne (np b e)]
    exact e
/-- a generator made: its frame's context, its iterator, its state -/
def MadeG (X : Cx) (pins : List (Addr × Obj)) (σ : L2.St) (scope : Scope) (own : List (Str × Nat)) (tgt iter elt : Expr) (pos : Pos) (J : It) (H2 : Hp) (a : Addr) (s5 : Shared) : Prop :=
  ∃ (s4 : Shared) (code : Value) (it : Addr) (fp : List Addr) (tn : Nat → Heap → Prop) (g : Nat) (obj : Obj), Inv X pins σ H2 s4 ∧
    Inv (genCx X (X.A.in1.in1.over (.compLoop (.GeneratorExp elt [⟨tgt, iter, [], 0⟩] scope pos) 0 (.ref it) .none (gEnv X scope s4.heap.objs.size code builtinsNs)) []) s4 H2 scope code builtinsNs fp [(a, obj)]) [] (L2.wipe σ (own.map (·.2))) H2 s5 ∧
    Turn X.prog X.w X.K tgt J fp it tn ∧ tn 0 s5.heap ∧ (∀ b ∈ fp, FpOk X pins H2 b ∧ b < s4.heap.objs.size) ∧ (∀ h : Heap, h.get? a = some obj → h.IsGen a g) ∧
    s5.gens[g]? = some (.fresh (.compStart (.GeneratorExp elt [⟨tgt, iter, [], 0⟩] scope pos) 0 (.ref it) .none (gEnv X scope s4.heap.objs.size code builtinsNs))) ∧ s4.heap.objs.size < a ∧ s5.os = s4.os
theorem gen_make {T : List (Addr × Str)} {c P : Addr} {elt tgt iter : Expr} {scope : Scope} {own : List (Str × Nat)} {pos : Pos} {wi : TI} {Rr : It → Hp → Prop} {Q : Value → Shared → Prop} (hc : X.calm = true) (hN : X.N.Nodup) (S : GenSc X.N X.env.scope scope own) (TB : LamX.TabB X.base X.mg c P) (hcode : X.env.code = .ref c)
    (hm : (P, X.env.qual ++ "<genexpr>") ∈ T) (hu : ∀ p ∈ T, p.1 = P → p.2 = X.env.qual ++ "<genexpr>") (hroom : X.A.depth < recursionLimit) (hi : PI X tgt iter wi) (hs : ∀ v, genFold iter X.env v = pure v) (I : Inv X pins σ H s) (h : wi σ H fun J H1 => LamX.Tabs T H1 ∧ Rr J H1)
    (hQ : ∀ J H1 H2 a s5, Rr J H1 → LamX.ExtN H1 H2 → LamX.Tabs T H2 → MadeG X pins σ scope own tgt iter elt pos J H2 a s5 → Q (.ref a) s5) : wpAny (model X.prog X.w) X.A (eval (.GeneratorExp elt [⟨tgt, iter, [], 0⟩] scope pos) X.env) Q X.xe s := by
  have fr : ∀ y ∈ scope.names, y.2 = .free → ∃ c, X.env.cells.lookup y.1 = some c := fun y hy e => by
    rcases S.free y hy e with k | k
    · exact I.ok.has _ (.inl k)
    · exact I.ok.has _ (.inr k)
  refine wpAny_GeneratorExp_make S.co (closure_ok fr) S.cell S.dot S.kind hroom ?_ hs
  refine thn (hi.run pins s σ H _ I h) fun v s1 h1 => thn h1 fun itv s2 h2 => ?_
  obtain ⟨it, fp, tn, J, H2, rfl, I2, Tn, t2, f2, hT, hR⟩ := h2
  refine ⟨I2.nolimit, gen_code I2 TB hcode hm hu hT fun code H3 s3 I3 eN T3 fn hk hsz => ?_⟩
  obtain ⟨bm, ob, e1, e2, e3, e4, e5, e6, e7, e8⟩ := TB.bm
  refine wpAny_builtinsFor (m := X.mg) (by rw [I3.ok.glob]; exact I3.mod.glob.keeps I3.bk) e1 e2 (I3.bk _ _ e5) e6 e7 e8 ?_
  intro h' hn' hs'
  have sz' : h'.objs.size = s3.heap.objs.size + 1 := by rw [hs'.1, Heap.size_push]
  have keep' : ∀ b o, s3.heap.get? b = some o → h'.get? b = some o := fun b o e => hs'.extBut b o (Nat.ne_of_lt (Heap.lt_size e)) (Heap.get?_push_of_some _ e)
  have flt : ∀ b ∈ fp, b < s3.heap.objs.size := fun b hb => by
    obtain ⟨o, e, _⟩ := Tn.obj _ _ t2 b hb
    exact Nat.lt_of_lt_of_le (Heap.lt_size e) hsz
  have hfp : ∀ b ∈ fp, FpOk X pins H3 b ∧ b < s3.heap.objs.size := fun b hb => by
    obtain ⟨o, e, _⟩ := Tn.obj _ _ t2 b hb
    exact ⟨⟨fn b (f2 b hb).1 (Heap.lt_size e), (f2 b hb).2⟩, flt b hb⟩
  refine hQ J H2 H3 _ _ hR eN T3 ⟨s3, code, it, fp, tn, s3.gens.size, { cls := .type "generator", data := .fields #[.int s3.gens.size 0, .str "<genexpr>" (s3.toks + 1), .str (X.env.qual ++ "<genexpr>") (s3.toks + 1 + 1)] }, I3, gen_start (A := X.A.in1.in1.over (.compLoop (.GeneratorExp elt [⟨tgt, iter, [], 0⟩] scope pos) 0 (.ref it) .none (gEnv X scope s3.heap.objs.size code builtinsNs)) []) I3 hfp S hN (I3.ok.hd hc) ?_ (I3.bare.push rfl) (fun p hp => ?_) (hn'.push _) (fun b o e => Heap.get?_push_of_some _ (keep' b o e)), Tn, Tn.keep _ _ _ t2 fun b hb o e => Heap.get?_push_of_some _ (keep' b o (hk b o (f2 b hb).1 e)), hfp, fun h e => ⟨_, _, _, e, rfl, rfl, rfl⟩, Array.getElem?_push_size .., by omega, rfl⟩
  · show (X.A.frames.map fun x => [_] ++ x) = _
    rw [I3.ok.frames]
    rfl
  · obtain rfl := List.mem_singleton.mp hp
    exact ⟨Heap.get?_push_size _ rfl, by show s3.heap.objs.size < h'.objs.size; omega, fun v z => by cases z⟩
end

/-! ### any(..), all(..) called -/
section
variable {X : Cx} {pins : List (Addr × Obj)} {σ : L2.St} {H : Hp} {s : Shared}
theorem gen_back {A : Around} {scope : Scope} {code : Value} {fp : List Addr} {pn : List (Addr × Obj)} {s4 s' : Shared} {H' : Hp} {σ' : L2.St} (I : Inv X pins σ H s4) (hfp : ∀ b ∈ fp, FpOk X pins H b ∧ b < s4.heap.objs.size)
    (I' : Inv (genCx X A s4 H scope code builtinsNs fp pn) [] σ' H' s') : Inv X pins σ H' s' :=
  I.call' (ch := fp) I'.os I'.base I'.hok I'.bare fun b hb => ⟨(hfp b hb).1.2.2.2.1, (hfp b hb).1.2.1, (hfp b hb).1.2.2.2.2.1, (hfp b hb).1.2.2.2.2.2⟩
/-- what is known of the frames a generator expression may run in -/
def GenRun (X : Cx) (scope : Scope) (tgt elt iter : Expr) (pos : Pos) (gr : TG) (te : TE) : Prop := ∀ (s4 : Shared) (H2 : Hp) (code : Value) (it a : Addr) (fp : List Addr) (obj : Obj),
  PG (genCx X (X.A.in1.in1.over (.compLoop (.GeneratorExp elt [⟨tgt, iter, [], 0⟩] scope pos) 0 (.ref it) .none (gEnv X scope s4.heap.objs.size code builtinsNs)) []) s4 H2 scope code builtinsNs fp [(a, obj)]) tgt gr ∧
  PE (genCx X (X.A.in1.in1.over (.compLoop (.GeneratorExp elt [⟨tgt, iter, [], 0⟩] scope pos) 0 (.ref it) .none (gEnv X scope s4.heap.objs.size code builtinsNs)) []) s4 H2 scope code builtinsNs fp [(a, obj)]) elt te
/-- the turns ahead, and what their end gives -/
def tTurns (J : It) (gr : TG) (te : TE) (st : Bool → Bool) (e h : Bool) (vs : List Nat) (σ : L2.St) (H : Hp) (Q : VK) : Prop := ∃ (m : Nat) (Wt : Nat → Nat → L2.St → Hp → Prop) (Qe Qh : Hp → Prop), Wt 0 m (L2.wipe σ vs) H ∧ Turns J gr te st Qe Qh Wt ∧ (∀ H', Qe H' → Q (.bl e) H') ∧ ∀ H', Qh H' → Q (.bl h) H'
theorem gen_state {scope : Scope} {own : List (Str × Nat)} {tgt iter elt : Expr} {pos : Pos} {gr : TG} {te : TE} {J : It} {H2 : Hp} {a : Addr} {s5 : Shared} {st : Bool → Bool} {Qe Qh : Hp → Prop} {Wt : Nat → Nat → L2.St → Hp → Prop} {m : Nat} {R : Nat → Cx → List Addr → (Nat → Heap → Prop) → Prop}
    (hc : X.calm = true) (S : GenSc X.N X.env.scope scope own) (G : GenRun X scope tgt elt iter pos gr te) (M : MadeG X pins σ scope own tgt iter elt pos J H2 a s5) (w : Wt 0 m (L2.wipe σ (own.map (·.2))) H2) (hw : Turns J gr te st Qe Qh Wt)
    (k : ∀ (g : Nat) (Y : Cx) (fp : List Addr) (tn : Nat → Heap → Prop), Y.prog = X.prog → Y.w = X.w → (∀ σ' H' s', Inv Y [] σ' H' s' → s'.heap.IsGen a g) → (∀ σ' H' s', Inv Y [] σ' H' s' → Inv X pins σ H' s') → GState X.A.in1 g Y fp tn Wt st Qe Qh (m + 1) s5 → R g Y fp tn) : ∃ g Y fp tn, R g Y fp tn := by
  obtain ⟨s4, code, it, fp, tn, g, obj, I4, I5, T, t5, hfp, hgo, hg5, ha, hos⟩ := M
  obtain ⟨hG, hE⟩ := G s4 H2 code it a fp obj
  refine ⟨g, (genCx X (X.A.in1.in1.over (.compLoop (.GeneratorExp elt [⟨tgt, iter, [], 0⟩] scope pos) 0 (.ref it) .none (gEnv X scope s4.heap.objs.size code builtinsNs)) []) s4 H2 scope code builtinsNs fp [(a, obj)]), fp, tn, k g (genCx X (X.A.in1.in1.over (.compLoop (.GeneratorExp elt [⟨tgt, iter, [], 0⟩] scope pos) 0 (.ref it) .none (gEnv X scope s4.heap.objs.size code builtinsNs)) []) s4 H2 scope code builtinsNs fp [(a, obj)]) fp tn rfl rfl (fun σ' H' s' I' => hgo _ (I'.pin (a, obj) (List.mem_append_left _ (List.mem_singleton.mpr rfl))).1) (fun σ' H' s' I' => gen_back I4 hfp I') ⟨_, 0, m, hg5, Nat.lt_succ_self m, ⟨?_, _, _, I5, t5, fun b hb => (hfp b hb).1.1, w⟩, fun s'' gj => ⟨rfl, seg_begin (Y := (genCx X (X.A.in1.in1.over (.compLoop (.GeneratorExp elt [⟨tgt, iter, [], 0⟩] scope pos) 0 (.ref it) .none (gEnv X scope s4.heap.objs.size code builtinsNs)) []) s4 H2 scope code builtinsNs fp [(a, obj)])) rfl rfl rfl T hG hE hw S.co (fun b hb => ?_) (m + 1) 0 m s'' s'' (Nat.lt_succ_self m) gj⟩⟩⟩
  · exact (Array.getElem?_eq_some_iff.mp hg5).1
  · obtain ⟨⟨q0, q1, q2, q3, q4, q5⟩, lt⟩ := hfp b hb
    refine ⟨Nat.ne_of_lt lt, fun z => ?_, .inl hb, fun y c e => ?_, fun p hp => ?_⟩
    · exact (List.mem_cons.mp (I4.stkSub b z)).elim q1 q2
    · rcases cloFrom_mem (PySem.mem_of_lookup e) with hm | ⟨h1, h2⟩
      · cases hm
      · have h1' : (y, NameKind.free) ∈ scope.names := h1
        have := (S.free _ h1' rfl)
        obtain ⟨c1, hc1⟩ : ∃ c, X.env.cells.lookup y = some c := this.elim (fun k => I4.ok.has _ (.inl k)) fun k => I4.ok.has _ (.inr k)
        rw [h2, hc1]
        exact q4 y c1 hc1
    · have hp' : p ∈ [(a, obj)] ++ [] := hp
      rw [List.append_nil] at hp'
      obtain rfl := List.mem_singleton.mp hp'
      exact fun z => by
        have z : a = b := z
        subst z
        exact absurd (Nat.lt_trans ha lt) (Nat.lt_irrefl _)

/-- behind the iterable and the code, the turns -/
def tGen (T : List (Addr × Str)) (wi : TI) (gr : TG) (te : TE) (st : Bool → Bool) (e h : Bool) (vs : List Nat) : TE := fun σ H Q => wi σ H fun J H1 => LamX.Tabs T H1 ∧ ∀ H2, LamX.ExtN H1 H2 → LamX.Tabs T H2 → tTurns J gr te st e h vs σ H2 Q
theorem pe_anyG {T : List (Addr × Str)} {c P : Addr} {elt tgt iter : Expr} {scope : Scope} {own : List (Str × Nat)} {p pos cpos : Pos} {wi : TI} {gr : TG} {te : TE} (hc : X.calm = true) (hN : X.N.Nodup) (S : GenSc X.N X.env.scope scope own) (TB : LamX.TabB X.base X.mg c P) (hcode : X.env.code = .ref c)
    (hm : (P, X.env.qual ++ "<genexpr>") ∈ T) (hu : ∀ p ∈ T, p.1 = P → p.2 = X.env.qual ++ "<genexpr>") (hroom : X.A.depth + 2 < recursionLimit) (hgl : Gl X "any") (hmg : X.mg "any" = none) (hi : PI X tgt iter wi) (hs : ∀ v, genFold iter X.env v = pure v) (G : GenRun X scope tgt elt iter pos gr te)
    (he : starEach [.GeneratorExp elt [⟨tgt, iter, [], 0⟩] scope pos] X.env = (false, eval (.GeneratorExp elt [⟨tgt, iter, [], 0⟩] scope pos) X.env) :: starEach [] X.env := by rfl) :
    PE X (.Call (.Name "any" p) [.GeneratorExp elt [⟨tgt, iter, [], 0⟩] scope pos] [] cpos) (tGen T wi gr te (fun b => b) false true (own.map (·.2))) := by
  refine ⟨fun pins s σ H Q I h => ?_⟩
  refine wpAny_Call_Name_kw (ld_blt I hgl hmg boot_any ?_)
  refine PyProof.Rows.callWith_builtin1 ?_ he (by rfl)
  rw [he]
  show wpAny _ _ (spliced ((false, eval (.GeneratorExp elt [⟨tgt, iter, [], 0⟩] scope pos) X.env) :: backTo cpos (starEach [] X.env))) _ _ s
  refine Calls.spliced_cons (gen_make (Rr := fun J H1 => ∀ H2, LamX.ExtN H1 H2 → LamX.Tabs T H2 → tTurns J gr te (fun b => b) false true (own.map fun q : Str × Nat => q.2) σ H2 Q) hc hN S TB hcode hm hu (by omega) hi hs I h fun J H1 H2 a s5 hR eN T2 M => ?_)
  obtain ⟨m, Wt, Qe, Qh, w, hw, qe, qh⟩ := hR H2 eN T2
  refine Calls.spliced_nil ?_
  have hh : X.A.handled = none := I.ok.hd hc
  obtain ⟨g, Y, fp, tn, hp, hwd, hg, hb, S5⟩ := gen_state (R := fun g Y fp tn => Y.prog = X.prog ∧ Y.w = X.w ∧ (∀ σ' H' s', Inv Y [] σ' H' s' → s'.heap.IsGen a g) ∧ (∀ σ' H' s', Inv Y [] σ' H' s' → Inv X pins σ H' s') ∧ GState X.A.in1 g Y fp tn Wt (fun b => b) Qe Qh (m + 1) s5) hc S G M w hw fun g Y fp tn h1 h2 h3 h4 h5 => ⟨h1, h2, h3, h4, h5⟩
  refine call_function_tree F.kind_any F.plain_any F.entry_any (F.args_any1 _) ?_
  unfold Builtin.«any»
  refine wpAny_bind (m := oneArg "any" _) (wpAny_pure ?_)
  refine wpAny_bind (wpAny_pyIter_gen (g := g) ?_ ?_)
  · obtain ⟨gs, i, m', e5, hm', ⟨_, σ', H', I', _⟩, _⟩ := S5
    exact hg _ _ _ I'
  rw [← hp, ← hwd]
  exact wpAny_pure ⟨plainId_quiet F.plain_any_loop _, any_loop (A := X.A) hh (by omega) hg (fun σ' H' s' I' q => ⟨.bl false, H', hb _ _ _ I', rfl, qe _ q⟩) (fun σ' H' s' I' q => ⟨.bl true, H', hb _ _ _ I', rfl, qh _ q⟩) (m + 1) s5 S5⟩
theorem pe_allG {T : List (Addr × Str)} {c P : Addr} {elt tgt iter : Expr} {scope : Scope} {own : List (Str × Nat)} {p pos cpos : Pos} {wi : TI} {gr : TG} {te : TE} (hc : X.calm = true) (hN : X.N.Nodup) (S : GenSc X.N X.env.scope scope own) (TB : LamX.TabB X.base X.mg c P) (hcode : X.env.code = .ref c)
    (hm : (P, X.env.qual ++ "<genexpr>") ∈ T) (hu : ∀ p ∈ T, p.1 = P → p.2 = X.env.qual ++ "<genexpr>") (hroom : X.A.depth + 2 < recursionLimit) (hgl : Gl X "all") (hmg : X.mg "all" = none) (hi : PI X tgt iter wi) (hs : ∀ v, genFold iter X.env v = pure v) (G : GenRun X scope tgt elt iter pos gr te)
    (he : starEach [.GeneratorExp elt [⟨tgt, iter, [], 0⟩] scope pos] X.env = (false, eval (.GeneratorExp elt [⟨tgt, iter, [], 0⟩] scope pos) X.env) :: starEach [] X.env := by rfl) :
    PE X (.Call (.Name "all" p) [.GeneratorExp elt [⟨tgt, iter, [], 0⟩] scope pos] [] cpos) (tGen T wi gr te (fun b => !b) true false (own.map (·.2))) := by
  refine ⟨fun pins s σ H Q I h => ?_⟩
  refine wpAny_Call_Name_kw (ld_blt I hgl hmg boot_all ?_)
  refine PyProof.Rows.callWith_builtin1 ?_ he (by rfl)
  rw [he]
  show wpAny _ _ (spliced ((false, eval (.GeneratorExp elt [⟨tgt, iter, [], 0⟩] scope pos) X.env) :: backTo cpos (starEach [] X.env))) _ _ s
  refine Calls.spliced_cons (gen_make (Rr := fun J H1 => ∀ H2, LamX.ExtN H1 H2 → LamX.Tabs T H2 → tTurns J gr te (fun b => !b) true false (own.map fun q : Str × Nat => q.2) σ H2 Q) hc hN S TB hcode hm hu (by omega) hi hs I h fun J H1 H2 a s5 hR eN T2 M => ?_)
  obtain ⟨m, Wt, Qe, Qh, w, hw, qe, qh⟩ := hR H2 eN T2
  refine Calls.spliced_nil ?_
  have hh : X.A.handled = none := I.ok.hd hc
  obtain ⟨g, Y, fp, tn, hp, hwd, hg, hb, S5⟩ := gen_state (R := fun g Y fp tn => Y.prog = X.prog ∧ Y.w = X.w ∧ (∀ σ' H' s', Inv Y [] σ' H' s' → s'.heap.IsGen a g) ∧ (∀ σ' H' s', Inv Y [] σ' H' s' → Inv X pins σ H' s') ∧ GState X.A.in1 g Y fp tn Wt (fun b => !b) Qe Qh (m + 1) s5) hc S G M w hw fun g Y fp tn h1 h2 h3 h4 h5 => ⟨h1, h2, h3, h4, h5⟩
  refine call_function_tree F.kind_all F.plain_all F.entry_all (F.args_all1 _) ?_
  unfold Builtin.«all»
  refine wpAny_bind (m := oneArg "all" _) (wpAny_pure ?_)
  refine wpAny_bind (wpAny_pyIter_gen (g := g) ?_ ?_)
  · obtain ⟨gs, i, m', e5, hm', ⟨_, σ', H', I', _⟩, _⟩ := S5
    exact hg _ _ _ I'
  rw [← hp, ← hwd]
  exact wpAny_pure ⟨plainId_quiet F.plain_all_loop _, all_loop (A := X.A) hh (by omega) hg (fun σ' H' s' I' q => ⟨.bl true, H', hb _ _ _ I', rfl, qe _ q⟩) (fun σ' H' s' I' q => ⟨.bl false, H', hb _ _ _ I', rfl, qh _ q⟩) (m + 1) s5 S5⟩
end

/-! ### the layer's rule -/
theorem Room_gen {k : Nat} {A : Around} {elt tgt iter : Expr} {scope : Scope} {pos : Pos} {it : Addr} {env : PySem.Env} (r : Room (k + 1) A) : Room k (A.in1.in1.over (.compLoop (.GeneratorExp elt [⟨tgt, iter, [], 0⟩] scope pos) 0 (.ref it) .none env) []) :=
  ⟨r.hd, by have := r.dp; show A.depth + 0 + 1 + 3 * k + 5 < _; omega, by have := r.un; show A.units + 1 + 1 + 0 + 3 + 16 * k + 200 < _; omega⟩
/-- any (st = id, e = false, h = true), all (st = not, e = true, h = false) -/
def anyL (t : Tg) (fe : FE) (st : Bool → Bool) (e h : Bool) (inv : Hs → Bool) : List D → Env → Hs → R D
  | [], _, hs => if inv hs then .ok (.p (.bl e)) hs else .bad
  | d :: ds, env, hs => if inv hs then (match t.bind d env hs with
    | some e1 => (match fe e1 hs with
      | .ok (.p (.bl b)) h1 => if st b then .ok (.p (.bl h)) h1 else anyL t fe st e h inv ds env h1
      | _ => .bad)
    | none => .bad) else .bad
def cGen (st : Bool → Bool) (e h : Bool) (fi : FI) (t : Tg) (fe : FE) (vs : List Nat) : FE := fun env hs => (fi env hs).bind fun it h1 => anyL t fe st e h it.2 it.1 (wipeE env vs) h1
abbrev cAny := cGen (fun b => b) false true
abbrev cAll := cGen (fun b => !b) true false
theorem anyL_noex {t : Tg} {fe : FE} {st : Bool → Bool} {e h : Bool} {inv : Hs → Bool} : ∀ (ds : List D) (env : Env) (hs : Hs) (c : Nat) (fs : List (Str × P)) (h' : Hs), anyL t fe st e h inv ds env hs ≠ .ex c fs h'
  | [], env, hs, c, fs, h', q => by
    unfold anyL at q
    split at q <;> cases q
  | d :: ds, env, hs, c, fs, h', q => by
    unfold anyL at q
    split at q
    · split at q
      · split at q
        · split at q
          · cases q
          · exact anyL_noex ds env _ c fs h' q
        · cases q
      · cases q
    · cases q
theorem wipe_none {σ : L2.St} {i : Nat} (hi : i < σ.length) : ∀ {vs : List Nat}, i ∈ vs → (L2.wipe σ vs)[i]? = some none := fun {vs} h => by
  rw [wipe_get vs σ i hi, if_pos h]
theorem wipeE_mem {i : Nat} : ∀ {vs : List Nat} {env : Env} {d : D}, i ∈ vs → (wipeE env vs)[i]? = some (some d) → False
  | v :: vs, env, d, h, e => by
    unfold wipeE at e
    by_cases hv : v = i
    · subst hv
      have hl : v < ((wipeE env vs).set v none).length := (List.getElem?_eq_some_iff.mp e).1
      rw [List.getElem?_set_self (by simpa using hl)] at e
      cases e
    · rw [List.getElem?_set_ne hv] at e
      exact wipeE_mem ((List.mem_cons.mp h).resolve_left (Ne.symm hv)) e
theorem REnv.out {K : PySem.W.Frag} {cs : Tx} {g : Gh} {n : Nat} {env : Env} {σ σ' : L2.St} {vs : List Nat} (E : REnv K cs g n (wipeE env vs) (L2.wipe σ vs)) (o : Out vs (L2.wipe σ vs) σ') : REnv K cs g n (wipeE env vs) σ' := by
  refine ⟨E.1.trans o.1.symm, fun i d e => ?_⟩
  by_cases hv : i ∈ vs
  · exact (wipeE_mem hv e).elim
  · obtain ⟨v, h1, h2⟩ := E.2 i d e
    exact ⟨v, by rw [o.2 i hv]; exact h1, h2⟩
theorem gen_core {K : PySem.W.Frag} {cs : Tx} {fi : FI} {t : Tg} {fe : FE} {vs : List Nat} {W : WX} {σ : L2.St} {H : Hp} {Q : VK} {st : Bool → Bool} {e h : Bool} (hv : ∀ i, i ∈ t.slots → i ∈ vs) (F : tE K cs W (cGen st e h fi t fe vs) σ H Q) :
    tGen cs.tabs (tI K cs W fi) (t.rd K) (tE K cs wF fe) st e h vs σ H Q := by
  obtain ⟨g, env, hs, R, E, F⟩ := F
  refine ⟨g, env, hs, R, E, ?_⟩
  unfold cGen at F
  cases q : fi env hs with
  | bad => rw [q] at F; exact F
  | ex c fs h' => rw [q] at F; exact F
  | ok it h1 =>
    rw [q] at F
    intro g1 J H1 S1 R1 it1
    refine ⟨R1.tabs, fun H2 eN T2 => ?_⟩
    obtain ⟨R2, S2⟩ := R1.extN eN T2
    have E2 := ((E.step S1).step S2).wipe vs
    have F1 := EndR.shift (S1.trans S2) F
    dsimp only [Ar.R.bind] at F1
    refine ⟨it.1.length, fun i m σ' H' => ∃ g2 h2, Step g1 h1.length H2 g2 h2.length H' ∧ Rel K cs g2 h2 H' ∧ REnv K cs g2 h2.length (wipeE env vs) σ' ∧ Out vs (L2.wipe σ vs) σ' ∧ i ≤ it.1.length ∧ m = it.1.length - i ∧
        EndR K cs (relD K cs) W σ g1 h1.length H2 Q (anyL t fe st e h it.2 (it.1.drop i) (wipeE env vs) h2), fun H' => Q (.bl e) H', fun H' => Q (.bl h) H', ⟨g1, h1, Step.refl, R2, E2, ⟨rfl, fun _ _ => rfl⟩, Nat.zero_le _, rfl, by simpa using F1⟩, ?_, fun _ z => z, fun _ z => z⟩
    rintro i m σ' H' ⟨g2, h2, S3, R3, E3, o3, hi, rfl, F2⟩
    by_cases hlt : i < it.1.length
    · obtain ⟨d, hd⟩ : ∃ d, it.1[i]? = some d := ⟨it.1[i], List.getElem?_eq_getElem hlt⟩
      have hdr : it.1.drop i = d :: it.1.drop (i + 1) := by
        rw [List.drop_eq_getElem_cons hlt]
        rw [List.getElem?_eq_getElem hlt] at hd
        cases hd
        rfl
      rw [hdr] at F2
      unfold anyL at F2
      split at F2
      · rename_i hiv
        obtain ⟨go, yl⟩ := it1.go g2 h2 H' i d (S2.trans S3).soft R3 hiv hd
        refine .inr ⟨go, fun x H3 hy => ?_⟩
        obtain ⟨g3, S4, R4, V4⟩ := yl x H3 hy
        split at F2
        · rename_i env1 hb
          refine Tg.rd_ok t R4 (E3.step S4) V4 hb fun σ2 Eσ o4 => ⟨g3, env1, h2, R4, Eσ, ?_⟩
          have o5 : Out vs (L2.wipe σ vs) σ2 := ⟨o4.1.trans o3.1, fun j hj => by rw [(o4.mono hv).2 j hj, o3.2 j hj]⟩
          cases q5 : fe env1 h2 with
          | bad => simp only [q5] at F2; exact F2.elim
          | ex c fs h5 => simp only [q5] at F2; exact F2.elim
          | ok y h5 =>
            intro g5 yv H5 S5 R5 V5
            cases y with
            | loc n => simp only [q5] at F2; exact F2.elim
            | p y =>
              cases y with
              | bl b =>
                simp only [q5] at F2
                cases V5 with
                | p V5 =>
                cases V5
                have S6 := (S3.trans S4).trans S5
                refine ⟨b, rfl, fun hb1 => ?_, fun hb0 => ⟨_, by omega, g5, h5, S6, R5, ?_, o5, hlt, rfl, ?_⟩⟩
                · rw [if_pos hb1] at F2
                  exact F2 g5 _ H5 S6 R5 (.p (.bl h))
                · exact REnv.out ((E2.step S6)) o5
                · rw [if_neg (by rw [hb0]; exact Bool.false_ne_true)] at F2
                  exact F2
              | _ => simp only [q5] at F2; exact F2.elim
        · exact F2.elim
      · exact F2.elim
    · have ei : i = it.1.length := by omega
      subst ei
      rw [List.drop_length] at F2
      unfold anyL at F2
      split at F2
      · rename_i hiv
        exact .inl ⟨it1.stop g2 h2 H' (S2.trans S3).soft R3 hiv, F2 g2 _ H' S3 R3 (.p (.bl e))⟩
      · exact F2.elim

/-- the def's own table, of generator expressions -/
structure TabG (X : Cx) (cs : Tx) : Prop where
  ex : ∃ c P, LamX.TabB X.base X.mg c P ∧ X.env.code = .ref c ∧ (P, X.env.qual ++ "<genexpr>") ∈ cs.tabs ∧ ∀ p ∈ cs.tabs, p.1 = P → p.2 = X.env.qual ++ "<genexpr>"
abbrev genY (X : Cx) (scope : Scope) (tgt elt iter : Expr) (pos : Pos) (s4 : Shared) (H2 : Hp) (code : Value) (it a : Addr) (fp : List Addr) (obj : Obj) : Cx :=
  genCx X (X.A.in1.in1.over (.compLoop (.GeneratorExp elt [⟨tgt, iter, [], 0⟩] scope pos) 0 (.ref it) .none (gEnv X scope s4.heap.objs.size code builtinsNs)) []) s4 H2 scope code builtinsNs fp [(a, obj)]
section
variable {X : Cx} {cs : Tx} {k : Nat} {elt tgt iter : Expr} {scope : Scope} {own : List (Str × Nat)} {p pos cpos : Pos} {fi : FI} {t : Tg} {fe : FE}
theorem gAny (B : TabG X cs) (hr : Room (k + 1) X.A) (hm : X.mg "any" = none) (hc : X.calm = true) (hN : X.N.Nodup) (gi : GI X cs tgt iter fi) (S : genB X.N X.env.scope scope own = true)
    (gg : ∀ (s4 : Shared) (H2 : Hp) (code : Value) (it a : Addr) (fp : List Addr) (obj : Obj), GTg (genY X scope tgt elt iter pos s4 H2 code it a fp obj) tgt t)
    (ge : ∀ (s4 : Shared) (H2 : Hp) (code : Value) (it a : Addr) (fp : List Addr) (obj : Obj), Room k (genY X scope tgt elt iter pos s4 H2 code it a fp obj).A → GE (genY X scope tgt elt iter pos s4 H2 code it a fp obj) cs elt fe)
    (hv : ∀ i, i ∈ t.slots → i ∈ own.map (·.2)) (hg : Gl X "any" := by rfl) (hs : ∀ v, genFold iter X.env v = pure v := by intro _; rfl)
    (he : starEach [.GeneratorExp elt [⟨tgt, iter, [], 0⟩] scope pos] X.env = (false, eval (.GeneratorExp elt [⟨tgt, iter, [], 0⟩] scope pos) X.env) :: starEach [] X.env := by rfl) :
    GE X cs (.Call (.Name "any" p) [.GeneratorExp elt [⟨tgt, iter, [], 0⟩] scope pos] [] cpos) (cAny fi t fe (own.map (·.2))) := fun W tk => by
  obtain ⟨c, P, TB, hcode, hm1, hu⟩ := B.ex
  exact PE.imp (pe_anyG (gr := t.rd X.K) (te := tE X.K cs wF fe) hc hN (genSc_by S) TB hcode hm1 hu (by have := hr.dp; omega) hg hm (gi W tk) hs (fun s4 H2 code it a fp obj => ⟨gg s4 H2 code it a fp obj, ge s4 H2 code it a fp obj (Room_gen hr) wF takesF⟩) he) fun σ H Q h => gen_core hv h
theorem gAll (B : TabG X cs) (hr : Room (k + 1) X.A) (hm : X.mg "all" = none) (hc : X.calm = true) (hN : X.N.Nodup) (gi : GI X cs tgt iter fi) (S : genB X.N X.env.scope scope own = true)
    (gg : ∀ (s4 : Shared) (H2 : Hp) (code : Value) (it a : Addr) (fp : List Addr) (obj : Obj), GTg (genY X scope tgt elt iter pos s4 H2 code it a fp obj) tgt t)
    (ge : ∀ (s4 : Shared) (H2 : Hp) (code : Value) (it a : Addr) (fp : List Addr) (obj : Obj), Room k (genY X scope tgt elt iter pos s4 H2 code it a fp obj).A → GE (genY X scope tgt elt iter pos s4 H2 code it a fp obj) cs elt fe)
    (hv : ∀ i, i ∈ t.slots → i ∈ own.map (·.2)) (hg : Gl X "all" := by rfl) (hs : ∀ v, genFold iter X.env v = pure v := by intro _; rfl)
    (he : starEach [.GeneratorExp elt [⟨tgt, iter, [], 0⟩] scope pos] X.env = (false, eval (.GeneratorExp elt [⟨tgt, iter, [], 0⟩] scope pos) X.env) :: starEach [] X.env := by rfl) :
    GE X cs (.Call (.Name "all" p) [.GeneratorExp elt [⟨tgt, iter, [], 0⟩] scope pos] [] cpos) (cAll fi t fe (own.map (·.2))) := fun W tk => by
  obtain ⟨c, P, TB, hcode, hm1, hu⟩ := B.ex
  exact PE.imp (pe_allG (gr := t.rd X.K) (te := tE X.K cs wF fe) hc hN (genSc_by S) TB hcode hm1 hu (by have := hr.dp; omega) hg hm (gi W tk) hs (fun s4 H2 code it a fp obj => ⟨gg s4 H2 code it a fp obj, ge s4 H2 code it a fp obj (Room_gen hr) wF takesF⟩) he) fun σ H Q h => gen_core hv h
end
theorem tabG_of {X : Cx} {cs : Tx} {at_ : He.Defn} (hc : X.env.code = .ref (He.codeOf X.K at_)) (TB : LamX.TabB X.base X.mg (He.cT X.K at_).1 (He.cT X.K at_).2) (hm : ((He.cT X.K at_).2, X.env.qual ++ "<genexpr>") ∈ cs.tabs) (hu : ∀ p ∈ cs.tabs, p.1 = (He.cT X.K at_).2 → p.2 = X.env.qual ++ "<genexpr>") : TabG X cs := ⟨_, _, TB, hc, hm, hu⟩
end Ar
namespace Ar
open PySem PySem.Spec PyProof.Rows L2
/-! ### more: list(range(..)) and the like -/
theorem bind_assoc {α β γ : Type} (r : R α) (f : α → Hs → R β) (k : β → Hs → R γ) : (r.bind f).bind k = r.bind fun a h => (f a h).bind k := by cases r <;> rfl
theorem bind_ok' {α β : Type} (a : α) (h : Hs) (k : α → Hs → R β) : (R.ok a h).bind k = k a h := rfl
def rgOk (a b : Int) : Bool := decide (-1000000000 ≤ a ∧ a ≤ 1000000000 ∧ -1000000000 ≤ b ∧ b ≤ 1000000000 ∧ b - a ≤ 1000000)
def rgZ (a : Int) : Nat → List Int
  | 0 => []
  | n + 1 => a :: rgZ (a + 1) n
theorem rgZ_range : ∀ (n : Nat) (a : Int), rgZ a n = (List.range n).map fun i => a + (i : Nat)
  | 0, a => rfl
  | n + 1, a => by
    rw [List.range_succ_eq_map, List.map_cons, List.map_map, rgZ, rgZ_range n (a + 1)]
    congr 1
    · simp
    · apply List.map_congr_left
      intro i _
      simp only [Function.comp]
      omega
theorem rgV_eq (a b : Int) : rgV a b = (rgZ a (b - a).toNat).map V.int := by
  rw [rgZ_range, List.map_map]; rfl
def bRg (k : List Int → Hs → R D) (ds : List D) (h : Hs) : R D := match ds with
  | [.p (.int b)] => if rgOk 0 b then k (rgZ 0 b.toNat) h else .bad
  | [.p (.int a), .p (.int b)] => if rgOk a b then k (rgZ a (b - a).toNat) h else .bad
  | _ => .bad
def bRgP := bRg fun ns h => .ok (.p (.lst (ns.map P.int))) h
def bRgT := bRg fun ns h => .ok (.p (.tup (ns.map P.int))) h
def bRgN := bRg fun ns h => .ok (.loc h.length) (h ++ [.lst (ns.map P.int)])
theorem rgOk_ok {a b : Int} (h : rgOk a b = true) : RgOk a b := by
  have h := of_decide_eq_true h
  exact ⟨by omega, by omega, by omega, by omega, by omega⟩
section
variable {X : Cx} {cs : Tx} {a b : Expr} {fa fb : FE} {p p2 pos pos2 : Pos} {K : PySem.W.Frag} {W : WX} {σ : L2.St} {g : Gh} {h : Hs} {H : Hp} {Q : VK}
/-- a new list, a new tuple: frozen; a place -/
theorem new_lstP (R : Rel K cs g h H) {ps : List P} {xs : List V} (r : RPs K cs g.G ps xs) (F : EndR K cs (relD K cs) W σ g h.length H Q (.ok (.p (.lst ps)) h)) : ∀ q, H q = none → Q (.ref q) (upd H q (.lst xs)) := fun q hq => by
  obtain ⟨R', S'⟩ := R.frozen (o := .lst xs) hq
  exact F _ (.ref q) _ S' R' (.p (.lst (.new upd_same) (r.mono S'.sub)))
theorem new_tupP (R : Rel K cs g h H) {ps : List P} {xs : List V} (r : RPs K cs g.G ps xs) (F : EndR K cs (relD K cs) W σ g h.length H Q (.ok (.p (.tup ps)) h)) : ∀ q, H q = none → Q (.ref q) (upd H q (.tup xs)) := fun q hq => by
  obtain ⟨R', S'⟩ := R.frozen (o := .tup xs) hq
  exact F _ (.ref q) _ S' R' (.p (.tup (.inl upd_same) (r.mono S'.sub)))
theorem new_lstN (R : Rel K cs g h H) {ps : List P} {xs : List V} (r : RPs K cs g.G ps xs) (F : EndR K cs (relD K cs) W σ g h.length H Q (.ok (.loc h.length) (h ++ [.lst ps]))) : ∀ q, H q = none → Q (.ref q) (upd H q (.lst xs)) := fun q hq => by
  obtain ⟨R', S'⟩ := R.place (p := q) (o := .lst ps) (u := .lst xs) (H1 := upd H q (.lst xs)) hq (fun c hc => by rw [upd_ne (fun z => hc (by rw [z]; exact hq))]) (by rw [upd_same]; exact fun z => nomatch z) ⟨xs, upd_same, r⟩
  have own : addρ g.ρ h.length q h.length = q := if_pos rfl
  have V1 := RD.loc (K := K) (cs := cs) (ρ := addρ g.ρ h.length q) (G := g.G) (n := (h ++ [O.lst ps]).length) (i := h.length) (by simp)
  rw [own] at V1
  exact F ⟨addρ g.ρ h.length q, g.G⟩ (.ref q) _ S' R' V1
def NewOk (mk : List V → HO) (k : List Int → Hs → R D) : Prop := ∀ (K : PySem.W.Frag) (cs : Tx) (g : Gh) (h : Hs) (H : Hp) (W : WX) (σ : L2.St) (Q : VK) (ns : List Int), Rel K cs g h H → EndR K cs (relD K cs) W σ g h.length H Q (k ns h) → ∀ q, H q = none → Q (.ref q) (upd H q (mk (ns.map V.int)))
theorem newOk_P : NewOk .lst fun ns h => .ok (.p (.lst (ns.map P.int))) h := fun K cs g h H W σ Q ns R F => new_lstP R (rps_ints ns) F
theorem newOk_T : NewOk .tup fun ns h => .ok (.p (.tup (ns.map P.int))) h := fun K cs g h H W σ Q ns R F => new_tupP R (rps_ints ns) F
theorem newOk_N : NewOk .lst fun ns h => .ok (.loc h.length) (h ++ [.lst (ns.map P.int)]) := fun K cs g h H W σ Q ns R F => new_lstN R (rps_ints ns) F
theorem rg_core1 {mk : List V → HO} {k : List Int → Hs → R D} (hk : NewOk mk k) (hh : tE X.K cs W (cB (bRg k) (aC fa aN)) σ H Q) : tRg1 (tE X.K cs W fa) σ H fun a b H1 => RgOk a b ∧ ∀ q, H1 q = none → Q (.ref q) (upd H1 q (mk (rgV a b))) := by
  obtain ⟨g, env, h, R, E, F⟩ := hh
  unfold cB aC aN at F
  rw [bind_assoc] at F
  refine ⟨g, env, h, R, E, F.of fun d h1 g1 x H1 _ S1 R1 V1 F1 => ?_⟩
  simp only [bind_ok'] at F1
  unfold bRg at F1
  split at F1
  · rename_i b' e
    injection e with e
    subst e
    cases V1 with
    | p r =>
      cases r
      split at F1
      · rename_i ho
        refine ⟨b', rfl, rgOk_ok ho, ?_⟩
        rw [rgV_eq]
        have : (b' - 0).toNat = b'.toNat := by rw [Int.sub_zero]
        rw [this]
        exact hk _ _ g1 h1 H1 W σ Q _ R1 F1
      · exact F1.elim
  · rename_i e; cases e
  · exact F1.elim
theorem rg_core2 {mk : List V → HO} {k : List Int → Hs → R D} (hk : NewOk mk k) (hh : tE X.K cs W (cB (bRg k) (aC fa (aC fb aN))) σ H Q) : tRg2 (tE X.K cs W fa) (tE X.K cs W fb) σ H fun a b H1 => RgOk a b ∧ ∀ q, H1 q = none → Q (.ref q) (upd H1 q (mk (rgV a b))) := by
  obtain ⟨g, env, h, R, E, F⟩ := hh
  unfold cB aC aN at F
  rw [bind_assoc] at F
  refine ⟨g, env, h, R, E, F.of fun d h1 g1 x H1 _ S1 R1 V1 F1 => ⟨g1, env, h1, R1, E.step S1, ?_⟩⟩
  rw [bind_assoc, bind_assoc] at F1
  refine F1.of fun e h2 g2 y H2 _ S2 R2 V2 F2 => ?_
  have V1' := V1.step S2
  simp only [bind_ok'] at F2
  unfold bRg at F2
  split at F2
  · rename_i e; cases e
  · rename_i a' b' e
    injection e with e1 e
    injection e with e2 e
    subst e1 e2
    cases V1' with
    | p r1 =>
      cases r1
      cases V2 with
      | p r2 =>
        cases r2
        split at F2
        · rename_i ho
          refine ⟨a', b', rfl, rfl, rgOk_ok ho, ?_⟩
          rw [rgV_eq]
          exact hk _ _ g2 h2 H2 W σ Q _ R2 F2
        · exact F2.elim
  · exact F2.elim
theorem gListRg1 (hc : X.calm = true) (hm : X.mg "list" = none) (hm2 : X.mg "range" = none) (ga : GE X cs a fa) (hg : Gl X "list" := by rfl) (hg2 : Gl X "range" := by rfl)
    (n1 : starEach [a] X.env = (false, eval a X.env) :: starEach [] X.env := by rfl) (n2 : starEach [.Call (.Name "range" p2) [a] [] pos2] X.env = (false, eval (.Call (.Name "range" p2) [a] [] pos2) X.env) :: starEach [] X.env := by rfl) :
    GE X cs (.Call (.Name "list" p) [.Call (.Name "range" p2) [a] [] pos2] [] pos) (cB bRgP (aC fa aN)) := fun W tk => PE.imp (pe_listRg hc hg hm (prg_1 hg2 hm2 (ga W tk) n1) n2) fun σ H Q h => rg_core1 newOk_P h
theorem gListRgN1 (hc : X.calm = true) (hm : X.mg "list" = none) (hm2 : X.mg "range" = none) (ga : GE X cs a fa) (hg : Gl X "list" := by rfl) (hg2 : Gl X "range" := by rfl)
    (n1 : starEach [a] X.env = (false, eval a X.env) :: starEach [] X.env := by rfl) (n2 : starEach [.Call (.Name "range" p2) [a] [] pos2] X.env = (false, eval (.Call (.Name "range" p2) [a] [] pos2) X.env) :: starEach [] X.env := by rfl) :
    GE X cs (.Call (.Name "list" p) [.Call (.Name "range" p2) [a] [] pos2] [] pos) (cB bRgN (aC fa aN)) := fun W tk => PE.imp (pe_listRg hc hg hm (prg_1 hg2 hm2 (ga W tk) n1) n2) fun σ H Q h => rg_core1 newOk_N h
theorem gTupleRg1 (hc : X.calm = true) (hm : X.mg "tuple" = none) (hm2 : X.mg "range" = none) (ga : GE X cs a fa) (hg : Gl X "tuple" := by rfl) (hg2 : Gl X "range" := by rfl)
    (n1 : starEach [a] X.env = (false, eval a X.env) :: starEach [] X.env := by rfl) (n2 : starEach [.Call (.Name "range" p2) [a] [] pos2] X.env = (false, eval (.Call (.Name "range" p2) [a] [] pos2) X.env) :: starEach [] X.env := by rfl) :
    GE X cs (.Call (.Name "tuple" p) [.Call (.Name "range" p2) [a] [] pos2] [] pos) (cB bRgT (aC fa aN)) := fun W tk => PE.imp (pe_tupRg hc hg hm (prg_1 hg2 hm2 (ga W tk) n1) n2) fun σ H Q h => rg_core1 newOk_T h
theorem gListRg2 (hc : X.calm = true) (hm : X.mg "list" = none) (hm2 : X.mg "range" = none) (ga : GE X cs a fa) (gb : GE X cs b fb) (hg : Gl X "list" := by rfl) (hg2 : Gl X "range" := by rfl)
    (n1 : starEach [a, b] X.env = (false, eval a X.env) :: starEach [b] X.env := by rfl) (n3 : starEach [b] X.env = (false, eval b X.env) :: starEach [] X.env := by rfl) (hp : (backTo pos2 (starEach [b] X.env)).any (·.1) = false := by rfl)
    (n2 : starEach [.Call (.Name "range" p2) [a, b] [] pos2] X.env = (false, eval (.Call (.Name "range" p2) [a, b] [] pos2) X.env) :: starEach [] X.env := by rfl) :
    GE X cs (.Call (.Name "list" p) [.Call (.Name "range" p2) [a, b] [] pos2] [] pos) (cB bRgP (aC fa (aC fb aN))) := fun W tk => PE.imp (pe_listRg hc hg hm (prg_2 hg2 hm2 (ga W tk) (gb W tk) n1 n3 hp) n2) fun σ H Q h => rg_core2 newOk_P h
theorem gListRgN2 (hc : X.calm = true) (hm : X.mg "list" = none) (hm2 : X.mg "range" = none) (ga : GE X cs a fa) (gb : GE X cs b fb) (hg : Gl X "list" := by rfl) (hg2 : Gl X "range" := by rfl)
    (n1 : starEach [a, b] X.env = (false, eval a X.env) :: starEach [b] X.env := by rfl) (n3 : starEach [b] X.env = (false, eval b X.env) :: starEach [] X.env := by rfl) (hp : (backTo pos2 (starEach [b] X.env)).any (·.1) = false := by rfl)
    (n2 : starEach [.Call (.Name "range" p2) [a, b] [] pos2] X.env = (false, eval (.Call (.Name "range" p2) [a, b] [] pos2) X.env) :: starEach [] X.env := by rfl) :
    GE X cs (.Call (.Name "list" p) [.Call (.Name "range" p2) [a, b] [] pos2] [] pos) (cB bRgN (aC fa (aC fb aN))) := fun W tk => PE.imp (pe_listRg hc hg hm (prg_2 hg2 hm2 (ga W tk) (gb W tk) n1 n3 hp) n2) fun σ H Q h => rg_core2 newOk_N h
theorem gTupleRg2 (hc : X.calm = true) (hm : X.mg "tuple" = none) (hm2 : X.mg "range" = none) (ga : GE X cs a fa) (gb : GE X cs b fb) (hg : Gl X "tuple" := by rfl) (hg2 : Gl X "range" := by rfl)
    (n1 : starEach [a, b] X.env = (false, eval a X.env) :: starEach [b] X.env := by rfl) (n3 : starEach [b] X.env = (false, eval b X.env) :: starEach [] X.env := by rfl) (hp : (backTo pos2 (starEach [b] X.env)).any (·.1) = false := by rfl)
    (n2 : starEach [.Call (.Name "range" p2) [a, b] [] pos2] X.env = (false, eval (.Call (.Name "range" p2) [a, b] [] pos2) X.env) :: starEach [] X.env := by rfl) :
    GE X cs (.Call (.Name "tuple" p) [.Call (.Name "range" p2) [a, b] [] pos2] [] pos) (cB bRgT (aC fa (aC fb aN))) := fun W tk => PE.imp (pe_tupRg hc hg hm (prg_2 hg2 hm2 (ga W tk) (gb W tk) n1 n3 hp) n2) fun σ H Q h => rg_core2 newOk_T h
end

/-! ### sum, max, min of a tuple of whole numbers -/
section
variable {prog : Program} {w : World} {A : Around} {E : Value → Shared → Prop} {s : Shared} {l : Addr} {xs : Array (Int × Tok)} {its : List Value} {ns : List Int}
theorem iter_intTup {Q : Value → Shared → Prop} (hl : s.heap.IsTuple l (intItems xs))
    (h : ∀ s₂ : Shared, s₂ = { s with heap := s.heap.push { cls := .type "tuple_iterator", data := .fields #[.ref l, .int 0 0] } } →
      (s₂.heap.IsTupleIter s.heap.objs.size l 0 ∧ s₂.heap.IsTuple l (intItems xs)) → (∀ b ∈ [s.heap.objs.size, l], b < s₂.heap.objs.size) → l ≠ s.heap.objs.size → Q (.ref s.heap.objs.size) s₂) :
    wpAny (model prog w) A (pyIter (.ref l)) Q E s := by
  have hlt : l < s.heap.objs.size := by obtain ⟨_, e, _⟩ := hl; exact Heap.lt_size e
  refine wpAny_pyIter_tuple hl (h _ rfl ⟨⟨_, Heap.get?_push_size _ rfl, rfl, rfl⟩, hl.push _⟩ (fun b hb => ?_) (Nat.ne_of_lt hlt))
  show b < (s.heap.push _).objs.size
  rw [Heap.size_push]
  simp only [List.mem_cons, List.not_mem_nil, or_false] at hb
  rcases hb with rfl | rfl
  · exact Nat.lt_succ_self _
  · exact Nat.lt_succ_of_lt hlt
theorem kept_tup {h' : Heap} (hk : ∀ b o, b ∉ [s.heap.objs.size] → (s.heap.push { cls := .type "tuple_iterator", data := .fields #[.ref l, .int 0 0] }).get? b = some o → h'.get? b = some o) :
    ∀ b o, s.heap.get? b = some o → h'.get? b = some o := fun b o e => by
  refine hk b o (fun hm => ?_) (Heap.get?_push_of_some _ e)
  have e1 : b = s.heap.objs.size := by simpa using hm
  exact absurd (e1 ▸ Heap.lt_size e) (Nat.lt_irrefl _)
theorem max_intTup {Q : Value → Shared → Prop} (hh : A.handled = none) (hl : s.heap.IsTuple l (intItems xs)) (hne : 0 < xs.size)
    (h : ∀ v h' tk, (intItems xs)[argBest (fun i j => decide (numAt xs i > numAt xs j)) (xs.size - 1)]? = some v → (∀ b o, s.heap.get? b = some o → h'.get? b = some o) → Q v { s with heap := h', toks := tk }) :
    wpAny (model prog w) A (call (.builtin "max") [.ref l]) Q E s := by
  refine call_max_walk (iter_intTup hl fun s₂ e st hfp hlI => ?_)
  subst e
  exact ⟨_, _, _, _, _, _, _, rfl, Walks.tuple (A := A.in1) hh _ l hlI (intItems xs), st, hfp, by simpa [intItems] using hne, CmpOf.ints_gt (numAt xs) (fun _ _ => intItems_at), fun v h' tk hP hk =>
    h v h' tk (by simpa [intItems] using hP) (kept_tup hk)⟩
theorem min_intTup {Q : Value → Shared → Prop} (hh : A.handled = none) (hl : s.heap.IsTuple l (intItems xs)) (hne : 0 < xs.size)
    (h : ∀ v h' tk, (intItems xs)[argBest (fun i j => decide (numAt xs i < numAt xs j)) (xs.size - 1)]? = some v → (∀ b o, s.heap.get? b = some o → h'.get? b = some o) → Q v { s with heap := h', toks := tk }) :
    wpAny (model prog w) A (call (.builtin "min") [.ref l]) Q E s := by
  refine call_min_walk (iter_intTup hl fun s₂ e st hfp hlI => ?_)
  subst e
  exact ⟨_, _, _, _, _, _, _, rfl, Walks.tuple (A := A.in1) hh _ l hlI (intItems xs), st, hfp, by simpa [intItems] using hne, CmpOf.ints_lt (numAt xs) (fun _ _ => intItems_at), fun v h' tk hP hk =>
    h v h' tk (by simpa [intItems] using hP) (kept_tup hk)⟩
theorem sum_intTup {Q : Value → Shared → Prop} (hh : A.handled = none) (hl : s.heap.IsTuple l (intItems xs))
    (h : ∀ h' tk t', (∀ b o, s.heap.get? b = some o → h'.get? b = some o) → Q (.int (preSum (numAt xs) xs.size) t') { s with heap := h', toks := tk }) :
    wpAny (model prog w) A (call (.builtin "sum") [.ref l]) Q E s := by
  refine call_sum_walkG (iter_intTup hl fun s₂ e st hfp hlI => ?_)
  subst e
  refine ⟨_, _, _, _, _, _, numAt xs, rfl, Walks.tuple (A := A.in1) hh _ l hlI (intItems xs), st, hfp, (fun _ _ => intItems_at), fun h' tk t' hk => ?_⟩
  have := h h' tk t' (kept_tup hk)
  simpa [intItems] using this
theorem sum_rawT {Q : Value → Shared → Prop} (hh : A.handled = none) (hl : s.heap.IsTuple l its.toArray) (hi : IntsAre its ns)
    (h : ∀ h' tk t', (∀ b o, s.heap.get? b = some o → h'.get? b = some o) → Q (.int ns.sum t') { s with heap := h', toks := tk }) : wpAny (model prog w) A (call (.builtin "sum") [.ref l]) Q E s := by
  obtain ⟨xs, e⟩ := hi.allInts.items
  have hn : numsOf (intItems xs).toList = ns := by rw [← e]; exact hi.numsOf
  rw [nums_intItems] at hn
  rw [e] at hl
  refine sum_intTup hh hl fun h' tk t' hk => ?_
  have := h h' tk t' hk
  rw [preSum_eq, List.take_of_length_le (by simp), hn]; exact this
theorem max_rawT {Q : Value → Shared → Prop} (hh : A.handled = none) (hl : s.heap.IsTuple l its.toArray) (hi : IntsAre its ns) (hne : 0 < ns.length)
    (h : ∀ h' tk M t', (∀ b o, s.heap.get? b = some o → h'.get? b = some o) → M ∈ ns → (∀ a, a ∈ ns → a ≤ M) → Q (.int M t') { s with heap := h', toks := tk }) : wpAny (model prog w) A (call (.builtin "max") [.ref l]) Q E s := by
  obtain ⟨xs, e⟩ := hi.allInts.items
  have hn : numsOf (intItems xs).toList = ns := by rw [← e]; exact hi.numsOf
  rw [nums_intItems] at hn
  subst hn
  rw [e] at hl
  have hsz : 0 < xs.size := by simpa using hne
  refine max_intTup hh hl hsz fun v h' tk hv hk => ?_
  obtain ⟨t, rfl⟩ := intItems_at hv
  obtain ⟨h1, h2⟩ := argBest_gt (numAt xs) (xs.size - 1)
  refine h h' tk _ t hk ?_ fun a ha => ?_
  · rw [numAt_eq]; exact PySem.getD_mem (by rw [List.length_map, Array.length_toList]; omega)
  · obtain ⟨j, hj, rfl⟩ := mem_getD ha
    rw [List.length_map, Array.length_toList] at hj
    rw [← numAt_eq]; exact h2 j (by omega)
theorem min_rawT {Q : Value → Shared → Prop} (hh : A.handled = none) (hl : s.heap.IsTuple l its.toArray) (hi : IntsAre its ns) (hne : 0 < ns.length)
    (h : ∀ h' tk M t', (∀ b o, s.heap.get? b = some o → h'.get? b = some o) → M ∈ ns → (∀ a, a ∈ ns → M ≤ a) → Q (.int M t') { s with heap := h', toks := tk }) : wpAny (model prog w) A (call (.builtin "min") [.ref l]) Q E s := by
  obtain ⟨xs, e⟩ := hi.allInts.items
  have hn : numsOf (intItems xs).toList = ns := by rw [← e]; exact hi.numsOf
  rw [nums_intItems] at hn
  subst hn
  rw [e] at hl
  have hsz : 0 < xs.size := by simpa using hne
  refine min_intTup hh hl hsz fun v h' tk hv hk => ?_
  obtain ⟨t, rfl⟩ := intItems_at hv
  obtain ⟨h1, h2⟩ := argBest_lt (numAt xs) (xs.size - 1)
  refine h h' tk _ t hk ?_ fun a ha => ?_
  · rw [numAt_eq]; exact PySem.getD_mem (by rw [List.length_map, Array.length_toList]; omega)
  · obtain ⟨j, hj, rfl⟩ := mem_getD ha
    rw [List.length_map, Array.length_toList] at hj
    rw [← numAt_eq]; exact h2 j (by omega)
end
def rSumT (K : PySem.W.Frag) : List V → Hp → VK → Prop := fun vs H Q => ∃ (a : Addr) (ns : List Int), vs = [V.ref a] ∧ SqT K H a (ns.map V.int) ∧ Q (.int ns.sum) H
def rMaxT (K : PySem.W.Frag) : List V → Hp → VK → Prop := fun vs H Q => ∃ (a : Addr) (ns : List Int), vs = [V.ref a] ∧ SqT K H a (ns.map V.int) ∧ 0 < ns.length ∧ ∀ m, m ∈ ns → (∀ y, y ∈ ns → y ≤ m) → Q (.int m) H
def rMinT (K : PySem.W.Frag) : List V → Hp → VK → Prop := fun vs H Q => ∃ (a : Addr) (ns : List Int), vs = [V.ref a] ∧ SqT K H a (ns.map V.int) ∧ 0 < ns.length ∧ ∀ m, m ∈ ns → (∀ y, y ∈ ns → m ≤ y) → Q (.int m) H
section
variable {X : Cx}
theorem cr_sumT (hc : X.calm = true) : CallR X (.builtin "sum") (rSumT X.K) := by
  intro pins s σ H vs us Q I r h
  obtain ⟨a, ns, rfl, hs, q⟩ := h
  obtain ⟨its, rv, hl, _⟩ := I.tuple hs
  rw [Vals.ref1 r]
  exact sum_rawT (I.ok.hd hc) hl rv.ints fun h' tk t' hk => ⟨.int _, H, I.kept hk, ⟨_, rfl⟩, q⟩
theorem cr_maxT (hc : X.calm = true) : CallR X (.builtin "max") (rMaxT X.K) := by
  intro pins s σ H vs us Q I r h
  obtain ⟨a, ns, rfl, hs, hne, q⟩ := h
  obtain ⟨its, rv, hl, _⟩ := I.tuple hs
  rw [Vals.ref1 r]
  exact max_rawT (I.ok.hd hc) hl rv.ints hne fun h' tk m t' hk h1 h2 => ⟨.int _, H, I.kept hk, ⟨_, rfl⟩, q m h1 h2⟩
theorem cr_minT (hc : X.calm = true) : CallR X (.builtin "min") (rMinT X.K) := by
  intro pins s σ H vs us Q I r h
  obtain ⟨a, ns, rfl, hs, hne, q⟩ := h
  obtain ⟨its, rv, hl, _⟩ := I.tuple hs
  rw [Vals.ref1 r]
  exact min_rawT (I.ok.hd hc) hl rv.ints hne fun h' tk m t' hk h1 h2 => ⟨.int _, H, I.kept hk, ⟨_, rfl⟩, q m h1 h2⟩
def rSumA (K : PySem.W.Frag) : List V → Hp → VK → Prop := fun xs H Q => rSum K xs H Q ∨ rSumT K xs H Q
def rMaxA (K : PySem.W.Frag) : List V → Hp → VK → Prop := fun xs H Q => rMax K xs H Q ∨ rMaxT K xs H Q
def rMinA (K : PySem.W.Frag) : List V → Hp → VK → Prop := fun xs H Q => rMin K xs H Q ∨ rMinT K xs H Q
theorem cr_sumA (hc : X.calm = true) : CallR X (.builtin "sum") (rSumA X.K) := (cr_sum hc).or (cr_sumT hc)
theorem cr_maxA (hc : X.calm = true) : CallR X (.builtin "max") (rMaxA X.K) := (cr_max hc).or (cr_maxT hc)
theorem cr_minA (hc : X.calm = true) : CallR X (.builtin "min") (rMinA X.K) := (cr_min hc).or (cr_minT hc)
end
def bIntsA (k : List Int → Option P) (ds : List D) (h : Hs) : R D := match ds with
  | [d] => (match rowP d h with
    | some ps => (match intP ps with
      | some ns => (match k ns with
        | some z => .ok (.p z) h
        | none => .bad)
      | none => .bad)
    | none => .bad)
  | _ => .bad
def bSumA : List D → Hs → R D := bIntsA fun ns => some (.int (sumZ ns))
def bMaxA : List D → Hs → R D := bIntsA fun ns => (maxZ ns).map P.int
def bMinA : List D → Hs → R D := bIntsA fun ns => (minZ ns).map P.int
section
variable {K : PySem.W.Frag} {cs : Tx}
theorem k_sumA : CallOk K cs (rSumA K) bSumA := fun g h H ds vs W σ Q R V1 F => by
  unfold bSumA bIntsA at F
  split at F
  · cases V1 with
    | cons q t =>
      cases t
      split at F
      · rename_i ps e
        obtain ⟨a, xs, rfl, r, hs⟩ := rowP_ok R q e
        split at F
        · rename_i ns en
          have ex := intP_ok r en
          subst ex
          have F' : Q (.int ns.sum) H := by rw [← sumZ_eq]; exact F g _ H Step.refl R (.p (.int _))
          exact hs.imp (fun z => ⟨a, ns, rfl, z, F'⟩) fun z => ⟨a, ns, rfl, z.1, F'⟩
        · exact F.elim
      · exact F.elim
  · exact F.elim
theorem k_maxA : CallOk K cs (rMaxA K) bMaxA := fun g h H ds vs W σ Q R V1 F => by
  unfold bMaxA bIntsA at F
  split at F
  · cases V1 with
    | cons q t =>
      cases t
      split at F
      · rename_i ps e
        obtain ⟨a, xs, rfl, r, hs⟩ := rowP_ok R q e
        split at F
        · rename_i ns en
          have ex := intP_ok r en
          subst ex
          cases em : maxZ ns with
          | none => dsimp only at F; rw [em] at F; exact F.elim
          | some z =>
            dsimp only at F; rw [em] at F
            obtain ⟨z1, z2⟩ := maxZ_spec em
            have F' : ∀ m, m ∈ ns → (∀ y, y ∈ ns → y ≤ m) → Q (.int m) H := fun m h1 h2 => by
              have : m = z := by have := z2 m h1; have := h2 z z1; omega
              subst this
              exact F g _ H Step.refl R (.p (.int _))
            exact hs.imp (fun y => ⟨a, ns, rfl, y, List.length_pos_of_mem z1, F'⟩) fun y => ⟨a, ns, rfl, y.1, List.length_pos_of_mem z1, F'⟩
        · exact F.elim
      · exact F.elim
  · exact F.elim
theorem k_minA : CallOk K cs (rMinA K) bMinA := fun g h H ds vs W σ Q R V1 F => by
  unfold bMinA bIntsA at F
  split at F
  · cases V1 with
    | cons q t =>
      cases t
      split at F
      · rename_i ps e
        obtain ⟨a, xs, rfl, r, hs⟩ := rowP_ok R q e
        split at F
        · rename_i ns en
          have ex := intP_ok r en
          subst ex
          cases em : minZ ns with
          | none => dsimp only at F; rw [em] at F; exact F.elim
          | some z =>
            dsimp only at F; rw [em] at F
            obtain ⟨z1, z2⟩ := minZ_spec em
            have F' : ∀ m, m ∈ ns → (∀ y, y ∈ ns → m ≤ y) → Q (.int m) H := fun m h1 h2 => by
              have : m = z := by have := z2 m h1; have := h2 z z1; omega
              subst this
              exact F g _ H Step.refl R (.p (.int _))
            exact hs.imp (fun y => ⟨a, ns, rfl, y, List.length_pos_of_mem z1, F'⟩) fun y => ⟨a, ns, rfl, y.1, List.length_pos_of_mem z1, F'⟩
        · exact F.elim
      · exact F.elim
  · exact F.elim
end
end Ar
namespace Ar
open PySem PySem.Spec PyProof.Rows L2
/-! ### dicts -/
section
variable {K : PySem.W.Frag} {cs : Tx} {g g1 g2 : Gh} {n n1 n2 : Nat} {H H1 H2 : Hp} {h h1 : Hs} {p : Addr}
theorem Apart.stepU {u : HO} (a : Apart g n p) (s : Step g n H g1 n1 H1) (hp : H p = some u) (nt : notTbl u) : Apart g1 n1 p := ⟨s.steal p _ hp nt a.ne a.gp, fun i hi => by
  by_cases h : i < n
  · rw [s.ext i h]; exact a.ne i h
  · intro z; exact s.new i (by omega) hi u (by rw [← z]; exact hp) nt⟩
theorem Rel.upd_apartU {o : HO} (r : Rel K cs g h H) (a : Apart g h.length p) (hT : H p = none ∨ ∃ u, H p = some u ∧ placed u) : Rel K cs g h (upd H p o) := by
  have k : ∀ i, i < h.length → ∀ u, H (g.ρ i) = some u → upd H p o (g.ρ i) = some u := fun i hi u e => by rw [upd_ne (fun z => a.ne i hi z.symm)]; exact e
  have nn : ∀ b u, H b = some u → ¬ placed u → upd H p o b = some u := fun b u q np => by
    rw [upd_ne]
    · exact q
    · intro z
      subst z
      rcases hT with z | ⟨w, z, pw⟩
      · rw [z] at q; cases q
      · rw [z] at q; cases q; exact np pw
  refine ⟨fun b u e => by rw [upd_ne (fun z => by rw [z, a.gp] at e; cases e)]; exact r.sub b u e, r.inj, fun i u e => ?_, r.off, r.cst, r.fz, r.ntb, tabs_of r.tabs (fun b ps q => nn b _ q fun z => z.1.1 ps rfl) (fun b φ q => nn b _ q fun z => z.2 φ rfl)⟩
  have hi := (List.getElem?_eq_some_iff.mp e).1
  have ro := r.at_ i u e
  cases u with
  | lst ps => obtain ⟨xs, q, r⟩ := ro; exact ⟨xs, k i hi _ q, r⟩
  | dct ks vs => obtain ⟨kvs, q, e, r⟩ := ro; exact ⟨kvs, k i hi _ q, e, r⟩
  | dtt ks vs => obtain ⟨kvs, q, e, r⟩ := ro; exact ⟨kvs, k i hi _ q, e, r⟩
  | ins c ns vs => obtain ⟨dx, fs, q, e, r⟩ := ro; exact ⟨dx, fs, k i hi _ q, e, r⟩
  | rl ds => obtain ⟨xs, q, r⟩ := ro; exact ⟨xs, k i hi _ q, r⟩
  | rt ds => obtain ⟨xs, q, r⟩ := ro; exact ⟨xs, k i hi _ q, r⟩
  | dead => obtain ⟨u, q, p⟩ := ro; exact ⟨u, k i hi u q, p⟩
theorem placed_dK (kvs : List (Key × V)) : placed (.dK kvs) := ⟨⟨fun _ z => (nomatch z), fun _ _ z => (nomatch z)⟩, fun _ z => (nomatch z)⟩
theorem placed_dT (kvs : List (List Key × V)) : placed (.dT kvs) := ⟨⟨fun _ z => (nomatch z), fun _ _ z => (nomatch z)⟩, fun _ z => (nomatch z)⟩
/-- what was apart becomes frozen, known to its object -/
theorem Rel.freezeF {od : Obj} {u : HO} (r : Rel K cs g h H) (a : Apart g h.length p) (e : H p = some (.frz od u)) (hu : FzOk cs u) : Rel K cs ⟨g.ρ, upd g.G p (.frz od u)⟩ h H := by
  have sb : Sub g.G (upd g.G p (.frz od u)) := sub_upd a.gp
  refine ⟨fun b w q => ?_, r.inj, fun i w q => ?_, fun i w q hd => ?_, fun q hq => sb.rd (r.cst q hq), fun b ob w q => ?_, r.ntb_upd a.gp (fun _ z => nomatch z), r.tabs⟩
  · have q : upd g.G p (.frz od u) b = some w := q
    by_cases hb : b = p
    · subst hb; rw [upd_same] at q; rw [e]; exact q
    · rw [upd_ne hb] at q; exact r.sub b w q
  · have ro := r.at_ i w q
    cases w with
    | lst ps => obtain ⟨xs, q, r⟩ := ro; exact ⟨xs, q, r.mono sb⟩
    | dct ks vs => obtain ⟨kvs, q, e, r⟩ := ro; exact ⟨kvs, q, e, r.mono sb⟩
    | dtt ks vs => obtain ⟨kvs, q, e, r⟩ := ro; exact ⟨kvs, q, e, r.mono sb⟩
    | ins c ns vs => obtain ⟨dx, fs, q, e, r⟩ := ro; exact ⟨dx, fs, q, e, L2.Paired.mapP r fun a b z => by cases z with | p z => exact .p (z.mono sb) | loc z => exact .loc z⟩
    | rl ds => obtain ⟨xs, q, r⟩ := ro; exact ⟨xs, q, L2.Paired.mapP r fun a b z => by cases z with | p z => exact .p (z.mono sb) | loc z => exact .loc z⟩
    | rt ds => obtain ⟨xs, q, r⟩ := ro; exact ⟨xs, q, L2.Paired.mapP r fun a b z => by cases z with | p z => exact .p (z.mono sb) | loc z => exact .loc z⟩
    | dead => exact ro
  · show upd g.G p (.frz od u) (g.ρ i) = none
    rw [upd_ne (fun z => a.ne i (List.getElem?_eq_some_iff.mp q).1 z.symm)]
    exact r.off i w q hd
  · have q : upd g.G p (.frz od u) b = some (.frz ob w) := q
    by_cases hb : b = p
    · subst hb; rw [upd_same] at q
      injection q with q
      injection q with _ q
      subst q; exact hu
    · rw [upd_ne hb] at q; exact r.fz b ob w q
theorem Lq.of {Q : VK} {v : V} {H : Hp} (q : Q v H) : Lq Q v H := by
  refine ⟨[], (by intro d hd; cases hd), ?_⟩
  intro H2 L
  have : H2 = H := funext fun a => L.same a (by simp)
  rw [this]; exact q
theorem Lq.one {Q : VK} {v : V} {H : Hp} {p : Addr} {u : HO} (e : H p = some u) (mu : Mut (some u)) (q : ∀ od, Q v (upd H p (.frz od u))) : Lq Q v H := by
  refine ⟨[p], ?_, ?_⟩
  · intro d hd
    have : d = p := by simpa using hd
    subst this; exact ⟨u, e, mu⟩
  · intro H2 L
    obtain ⟨u', od, e1, _, e2⟩ := L.lock p (by simp)
    rw [e] at e1; cases e1
    have : H2 = upd H p (.frz od u) := funext fun a => by
      by_cases h : a = p
      · subst h; rw [upd_same]; exact e2
      · rw [upd_ne h]; exact L.same a (by simpa using h)
    rw [this]; exact q od
/-- what an end does of the dict made -/
def DFinOk (fin : List P → List P → Hs → R D) : Prop := ∀ (K : PySem.W.Frag) (cs : Tx) (g0 : Gh) (n0 : Nat) (H0 : Hp) (g : Gh) (h : Hs) (H : Hp) (vs : List P) (kvs : List (Key × V)) (p : Addr) (W : WX) (σ : L2.St) (Q : VK),
  Step g0 n0 H0 g h.length H → Rel K cs g h H → Apart g h.length p → H0 p = none → (∃ u, H p = some u ∧ placed u) → RPs K cs g.G vs (kvs.map (·.2)) → EndR K cs (relD K cs) W σ g0 n0 H0 Q (fin (kvs.map fun q => keyP q.1) vs h) → Lq Q (.ref p) (upd H p (.dK kvs))
def finDP (ks vs : List P) (h : Hs) : R D := .ok (.p (.dct ks vs)) h
def finDN (ks vs : List P) (h : Hs) : R D := .ok (.loc h.length) (h ++ [.dct ks vs])
theorem finDP_ok : DFinOk finDP := fun K cs g0 n0 H0 g h H vs kvs p W σ Q S R A hp hu r F => by
  refine Lq.one (p := p) (u := .dK kvs) upd_same trivial fun od => ?_
  have e2 : upd (upd H p (.dK kvs)) p (.frz od (.dK kvs)) = upd H p (.frz od (.dK kvs)) := funext fun a => by
    by_cases h : a = p
    · subst h; rw [upd_same, upd_same]
    · rw [upd_ne h, upd_ne h, upd_ne h]
  rw [e2]
  have R2 : Rel K cs g h (upd H p (.frz od (.dK kvs))) := R.upd_apartU A (.inr hu)
  have R3 := R2.freezeF (od := od) (u := .dK kvs) A upd_same (.inr (.inr (.inr (.inl ⟨_, rfl⟩))))
  have S3 : Step g0 n0 H0 ⟨g.ρ, upd g.G p (.frz od (.dK kvs))⟩ h.length (upd H p (.frz od (.dK kvs))) := (S.upd_new hp).freeze A.gp hp
  exact F _ _ _ S3 R3 (.p (.dct ⟨od, upd_same⟩ rfl (r.mono (sub_upd A.gp))))
theorem finDN_ok : DFinOk finDN := fun K cs g0 n0 H0 g h H vs kvs p W σ Q S R A hp hu r F => by
  refine Lq.of ?_
  have own : addρ g.ρ h.length p h.length = p := if_pos rfl
  have hl : (h ++ [O.dct (kvs.map fun q => keyP q.1) vs]).length = h.length + 1 := by simp
  have V1 := RD.loc (K := K) (cs := cs) (ρ := addρ g.ρ h.length p) (G := g.G) (n := (h ++ [O.dct (kvs.map fun q => keyP q.1) vs]).length) (i := h.length) (by simp)
  rw [own] at V1
  have R2 : Rel K cs g h (upd H p (.dK kvs)) := R.upd_apartU A (.inr hu)
  exact F ⟨addρ g.ρ h.length p, g.G⟩ (.ref p) _ (by rw [hl]; exact (S.upd_new hp).adopt hp) (R2.adopt A (by rw [upd_same]; exact fun z => nomatch z) ⟨kvs, upd_same, rfl, r⟩) V1
end
/-! ### comprehensions -/
def dcL (t : Tg) (ft : FT) (fk fv : FE) (inv : Hs → Bool) : List D → Env → Hs → List P → List P → R (List P × List P)
  | [], _, h, ks, vs => if inv h then .ok (ks, vs) h else .bad
  | d :: ds, env, h, ks, vs => if inv h then (match t.bind d env h with
    | some e1 => (match ft e1 h with
      | .ok true h1 => (match fk e1 h1 with
        | .ok (.p k) h2 => (match fv e1 h2 with
          | .ok (.p v) h3 => if isKey k then dcL t ft fk fv inv ds env h3 (dPut ks vs k v).1 (dPut ks vs k v).2 else .bad
          | _ => .bad)
        | _ => .bad)
      | .ok false h1 => dcL t ft fk fv inv ds env h1 ks vs
      | _ => .bad)
    | none => .bad) else .bad
def dcAll (fi : FI) (t : Tg) (ft : FT) (fk fv : FE) (vs : List Nat) (fin : List P → List P → Hs → R D) : FE := fun env h => (fi env h).bind fun it h1 => if okLen it.1.length then (match dcL t ft fk fv it.2 it.1 (wipeE env vs) h1 [] [] with
  | .ok z h2 => fin z.1 z.2 h2
  | _ => .bad) else .bad
theorem putK_len {kvs : List (Key × V)} {k : Key} {v : V} : (putK kvs k v).length ≤ kvs.length + 1 := by
  unfold putK
  split
  · simp
  · simp
theorem dc_core {K : PySem.W.Frag} {cs : Tx} {fi : FI} {t : Tg} {ft : FT} {fk fv : FE} {vs : List Nat} {fin : List P → List P → Hs → R D} {W : WX} {σ : L2.St} {H : Hp} {Q : VK} (hv : ∀ i, i ∈ t.slots → i ∈ vs) (hf : DFinOk fin) (hx : ∀ ks ws hh c fs h', fin ks ws hh ≠ .ex c fs h') (h : tE K cs W (dcAll fi t ft fk fv vs fin) σ H Q) :
    tDc (tI K cs W fi) (t.rd K) (tT K cs wF ft) (tE K cs wF fk) (tE K cs wF fv) vs σ H (Lq Q) := by
  obtain ⟨g, env, h, R, E, F⟩ := h
  refine ⟨g, env, h, R, E, ?_⟩
  unfold dcAll at F
  cases q : fi env h with
  | bad => rw [q] at F; exact F
  | ex c fs h' => rw [q] at F; exact F
  | ok it h1 =>
    rw [q] at F
    intro g1 J H1 S1 R1 it1 p hp
    have F1 := EndR.shift S1 F
    dsimp only [Ar.R.bind] at F1
    split at F1
    · rename_i hlen
      have A1 := R1.apart hp
      have R1' := R1.upd_apartU (o := .dK []) A1 (.inl hp)
      have S1' : Step g1 h1.length H1 g1 h1.length (upd H1 p (.dK [])) := Step.refl.upd_new hp
      refine ⟨fun i m H2 => ∃ g2 h2 ws kvs r3, Step g1 h1.length H1 g2 h2.length H2 ∧ Rel K cs g2 h2 H2 ∧ Apart g2 h2.length p ∧ H2 p = some (.dK kvs) ∧ RPs K cs g2.G ws (kvs.map (·.2)) ∧ kvs.length ≤ i ∧ i ≤ it.1.length ∧ m = it.1.length - i ∧
          dcL t ft fk fv it.2 (it.1.drop i) (wipeE env vs) h2 (kvs.map fun q => keyP q.1) ws = r3 ∧ EndR K cs (relD K cs) W σ g1 h1.length H1 Q (match r3 with | .ok z h3 => fin z.1 z.2 h3 | _ => .bad),
        ⟨it.1.length, g1, h1, [], [], _, S1', R1', ⟨A1.gp, A1.ne⟩, upd_same, .nil, Nat.le_refl _, Nat.zero_le _, rfl, rfl, by simpa using F1⟩, ?_⟩
      rintro i m H2 ⟨g2, h2, ws, kvs, r3, S2, R2, A2, e2, rws, hacc, hi, rfl, hr3, F2⟩
      have E2 : REnv K cs g2 h2.length (wipeE env vs) (L2.wipe σ vs) := ((E.step S1).step S2).wipe vs
      by_cases hlt : i < it.1.length
      · obtain ⟨d, hd⟩ : ∃ d, it.1[i]? = some d := ⟨it.1[i], List.getElem?_eq_getElem hlt⟩
        have hdr : it.1.drop i = d :: it.1.drop (i + 1) := by
          rw [List.drop_eq_getElem_cons hlt]
          rw [List.getElem?_eq_getElem hlt] at hd
          cases hd
          rfl
        rw [hdr] at hr3
        unfold dcL at hr3
        split at hr3
        · rename_i hiv
          obtain ⟨go, yl⟩ := it1.go g2 h2 H2 i d S2.soft R2 hiv hd
          refine .inr ⟨go, fun H' => ∃ m', m' < it.1.length - i ∧ ∃ g2 h2 ws kvs r3, Step g1 h1.length H1 g2 h2.length H' ∧ Rel K cs g2 h2 H' ∧ Apart g2 h2.length p ∧ H' p = some (.dK kvs) ∧ RPs K cs g2.G ws (kvs.map (·.2)) ∧ kvs.length ≤ i + 1 ∧ i + 1 ≤ it.1.length ∧ m' = it.1.length - (i + 1) ∧
            dcL t ft fk fv it.2 (it.1.drop (i + 1)) (wipeE env vs) h2 (kvs.map fun q => keyP q.1) ws = r3 ∧ EndR K cs (relD K cs) W σ g1 h1.length H1 Q (match r3 with | .ok z h3 => fin z.1 z.2 h3 | _ => .bad), fun H' h => h, fun x H3 hy => ?_⟩
          obtain ⟨g3, S3, R3, V3⟩ := yl x H3 hy
          have A3 := A2.stepU S3 e2 (fun _ z => nomatch z)
          have e3 : H3 p = some (.dK kvs) := S3.keep p _ e2 (fun _ z => nomatch z) A2.ne
          have rws3 := RPs.mono S3.sub rws
          have E3 := E2.step S3
          split at hr3
          · rename_i env1 hb
            refine Tg.rd_ok t R3 E3 V3 hb fun σ2 Eσ o2 => ⟨wipe_out (o2.mono hv), g3, env1, h2, R3, Eσ, ?_⟩
            cases q4 : ft env1 h2 with
            | bad => simp only [q4] at hr3; subst hr3; exact F2.elim
            | ex c fs h4 => simp only [q4] at hr3; subst hr3; exact F2.elim
            | ok b h4 =>
              intro g4 b' H4 S4 R4 hb'
              obtain rfl : b = b' := hb'
              have A4 := A3.stepU S4 e3 (fun _ z => nomatch z)
              have e4 : H4 p = some (.dK kvs) := S4.keep p _ e3 (fun _ z => nomatch z) A3.ne
              have rws4 := RPs.mono S4.sub rws3
              have S24 := (S2.trans S3).trans S4
              cases b with
              | true =>
                simp only [q4] at hr3
                rw [if_pos rfl]
                refine ⟨g4, env1, h4, R4, Eσ.step S4, ?_⟩
                cases q5 : fk env1 h4 with
                | bad => simp only [q5] at hr3; subst hr3; exact F2.elim
                | ex c fs h5 => simp only [q5] at hr3; subst hr3; exact F2.elim
                | ok y h5 =>
                  intro g5 yv H5 S5 R5 V5
                  have A5 := A4.stepU S5 e4 (fun _ z => nomatch z)
                  have e5 : H5 p = some (.dK kvs) := S5.keep p _ e4 (fun _ z => nomatch z) A4.ne
                  have rws5 := RPs.mono S5.sub rws4
                  simp only [q5] at hr3
                  cases y with
                  | loc _ => subst hr3; exact F2.elim
                  | p kp =>
                    refine ⟨g5, env1, h5, R5, (Eσ.step S4).step S5, ?_⟩
                    cases q6 : fv env1 h5 with
                    | bad => simp only [q6] at hr3; subst hr3; exact F2.elim
                    | ex c fs h6 => simp only [q6] at hr3; subst hr3; exact F2.elim
                    | ok z h6 =>
                      intro g6 zv H6 S6 R6 V6
                      have A6 := A5.stepU S6 e5 (fun _ z => nomatch z)
                      have e6 : H6 p = some (.dK kvs) := S6.keep p _ e5 (fun _ z => nomatch z) A5.ne
                      have rws6 := RPs.mono S6.sub rws5
                      simp only [q6] at hr3
                      cases z with
                      | loc _ => subst hr3; exact F2.elim
                      | p zp =>
                        simp only at hr3
                        split at hr3
                        · rename_i hk
                          obtain ⟨k, rfl⟩ := isKey_of hk
                          cases V5 with
                          | p V5 =>
                            have ey := keyV V5
                            subst ey
                            cases V6 with
                            | p V6 =>
                              have hle := okLen_le hlen
                              obtain ⟨d1, d2⟩ := dPut_rel (kp := keyP) (fun _ _ => keyP_inj) V6 kvs ws k rws6
                              have hl := putK_len (kvs := kvs) (k := k) (v := zv)
                              refine ⟨kvs, k, rfl, e6, by omega, _, by omega, g6, h6, _, _, _, ((S24.trans S5).trans S6).upd_new hp, R6.upd_apartU A6 (.inr ⟨_, e6, placed_dK _⟩), A6, upd_same, d2, by omega, hlt, rfl, ?_, F2⟩
                              rw [← d1]; exact hr3
                        · subst hr3; exact F2.elim
              | false =>
                simp only [q4] at hr3
                rw [if_neg Bool.false_ne_true]
                exact ⟨_, by omega, g4, h4, ws, kvs, _, S24, R4, A4, e4, rws4, by omega, hlt, rfl, hr3, F2⟩
          · subst hr3; exact F2.elim
        · subst hr3; exact F2.elim
      · have e : i = it.1.length := by omega
        subst e
        rw [List.drop_length] at hr3
        unfold dcL at hr3
        split at hr3
        · rename_i hiv
          subst hr3
          refine .inl ⟨it1.stop g2 h2 H2 S2.soft R2 hiv, ?_⟩
          have := hf K cs g1 h1.length H1 g2 h2 H2 ws kvs p W σ Q S2 R2 A2 hp ⟨_, e2, placed_dK _⟩ rws F2
          have same : upd H2 p (.dK kvs) = H2 := funext fun a => by
            by_cases h : a = p
            · subst h; rw [upd_same]; exact e2.symm
            · rw [upd_ne h]
          rwa [same] at this
        · subst hr3; exact F2.elim
    · exact F1.elim
section
variable {X : Cx} {cs : Tx} {kx vx tg iter : Expr} {ifs : List Expr} {scope : Scope} {own : List (Str × Nat)} {pos : Pos} {fi : FI} {t : Tg} {ft : FT} {fk fv : FE} {fin : List P → List P → Hs → R D}
theorem gDc (hf : DFinOk fin) (hx : ∀ ks ws hh c fs h', fin ks ws hh ≠ .ex c fs h') (hc : X.calm = true) (hN : X.N.Nodup) (gi : GI X cs tg iter fi) (ok : blkC X.N X.env.scope scope own = true)
    (gg : ∀ (s : Shared) (H : Hp) (C : Addr) (cl : List (Str × Addr)) (fp : List Addr), GTg (X.blk s H scope (compEnvC scope cl C X.env) fp) tg t) (gt : ∀ (s : Shared) (H : Hp) (C : Addr) (cl : List (Str × Addr)) (fp : List Addr), GTs (X.blk s H scope (compEnvC scope cl C X.env) fp) cs ifs ft)
    (gk : ∀ (s : Shared) (H : Hp) (C : Addr) (cl : List (Str × Addr)) (fp : List Addr), GE (X.blk s H scope (compEnvC scope cl C X.env) fp) cs kx fk)
    (ge : ∀ (s : Shared) (H : Hp) (C : Addr) (cl : List (Str × Addr)) (fp : List Addr), GE (X.blk s H scope (compEnvC scope cl C X.env) fp) cs vx fv) (hv : ∀ i, i ∈ t.slots → i ∈ own.map (·.2)) (hs : ∀ x, foldedSetIterable iter X.env x = pure x := by intro _; rfl) :
    GE X cs (.DictComp kx vx [⟨tg, iter, ifs, 0⟩] scope pos) (dcAll fi t ft fk fv (own.map (·.2)) fin) := fun W tk =>
  PE.imp (PE.locks (pe_dc (g := t.rd X.K) (tt := tT X.K cs wF ft) (tk := tE X.K cs wF fk) (tv := tE X.K cs wF fv) hc hN (gi W tk) (blkOk_by ok) gg (fun s H C cl fp => gt s H C cl fp wF takesF) (fun s H C cl fp => gk s H C cl fp wF takesF) (fun s H C cl fp => ge s H C cl fp wF takesF) hs)) fun σ H Q h => dc_core hv hf hx h
theorem dfin_noex {fin : List P → List P → Hs → R D} (h : fin = finDP ∨ fin = finDN) : ∀ ks ws hh c fs h', fin ks ws hh ≠ .ex c fs h' := by
  intro ks ws hh c fs h' e
  rcases h with rfl | rfl <;> cases e
end
end Ar
namespace Ar
open PySem PySem.Spec PyProof.Rows L2
theorem _root_.L2.Room.units65 {k : Nat} {A : Around} (r : Room k A) : A.units + 65 < cLine := by have := r.un; omega
/-! ### in -/
def flatP : P → Bool
  | .non => true
  | .bl _ => true
  | .int _ => true
  | .str _ => true
  | _ => false
def sgn : Str → Option Nat := fun z => match z.cps.toList with
  | [c] => some c
  | _ => none
def inP (x : P) : P → Option Bool
  | .dct ks _ => if isKey x then some (dHas ks x) else none
  | .dtt ks _ => if isTKey x then some (dHas ks x) else none
  | .tup ps => if flatP x && ps.all flatP then some (ps.any fun z => eqP z x) else none
  | .lst ps => if flatP x && ps.all flatP then some (ps.any fun z => eqP z x) else if depLe 60 x && ps.all (depLe 59) then some (ps.any fun z => eqP z x) else none
  | .str z => (match x with
    | .str y => (sgn y).map fun c => decide (c ∈ z.cps.toList)
    | _ => none)
  | _ => none
def inO (x : P) (o : Option O) : Option Bool := match o with
  | some (.dct ks vs) => inP x (.dct ks vs)
  | some (.dtt ks vs) => inP x (.dtt ks vs)
  | some (.lst ps) => inP x (.lst ps)
  | _ => none
def inD (neg : Bool) (x d : D) (h : Hs) : R D := match x, d with
  | .p x, .p y => (match inP x y with
    | some b => .ok (.p (.bl (if neg then !b else b))) h
    | none => .bad)
  | .p x, .loc i => (match inO x h[i]? with
    | some b => .ok (.p (.bl (if neg then !b else b))) h
    | none => .bad)
  | _, _ => .bad
def cIn (neg : Bool) (fa fb : FE) : FE := fun env h => (fa env h).bind fun d h1 => (fb env h1).bind fun e h2 => inD neg d e h2
def rInX (K : PySem.W.Frag) (neg : Bool) : R2 := fun y x H Q => (∃ a o, x = .ref a ∧ DGet H a y o ∧ Q (.bl (if neg then !o.isSome else o.isSome)) H) ∨ (rIn K neg y x H Q ∨ ((if neg then rNotInD K y x H Q else rInD K y x H Q) ∨
  ∃ (c : Nat) (z : Str), y = .str ⟨#[c]⟩ ∧ x = .str z ∧ Q (.bl (if neg then !decide (c ∈ z.cps.toList) else decide (c ∈ z.cps.toList))) H))
section
variable {X : Cx} {cs : Tx} {K : PySem.W.Frag}
theorem op_inX (hu : X.A.units + 65 < cLine) : OpR X (compareOp .In) (rInX X.K false) := by
  refine OpR.or ?_ (OpR.or op_in_seq (OpR.or (op_inD hu) op_in_sign))
  intro pins s σ H y x v u Q I ry rx h
  obtain ⟨a, o, rfl, g, q⟩ := h
  obtain rfl : u = Value.ref a := rx
  exact d_in (by omega) I g ry fun s' I' => ⟨.bl o.isSome, H, I', rfl, q⟩
theorem op_notInX (hu : X.A.units + 65 < cLine) : OpR X (compareOp .NotIn) (rInX X.K true) := by
  refine OpR.or ?_ (OpR.or op_notIn_seq (OpR.or (op_notInD hu) op_notIn_sign))
  intro pins s σ H y x v u Q I ry rx h
  obtain ⟨a, o, rfl, g, q⟩ := h
  obtain rfl : u = Value.ref a := rx
  exact d_notIn (by omega) I g ry fun s' I' => ⟨.bl (!o.isSome), H, I', rfl, q⟩
theorem flat_rel {G : Hp} {p : P} {v : V} (r : RP K cs G p v) (h : flatP p = true) : flatV v = true := by
  cases r <;> first | rfl | simp [flatP] at h
theorem flats_rel {G : Hp} : ∀ {ps : List P} {vs : List V}, RPs K cs G ps vs → ps.all flatP = true → vs.all flatV = true
  | _, _, .nil, _ => rfl
  | _, _, .cons r t, h => by
    simp only [List.all_cons, Bool.and_eq_true] at h ⊢
    exact ⟨flat_rel r h.1, flats_rel t h.2⟩
theorem eq_rel {G : Hp} {p q : P} {v w : V} (r : RP K cs G p v) (r2 : RP K cs G q w) (h : flatP p = true) (h2 : flatP q = true) : eqV v w = eqP p q := by
  cases r <;> first | (simp [flatP] at h; done) | (cases r2 <;> first | rfl | (simp [flatP] at h2; done))
theorem in_rel {G : Hp} {x : P} {w : V} (rx : RP K cs G x w) (hx : flatP x = true) : ∀ {ps : List P} {vs : List V}, RPs K cs G ps vs → ps.all flatP = true → inV w vs = ps.any fun z => eqP z x
  | _, _, .nil, _ => rfl
  | _, _, .cons r t, h => by
    simp only [List.all_cons, Bool.and_eq_true] at h
    have ih := in_rel rx hx t h.2
    unfold inV at ih ⊢
    simp only [List.any_cons, ih, eq_rel r rx h.1 hx]
theorem dps_of {G : Hp} (s : Sub G H) (n : Nat) : ∀ {ps : List P} {vs : List V}, ps.all (depLe n) = true → RPs K cs G ps vs → DpAll K H vs (pds ps)
  | _, _, _, .nil => .nil
  | _, _, h, .cons r t => by
    simp only [List.all_cons, Bool.and_eq_true] at h
    exact .cons (dp_of s n _ _ h.1 r) (dps_of s n h.2 t)
theorem anyEq (x : P) (hx : depLe 60 x = true) : ∀ ps : List P, ps.all (depLe 59) = true → ((pds ps).any fun z => PyData.eqv z (pd x)) = ps.any fun z => eqP z x
  | [], _ => rfl
  | p :: r, h => by
    simp only [List.all_cons, Bool.and_eq_true] at h
    simp only [pds, List.any_cons, eqP_eqv p x 59 60 h.1 hx, anyEq x hx r h.2]
theorem dHas_get {G : Hp} (kvs : List (Key × V)) (k : Key) : dHas (kvs.map fun q => keyP q.1) (keyP k) = (valV kvs k).isSome := by
  rw [dHas_rel (kp := keyP) (fun _ _ => keyP_inj) k kvs, valV_any]
theorem dHas_getT (kvs : List (List Key × V)) (k : List Key) : dHas (kvs.map fun q => P.tup (q.1.map keyP)) (.tup (k.map keyP)) = (valV kvs k).isSome := by
  rw [dHas_rel (kp := fun q : List Key => P.tup (q.map keyP)) (fun a b e => keysP_inj (by injection e)) k kvs, valV_any]
/-- x in a list whose items are plain -/
theorem in_lst {neg : Bool} {g : Gh} {h : Hs} {H : Hp} {x : P} {y : V} {a : Addr} {ps : List P} {xs : List V} {Q : VK} {b : Bool} (R : Rel K cs g h H) (rx : RP K cs g.G x y) (hs : SqL K H a xs) (r : RPs K cs g.G ps xs)
    (e : inP x (.lst ps) = some b) (q : Q (.bl (if neg then !b else b)) H) : rInX K neg y (.ref a) H Q := by
  simp only [inP] at e
  split at e
  · rename_i hf
    rw [Bool.and_eq_true] at hf
    cases e
    refine .inr (.inl ⟨a, xs, rfl, .inl hs, flat_rel rx hf.1, flats_rel r hf.2, ?_⟩)
    rw [in_rel rx hf.1 r hf.2]; exact q
  · split at e
    · rename_i hf
      rw [Bool.and_eq_true] at hf
      cases e
      have d1 := dp_of R.sub 60 x y hf.1 rx
      have d2 : Dp K H (.ref a) (.list (pds ps)) := .lst hs (dps_of R.sub 59 hf.2 r)
      have s1 := shaped_pd hf.1
      have s2 : SeqAt.shaped (.list (pds ps)) = true := shaped_pd (p := .lst ps) (by simpa [depLe] using hf.2)
      refine .inr (.inr (.inl ?_))
      cases neg with
      | true =>
        rw [if_pos rfl]
        refine ⟨pd x, pds ps, d1, d2, s1, s2, ?_⟩
        rw [anyEq x hf.1 ps hf.2]; exact q
      | false =>
        rw [if_neg Bool.false_ne_true]
        refine ⟨pd x, pds ps, d1, d2, s1, s2, ?_⟩
        rw [anyEq x hf.1 ps hf.2]; exact q
    · cases e
theorem sgn_ok {y : Str} {c : Nat} (h : sgn y = some c) : y = ⟨#[c]⟩ := by
  unfold sgn at h
  split at h
  · rename_i c' e
    cases h
    cases y
    rename_i cps
    simp only at e
    congr 1
    exact Array.toList_inj.mp (by rw [e])
  · cases h
theorem in_core {neg : Bool} {g : Gh} {h : Hs} {H : Hp} {d e : D} {x y : V} {W : WX} {σ : L2.St} {Q : VK} (hx : cs.ex = false) (R : Rel K cs g h H) (V1 : RD K cs g.ρ g.G h.length d x) (V2 : RD K cs g.ρ g.G h.length e y) (F : EndR K cs (relD K cs) W σ g h.length H Q (inD neg d e h)) : rInX K neg x y H Q := by
  unfold inD at F
  split at F
  · cases V1 with
    | p r1 =>
      cases V2 with
      | p r2 =>
        split at F
        · rename_i x0 y0 b eb
          have q : Q (.bl (if neg then !b else b)) H := F g _ H Step.refl R (.p (.bl _))
          cases r2 with
          | dct q1 q2 q3 =>
            subst q2
            simp only [inP] at eb
            split at eb
            · rename_i hk
              obtain ⟨k, rfl⟩ := isKey_of hk
              have ey := keyV r1
              subst ey
              cases eb
              refine .inl ⟨_, _, rfl, .inl ⟨_, k, R.sub.rd (.inr q1), rfl, rfl⟩, ?_⟩
              rw [dHas_get (G := g.G)] at q; exact q
            · cases eb
          | dctT q1 q2 q3 =>
            subst q2
            simp only [inP] at eb
            split at eb
            · rename_i hk
              cases r1 with
              | tup p1 p2 =>
                simp only [isTKey, Bool.and_eq_true] at hk
                obtain ⟨k, rfl⟩ := isKeys_of hk.1
                have ey := keysV p2
                subst ey
                cases eb
                refine .inl ⟨_, _, rfl, .inr ⟨_, k, _, R.sub.rd (.inr q1), rfl, tkey_tup R p1 hk.2 hx, rfl⟩, ?_⟩
                rw [dHas_getT] at q; exact q
              | _ => simp [isTKey] at hk
            · cases eb
          | tup q1 q2 =>
            simp only [inP] at eb
            split at eb
            · rename_i hf
              rw [Bool.and_eq_true] at hf
              cases eb
              refine .inr (.inl ⟨_, _, rfl, .inr (.inl (R.sub.rd q1)), flat_rel r1 hf.1, flats_rel q2 hf.2, ?_⟩)
              rw [in_rel r1 hf.1 q2 hf.2]; exact q
            · cases eb
          | lst q1 q2 => exact in_lst R r1 (.inl (R.sub.rd q1.1)) q2 eb q
          | str z =>
            simp only [inP] at eb
            cases r1 with
            | str w =>
              simp only [Option.map_eq_some_iff] at eb
              obtain ⟨c, hc, rfl⟩ := eb
              refine .inr (.inr (.inr ⟨c, z, ?_, rfl, ?_⟩))
              · rw [sgn_ok hc]
              · exact q
            | _ => cases eb
          | _ => cases eb
        · exact F.elim
  · cases V1 with
    | p r1 =>
      cases V2 with
      | loc hi =>
        split at F
        · rename_i x0 i b eb
          have q : Q (.bl (if neg then !b else b)) H := F g _ H Step.refl R (.p (.bl _))
          unfold inO at eb
          split at eb
          · rename_i ks vs e1
            obtain ⟨kvs, q1, q2, q3⟩ := R.at_ _ _ e1
            subst q2
            simp only [inP] at eb
            split at eb
            · rename_i hk
              obtain ⟨k, rfl⟩ := isKey_of hk
              have ey := keyV r1
              subst ey
              cases eb
              refine .inl ⟨_, _, rfl, .inl ⟨_, k, .inl q1, rfl, rfl⟩, ?_⟩
              rw [dHas_get (G := g.G)] at q; exact q
            · cases eb
          · rename_i ks vs e1
            obtain ⟨kvs, q1, q2, q3⟩ := R.at_ _ _ e1
            subst q2
            simp only [inP] at eb
            split at eb
            · rename_i hk
              cases r1 with
              | tup p1 p2 =>
                simp only [isTKey, Bool.and_eq_true] at hk
                obtain ⟨k, rfl⟩ := isKeys_of hk.1
                have ey := keysV p2
                subst ey
                cases eb
                refine .inl ⟨_, _, rfl, .inr ⟨_, k, _, .inl q1, rfl, tkey_tup R p1 hk.2 hx, rfl⟩, ?_⟩
                rw [dHas_getT] at q; exact q
              | _ => simp [isTKey] at hk
            · cases eb
          · rename_i ps e1
            obtain ⟨xs, q1, q2⟩ := R.at_ _ _ e1
            exact in_lst R r1 (SqL.of q1) q2 eb q
          · cases eb
        · exact F.elim
  · exact F.elim
theorem in_op {neg : Bool} {fa fb : FE} {W : WX} {σ : L2.St} {H : Hp} {Q : VK} (hx : cs.ex = false) (h : tE X.K cs W (cIn neg fa fb) σ H Q) : tOp (rInX X.K neg) (tE X.K cs W fa) (tE X.K cs W fb) σ H Q := by
  obtain ⟨g, env, h, R, E, F⟩ := h
  refine ⟨g, env, h, R, E, F.of fun d h1 g1 x H1 _ S1 R1 V1 F1 => ⟨g1, env, h1, R1, E.step S1, F1.of fun e h2 g2 y H2 _ S2 R2 V2 F2 => ?_⟩⟩
  exact in_core hx R2 (V1.step S2) V2 F2
section
variable {a b : Expr} {fa fb : FE} {pos : Pos}
theorem gIn (hx : cs.ex = false) (hu : X.A.units + 65 < cLine) (ga : GE X cs a fa) (gb : GE X cs b fb) (hm : behindInMarks .In b = false := by first | exact nomark _ | rfl) : GE X cs (.Compare a [.In] [b] pos) (cIn false fa fb) := fun W tk =>
  PE.imp (pe_cmpR (op_inX hu) (ga W tk) (gb W tk) hm) fun _ _ _ h => in_op hx h
theorem gNotIn (hx : cs.ex = false) (hu : X.A.units + 65 < cLine) (ga : GE X cs a fa) (gb : GE X cs b fb) (hm : behindInMarks .NotIn b = false := by first | exact nomark _ | rfl) : GE X cs (.Compare a [.NotIn] [b] pos) (cIn true fa fb) := fun W tk =>
  PE.imp (pe_cmpR (op_notInX hu) (ga W tk) (gb W tk) hm) fun _ _ _ h => in_op hx h
theorem in_test {neg : Bool} {W : WX} {σ : L2.St} {H : Hp} {Q : Bool → Hp → Prop} (hx : cs.ex = false) (h : tT X.K cs W (cT (cIn neg fa fb)) σ H Q) : tOp (rInX X.K neg) (tE X.K cs W fa) (tE X.K cs W fb) σ H (fun z H' => ∃ c, z = .bl c ∧ Q c H') := by
  obtain ⟨g, env, h, R, E, F⟩ := h
  refine in_op hx ⟨g, env, h, R, E, F.of fun d h1 g1 x H1 _ S1 R1 V1 F1 => ?_⟩
  unfold toB at F1
  split at F1
  · rename_i c _
    cases V1 with
    | p r => cases r; exact ⟨c, rfl, F1 g1 c H1 Step.refl R1 rfl⟩
  · exact F1.elim
theorem gInT (hx : cs.ex = false) (hu : X.A.units + 65 < cLine) (ga : GE X cs a fa) (gb : GE X cs b fb) (hm : behindInMarks .In b = false := by first | exact nomark _ | rfl) : GT X cs (.Compare a [.In] [b] pos) (cT (cIn false fa fb)) := fun W tk =>
  PT.imp (pt_cmpR (op_inX hu) (ga W tk) (gb W tk) hm) fun _ _ _ h => in_test hx h
theorem gNotInT (hx : cs.ex = false) (hu : X.A.units + 65 < cLine) (ga : GE X cs a fa) (gb : GE X cs b fb) (hm : behindInMarks .NotIn b = false := by first | exact nomark _ | rfl) : GT X cs (.Compare a [.NotIn] [b] pos) (cT (cIn true fa fb)) := fun W tk =>
  PT.imp (pt_cmpR (op_notInX hu) (ga W tk) (gb W tk) hm) fun _ _ _ h => in_test hx h
end
end
end Ar
namespace Ar
open PySem PySem.Spec PyProof.Rows L2
section
variable {X : Cx} {cs : Tx} {K : PySem.W.Frag}
/-! ### calls whose answer may be a dict -/
def CallOkL (K : PySem.W.Frag) (cs : Tx) (r : List V → Hp → VK → Prop) (op : List D → Hs → R D) : Prop := ∀ (g : Gh) (h : Hs) (H : Hp) (ds : List D) (vs : List V) (W : WX) (σ : L2.St) (Q : VK), Rel K cs g h H → RDs K cs g.ρ g.G h.length ds vs → EndR K cs (relD K cs) W σ g h.length H Q (op ds h) → r vs H (Lq Q)
theorem gTyL {op : List D → Hs → R D} {r : List V → Hp → VK → Prop} {x : Str} {T : String} {e : Expr} {es : List Expr} {fa : FA} {p pos : Pos} (hc : CallR X (.type T) r) (hk : CallOkL X.K cs r op) (hm : X.mg x = none) (hv : bootBuiltins x = some (.type T)) (ga : GA X cs (e :: es) fa) (hg : Gl X x := by rfl) (hn : x ≠ "__name__" := by decide) (hdb : (x == ("__debug__" : Str)) = false := by decide)
    (he : starEach (e :: es) X.env = (false, eval e X.env) :: starEach es X.env := by rfl) (hpl : (backTo pos (starEach es X.env)).any (·.1) = false := by rfl) : GE X cs (.Call (.Name x p) (e :: es) [] pos) (cB op fa) := fun W tk => by
  refine PE.imp (PE.locks (pe_callTy hc hg hm hv (ga W tk) hn hdb he hpl)) fun σ H Q ⟨g, env, h, R, E, F⟩ => ?_
  exact ⟨g, env, h, R, E, F.of fun ds h1 g1 vs H1 _ S1 R1 V1 F1 => hk g1 h1 H1 ds vs W σ Q R1 V1 F1⟩
/-- the keys and values of a dict -/
def dctP (d : D) (h : Hs) : Option (List P × List P) := match d with
  | .p (.dct ks vs) => some (ks, vs)
  | .loc i => (match h[i]? with
    | some (.dct ks vs) => some (ks, vs)
    | _ => none)
  | _ => none
theorem dctP_ok {g : Gh} {h : Hs} {H : Hp} {d : D} {v : V} {ks ws : List P} (R : Rel K cs g h H) (V1 : RD K cs g.ρ g.G h.length d v) (e : dctP d h = some (ks, ws)) : ∃ a kvs, v = .ref a ∧ Rd H a (.dK kvs) ∧ ks = kvs.map (fun q => keyP q.1) ∧ RPs K cs g.G ws (kvs.map (·.2)) := by
  unfold dctP at e
  split at e
  · cases e
    cases V1 with
    | p r => cases r with
      | dct q1 q2 q3 => exact ⟨_, _, rfl, R.sub.rd (.inr q1), q2, q3⟩
  · split at e
    · rename_i e3
      cases e
      cases V1 with
      | loc hi =>
        obtain ⟨kvs, q1, q2, q3⟩ := R.at_ _ _ e3
        exact ⟨_, kvs, rfl, .inl q1, q2, q3⟩
    · cases e
  · cases e
/-! len -/
def bLenA (ds : List D) (h : Hs) : R D := match ds with
  | [d] => (match dctP d h with
    | some z => .ok (.p (.int z.1.length)) h
    | none => bLen [d] h)
  | _ => .bad
def rLenA (K : PySem.W.Frag) : List V → Hp → VK → Prop := fun xs H Q => (∃ a kvs, xs = [V.ref a] ∧ Rd H a (.dK kvs) ∧ Q (.int (kvs.length : Nat)) H) ∨ ∃ x n, xs = [x] ∧ LenV K x H n ∧ Q (.int n) H
theorem cr_lenA : CallR X (.builtin "len") (rLenA X.K) := by
  refine CallR.or ?_ call_len
  intro pins s σ H xs us Q I r h
  obtain ⟨a, kvs, rfl, ha, q⟩ := h
  obtain ⟨u, rfl, ru⟩ := vals1 r
  cases ru
  exact d_len I ha fun t s' I' => ⟨.int kvs.length, H, I', ⟨t, rfl⟩, q⟩
theorem k_lenA : CallOk K cs (rLenA K) bLenA := fun g h H ds vs W σ Q R V1 F => by
  unfold bLenA at F
  split at F
  · cases V1 with
    | cons q t =>
      cases t
      split at F
      · rename_i z e
        obtain ⟨a, kvs, rfl, hd, ek, _⟩ := dctP_ok R q (ks := z.1) (ws := z.2) e
        refine .inl ⟨a, kvs, rfl, hd, ?_⟩
        have : z.1.length = kvs.length := by rw [ek]; simp
        rw [← this]
        exact F g _ H Step.refl R (.p (.int _))
      · exact .inr (k_len g h H [_] [_] W σ Q R (.cons q .nil) F)
  · exact F.elim
/-! dict(..) -/
def pairsP : List P → Option (List (P × P))
  | [] => some []
  | .tup [k, v] :: r => if isKey k then (pairsP r).map ((k, v) :: ·) else none
  | _ :: _ => none
def mergeP (ks vs : List P) : List (P × P) → List P × List P
  | [] => (ks, vs)
  | q :: r => mergeP (dPut ks vs q.1 q.2).1 (dPut ks vs q.1 q.2).2 r
def bDict (fin : List P → List P → Hs → R D) (ds : List D) (h : Hs) : R D := match ds with
  | [d] => (match dctP d h with
    | some z => fin z.1 z.2 h
    | none => (match lstP d h with
      | some ps => (match pairsP ps with
        | some qs => fin (mergeP [] [] qs).1 (mergeP [] [] qs).2 h
        | none => .bad)
      | none => .bad))
  | _ => .bad
theorem pairs_rel {g : Gh} {h : Hs} {H : Hp} (R : Rel K cs g h H) : ∀ {ps : List P} {xs : List V} {qs : List (P × P)}, RPs K cs g.G ps xs → pairsP ps = some qs → ∃ (as : List Addr) (kvs : List (Key × V)), xs = as.map V.ref ∧ Paired (fun p kv => SqT K H p [kV kv.1, kv.2]) as kvs ∧ Paired (fun (q : P × P) (kv : Key × V) => q.1 = keyP kv.1 ∧ RP K cs g.G q.2 kv.2) qs kvs
  | [], _, qs, .nil, e => by
    simp only [pairsP] at e
    cases e
    exact ⟨[], [], rfl, .nil, .nil⟩
  | p :: r, x :: xs, qs, .cons q t, e => by
    unfold pairsP at e
    split at e
    · rename_i e1; cases e1
    · rename_i k v r' e1
      injection e1 with e1 e2
      subst e1 e2
      split at e
      · rename_i hk
        obtain ⟨k, rfl⟩ := isKey_of hk
        simp only [Option.map_eq_some_iff] at e
        obtain ⟨qs', e3, rfl⟩ := e
        obtain ⟨as, kvs, h1, h2, h3⟩ := pairs_rel R t e3
        cases q with
        | tup q1 q2 => cases q2 with
          | cons q2 q3 => cases q3 with
            | cons q3 q4 =>
              cases q4
              have ek := keyV q2
              subst ek
              rename_i a y
              exact ⟨a :: as, (k, y) :: kvs, by rw [h1]; rfl, .cons (.inl (R.sub.rd q1)) h2, .cons ⟨rfl, q3⟩ h3⟩
      · cases e
    · cases e
theorem merge_rel {G : Hp} : ∀ {qs : List (P × P)} {kvs : List (Key × V)} (acc : List (Key × V)) (vs : List P), Paired (fun (q : P × P) (kv : Key × V) => q.1 = keyP kv.1 ∧ RP K cs G q.2 kv.2) qs kvs → RPs K cs G vs (acc.map (·.2)) →
    (mergeP (acc.map fun q => keyP q.1) vs qs).1 = (mergeK acc kvs).map (fun q => keyP q.1) ∧ RPs K cs G (mergeP (acc.map fun q => keyP q.1) vs qs).2 ((mergeK acc kvs).map (·.2))
  | _, _, acc, vs, .nil, r => ⟨rfl, r⟩
  | q :: qs, kv :: kvs, acc, vs, .cons h t, r => by
    obtain ⟨d1, d2⟩ := dPut_rel (kp := keyP) (fun _ _ => keyP_inj) h.2 acc vs kv.1 r
    simp only [mergeP, h.1, d1]
    exact merge_rel (putK acc kv.1 kv.2) _ t d2
def rDict (K : PySem.W.Frag) : List V → Hp → VK → Prop := fun xs H Q => (∃ (a : Addr) (kvs : List (Key × V)), xs = [.ref a] ∧ Rd H a (.dK kvs) ∧ ∀ p, H p = none → Q (.ref p) (upd H p (.dK kvs))) ∨
  ∃ (a : Addr) (ps : List Addr) (kvs : List (Key × V)), xs = [.ref a] ∧ SqL K H a (ps.map V.ref) ∧ Paired (fun p kv => SqT K H p [kV kv.1, kv.2]) ps kvs ∧ ∀ p, H p = none → Q (.ref p) (upd H p (.dK (mergeK [] kvs)))
theorem cr_dict (hc : X.calm = true) : CallR X (.type "dict") (rDict X.K) := CallR.or call_dictD (call_dictP hc)
theorem new_dct {fin : List P → List P → Hs → R D} (hf : DFinOk fin) {g : Gh} {h : Hs} {H : Hp} {W : WX} {σ : L2.St} {Q : VK} {kvs : List (Key × V)} {ws : List P} (R : Rel K cs g h H) (r : RPs K cs g.G ws (kvs.map (·.2))) (F : EndR K cs (relD K cs) W σ g h.length H Q (fin (kvs.map fun q => keyP q.1) ws h)) : ∀ p, H p = none → Lq Q (.ref p) (upd H p (.dK kvs)) := fun p hp => by
  have A := R.apart hp
  have R1 : Rel K cs g h (upd H p (.dK [])) := R.upd_apartU A (.inl hp)
  have := hf K cs g h.length H g h (upd H p (.dK [])) ws kvs p W σ Q (Step.refl.upd_new hp) R1 A hp ⟨_, upd_same, placed_dK _⟩ r F
  have e : upd (upd H p (.dK [])) p (.dK kvs) = upd H p (.dK kvs) := funext fun a => by
    by_cases h : a = p
    · subst h; rw [upd_same, upd_same]
    · rw [upd_ne h, upd_ne h, upd_ne h]
  rwa [e] at this
theorem k_dict {fin : List P → List P → Hs → R D} (hf : DFinOk fin) : CallOkL K cs (rDict K) (bDict fin) := fun g h H ds vs W σ Q R V1 F => by
  unfold bDict at F
  split at F
  · cases V1 with
    | cons q t =>
      cases t
      split at F
      · rename_i z e
        obtain ⟨a, kvs, rfl, hd, ek, r⟩ := dctP_ok R q (ks := z.1) (ws := z.2) e
        rw [ek] at F
        exact .inl ⟨a, kvs, rfl, hd, new_dct hf R r F⟩
      · split at F
        · rename_i ps e
          obtain ⟨a, xs, rfl, r, hs⟩ := lstP_ok R q e
          split at F
          · rename_i qs eq
            obtain ⟨as, kvs, h1, h2, h3⟩ := pairs_rel R r eq
            subst h1
            obtain ⟨m1, m2⟩ := merge_rel [] [] h3 .nil
            simp only [List.map_nil] at m1 m2
            rw [m1] at F
            exact .inr ⟨a, as, kvs, rfl, hs, h2, new_dct hf R m2 F⟩
          · exact F.elim
        · exact F.elim
  · exact F.elim
/-! list(d), of a list, a tuple, a dict's keys -/
def rowK (d : D) (h : Hs) : Option (List P) := match dctP d h with
  | some z => some z.1
  | none => rowP d h
def bListA (ds : List D) (h : Hs) : R D := match ds with
  | [d] => (match rowK d h with
    | some ps => .ok (.p (.lst ps)) h
    | none => .bad)
  | _ => .bad
def bListB (ds : List D) (h : Hs) : R D := match ds with
  | [d] => (match rowK d h with
    | some ps => .ok (.loc h.length) (h ++ [.lst ps])
    | none => .bad)
  | _ => .bad
def rListA (K : PySem.W.Frag) : List V → Hp → VK → Prop := fun xs H Q => (∃ (a : Addr) (kvs : List (Key × V)), xs = [.ref a] ∧ Rd H a (.dK kvs) ∧ ∀ p, H p = none → Q (.ref p) (upd H p (.lst (kvs.map fun kv => kV kv.1)))) ∨
  ∃ p ys, xs = [.ref p] ∧ (SqL K H p ys ∨ SqT K H p ys) ∧ ∀ l, H l = none → Q (.ref l) (upd H l (.lst ys))
theorem cr_listA (hc : X.calm = true) : CallR X (.type "list") (rListA X.K) := CallR.or (call_listD hc) call_list_of
theorem key_rp {G : Hp} (k : Key) : RP K cs G (keyP k) (kV k) := by cases k <;> constructor
theorem keys_rps {G : Hp} : ∀ kvs : List (Key × V), RPs K cs G (kvs.map fun q => keyP q.1) (kvs.map fun kv => kV kv.1)
  | [] => .nil
  | kv :: r => .cons (key_rp kv.1) (keys_rps r)
theorem rowK_ok {g : Gh} {h : Hs} {H : Hp} {d : D} {v : V} {ps : List P} (R : Rel K cs g h H) (V1 : RD K cs g.ρ g.G h.length d v) (e : rowK d h = some ps) :
    (∃ a kvs, v = .ref a ∧ Rd H a (.dK kvs) ∧ ps = kvs.map fun q => keyP q.1) ∨ ∃ a xs, v = .ref a ∧ RPs K cs g.G ps xs ∧ (SqL K H a xs ∨ SqT K H a xs) := by
  unfold rowK at e
  split at e
  · rename_i z ez
    obtain ⟨a, kvs, rfl, hd, ek, r⟩ := dctP_ok R V1 (ks := z.1) (ws := z.2) ez
    cases e
    exact .inl ⟨a, kvs, rfl, hd, ek⟩
  · obtain ⟨a, xs, rfl, r, hs⟩ := rowP_ok R V1 e
    exact .inr ⟨a, xs, rfl, r, hs.imp (fun z => z) fun z => z.1⟩
theorem k_listA : CallOk K cs (rListA K) bListA := fun g h H ds vs W σ Q R V1 F => by
  unfold bListA at F
  split at F
  · cases V1 with
    | cons q t =>
      cases t
      split at F
      · rename_i ps e
        rcases rowK_ok R q e with ⟨a, kvs, rfl, hd, ek⟩ | ⟨a, xs, rfl, r, hs⟩
        · subst ek
          exact .inl ⟨a, kvs, rfl, hd, new_lstP R (keys_rps kvs) F⟩
        · exact .inr ⟨a, xs, rfl, hs, new_lstP R r F⟩
      · exact F.elim
  · exact F.elim
theorem k_listB : CallOk K cs (rListA K) bListB := fun g h H ds vs W σ Q R V1 F => by
  unfold bListB at F
  split at F
  · cases V1 with
    | cons q t =>
      cases t
      split at F
      · rename_i ps e
        rcases rowK_ok R q e with ⟨a, kvs, rfl, hd, ek⟩ | ⟨a, xs, rfl, r, hs⟩
        · subst ek
          exact .inl ⟨a, kvs, rfl, hd, new_lstN R (keys_rps kvs) F⟩
        · exact .inr ⟨a, xs, rfl, hs, new_lstN R r F⟩
      · exact F.elim
  · exact F.elim
/-! sorted, of whole numbers: a list, a tuple, a dict's keys -/
def rSortedTI (K : PySem.W.Frag) : List V → Hp → VK → Prop := fun vs H Q => ∃ (a : Addr) (ns : List Int), vs = [V.ref a] ∧ SqT K H a (ns.map V.int) ∧ ns.length < 64 ∧ ∀ (ns' : List Int) (p : Addr), ns'.Perm ns → ns'.Pairwise (· ≤ ·) → H p = none → Q (.ref p) (upd H p (.lst (ns'.map V.int)))
theorem cr_sortedTI : CallR X (.builtin "sorted") (rSortedTI X.K) := by
  intro pins s σ H vs us Q I r q
  obtain ⟨a, ns, rfl, hs, h64, q⟩ := q
  obtain ⟨its, rv, hl, hz⟩ := I.tuple hs
  rw [Vals.ref1 r]
  have hi := rv.ints
  have hal : its.length = ns.length := by have := rv.length; rw [List.length_map] at this; exact this.symm
  refine Calls.call_function_entry PyProof.Rows.kind_sorted PyProof.Rows.plain_sorted PyProof.Rows.entry_sorted (PyProof.Rows.args_sorted1 _) ?_
  unfold Builtin.«sorted»
  refine wpAny_bind (m := checkCount "sorted" 1 1 _) (wpAny_pure ?_)
  obtain ⟨o, ho, hc, n, hd⟩ := hl
  refine wpAny_bind (wpAny_collect_seq a (.inr rfl) ho hc hd fun h' hk => ?_)
  rw [List.toList_toArray]
  have I1 : Inv X pins σ H { s with heap := h' } := I.kept (t' := s.toks) hk
  have hoL : (h'.push (seqObj "list" its.toArray 0)).get? h'.objs.size = some (seqObj "list" its.toArray 0) := Heap.get?_push_size _ rfl
  refine wpAny_bind (wpAny_newList ?_ (by rw [hal, sizeLine_eq]; omega))
  show wpAny _ _ _ _ _ { s with heap := h'.push (seqObj "list" its.toArray 0) }
  refine wpAny_bind (wpAny_holding (wpAny_call_entry PyProof.Rows.slot_list_sort ⟨_, hoL, rfl⟩ PyProof.Rows.entry_list_sort
    (PyProof.Rows.list_sort_tree (s := { s with heap := h'.push (seqObj "list" its.toArray 0) }) hoL hi (by rw [hal]; exact h64) fun out ys g1 g2 g3 => ⟨_, rfl, ?_⟩) (PyProof.Rows.args_list_sort _)))
  obtain ⟨e', he'⟩ := PyProof.Rows.sortedHeap_at (vs := its) (out := out) hoL
  have hlen : (ys.map V.int).length ≤ sizeLine := by
    rw [List.length_map, g2.length_eq]
    exact Nat.le_trans (Nat.le_of_lt h64) (by decide)
  refine wpAny_pure ⟨_, rfl, .ref h'.objs.size, upd H h'.objs.size (.lst (ys.map V.int)), I1.laid (t' := s.toks) (fun b u e => ?_) (Nat.le_refl _)
    (show ObjOk X.prog X.w _ _ _ (.lst (ys.map V.int)) from ⟨hlen, out.toList, e', vals_of_ints g1, by rw [Array.toArray_toList]; exact he'⟩), rfl, q ys _ g2 g3 (I1.hok.fresh (Nat.le_refl _))⟩
  have hb : b < h'.objs.size := Heap.lt_size e
  rw [PyProof.Rows.sortedHeap_old (Nat.ne_of_lt hb) (by rw [size_push']; exact Nat.lt_succ_of_lt hb)]
  exact Heap.get?_push_of_some _ e
def rSortedDI : List V → Hp → VK → Prop := fun xs H Q => ∃ (a : Addr) (kvs : List (Key × V)) (ks : List Int), xs = [.ref a] ∧ Rd H a (.dK kvs) ∧ kvs.map (·.1) = ks.map Sum.inl ∧ ks.length < 64 ∧ ∀ (ys : List Int) (p : Addr), ys.Perm ks → ys.Pairwise (· ≤ ·) → H p = none → Q (.ref p) (upd H p (.lst (ys.map V.int)))
def rSortedA (K : PySem.W.Frag) : List V → Hp → VK → Prop := fun xs H Q => rSortedI K xs H Q ∨ (rSortedTI K xs H Q ∨ rSortedDI xs H Q)
theorem cr_sortedA (hc : X.calm = true) : CallR X (.builtin "sorted") (rSortedA X.K) := CallR.or cr_sortedI (CallR.or cr_sortedTI (call_sortedDI hc))
def bSortedA (ds : List D) (h : Hs) : R D := match ds with
  | [d] => (match dctP d h with
    | some z => (match intP z.1 with
      | some ns => if ns.length < 64 then .ok (.p (.lst ((sortZ ns).map P.int))) h else .bad
      | none => .bad)
    | none => (match lstP d h with
      | some ps => (match intP ps with
        | some ns => .ok (.p (.lst ((sortZ ns).map P.int))) h
        | none => .bad)
      | none => (match rowP d h with
        | some ps => (match intP ps with
          | some ns => if ns.length < 64 then .ok (.p (.lst ((sortZ ns).map P.int))) h else .bad
          | none => .bad)
        | none => .bad)))
  | _ => .bad
theorem intP_eq : ∀ {ps : List P} {ns : List Int}, intP ps = some ns → ps = ns.map P.int
  | [], ns, e => by simp only [intP] at e; cases e; rfl
  | p :: r, ns, e => by
    unfold intP at e
    split at e
    · rename_i e1; cases e1
    · rename_i i r' e1
      injection e1 with e1 e2
      subst e1 e2
      split at e
      · rename_i ms em
        cases e
        rw [intP_eq em]; rfl
      · cases e
    · cases e
theorem keys_int : ∀ {kvs : List (Key × V)} {ns : List Int}, (kvs.map fun q => keyP q.1) = ns.map P.int → kvs.map (·.1) = ns.map Sum.inl
  | [], [], _ => rfl
  | [], _ :: _, e => by simp at e
  | _ :: _, [], e => by simp at e
  | (k, v) :: r, n :: ns, e => by
    simp only [List.map_cons, List.cons.injEq] at e ⊢
    refine ⟨?_, keys_int e.2⟩
    cases k with
    | inl i => have := e.1; simp only [keyP] at this; injection this with this; rw [this]
    | inr x => have := e.1; simp only [keyP] at this; cases this
theorem sorted_fin {g : Gh} {h : Hs} {H : Hp} {W : WX} {σ : L2.St} {Q : VK} {ns : List Int} (R : Rel K cs g h H) (F : EndR K cs (relD K cs) W σ g h.length H Q (.ok (.p (.lst ((sortZ ns).map P.int))) h)) : ∀ (ns' : List Int) (l : Addr), ns'.Perm ns → ns'.Pairwise (· ≤ ·) → H l = none → Q (.ref l) (upd H l (.lst (ns'.map V.int))) := fun ns' l hp hsrt hl => by
  have : ns' = sortZ ns := sorted_uniq (hp.trans (sortZ_perm ns).symm) hsrt (sortZ_sorted ns)
  subst this
  exact new_lstP R (rps_intsV _) F l hl
theorem k_sortedA : CallOk K cs (rSortedA K) bSortedA := fun g h H ds vs W σ Q R V1 F => by
  unfold bSortedA at F
  split at F
  · cases V1 with
    | cons q t =>
      cases t
      split at F
      · rename_i z e
        obtain ⟨a, kvs, rfl, hd, ek, r⟩ := dctP_ok R q (ks := z.1) (ws := z.2) e
        split at F
        · rename_i ns en
          split at F
          · rename_i h64
            exact .inr (.inr ⟨a, kvs, ns, rfl, hd, keys_int (by rw [← ek]; exact intP_eq en), h64, sorted_fin R F⟩)
          · exact F.elim
        · exact F.elim
      · split at F
        · rename_i ps e
          obtain ⟨a, xs, rfl, r, hs⟩ := lstP_ok R q e
          split at F
          · rename_i ns en
            have ex := intP_ok r en
            subst ex
            exact .inl ⟨a, ns, rfl, hs, sorted_fin R F⟩
          · exact F.elim
        · rename_i el
          split at F
          · rename_i ps e
            obtain ⟨a, xs, rfl, r, hs⟩ := rowP_ok R q e
            split at F
            · rename_i ns en
              have ex := intP_ok r en
              subst ex
              split at F
              · rename_i h64
                rcases hs with hs | hs
                · exact .inl ⟨a, ns, rfl, hs, sorted_fin R F⟩
                · exact .inr (.inl ⟨a, ns, rfl, hs.1, h64, sorted_fin R F⟩)
              · exact F.elim
            · exact F.elim
          · exact F.elim
  · exact F.elim
/-! ### dicts walked -/
def keysI (d : D) (h : Hs) : R (List D × (Hs → Bool)) := match d with
  | .p (.dct ks _) => .ok (ks.map D.p, fun _ => true) h
  | _ => .bad
def valsI (d : D) (h : Hs) : R (List D × (Hs → Bool)) := match d with
  | .p (.dct _ vs) => .ok (vs.map D.p, fun _ => true) h
  | _ => .bad
def prs : List P → List P → List D
  | k :: ks, v :: vs => .p (.tup [k, v]) :: prs ks vs
  | _, _ => []
def itemsI (d : D) (h : Hs) : R (List D × (Hs → Bool)) := match d with
  | .p (.dct ks vs) => .ok (prs ks vs, fun _ => true) h
  | _ => .bad
def iKeysD (fe : FE) : FI := fun env h => (fe env h).bind keysI
def iValsD (fe : FE) : FI := fun env h => (fe env h).bind valsI
def iItemsD (fe : FE) : FI := fun env h => (fe env h).bind itemsI
section
variable {g0 : Gh} {n0 : Nat} {H0 : Hp} {a : Addr} {od : Obj} {kvs : List (Key × V)} {ws : List P}
theorem itOk_keys (e : g0.G a = some (.frz od (.dK kvs))) : ItOk K cs g0 n0 H0 (Itk a od kvs) ((kvs.map fun q => keyP q.1).map D.p) (fun _ => true) where
  go := fun g h H i d S R _ ed => by
    have eH : H a = some (.frz od (.dK kvs)) := R.sub _ _ (S.sub _ _ e)
    rw [List.getElem?_map, List.getElem?_map] at ed
    cases ek : kvs[i]? with
    | none => rw [ek] at ed; cases ed
    | some kv =>
      rw [ek] at ed
      cases ed
      refine ⟨⟨eH, (List.getElem?_eq_some_iff.mp ek).1⟩, fun x H' y => ?_⟩
      obtain ⟨rfl, k, v, e1, rfl⟩ := y
      rw [ek] at e1; cases e1
      exact ⟨g, Step.refl, R, .p (key_rp k)⟩
  stop := fun g h H S R _ => ⟨R.sub _ _ (S.sub _ _ e), by simp⟩
theorem itOk_vals (e : g0.G a = some (.frz od (.dK kvs))) (r : RPs K cs g0.G ws (kvs.map (·.2))) : ItOk K cs g0 n0 H0 (Itd a od kvs) (ws.map D.p) (fun _ => true) where
  go := fun g h H i d S R _ ed => by
    have eH : H a = some (.frz od (.dK kvs)) := R.sub _ _ (S.sub _ _ e)
    rw [List.getElem?_map] at ed
    cases ek : ws[i]? with
    | none => rw [ek] at ed; cases ed
    | some w =>
      rw [ek] at ed
      cases ed
      obtain ⟨v, e1, rv⟩ := (r.mono S.sub).get ek
      rw [List.getElem?_map] at e1
      cases e2 : kvs[i]? with
      | none => rw [e2] at e1; cases e1
      | some kv =>
        rw [e2] at e1
        cases e1
        refine ⟨⟨eH, (List.getElem?_eq_some_iff.mp e2).1⟩, fun x H' y => ?_⟩
        obtain ⟨rfl, k, e3⟩ := y
        rw [e2] at e3
        cases e3
        exact ⟨g, Step.refl, R, .p rv⟩
  stop := fun g h H S R _ => ⟨R.sub _ _ (S.sub _ _ e), by have := r.length; simp at this ⊢; omega⟩
theorem prs_get : ∀ {ks vs : List P} {i : Nat} {d : D}, (prs ks vs)[i]? = some d → ∃ k v, ks[i]? = some k ∧ vs[i]? = some v ∧ d = .p (.tup [k, v])
  | k :: ks, v :: vs, 0, d, e => by simp [prs] at e; exact ⟨k, v, rfl, rfl, e.symm⟩
  | k :: ks, v :: vs, i + 1, d, e => by
    obtain ⟨k', v', h1, h2, h3⟩ := prs_get (ks := ks) (vs := vs) (i := i) (by simpa [prs] using e)
    exact ⟨k', v', by simpa using h1, by simpa using h2, h3⟩
  | [], _, _, _, e => by simp [prs] at e
  | _ :: _, [], _, _, e => by simp [prs] at e
theorem prs_len : ∀ {ks vs : List P}, ks.length = vs.length → (prs ks vs).length = ks.length
  | [], [], _ => rfl
  | [], _ :: _, e => by simp at e
  | _ :: _, [], e => by simp at e
  | k :: ks, v :: vs, e => by simp [prs, prs_len (ks := ks) (vs := vs) (by simpa using e)]
theorem itOk_items (e : g0.G a = some (.frz od (.dK kvs))) (r : RPs K cs g0.G ws (kvs.map (·.2))) : ItOk K cs g0 n0 H0 (Iti a od kvs) (prs (kvs.map fun q => keyP q.1) ws) (fun _ => true) where
  go := fun g h H i d S R _ ed => by
    have eH : H a = some (.frz od (.dK kvs)) := R.sub _ _ (S.sub _ _ e)
    obtain ⟨k, w, e1, e2, rfl⟩ := prs_get ed
    obtain ⟨v, e3, rv⟩ := (r.mono S.sub).get e2
    rw [List.getElem?_map] at e1 e3
    cases e4 : kvs[i]? with
    | none => rw [e4] at e1; cases e1
    | some kv =>
      rw [e4] at e1 e3
      cases e1
      cases e3
      refine ⟨⟨eH, (List.getElem?_eq_some_iff.mp e4).1⟩, fun x H' y => ?_⟩
      obtain ⟨T, k, v, e5, rfl, hT, rfl⟩ := y
      rw [e4] at e5
      cases e5
      obtain ⟨R', S'⟩ := R.frozen (o := .tup [kV k, v]) hT
      exact ⟨_, S', R', .p (.tup (.inl upd_same) (.cons (key_rp k) (.cons (rv.mono S'.sub) .nil)))⟩
  stop := fun g h H S R _ => ⟨R.sub _ _ (S.sub _ _ e), by
    have := r.length
    rw [prs_len (by simpa using this.symm)]
    simp⟩
end
section
variable {tg e : Expr} {fe : FE} {apos cpos : Pos}
theorem giKeysD (ge : GE X cs e fe) : GI X cs tg e (iKeysD fe) := fun W tk => by
  refine PI.imp (pi_keys (ge W tk)) fun σ H Rr ⟨g, env, h, R, E, F⟩ => ?_
  refine ⟨g, env, h, R, E, ?_⟩
  unfold iKeysD at F
  cases q : fe env h with
  | bad => rw [q] at F; exact F
  | ex c fs h' => rw [q] at F; exact F
  | ok d h1 =>
    rw [q] at F
    simp only [Ar.R.bind] at F
    intro g1 x H1 S1 R1 V1
    unfold keysI at F
    cases V1 with
    | p r =>
      cases r with
      | dct q1 q2 q3 =>
        obtain ⟨od, q1⟩ := q1
        subst q2
        exact ⟨_, od, rfl, .inl ⟨_, R1.sub _ _ q1, F g1 _ H1 S1 R1 (itOk_keys q1)⟩⟩
      | _ => exact F.elim
    | loc hi => exact F.elim
theorem giValsD (ge : GE X cs e fe) (hbase : attributeBase e "values" X.env (eval e X.env) = eval e X.env := by rfl) (hline : (apos.endLine == cpos.line) = true := by rfl) : GI X cs tg (.Call (.Attribute e "values" apos) [] [] cpos) (iValsD fe) := fun W tk => by
  refine PI.imp (pi_values (ge W tk) hbase hline) fun σ H Rr ⟨g, env, h, R, E, F⟩ => ?_
  refine ⟨g, env, h, R, E, ?_⟩
  unfold iValsD at F
  cases q : fe env h with
  | bad => rw [q] at F; exact F
  | ex c fs h' => rw [q] at F; exact F
  | ok d h1 =>
    rw [q] at F
    simp only [Ar.R.bind] at F
    intro g1 x H1 S1 R1 V1
    unfold valsI at F
    cases V1 with
    | p r =>
      cases r with
      | dct q1 q2 q3 =>
        obtain ⟨od, q1⟩ := q1
        exact ⟨_, od, _, rfl, R1.sub _ _ q1, F g1 _ H1 S1 R1 (itOk_vals q1 q3)⟩
      | _ => exact F.elim
    | loc hi => exact F.elim
theorem giItemsD {elts : List Expr} {kk : Nat} {tpos : Pos} (ge : GE X cs e fe) (hbase : attributeBase e "items" X.env (eval e X.env) = eval e X.env := by rfl) (hline : (apos.endLine == cpos.line) = true := by rfl) : GI X cs (.Tuple elts kk tpos) (.Call (.Attribute e "items" apos) [] [] cpos) (iItemsD fe) := fun W tk => by
  refine PI.imp (pi_items (ge W tk) hbase hline) fun σ H Rr ⟨g, env, h, R, E, F⟩ => ?_
  refine ⟨g, env, h, R, E, ?_⟩
  unfold iItemsD at F
  cases q : fe env h with
  | bad => rw [q] at F; exact F
  | ex c fs h' => rw [q] at F; exact F
  | ok d h1 =>
    rw [q] at F
    simp only [Ar.R.bind] at F
    intro g1 x H1 S1 R1 V1
    unfold itemsI at F
    cases V1 with
    | p r =>
      cases r with
      | dct q1 q2 q3 =>
        obtain ⟨od, q1⟩ := q1
        subst q2
        exact ⟨_, od, _, rfl, R1.sub _ _ q1, F g1 _ H1 S1 R1 (itOk_items q1 q3)⟩
      | _ => exact F.elim
    | loc hi => exact F.elim
end
end
end Ar
namespace Ar
open PySem PySem.Spec PyProof.Rows L2
/-! ### zip, enumerate, reversed -/
section
variable {K : PySem.W.Frag} {cs : Tx}
/-- the list, the tuple at a has the items, as long as inv holds -/
def KeyL (K : PySem.W.Frag) (cs : Tx) (g0 : Gh) (n0 : Nat) (H0 : Hp) (a : Addr) (it : List D × (Hs → Bool)) : Prop := ∀ (g : Gh) (h : Hs) (H : Hp), Soft g0 n0 g h.length → Rel K cs g h H → it.2 h = true → ∃ xs, SqL K H a xs ∧ RDs K cs g.ρ g.G h.length it.1 xs
def KeyT (K : PySem.W.Frag) (cs : Tx) (g0 : Gh) (n0 : Nat) (H0 : Hp) (a : Addr) (it : List D × (Hs → Bool)) : Prop := ∀ (g : Gh) (h : Hs) (H : Hp), Soft g0 n0 g h.length → Rel K cs g h H → it.2 h = true → ∃ xs, SqT K H a xs ∧ RDs K cs g.ρ g.G h.length it.1 xs
theorem KeyL.later {g0 g1 : Gh} {n0 n1 : Nat} {H0 H1 : Hp} {a : Addr} {it : List D × (Hs → Bool)} (k : KeyL K cs g0 n0 H0 a it) (s : Step g0 n0 H0 g1 n1 H1) : KeyL K cs g1 n1 H1 a it := fun g h H S R i => k g h H (s.soft.trans S) R i
theorem KeyT.later {g0 g1 : Gh} {n0 n1 : Nat} {H0 H1 : Hp} {a : Addr} {it : List D × (Hs → Bool)} (k : KeyT K cs g0 n0 H0 a it) (s : Step g0 n0 H0 g1 n1 H1) : KeyT K cs g1 n1 H1 a it := fun g h H S R i => k g h H (s.soft.trans S) R i
/-- a list (true) or a tuple (false) -/
def isL (d : D) (h : Hs) : Bool := match d with
  | .p (.lst _) => true
  | .loc i => (match h[i]? with
    | some (.lst _) => true
    | some (.rl _) => true
    | _ => false)
  | _ => false
theorem seq_key {g1 : Gh} {h1 : Hs} {H1 : Hp} {d : D} {x : V} {it : List D × (Hs → Bool)} {h2 : Hs} (R1 : Rel K cs g1 h1 H1) (V1 : RD K cs g1.ρ g1.G h1.length d x) (e : seqItems d h1 = .ok it h2) :
    h2 = h1 ∧ ∃ a, x = .ref a ∧ ((isL d h1 = true ∧ KeyL K cs g1 h1.length H1 a it ∧ ∃ xs, SqL K H1 a xs ∧ RDs K cs g1.ρ g1.G h1.length it.1 xs) ∨ (isL d h1 = false ∧ KeyT K cs g1 h1.length H1 a it ∧ ∃ xs, SqT K H1 a xs ∧ RDs K cs g1.ρ g1.G h1.length it.1 xs)) := by
  unfold seqItems at e
  cases V1 with
  | p r =>
    cases r with
    | lst q1 q2 =>
      cases e
      exact ⟨rfl, _, rfl, .inl ⟨rfl, fun g h H S R _ => ⟨_, .inl (R.sub.rd (S.sub.rd q1.1)), RDs.lift (q2.mono S.sub)⟩, _, .inl (R1.sub.rd q1.1), RDs.lift q2⟩⟩
    | tup q1 q2 =>
      cases e
      exact ⟨rfl, _, rfl, .inr ⟨rfl, fun g h H S R _ => ⟨_, .inl (R.sub.rd (S.sub.rd q1)), RDs.lift (q2.mono S.sub)⟩, _, .inl (R1.sub.rd q1), RDs.lift q2⟩⟩
    | _ => cases e
  | loc hi =>
    rename_i i
    dsimp only at e
    cases e1 : h1[i]? with
    | none => simp only [e1] at e; cases e
    | some o =>
      simp only [e1] at e
      have ro := R1.at_ i o e1
      cases o with
      | lst ps =>
        obtain ⟨xs, q1, q2⟩ := ro
        cases e
        refine ⟨rfl, _, rfl, .inl ⟨by unfold isL; simp only [e1], fun g h H S R hiv => ?_, _, SqL.of q1, RDs.lift q2⟩⟩
        cases e2 : h[i]? with
        | none => simp [e2] at hiv
        | some o2 =>
          cases o2 with
          | lst qs =>
            simp only [e2] at hiv
            have := beqXs_eq hiv
            subst this
            obtain ⟨ys, p1, p2⟩ := R.at_ i _ e2
            rw [S.ext i hi] at p1
            exact ⟨ys, SqL.of p1, RDs.lift p2⟩
          | _ => simp [e2] at hiv
      | rl ds =>
        obtain ⟨xs, q1, q2⟩ := ro
        cases e
        refine ⟨rfl, _, rfl, .inl ⟨by unfold isL; simp only [e1], fun g h H S R hiv => ?_, _, SqL.of q1, q2⟩⟩
        cases e2 : h[i]? with
        | none => simp [e2] at hiv
        | some o2 =>
          cases o2 with
          | rl qs =>
            simp only [e2] at hiv
            have := beqDs_eq hiv
            subst this
            obtain ⟨ys, p1, p2⟩ := R.at_ i _ e2
            rw [S.ext i hi] at p1
            exact ⟨ys, SqL.of p1, p2⟩
          | _ => simp [e2] at hiv
      | rt ds =>
        obtain ⟨xs, q1, q2⟩ := ro
        cases e
        refine ⟨rfl, _, rfl, .inr ⟨by unfold isL; simp only [e1], fun g h H S R hiv => ?_, _, SqT.of q1, q2⟩⟩
        cases e2 : h[i]? with
        | none => simp [e2] at hiv
        | some o2 =>
          cases o2 with
          | rt qs =>
            simp only [e2] at hiv
            have := beqDs_eq hiv
            subst this
            obtain ⟨ys, p1, p2⟩ := R.at_ i _ e2
            rw [S.ext i hi] at p1
            exact ⟨ys, SqT.of p1, p2⟩
          | _ => simp [e2] at hiv
      | _ => cases e
/-- pairs of plain items -/
def zipD : List D → List D → Option (List D)
  | .p x :: r, .p y :: t => (zipD r t).map (.p (.tup [x, y]) :: ·)
  | [], _ => some []
  | _, [] => some []
  | _, _ => none
theorem zipD_get : ∀ {as bs zs : List D} {i : Nat} {d : D}, zipD as bs = some zs → zs[i]? = some d → ∃ x y, as[i]? = some (.p x) ∧ bs[i]? = some (.p y) ∧ d = .p (.tup [x, y])
  | .p x :: r, .p y :: t, zs, i, d, e, ed => by
    simp only [zipD, Option.map_eq_some_iff] at e
    obtain ⟨w, e1, rfl⟩ := e
    cases i with
    | zero => simp at ed; exact ⟨x, y, rfl, rfl, ed.symm⟩
    | succ i =>
      obtain ⟨x', y', h1, h2, h3⟩ := zipD_get e1 (i := i) (by simpa using ed)
      exact ⟨x', y', by simpa using h1, by simpa using h2, h3⟩
  | [], _, zs, i, d, e, ed => by simp [zipD] at e; subst e; simp at ed
  | .loc _ :: _, [], zs, i, d, e, ed => by simp [zipD] at e; subst e; simp at ed
  | .p _ :: _, [], zs, i, d, e, ed => by simp [zipD] at e; subst e; simp at ed
  | .loc _ :: _, .p _ :: _, zs, i, d, e, ed => by simp [zipD] at e
  | .loc _ :: _, .loc _ :: _, zs, i, d, e, ed => by simp [zipD] at e
  | .p _ :: _, .loc _ :: _, zs, i, d, e, ed => by simp [zipD] at e
theorem zipD_len : ∀ {as bs zs : List D}, zipD as bs = some zs → zs.length = min as.length bs.length
  | .p x :: r, .p y :: t, zs, e => by
    simp only [zipD, Option.map_eq_some_iff] at e
    obtain ⟨w, e1, rfl⟩ := e
    simp [zipD_len e1]
  | [], _, zs, e => by simp [zipD] at e; subst e; simp
  | .loc _ :: _, [], zs, e => by simp [zipD] at e; subst e; simp
  | .p _ :: _, [], zs, e => by simp [zipD] at e; subst e; simp
  | .loc _ :: _, .p _ :: _, zs, e => by simp [zipD] at e
  | .loc _ :: _, .loc _ :: _, zs, e => by simp [zipD] at e
  | .p _ :: _, .loc _ :: _, zs, e => by simp [zipD] at e
def zipI (ds : List D) (h : Hs) : R (List D × (Hs → Bool)) := match ds with
  | [d1, d2] => (match seqItems d1 h, seqItems d2 h with
    | .ok i1 _, .ok i2 _ => (match zipD i1.1 i2.1 with
      | some zs => if isL d1 h == isL d2 h then .ok (zs, fun h' => i1.2 h' && i2.2 h') h else .bad
      | none => .bad)
    | _, _ => .bad)
  | _ => .bad
def iZip2 (fa : FA) : FI := fun env h => (fa env h).bind zipI
theorem itOk_zipL {g0 : Gh} {n0 : Nat} {H0 : Hp} {a b : Addr} {i1 i2 : List D × (Hs → Bool)} {zs : List D} (k1 : KeyL K cs g0 n0 H0 a i1) (k2 : KeyL K cs g0 n0 H0 b i2) (e : zipD i1.1 i2.1 = some zs) : ItOk K cs g0 n0 H0 (Itz K a b) zs (fun h' => i1.2 h' && i2.2 h') where
  go := fun g h H i d S R hi ed => by
    rw [Bool.and_eq_true] at hi
    obtain ⟨x, y, e1, e2, rfl⟩ := zipD_get e ed
    obtain ⟨xs, q1, r1⟩ := k1 g h H S R hi.1
    obtain ⟨ys, q2, r2⟩ := k2 g h H S R hi.2
    obtain ⟨v, e3, rv⟩ := rds_get r1 e1
    obtain ⟨w, e4, rw_⟩ := rds_get r2 e2
    refine ⟨⟨xs, ys, v, w, q1, q2, e3, e4⟩, fun z H' hy => ?_⟩
    obtain ⟨T, v', w', rfl, hT, rfl, f1, f2⟩ := hy
    have := f1 xs q1; rw [e3] at this; cases this
    have := f2 ys q2; rw [e4] at this; cases this
    obtain ⟨R', S'⟩ := R.frozen (o := .tup [v, w]) hT
    cases rv with
    | p rv =>
      cases rw_ with
      | p rw_ => exact ⟨_, S', R', .p (.tup (.inl upd_same) (.cons (rv.mono S'.sub) (.cons (rw_.mono S'.sub) .nil)))⟩
  stop := fun g h H S R hi => by
    rw [Bool.and_eq_true] at hi
    obtain ⟨xs, q1, r1⟩ := k1 g h H S R hi.1
    obtain ⟨ys, q2, r2⟩ := k2 g h H S R hi.2
    have h1 := Paired.length r1
    have h2 := Paired.length r2
    exact ⟨xs, ys, q1, q2, by rw [zipD_len e]; omega⟩
theorem itOk_zipT {g0 : Gh} {n0 : Nat} {H0 : Hp} {a b : Addr} {i1 i2 : List D × (Hs → Bool)} {zs : List D} (k1 : KeyT K cs g0 n0 H0 a i1) (k2 : KeyT K cs g0 n0 H0 b i2) (e : zipD i1.1 i2.1 = some zs) : ItOk K cs g0 n0 H0 (RZ.ItzT K a b) zs (fun h' => i1.2 h' && i2.2 h') where
  go := fun g h H i d S R hi ed => by
    rw [Bool.and_eq_true] at hi
    obtain ⟨x, y, e1, e2, rfl⟩ := zipD_get e ed
    obtain ⟨xs, q1, r1⟩ := k1 g h H S R hi.1
    obtain ⟨ys, q2, r2⟩ := k2 g h H S R hi.2
    obtain ⟨v, e3, rv⟩ := rds_get r1 e1
    obtain ⟨w, e4, rw_⟩ := rds_get r2 e2
    refine ⟨⟨xs, ys, v, w, q1, q2, e3, e4⟩, fun z H' hy => ?_⟩
    obtain ⟨T, v', w', rfl, hT, rfl, f1, f2⟩ := hy
    have := f1 xs q1; rw [e3] at this; cases this
    have := f2 ys q2; rw [e4] at this; cases this
    obtain ⟨R', S'⟩ := R.frozen (o := .tup [v, w]) hT
    cases rv with
    | p rv =>
      cases rw_ with
      | p rw_ => exact ⟨_, S', R', .p (.tup (.inl upd_same) (.cons (rv.mono S'.sub) (.cons (rw_.mono S'.sub) .nil)))⟩
  stop := fun g h H S R hi => by
    rw [Bool.and_eq_true] at hi
    obtain ⟨xs, q1, r1⟩ := k1 g h H S R hi.1
    obtain ⟨ys, q2, r2⟩ := k2 g h H S R hi.2
    have h1 := Paired.length r1
    have h2 := Paired.length r2
    exact ⟨xs, ys, q1, q2, by rw [zipD_len e]; omega⟩
/-! enumerate, of lists -/
def enumD (k : Nat) : List D → Option (List D)
  | .p x :: r => (enumD (k + 1) r).map (.p (.tup [.int k, x]) :: ·)
  | [] => some []
  | _ => none
theorem enumD_get : ∀ {as zs : List D} {k i : Nat} {d : D}, enumD k as = some zs → zs[i]? = some d → ∃ x, as[i]? = some (.p x) ∧ d = .p (.tup [.int (k + i : Nat), x])
  | .p x :: r, zs, k, i, d, e, ed => by
    simp only [enumD, Option.map_eq_some_iff] at e
    obtain ⟨w, e1, rfl⟩ := e
    cases i with
    | zero => simp at ed; exact ⟨x, rfl, ed.symm⟩
    | succ i =>
      obtain ⟨x', h1, h2⟩ := enumD_get e1 (i := i) (by simpa using ed)
      exact ⟨x', by simpa using h1, by rw [h2]; congr 5; omega⟩
  | [], zs, k, i, d, e, ed => by simp [enumD] at e; subst e; simp at ed
  | .loc _ :: _, zs, k, i, d, e, ed => by simp [enumD] at e
theorem enumD_len : ∀ {as zs : List D} {k : Nat}, enumD k as = some zs → zs.length = as.length
  | .p x :: r, zs, k, e => by
    simp only [enumD, Option.map_eq_some_iff] at e
    obtain ⟨w, e1, rfl⟩ := e
    simp [enumD_len e1]
  | [], zs, k, e => by simp [enumD] at e; subst e; rfl
  | .loc _ :: _, zs, k, e => by simp [enumD] at e
def enumI (ds : List D) (h : Hs) : R (List D × (Hs → Bool)) := match ds with
  | [d] => (match seqItems d h with
    | .ok i _ => (match enumD 0 i.1 with
      | some zs => if isL d h then .ok (zs, i.2) h else .bad
      | none => .bad)
    | _ => .bad)
  | _ => .bad
def iEnum1 (fa : FA) : FI := fun env h => (fa env h).bind enumI
theorem itOk_enum {g0 : Gh} {n0 : Nat} {H0 : Hp} {a : Addr} {i1 : List D × (Hs → Bool)} {zs : List D} (k1 : KeyL K cs g0 n0 H0 a i1) (e : enumD 0 i1.1 = some zs) : ItOk K cs g0 n0 H0 (Ite K a) zs i1.2 where
  go := fun g h H i d S R hi ed => by
    obtain ⟨x, e1, rfl⟩ := enumD_get e ed
    obtain ⟨xs, q1, r1⟩ := k1 g h H S R hi
    obtain ⟨v, e3, rv⟩ := rds_get r1 e1
    refine ⟨⟨xs, v, q1, e3⟩, fun z H' hy => ?_⟩
    obtain ⟨T, v', rfl, hT, rfl, f1⟩ := hy
    have := f1 xs q1; rw [e3] at this; cases this
    obtain ⟨R', S'⟩ := R.frozen (o := .tup [.int (i : Nat), v]) hT
    cases rv with
    | p rv => exact ⟨_, S', R', .p (.tup (.inl upd_same) (.cons (by rw [Nat.zero_add]; exact .int _) (.cons (rv.mono S'.sub) .nil)))⟩
  stop := fun g h H S R hi => by
    obtain ⟨xs, q1, r1⟩ := k1 g h H S R hi
    have h1 := Paired.length r1
    exact ⟨xs, q1, by rw [enumD_len e]; omega⟩
/-! reversed -/
def revI (d : D) (h : Hs) : R (List D × (Hs → Bool)) := match seqItems d h with
  | .ok i _ => .ok (i.1.reverse, i.2) h
  | _ => .bad
def iRevD (fe : FE) : FI := fun env h => (fe env h).bind revI
theorem rev_get {α : Type} {xs : List α} {i : Nat} {d : α} (e : xs.reverse[i]? = some d) : i < xs.length ∧ xs[xs.length - 1 - i]? = some d := by
  have hi : i < xs.length := by
    have := (List.getElem?_eq_some_iff.mp e).1
    simpa using this
  rw [List.getElem?_reverse hi] at e
  exact ⟨hi, e⟩
theorem itOk_revL {g0 : Gh} {n0 : Nat} {H0 : Hp} {a : Addr} {i1 : List D × (Hs → Bool)} {n : Nat} (k1 : KeyL K cs g0 n0 H0 a i1) (hn : n = i1.1.length) : ItOk K cs g0 n0 H0 (Itv K a n) i1.1.reverse i1.2 where
  go := fun g h H i d S R hi ed => by
    subst hn
    obtain ⟨hl, e1⟩ := rev_get ed
    obtain ⟨xs, q1, r1⟩ := k1 g h H S R hi
    obtain ⟨v, e3, rv⟩ := rds_get r1 e1
    refine ⟨⟨hl, xs, v, q1, e3⟩, fun z H' hy => ?_⟩
    obtain ⟨rfl, f1⟩ := hy
    have := f1 xs q1; rw [e3] at this; cases this
    exact ⟨g, Step.refl, R, rv⟩
  stop := fun g h H S R hi => by
    subst hn
    rw [List.length_reverse]
    exact Nat.le_refl i1.1.length
theorem itOk_revT {g0 : Gh} {n0 : Nat} {H0 : Hp} {a : Addr} {i1 : List D × (Hs → Bool)} {n : Nat} (k1 : KeyT K cs g0 n0 H0 a i1) (hn : n = i1.1.length) : ItOk K cs g0 n0 H0 (RT.ItvT K a n) i1.1.reverse i1.2 where
  go := fun g h H i d S R hi ed => by
    subst hn
    obtain ⟨hl, e1⟩ := rev_get ed
    obtain ⟨xs, q1, r1⟩ := k1 g h H S R hi
    obtain ⟨v, e3, rv⟩ := rds_get r1 e1
    refine ⟨⟨hl, xs, v, q1, e3⟩, fun z H' hy => ?_⟩
    obtain ⟨rfl, f1⟩ := hy
    have := f1 xs q1; rw [e3] at this; cases this
    exact ⟨g, Step.refl, R, rv⟩
  stop := fun g h H S R hi => by
    subst hn
    rw [List.length_reverse]
    exact Nat.le_refl i1.1.length
end
section
variable {X : Cx} {cs : Tx} {a b e : Expr} {fa : FA} {fe : FE} {p pos tpos : Pos} {elts : List Expr} {kk : Nat} {tg : Expr}
theorem giZip2 (hm : X.mg "zip" = none) (ga : GA X cs [a, b] fa) (hg : Gl X "zip" := by rfl) (hs : starEach [a, b] X.env = (false, eval a X.env) :: starEach [b] X.env := by rfl) (hpl : (backTo pos (starEach [b] X.env)).any (·.1) = false := by rfl) :
    GI X cs (.Tuple elts kk tpos) (.Call (.Name "zip" p) [a, b] [] pos) (iZip2 fa) := fun W tk => by
  refine PI.imp (RZ.pi_zipA hg hm (ga W tk) hs hpl) fun σ H Rr ⟨g, env, h, R, E, F⟩ => ?_
  refine ⟨g, env, h, R, E, ?_⟩
  unfold iZip2 at F
  cases q : fa env h with
  | bad => rw [q] at F; exact F
  | ex c fs h' => rw [q] at F; exact F
  | ok ds h1 =>
    rw [q] at F
    simp only [Ar.R.bind] at F
    intro g1 vs H1 S1 R1 V1
    unfold zipI at F
    split at F
    · rename_i d1 d2
      cases V1 with
      | cons r1 t => cases t with
        | cons r2 t =>
          cases t
          cases e1 : seqItems d1 h1 with
          | bad => simp only [e1] at F; exact F.elim
          | ex c fs h' => simp only [e1] at F; exact F.elim
          | ok i1 h2 =>
            cases e2 : seqItems d2 h1 with
            | bad => simp only [e1, e2] at F; exact F.elim
            | ex c fs h' => simp only [e1, e2] at F; exact F.elim
            | ok i2 h3 =>
              simp only [e1, e2] at F
              split at F
              · rename_i zs ez
                split at F
                · rename_i hl
                  obtain ⟨_, x, rfl, k1⟩ := seq_key R1 r1 e1
                  obtain ⟨_, y, rfl, k2⟩ := seq_key R1 r2 e2
                  rw [beq_iff_eq] at hl
                  rcases k1 with ⟨l1, k1, xs, q1, z1⟩ | ⟨l1, k1, xs, q1, z1⟩
                  · rcases k2 with ⟨l2, k2, ys, q2, z2⟩ | ⟨l2, k2, ys, q2, z2⟩
                    · exact ⟨x, y, xs, ys, rfl, .inl ⟨q1, q2, F g1 _ H1 S1 R1 (itOk_zipL k1 k2 ez)⟩⟩
                    · rw [l1, l2] at hl; cases hl
                  · rcases k2 with ⟨l2, k2, ys, q2, z2⟩ | ⟨l2, k2, ys, q2, z2⟩
                    · rw [l1, l2] at hl; cases hl
                    · exact ⟨x, y, xs, ys, rfl, .inr ⟨q1, q2, F g1 _ H1 S1 R1 (itOk_zipT k1 k2 ez)⟩⟩
                · exact F.elim
              · exact F.elim
    · exact F.elim
theorem giEnum1 (hm : X.mg "enumerate" = none) (ga : GA X cs [e] fa) (hg : Gl X "enumerate" := by rfl) (hs : starEach [e] X.env = [(false, eval e X.env)] := by rfl) :
    GI X cs (.Tuple elts kk tpos) (.Call (.Name "enumerate" p) [e] [] pos) (iEnum1 fa) := fun W tk => by
  refine PI.imp (pi_enum hg hm (ga W tk) hs) fun σ H Rr ⟨g, env, h, R, E, F⟩ => ?_
  refine ⟨g, env, h, R, E, ?_⟩
  unfold iEnum1 at F
  cases q : fa env h with
  | bad => rw [q] at F; exact F
  | ex c fs h' => rw [q] at F; exact F
  | ok ds h1 =>
    rw [q] at F
    simp only [Ar.R.bind] at F
    intro g1 vs H1 S1 R1 V1
    unfold enumI at F
    split at F
    · rename_i d1
      cases V1 with
      | cons r1 t =>
        cases t
        cases e1 : seqItems d1 h1 with
        | bad => simp only [e1] at F; exact F.elim
        | ex c fs h' => simp only [e1] at F; exact F.elim
        | ok i1 h2 =>
          simp only [e1] at F
          split at F
          · rename_i zs ez
            split at F
            · rename_i hl
              obtain ⟨_, x, rfl, k1⟩ := seq_key R1 r1 e1
              rcases k1 with ⟨l1, k1, xs, q1, z1⟩ | ⟨l1, k1, xs, q1, z1⟩
              · exact ⟨x, xs, rfl, q1, F g1 _ H1 S1 R1 (itOk_enum (i1 := i1) k1 ez)⟩
              · rw [l1] at hl; cases hl
            · exact F.elim
          · exact F.elim
    · exact F.elim
theorem giRevD (hm : X.mg "reversed" = none) (ge : GE X cs e fe) (hg : Gl X "reversed" := by rfl) (hs : starEach [e] X.env = (false, eval e X.env) :: starEach [] X.env := by rfl) :
    GI X cs tg (.Call (.Name "reversed" p) [e] [] pos) (iRevD fe) := fun W tk => by
  refine PI.imp (RT.pi_revA hg hm (ge W tk) hs) fun σ H Rr ⟨g, env, h, R, E, F⟩ => ?_
  refine ⟨g, env, h, R, E, ?_⟩
  unfold iRevD at F
  cases q : fe env h with
  | bad => rw [q] at F; exact F
  | ex c fs h' => rw [q] at F; exact F
  | ok d h1 =>
    rw [q] at F
    simp only [Ar.R.bind] at F
    intro g1 v H1 S1 R1 V1
    unfold revI at F
    cases e1 : seqItems d h1 with
    | bad => simp only [e1] at F; exact F.elim
    | ex c fs h' => simp only [e1] at F; exact F.elim
    | ok i1 h2 =>
      simp only [e1] at F
      obtain ⟨eh, x, rfl, k1⟩ := seq_key R1 V1 e1
      subst eh
      rcases k1 with ⟨l1, k1, xs, q1, z1⟩ | ⟨l1, k1, xs, q1, z1⟩
      · exact ⟨x, xs, rfl, .inl ⟨q1, F g1 _ H1 S1 R1 (itOk_revL (i1 := i1) k1 (Paired.length z1).symm)⟩⟩
      · exact ⟨x, xs, rfl, .inr ⟨q1, F g1 _ H1 S1 R1 (itOk_revT (i1 := i1) k1 (Paired.length z1).symm)⟩⟩
end
end Ar
namespace Ar
open PySem PySem.Spec PyProof.Rows L2
open PySem.W PySem.Calls PySem.HandSPX
/-! ### an exception class whose __init__(self, f) says super().__init__(m); self.f = f -/
def sA (f : Str) (p1 p2 : Pos) : Arguments := { posonlyargs := [], args := [{ arg := "self", annotation := none, pos := p1 }, { arg := f, annotation := none, pos := p2 }], vararg := none, kwonlyargs := [], kw_defaults := [], kwarg := none, defaults := [] }
def sB (f m : Str) (j : Nat) (q1 q2 q3 q4 q5 q6 q7 q8 q9 q10 : Pos) : List Stmt :=
  [.Expr (.Call (.Attribute (.Call (.Name "super" q1) [] [] q2) "__init__" q3) [.Constant (.str m) j q4] [] q5) q6, .Assign [.Attribute (.Name "self" q7) f q8] (.Name f q9) q10]
def sS (f : Str) : Scope := { kind := .function, names := [("self", .local), (f, .local), ("__class__", .free), ("super", .globalImplicit)], isGenerator := false, isCoroutine := false, more := [] }
theorem mcall_eq (q1 q2 q3 q4 q5 : Pos) (m : Str) (j : Nat) (env : PySem.Env) (hl : (q3.endLine == q5.line) = true) : eval (.Call (.Attribute (.Call (.Name "super" q1) [] [] q2) "__init__" q3) [.Constant (.str m) j q4] [] q5) env = (do
      let ov ← attributeBase (.Call (.Name "super" q1) [] [] q2) "__init__" env (eval (.Call (.Name "super" q1) [] [] q2) env)
      standAt q3.atName
      let (f, first) ← holding [ov] (getMethod ov "__init__" (do return (← importBound (.Call (.Name "super" q1) [] [] q2) env).getD true))
      callWith q5 f first (backTo q5 (starEach [.Constant (.str m) j q4] env)) []) := by
  conv => lhs; unfold eval
  have e : methodCallPos true (.Call (.Name "super" q1) [] [] q2) env q3 q5 = pure q5 := by
    unfold methodCallPos
    rw [hl]; rfl
  have e2 : methodCallForm ([Expr.Constant (.str m) j q4].length + ([] : List Keyword).length) (backTo q5 (starEach [.Constant (.str m) j q4] env)) (backToKw q5 (keywordEach [] env)) = true := by rfl
  unfold methodCall
  rw [e2, e]
  rfl
/-- what the written part says of the class at C and of its __init__ at fI -/
structure SupTxt (P : Program) (K : Frag) (C fI : Addr) (f : Str) : Prop where
  cls : ∃ nm q N bs bm sn sub ab col dd k0 k1 k2 k3 k5, K.lookup C = some (excClassObj nm q C N bs bm true sn sub ab col dd k0 k1 k2 k3 k5 "ValueError.__new__") ∧ refsVE bm = true ∧ alongIn K "__init__" bm = some (some (.builtin "ValueError.__init__"))
  sa : findIn K (.ref C) "__setattr__" = some (some (.builtin "object.__setattr__"))
  noN : findIn K (.ref C) f = some none
  iC : findIn K (.ref C) "__init__" = some (some (.ref fI))
  tC : typeIn K (.ref fI) = some (.type "function")
  kC : keepIn K (.ref C) = true
  exC : subIn K (.ref C) (.type "BaseException") = some true
  veC : subIn K (.ref C) (.type "ValueError") = some true
  ooC : mroIn K C (.ref C) = some true
  tyC : typeIn K (.ref C) = some (.type "type")
  any : nsIn K cStatics "thirdparty.any" = some none
  fn : ∃ (qual m : Str) (j : Nat) (oc : Value) (od : Option Addr) (doc pm : Value) (an : Option Addr) (cda cc : Addr) (ct : Value) (osl : Array (Option Value)) (p1 p2 q1 q2 q3 q4 q5 q6 q7 q8 q9 q10 : Pos),
    K.lookup fI = some ⟨oc, od, .func (ksFn "__init__" qual (sA f p1 p2) (sB f m j q1 q2 q3 q4 q5 q6 q7 q8 q9 q10) (sS f) .none .none doc pm an (.ref cda) ct cc), osl⟩ ∧ codeIn K (.ref cda) qual = true ∧
    (∃ ccl cdd vs ccs file tf, K.lookup cda = some ⟨ccl, cdd, .fields vs, ccs⟩ ∧ vs[2]? = some (.str file tf) ∧ ((P.main.file : Str) == file) = true) ∧ (∃ cl cld csl, K.lookup cc = some ⟨cl, cld, .cell (some (.ref C)), csl⟩) ∧ (q3.endLine == q5.line) = true
  top : (P.main.scope.names.lookup ("super" : Str)).isSome = false
theorem kept_but {K : Frag} {h h' : Heap} {x : Addr} (X : K.In h) (hx : K.lookup x = none) (k : ∀ b o, b ≠ x → h.get? b = some o → h'.get? b = some o) : K.In h' := fun a o e =>
  k a o (fun z => by rw [z, hx] at e; cases e) (X a o e)
structure SupEnd (f : Str) (h h' : Heap) (x C dx t1 : Addr) (v : Value) : Prop where
  keep : ∀ b o, b ≠ x → h.get? b = some o → h'.get? b = some o
  obj : h'.get? x = some { cls := .ref C, dict := some dx, data := .fields #[.ref t1, .none, .none, .none, .bool false, .none] }
  dbig : h.objs.size ≤ dx
  dne : dx ≠ x
  ns : h'.Ns1 dx (fun y => if y = f then some v else none)
section
variable {P : Program} {w : World} {A : Around} {R : Result → Shared → Prop} {s : Shared} {K : Frag} {mg mb : Str → Option Value} {C fI : Addr} {f : Str}
theorem sup_init (hf : f = "number" ∨ f = "row" ∨ f = "part") (T : SupTxt P K C fI f) {x t0 : Addr} {v : Value} (X : K.In s.heap) (hlim : s.heap.NoLimit) (hx : s.heap.get? x = some (excO C t0)) (hnx : K.lookup x = none) (hroom : A.depth < recursionLimit)
    (hgl : s.heap.Ns mainGlobals mg) (hmg : mg "super" = none) (hbl : s.heap.Ns builtinsNs mb) (hmb : mb "super" = some (.type "super"))
    (hq : ∀ h' tk dx t1, SupEnd f s.heap h' x C dx t1 v → R (.ok (.ret .none)) { s with heap := h', toks := tk }) :
    codeAny (model P w) A (.call (.ref fI) ⟨[.ref x, v], []⟩) R s := by
  obtain ⟨qual, m, j, oc, od, doc, pm, an, cda, cc, ct, osl, p1, p2, q1, q2, q3, q4, q5, q6, q7, q8, q9, q10, ho, hcd, ⟨ccl, cdd, vs, ccs, file, tf, hcode, hvs, hfile⟩, ⟨cl, cld, csl, hcell⟩, hline⟩ := T.fn
  obtain ⟨nm, q, N, bs, bm, sn, sub, ab, col, dd, k0, k1, k2, k3, k5, hC, hbm, hal⟩ := T.cls
  have hcl : clsIn K C = some { name := nm, bases := bs, mro := .ref C :: bm, ns := N, qualname := q, hasDict := true, slotNames := sn, subclasses := sub, abstract := ab, collection := col, hasDel := false } := by unfold clsIn; rw [hC] <;> rfl
  have top := T.top
  refine ks_codeAny_call_defAt (fd := ksFn "__init__" qual (sA f p1 p2) (sB f m j q1 q2 q3 q4 q5 q6 q7 q8 q9 q10) (sS f) .none .none doc pm an (.ref cda) ct cc) (body := sB f m j q1 q2 q3 q4 q5 q6 q7 q8 q9 q10) (binds := [("self", .ref x), (f, v)]) hroom (X _ _ ho) rfl hlim (codeRec_of X hcd) rfl
    (BindsTo.of_eq (by rcases hf with rfl | rfl | rfl <;> first | rfl | with_unfolding_all rfl)) (show ∀ x ∈ (sS f).names, x.2 ≠ .cell by rcases hf with rfl | rfl | rfl <;> decide) (show ∀ y ∈ ([("self", .ref x), (f, v)] : List (Str × Value)), (sS f).names.lookup y.1 = some .local by rcases hf with rfl | rfl | rfl <;> (intro y hy; simp at hy; rcases hy with rfl | rfl <;> rfl)) (fun h₁ hns hk₁ => ?_) rfl rfl rfl
  have X₁ : K.In h₁ := X.keeps hk₁
  have hx₁ := hk₁ _ _ hx
  have hC₁ := X₁ _ _ hC
  refine ks_wpAt_execs_cons ?_
  refine ks_wpAt_Expr_any ?_
  refine ks_wpAt_MethodCall ?_ (mcall_eq q1 q2 q3 q4 q5 m j _ hline)
  have kind : ∀ y k, (sS f).names.lookup y = some k → (ksEnv qual (sS f) s.heap.objs.size fI (.ref cda) cc).kindOf y = some k := fun y k e => e
  have ks : (sS f).names.lookup ("super" : Str) = some .globalImplicit := by rcases hf with rfl | rfl | rfl <;> rfl
  have kc : (sS f).names.lookup ("__class__" : Str) = some .free := by rcases hf with rfl | rfl | rfl <;> rfl
  refine ks_wpAt_super_base (env := ksEnv qual (sS f) s.heap.objs.size fI (.ref cda) cc) (kind _ _ ks) (kind _ _ kc) (by decide) rfl (X₁ _ _ ho) rfl rfl rfl (X₁ _ _ hcode) rfl hvs hfile T.top ?_
  refine ks_loadName_global rfl (kind _ _ ks) (loadGlobal_builtin (env := ksEnv qual (sS f) s.heap.objs.size fI (.ref cda) cc) (hgl.keeps hk₁) hmg (hbl.keeps hk₁) hmb ⟨rfl, ?_⟩)
  refine wpAny_loadName_free rfl (kind _ _ kc) rfl ⟨_, X₁ _ _ hcell, rfl⟩ ?_
  refine wpAny_loadName_local rfl (kind _ _ rfl) hns (v := .ref x) (by rcases hf with rfl | rfl | rfl <;> rfl) ?_
  refine ks_wpAny_isType_cls hC₁ rfl ⟨rfl, ?_⟩
  refine ks_wpAny_call_super hC₁ rfl hx₁ rfl (fun c e => by cases e) (looks_mroIn X₁ T.ooC) (fun h₂ hso hk₂ => ?_)
  have k₂ : ∀ b o, s.heap.get? b = some o → h₂.get? b = some o := fun b o e => hk₂ b o (hk₁ b o e)
  have X₂ : K.In h₂ := X.keeps k₂
  have hx₂ := k₂ _ _ hx
  have I₂ : InstAt h₂ x (excO C t0) C none := ⟨hx₂, rfl, rfl, trivial⟩
  have hI : Looks (model P w) h₂ (isInstance (.ref x) (.type "ValueError")) true := I₂.type.andThen (looks_subIn X₂ T.veC)
  have hmro : Looks (model P w) h₂ (mroOf (.ref C)) (.ref C :: bm) := fun A Q E s k q => wpAny_bind ((looks_clsIn X₂ hcl) A _ E s k (wpAny_pure q))
  refine kxs_getMethod kxs_ValueError hso (looks_opaque X₂ T.any) hmro (l := bm) (by simp [List.dropWhile_cons]) X₂ hal hI (ks_ne X₂ I₂ hcl) (by decide) ?_
  have hu : (h₂.push (kxs_mw "ValueError.__init__" x)).get? h₂.objs.size = some (kxs_mw "ValueError.__init__" x) := Heap.get?_push_at rfl rfl
  have k₃ : ∀ b o, s.heap.get? b = some o → (h₂.push (kxs_mw "ValueError.__init__" x)).get? b = some o := fun b o e => Heap.get?_push_of_some _ (k₂ b o e)
  have k₁₃ : ∀ b o, h₁.get? b = some o → (h₂.push (kxs_mw "ValueError.__init__" x)).get? b = some o := fun b o e => Heap.get?_push_of_some _ (hk₂ b o e)
  generalize h₂.push (kxs_mw "ValueError.__init__" x) = h₃ at hu k₃ k₁₃ ⊢
  refine kxs_callWith (i := "ValueError.__init__") (x := x) rfl (evalArgs_plain ?_)
  refine args_cons (e := .Constant (.str m) j q4) (rest := []) (pos := q5) (Calls.Constant_str ?_) rfl
  refine args_nil ?_
  refine ⟨hu, ?_⟩
  have X₃ : K.In h₃ := X.keeps k₃
  have hx₃ := k₃ _ _ hx
  have hC₃ := X₃ _ _ hC
  have FB := F.excBase_ValueError
  refine wpAny_call (codeAny_of_tree ?_)
  show wpAny _ _ (callAny (.ref h₂.objs.size) ⟨_, []⟩) _ _ _
  simp only [callAny]
  refine wpAny_bind (wpAny_load hu ?_)
  simp only [kxs_mw, show (Value.type "method-wrapper" == Value.type "method" || Value.type "method-wrapper" == Value.type "builtin_function_or_method" || Value.type "method-wrapper" == Value.type "method-wrapper") = true by decide, if_true]
  refine KFB.if_so (by decide) ?_
  refine wpAny_bind (check_bound_init FB.toExcCallFacts hC₃ hx₃ rfl ?_)
  refine wpAny_bind (wpAny_pure (wpAny_pure ?_))
  refine ⟨plainId_quiet FB.init.plain _, codeAny_builtin FB.initEntry ?_⟩
  refine exc_init_tree (cls := .ref C) (t0 := t0) (dv := none) (c2 := .none) (c3 := .none) (b4 := .bool false) hx₃ (by rw [sizeLine_eq]; exact (by decide : 1 ≤ 16777216)) fun h₄ k₄ hx₄ _ => ?_
  have xL : s.heap.objs.size ≠ x := Nat.ne_of_gt (Heap.lt_size hx)
  have k₃' : ∀ b o, h₁.get? b = some o → h₃.get? b = some o := k₁₃
  have hns₄ : h₄.Ns s.heap.objs.size (fun y : Str => ([(("self" : Str), Value.ref x), (f, v)] : List (Str × Value)).reverse.lookup y) := hns.at fun o q => k₄ _ _ xL (k₃' _ _ q)
  have X₄ : K.In h₄ := kept_but X₃ hnx k₄
  have hrec : h₄.get? x = some (excO C h₃.objs.size) := hx₄
  show PySem.wpAt _ _ _ (execs _ _) _ _ _
  refine ks_wpAt_execs_cons ?_
  refine wpAt_of_wpAny (plainObj_wpAny_Assign_Attribute ?_ (by rcases hf with rfl | rfl | rfl <;> rfl))
  refine wpAny_Name (wpAny_loadName_local rfl (kind _ _ (by rcases hf with rfl | rfl | rfl <;> rfl)) hns₄ (v := v) (by rcases hf with rfl | rfl | rfl <;> rfl) ?_) (by rcases hf with rfl | rfl | rfl <;> decide)
  refine wpAny_Name (wpAny_loadName_local rfl (kind _ _ rfl) hns₄ (v := .ref x) (by rcases hf with rfl | rfl | rfl <;> rfl) ?_) (by decide)
  refine set_plain X₄ (ox := excO C h₃.objs.size) (od := none) ⟨hrec, rfl, rfl, trivial⟩ T.sa ?_
  refine exc_osa X₄ hrec hcl (show refsVE (.ref C :: bm) = true from hbm) rfl T.noN (fun h₅ tk₅ dx k₅ dn dne hx₅ hn₅ => ?_)
  refine wpAt_of_wpAny (wpAny_execs_nil (hq h₅ tk₅ dx h₃.objs.size ⟨fun b o hb e => k₅ b o hb (k₄ b o hb (k₃ b o e)), hx₅, ?_, dne, hn₅⟩))
  refine Nat.le_trans ?_ dn
  have z1 : s.heap.objs.size < h₁.objs.size := hns.lt
  have z2 : s.heap.objs.size < h₄.objs.size := hns₄.lt
  exact Nat.le_of_lt z2
end
structure SupMade (f : Str) (h h' : Heap) (e C d : Addr) (v : Value) : Prop where
  keep : ∀ b o, h.get? b = some o → h'.get? b = some o
  new : h.objs.size ≤ e
  obj : ∃ oe vs, h'.get? e = some oe ∧ oe.cls = .ref C ∧ oe.dict = some d ∧ oe.data = .fields vs ∧ vs[1]? = some .none
  dbig : h.objs.size ≤ d
  dne : d ≠ e
  ns : h'.Ns1 d (fun y => if y = f then some v else none)
section
variable {P : Program} {w : World} {A : Around} {R : Result → Shared → Prop} {s : Shared} {K : Frag} {mg mb : Str → Option Value} {C fI : Addr} {f : Str}
theorem sup_made (hf : f = "number" ∨ f = "row" ∨ f = "part") (T : SupTxt P K C fI f) {v : Value} (X : K.In s.heap) (hlim : s.heap.NoLimit) (hroom : A.depth + 1 < recursionLimit)
    (hgl : s.heap.Ns mainGlobals mg) (hmg : mg "super" = none) (hbl : s.heap.Ns builtinsNs mb) (hmb : mb "super" = some (.type "super"))
    (hq : ∀ h' tk e d, SupMade f s.heap h' e C d v → R (.ok (.ret (.ref e))) { s with heap := h', toks := tk }) :
    codeAny (model P w) A (.call (.ref C) ⟨[v], []⟩) R s := by
  obtain ⟨nm, q, N, bs, bm, sn, sub, ab, col, dd, k0, k1, k2, k3, k5, hC, hbm, _⟩ := T.cls
  obtain ⟨hp, g, dr, tk, os⟩ := s
  have k : ∀ b o, hp.get? b = some o → ((hp.push (kdv_tup [v])).push (excO C hp.objs.size)).get? b = some o := fun b o e => Heap.get?_push_of_some _ (Heap.get?_push_of_some _ e)
  have hget : ((hp.push (kdv_tup [v])).push (excO C hp.objs.size)).get? (hp.objs.size + 1) = some (excO C hp.objs.size) := by heap_get
  have hnx : K.lookup (hp.objs.size + 1) = none := by
    cases e : K.lookup (hp.objs.size + 1) with
    | none => rfl
    | some o =>
      have z : hp.get? (hp.objs.size + 1) = some o := X _ _ e
      exact absurd (Nat.lt_of_succ_lt (Heap.lt_size z)) (Nat.lt_irrefl _)
  refine call_own F.excBase_ValueError (fun X => refsVE_contains X bm hbm) (X _ _ hC) (looks_findIn X T.iC) (fun self => bind_fn X self T.tC) (by rw [sizeLine_eq]; exact (by decide : 1 ≤ 16777216)) ?_
  refine sup_init (s := ⟨(hp.push (kdv_tup [v])).push (excO C hp.objs.size), g, dr, tk, os⟩) hf T (X.keeps k) (hlim.keeps k) hget hnx ?_ (hgl.keeps k) hmg (hbl.keeps k) hmb fun h' tk' dx t1 ⟨k', hx, dn, dne, hns⟩ => ?_
  · show A.depth + 1 < recursionLimit
    exact hroom
  · have old : ∀ b o, hp.get? b = some o → h'.get? b = some o := fun b o e => k' b o (Nat.ne_of_lt (Nat.lt_succ_of_lt (Heap.lt_size e))) (k b o e)
    have z : hp.objs.size + 1 + 1 ≤ dx := by
      have q := dn
      first
        | (simpa only [Heap.size_push] using dn)
        | exact dn
        | (rw [Heap.size_push, Heap.size_push] at q; exact q)
    exact ⟨rfl, hq h' tk' (hp.objs.size + 1) dx ⟨old, Nat.le_succ _, ⟨_, _, hx, rfl, rfl, rfl, rfl⟩, Nat.le_trans (Nat.le_trans (Nat.le_succ _) (Nat.le_succ _)) z, dne, hns⟩⟩
end
theorem relO_one {v : V} {v' : Value} {f : Str} (r : RelV v v') (g : Str) : RelO (List.lookup g [(f, v)]) (if g = f then some v' else none) := by
  by_cases hw : g = f
  · subst hw
    rw [if_pos rfl]
    have q : List.lookup g [(g, v)] = some v := by simp [List.lookup]
    rw [q]
    exact r
  · rw [if_neg hw]
    have qw : (g == f) = false := by simpa using hw
    have q2 : List.lookup g [(f, v)] = none := by simp [List.lookup, qw]
    rw [q2]
    trivial
section
variable {X : Cx} {C fI : Addr} {f : Str}
/-- C(e) -/
def tMkSup (C : Addr) (f : Str) (ta : TA) : L2.St → Hp → XK → Prop := fun σ H Q => ta σ H fun vs H1 => ∃ v, vs = [v] ∧ ∀ d, H1 d = none → Q (.ref C) (some d) (upd H1 d (.xd [(f, v)]))
theorem pmk_sup {x : Str} {a : Expr} {ta : TA} {p pos : Pos} {k : Nat} (hf : f = "number" ∨ f = "row" ∨ f = "part") (T : SupTxt X.prog X.K C fI f) (gC : X.mg x = some (.ref C)) (hsm : X.mg "super" = none) (hr : Room k X.A) (ha : PA X [a] ta) (hg : Gl X x := by rfl) (hdb : (x == ("__debug__" : Str)) = false := by decide)
    (he : starEach (a :: []) X.env = (false, eval a X.env) :: starEach [] X.env := by rfl) (hpl : (backTo pos (starEach [] X.env)).any (·.1) = false := by rfl) :
    PMk X (.Call (.Name x p) [a] [] pos) (tMkSup C f ta) := by
  intro pins s σ H Q I h
  refine wpAny_Call_Name_kw (ld_glob I hg gC ?_ hdb)
  refine PySem.W.callWith_K (h₀ := X.base) I.ok.mod.kin T.kC (thn (ha.run pos pins s σ H _ I h) fun us s1 hh => ?_) he hpl
  obtain ⟨vs, H1, I1, r1, v, ev, q1⟩ := hh
  subst ev
  refine ⟨I1.kIn, ?_⟩
  cases r1 with
  | cons rv rn =>
    rename_i v' us'
    cases rn
    show wpAny _ _ (call (.ref C) [v']) _ _ _
    have hlim := I1.nolimit
    have hgl := I1.mod.glob.keeps I1.bk
    obtain ⟨mb, hb1, hb2⟩ := I1.mod.blt
    have hbl := hb1.keeps I1.bk
    have hmb : mb "super" = some (.type "super") := (hb2 "super" (by decide)).trans (by first | rfl | kernel_rfl)
    obtain ⟨hp, g, dr, tk, os⟩ := s1
    refine wpAny_call (sup_made hf T I1.kIn hlim (by have := hr.dp; omega) hgl hsm hbl hmb fun h' tk' e d M => ?_)
    show MkP X pins σ Q (.ref e) ⟨h', g, dr, tk', os⟩
    obtain ⟨oe, fv, hoe, hc, hd, hdat, h1⟩ := M.obj
    have hns := M.ns
    obtain ⟨G', g1, g2⟩ := restrict h' fun b => decide (b ≠ e)
    have gk : ∀ b, b ≠ e → G'.get? b = h'.get? b := fun b hb => g1 b (decide_eq_true hb)
    have ge : G'.get? e = none := g2 e (by simp)
    have old : ∀ b o, hp.get? b = some o → G'.get? b = some o := fun b o q => (gk b (Nat.ne_of_lt (Nat.lt_of_lt_of_le (Heap.lt_size q) M.new))).trans (M.keep b o q)
    have ob : ObjOk X.prog X.w (upd H1 d (.xd [(f, v)])) G' d (.xd [(f, v)]) :=
      ⟨_, hns.at (fun o q => (gk d M.dne).trans q), fun g => relO_one rv g⟩
    have J : Inv X pins σ (upd H1 d (.xd [(f, v)])) ⟨G', g, dr, tk', os⟩ := I1.laid (t' := tk') old M.dbig ob
    refine ⟨e, oe, fv, ⟨G', g, dr, tk', os⟩, _, .ref C, some d, rfl, J, fun b o q => ?_, ge, hoe, ⟨hc, hd⟩, hdat, h1, ?_, rfl, I1.bare, raises_own T.exC T.tyC, q1 d (I1.hok.fresh M.dbig)⟩
    · by_cases hb : b = e
      · have q' : G'.get? b = some o := q
        rw [hb, ge] at q'; cases q'
      · exact (gk b hb).symm.trans q
    · rw [upd_ne (Ne.symm M.dne)]
      exact I1.hok.fresh M.new
end
/-! ### raise C(e) -/
def sRaise1 (c : Nat) (f : Str) (fe : FE) : FS := fun env h => (fe env h).toS env fun d h1 => match d with
  | .p v => .ex c [(f, v)] env h1
  | _ => .bad
theorem gRaise1 {X : Cx} {cs : Tx} {c k : Nat} {fI : Addr} {x f : Str} {e : Expr} {fe : FE} {p pos pos2 : Pos} (hc : X.calm = true) (hf : f = "number" ∨ f = "row" ∨ f = "part") (T : SupTxt X.prog X.K (cs.C c) fI f) (gC : X.mg x = some (.ref (cs.C c))) (hsm : X.mg "super" = none) (hr : Room k X.A) (ge : GE X cs e fe)
    (hg : Gl X x := by rfl) (hdb : (x == ("__debug__" : Str)) = false := by decide) (he : starEach (e :: []) X.env = (false, eval e X.env) :: starEach [] X.env := by rfl) (hpl : (backTo pos (starEach [] X.env)).any (·.1) = false := by rfl) :
    GS X cs (.Raise (some (.Call (.Name x p) [e] [] pos)) none pos2) (sRaise1 c f fe) := fun W tk => by
  refine PS.imp (ps_raise hc tk (pmk_sup hf T gC hsm hr (gaC ge gaN he W tk) hg hdb he hpl)) fun D' σ H ⟨g, env, h, R, E, F⟩ => ?_
  refine ⟨g, env, h, R, E, ?_⟩
  show EndR _ _ _ _ _ _ _ _ _ ((fe env h).bind fun d h1 => .ok [d] h1)
  unfold sRaise1 at F
  cases q : fe env h with
  | bad => rw [q] at F; exact F
  | ex c fs h1 => rw [q] at F; exact fun g' cls dd H' S' R' x => F g' σ cls dd H' S' R' (E.step S') x
  | ok d h1 =>
    rw [q] at F
    cases d with
    | loc i => exact F.elim
    | p v =>
      intro g' vs H' S' R' r
      cases r with
      | cons r1 r2 =>
        cases r2
        cases r1 with
        | p rp =>
          exact ⟨_, rfl, fun d hd => F g' σ _ (some d) _ (S'.trans (Step.refl.upd_new hd)) (R'.upd_apartU (R'.apart hd) (.inl hd)) (E.step S') ⟨rfl, .inr ⟨d, _, rfl, upd_same, rfl, .cons rp .nil⟩⟩⟩
end Ar
namespace Ar
open PySem PySem.Spec PyProof.Rows L2
/-! ### try: what() / except C as e: return e.f / return '..' -/
theorem pss_len {X : Cx} {st : List Stmt} {t : TS} (h : PSs X st t) : PSs X st (fun D σ H => σ.length = X.N.length → t D σ H) :=
  ⟨fun pins s σ H D I k => h.run pins s σ H D I (k I.len)⟩
def TPaper (CS : Addr) (fl ret : Str) : (XK → Hp → VK → Prop) → Hp → VK → Prop := fun tl H Q =>
  tl (fun cls d H' => cls = .ref CS ∧ ∃ (dd : Addr) (fs : List (Str × V)) (v : V), d = some dd ∧ H' dd = some (.xd fs) ∧ fs.lookup fl = some v ∧ Q v H') H fun _ H' => Q (.str ret) H'
theorem paper_gives {X : Cx} {Ng : List Str} {x a e n q fl ret : Str} {sg : Scope} {g CS : Addr} {cdg : Value} {j : Nat} {p1 p2 p3 p4 p5 p6 p7 p8 p9 p10 p11 p12 : Pos} (hge : sg.names.lookup e = some .globalImplicit) (hme : X.mg e = some (.ref CS)) (hde : (e == ("__debug__" : Str)) = false)
    (hst : ∀ f : Addr, (L2.start Ng [V.ref f])[0]? = some (some (V.ref f))) (hN : Ng.Nodup) (h1 : Ng[1]? = some n) (hln : sg.names.lookup n = some .local) (hdn : (n == ("__debug__" : Str)) = false) (hcn : (n == ("__classdict__" : Str)) = false)
    (T : XfC X.K CS) (hno : PySem.W.findIn X.K (.ref CS) fl = some none) (hex : PySem.W.exmOne X.K (.ref CS) (.ref CS) = some true) :
    LamX.GivesTo X Ng x sg g cdg [.Try [.Expr (.Call (.Name a p1) [] [] p2) p3] [.ExceptHandler (some (.Name e p4)) (some n) [.Return (some (.Attribute (.Name n p5) fl p6)) p7] p8] [] [] p9, .Return (some (.Constant (.str ret) j p10)) p11] a q (TPaper CS fl ret) := by
  intro f c' s H Q tl act hc h
  have hgl : Gl (cxOf C8.CX0 X.prog X.w X.K X.mg X.base Ng x sg g cdg X.A X.stack s H C8.E0).nox e := hge
  refine ⟨_, pss_cons (ps_try_as (X := (cxOf C8.CX0 X.prog X.w X.K X.mg X.base Ng x sg g cdg X.A X.stack s H C8.E0).nox) (c := .ref CS) (i := 1) (n := n)
      (tb := fun W D σ H => ∃ Ech : XK, (∀ cls d σ' H', Ech cls d H' → W cls d σ' H') ∧ σ[0]? = some (some (.ref f)) ∧ H c' = some (LamX.CodeO c' q) ∧ tl Ech H fun _ H' => D.nx σ H')
      (ts := fun a cls d D σ H => σ.length = Ng.length → tRet (tXf a cls d CS fl (tVar 1)) D σ H)
      rfl rfl hN h1 hln ⟨hgl, hde, .inl hme⟩ LamX.takes0 (fun W pn xe tk _ => ?_) (fun a oe cls d pn hz hf => ?_)) (pss_one (ps_ret pe_str)), ?_⟩
  · refine ⟨fun pins s' σ H' D I h' => ?_⟩
    obtain ⟨Ech, hW, h1, h2, h3⟩ := h'
    have hp := act W pn xe Ech p1 p2 tk hW
    have hq := pss_one (ps_expr (pos := p3) hp)
    exact hq.run pins s' σ H' D I ⟨h1, h2, h3⟩
  · exact pss_len (pss_one (ps_ret (pe_xf T hno hz hf (pe_var h1 (.inl hln) hdn hcn))))
  · refine ⟨fun cls d H' => cls = .ref CS ∧ ∃ (dd : Addr) (fs : List (Str × V)) (v : V), d = some dd ∧ H' dd = some (.xd fs) ∧ fs.lookup fl = some v ∧ Q v H', fun cls d σ' H' => ?_, hst f, hc, h⟩
    rintro ⟨rfl, dd, fs, v, e1, e2, e3, e4⟩
    refine ⟨true, hex, fun _ b hb hl => ?_, fun z => by cases z⟩
    have hlt : 1 < Ng.length := (List.getElem?_eq_some_iff.mp h1).1
    refine ⟨.ref b, ?_, rfl, rfl, dd, fs, v, e1, e2, e3, e4⟩
    rw [List.length_set] at hl
    exact List.getElem?_set_self (by omega)
/-- the combinator -/
def cPaper (c : Nat) (fl ret : Str) (fb : FE) : FE := fun env h => match fb env h with
  | .ok _ h' => .ok (.p (.str ret)) h'
  | .ex c' fs h' => if c' = c then (match fs.lookup fl with
    | some v => .ok (.p v) h'
    | none => .bad) else .bad
  | .bad => .bad
structure PaperOk (X : Cx) (cs : Tx) (x : Str) (c : Nat) (fl ret : Str) : Prop where
  ex : ∃ (g : Addr) (a : Str) (pg : Arguments) (bg : List Stmt) (sg : Scope) (dV kV doc pm cdv ct oc : Value) (an od : Option Addr) (osl : Array (Option Value)) (Ng : List Str),
    X.mg x = some (.ref g) ∧ PySem.W.keepIn X.K (.ref g) = true ∧ X.K.lookup g = some ⟨oc, od, .func (PySem.W.fnOf x x pg bg sg dV kV doc pm an cdv ct), osl⟩ ∧ PySem.W.codeIn X.K cdv x = true ∧ L2.Binds X.K (PySem.W.fnOf x x pg bg sg dV kV doc pm an cdv ct) [a] [] ∧
    FnScope Ng [a] sg ∧ Ng[0]? = some a ∧ Vis sg a ∧ (a == ("__debug__" : Str)) = false ∧ (a == ("__classdict__" : Str)) = false ∧ ∀ q, LamX.GivesTo X Ng x sg g cdv bg a q (TPaper (cs.C c) fl ret)
theorem xd_look {K : PySem.W.Frag} {cs : Tx} {G : Hp} {fl : Str} {v : P} : ∀ {fs : List (Str × P)} {vs : List (Str × V)}, fs.map (·.1) = vs.map (·.1) → RPs K cs G (fs.map (·.2)) (vs.map (·.2)) → fs.lookup fl = some v → ∃ w, vs.lookup fl = some w ∧ RP K cs G v w
  | [], _, _, _, e => by cases e
  | (f, y) :: r, [], h, _, _ => by cases h
  | (f, y) :: r, (f', w) :: t, h, rp, e => by
    simp only [List.map_cons, List.cons.injEq] at h
    obtain ⟨rfl, h⟩ := h
    cases rp with
    | cons r1 r2 =>
      simp only [List.lookup] at e ⊢
      split at e
      · rename_i hb
        cases e
        exact ⟨w, rfl, r1⟩
      · rename_i hb
        exact xd_look h r2 e
theorem gPaper {X : Cx} {cs : Tx} {x fl ret : Str} {c0 k : Nat} {params : Arguments} {body : Expr} {scope : Scope} {fb : FE} {p lpos pos : Pos} (T : PaperOk X cs x c0 fl ret) (B : TabOk X cs) (hr : Room (k + 2) X.A) (hg : Gl X x := by rfl) (L : LamX.lamSB X.env.scope scope = true := by rfl) (hdef : defaultsOf params X.env = ([], []) := by rfl)
    (hbind : ∀ (q : Str) (cl : List (Str × Addr)) (pm cv ctv : Value), bindArgs (PySem.W.kla_fn "<lambda>" q params body scope cl pm cv ctv) ⟨[], []⟩ = pure [] := by intros; rfl)
    (hbody : ∀ (A : Around) (outer : List PySem.Env) (s : Shared) (H : Hp) (E : XK) (f c' : Addr), Room k (A.deeper (LamX.lamEnv X scope s.heap.objs.size f c')) → GE (LamX.lamCx X A outer s H E scope f c') cs body fb) (hdb : (x == ("__debug__" : Str)) = false := by decide) :
    GE X cs (.Call (.Name x p) [.Lambda params body scope lpos] [] pos) (cPaper c0 fl ret fb) := fun W tk => by
  obtain ⟨g, a, pg, bg, sg, dV, kV, doc, pm, cdv, ct, oc, an, od, osl, Ng, e1, e2, e3, e4, e5, e6, e7, e8, e9, e10, hG⟩ := T.ex
  obtain ⟨c, P, TB, hc, hm, hu⟩ := B.ex
  refine PE.imp (LamX.pe_lamcall (T := cs.tabs) (t := fun E => tE X.K cs (fun cls d _ H => E cls d H) fb) hg e1 e2 e3 e4 e5 e6 e7 e8 (hG _) TB hc hm hu hr (LamX.lamS_by L) hdef hbind (fun A outer s H E f c' hr' => hbody A outer s H E f c' hr' _ (takes_of rfl rfl rfl rfl)) hdb e9 e10) fun σ H Q ⟨g, env, h, R, E, F⟩ => ?_
  refine ⟨R.tabs, fun H1 eN T1 => ?_⟩
  obtain ⟨R1, S1⟩ := R.extN eN T1
  refine ⟨g, env, h, R1, E.step S1, ?_⟩
  unfold cPaper at F
  cases q : fb env h with
  | bad => rw [q] at F; exact F
  | ok d h' => rw [q] at F; exact fun g' v H' S' R' V' => F g' _ H' (S1.trans S') R' (.p (.str _))
  | ex c fs h' =>
    rw [q] at F
    dsimp only at F
    split at F
    · rename_i hcc
      subst hcc
      split at F
      · rename_i v el
        intro g' cls dd H' S' R' x
        obtain ⟨ec, x⟩ := x
        rcases x with ⟨rfl, rfl⟩ | ⟨d, vs, rfl, hx, hn, hv⟩
        · cases el
        · obtain ⟨w, hw, rw_⟩ := xd_look hn hv el
          exact ⟨ec, d, vs, w, rfl, hx, hw, F g' _ H' (S1.trans S') R' (.p rw_)⟩
      · exact F.elim
    · exact F.elim
end Ar
namespace Ar
open PySem PySem.Spec PyProof.Rows L2
open PySem.W PySem.Calls PySem.HandSPX
/-! ### the head's word on such classes -/
def supBodyB (f : Str) : List Stmt → Bool
  | [.Expr (.Call (.Attribute (.Call (.Name s1 _) [] [] _) s2 q3) [.Constant (.str _) _ _] [] q5) _, .Assign [.Attribute (.Name s3 _) s4 _] (.Name s5 _) _] =>
    decide (s1 = "super") && (decide (s2 = "__init__") && (decide (s3 = "self") && (decide (s4 = f) && (decide (s5 = f) && (q3.endLine == q5.line)))))
  | _ => false
theorem supBodyB_ok {f : Str} {b : List Stmt} (h : supBodyB f b = true) : ∃ m j q1 q2 q3 q4 q5 q6 q7 q8 q9 q10, b = sB f m j q1 q2 q3 q4 q5 q6 q7 q8 q9 q10 ∧ (q3.endLine == q5.line) = true := by
  unfold supBodyB at h
  split at h
  · simp only [Bool.and_eq_true, decide_eq_true_eq] at h
    obtain ⟨rfl, rfl, rfl, rfl, rfl, hl⟩ := h
    exact ⟨_, _, _, _, _, _, _, _, _, _, _, _, rfl, hl⟩
  · cases h
def supArgsB (f : Str) : Arguments → Bool
  | ⟨[], [⟨a1, none, _⟩, ⟨a2, none, _⟩], none, [], [], none, []⟩ => decide (a1 = "self") && decide (a2 = f)
  | _ => false
theorem supArgsB_ok {f : Str} {b : Arguments} (h : supArgsB f b = true) : ∃ p1 p2, b = sA f p1 p2 := by
  unfold supArgsB at h
  split at h
  · simp only [Bool.and_eq_true, decide_eq_true_eq] at h
    obtain ⟨rfl, rfl⟩ := h
    exact ⟨_, _, rfl⟩
  · cases h
def bodyOf : FuncBody → List Stmt
  | .stmts b => b
  | _ => []
def codeFile (P : Program) (K : Frag) (cda : Addr) : Bool := match K.lookup cda with
  | some ⟨_, _, .fields vs, _⟩ => (match (vs[2]? : Option PySem.Value) with
    | some (.str file _) => (P.main.file : Str) == file
    | _ => false)
  | _ => false
theorem codeFile_ok {P : Program} {K : Frag} {cda : Addr} (h : codeFile P K cda = true) : ∃ ccl cdd vs ccs file tf, K.lookup cda = some ⟨ccl, cdd, .fields vs, ccs⟩ ∧ vs[2]? = some (.str file tf) ∧ ((P.main.file : Str) == file) = true := by
  unfold codeFile at h
  split at h
  · rename_i e
    split at h
    · rename_i e2
      exact ⟨_, _, _, _, _, _, e, e2, h⟩
    · cases h
  · cases h
def cellB (K : Frag) (cc C : Addr) : Bool := match K.lookup cc with
  | some ⟨_, _, .cell (some (.ref c)), _⟩ => decide (c = C)
  | _ => false
theorem cellB_ok {K : Frag} {cc C : Addr} (h : cellB K cc C = true) : ∃ cl cld csl, K.lookup cc = some ⟨cl, cld, .cell (some (.ref C)), csl⟩ := by
  unfold cellB at h
  split at h
  · rename_i e
    obtain rfl := of_decide_eq_true h
    exact ⟨_, _, _, e⟩
  · cases h
def supFn (P : Program) (K : Frag) (C fI : Addr) (f : Str) : Bool := match K.lookup fI with
  | some ⟨_, _, .func ⟨nm, qual, params, .stmts body, scope, gl, [(c1, cc)], .none, .none, _, _, _, .ref cda, _, bl⟩, _⟩ =>
    decide (nm = "__init__") && (supArgsB f params && (supBodyB f body && (decide (scope = sS f) && (decide (gl = mainGlobals) && (decide (c1 = "__class__") && (decide (bl = builtinsNs) && (codeIn K (.ref cda) qual && (codeFile P K cda && cellB K cc C))))))))
  | _ => false
theorem supFn_ok {P : Program} {K : Frag} {C fI : Addr} {f : Str} (h : supFn P K C fI f = true) : ∃ (qual m : Str) (j : Nat) (oc : Value) (od : Option Addr) (doc pm : Value) (an : Option Addr) (cda cc : Addr) (ct : Value) (osl : Array (Option Value)) (p1 p2 q1 q2 q3 q4 q5 q6 q7 q8 q9 q10 : Pos),
    K.lookup fI = some ⟨oc, od, .func (ksFn "__init__" qual (sA f p1 p2) (sB f m j q1 q2 q3 q4 q5 q6 q7 q8 q9 q10) (sS f) .none .none doc pm an (.ref cda) ct cc), osl⟩ ∧ codeIn K (.ref cda) qual = true ∧
    (∃ ccl cdd vs ccs file tf, K.lookup cda = some ⟨ccl, cdd, .fields vs, ccs⟩ ∧ vs[2]? = some (.str file tf) ∧ ((P.main.file : Str) == file) = true) ∧ (∃ cl cld csl, K.lookup cc = some ⟨cl, cld, .cell (some (.ref C)), csl⟩) ∧ (q3.endLine == q5.line) = true := by
  unfold supFn at h
  split at h
  · rename_i e
    simp only [Bool.and_eq_true, decide_eq_true_eq] at h
    obtain ⟨rfl, h1, h2, rfl, rfl, rfl, rfl, h3, h4, h5⟩ := h
    obtain ⟨p1, p2, rfl⟩ := supArgsB_ok h1
    obtain ⟨m, j, q1, q2, q3, q4, q5, q6, q7, q8, q9, q10, rfl, hl⟩ := supBodyB_ok h2
    exact ⟨_, m, j, _, _, _, _, _, _, _, _, _, p1, p2, q1, q2, q3, q4, q5, q6, q7, q8, q9, q10, e, h3, codeFile_ok h4, cellB_ok h5, hl⟩
  · cases h
def supCls (K : Frag) (C : Addr) : Bool := match K.lookup C with
  | some ⟨.type "type", _, .cls cd, sl⟩ => (match cd.mro, sl.toList with
    | .ref C' :: bm, [_, _, _, _, some (.builtin n), _] => C' == C && n == "ValueError.__new__" && !cd.hasDel && cd.hasDict && refsVE bm && decide (alongIn K "__init__" bm = some (some (.builtin "ValueError.__init__")))
    | _, _ => false)
  | _ => false
theorem supCls_ok {K : Frag} {C : Addr} (h : supCls K C = true) : ∃ nm q N bs bm sn sub ab col dd k0 k1 k2 k3 k5, K.lookup C = some (excClassObj nm q C N bs bm true sn sub ab col dd k0 k1 k2 k3 k5 "ValueError.__new__") ∧ refsVE bm = true ∧ alongIn K "__init__" bm = some (some (.builtin "ValueError.__init__")) := by
  unfold supCls at h
  split at h
  · rename_i dd cd sl ho
    split at h
    · rename_i C' bm k0 k1 k2 k3 n k5 hm hs
      simp only [Bool.and_eq_true, beq_iff_eq, Bool.not_eq_true', decide_eq_true_eq] at h
      obtain ⟨⟨⟨⟨⟨rfl, rfl⟩, hdel⟩, hdi⟩, hr⟩, ha⟩ := h
      obtain ⟨nm, bs, mro, ns, qn, hd, sn, sub, ab, col, del⟩ := cd
      dsimp only at hm hdel hdi
      subst hm hdel hdi
      have hsl : sl = #[k0, k1, k2, k3, some (.builtin "ValueError.__new__"), k5] := by
        obtain ⟨l⟩ := sl
        simp only at hs
        rw [hs]
      subst hsl
      exact ⟨nm, qn, ns, bs, bm, sn, sub, ab, col, dd, k0, k1, k2, k3, k5, ho, hr, ha⟩
    · cases h
  · cases h
def supB (P : Program) (K : Frag) (q : Str × Str) : Bool :=
  supCls K (He.ga K q.1) && (He.eqO (findIn K (.ref (He.ga K q.1)) "__setattr__") (some (some (.builtin "object.__setattr__"))) && (He.eqO (findIn K (.ref (He.ga K q.1)) q.2) (some none) &&
  (He.eqO (findIn K (.ref (He.ga K q.1)) "__init__") (some (some (.ref (He.ma K (He.ga K q.1) "__init__")))) && (decide (typeIn K (.ref (He.ma K (He.ga K q.1) "__init__")) = some (.type "function")) && (keepIn K (.ref (He.ga K q.1)) &&
  (decide (subIn K (.ref (He.ga K q.1)) (.type "BaseException") = some true) && (decide (subIn K (.ref (He.ga K q.1)) (.type "ValueError") = some true) && (decide (mroIn K (He.ga K q.1) (.ref (He.ga K q.1)) = some true) && (decide (typeIn K (.ref (He.ga K q.1)) = some (.type "type")) &&
  (He.eqO (nsIn K cStatics "thirdparty.any") (some none) && (supFn P K (He.ga K q.1) (He.ma K (He.ga K q.1) "__init__") q.2 && ((P.main.scope.names.lookup ("super" : Str)).isNone && xfB K (He.ga K q.1)))))))))))))
theorem supB_ok {P : Program} {K : Frag} {q : Str × Str} (h : supB P K q = true) : SupTxt P K (He.ga K q.1) (He.ma K (He.ga K q.1) "__init__") q.2 ∧ XfC K (He.ga K q.1) := by
  unfold supB at h
  simp only [Bool.and_eq_true, decide_eq_true_eq] at h
  obtain ⟨h1, h2, h3, h4, h5, h6, h7, h8, h9, h10, h11, h12, h13, h14⟩ := h
  exact ⟨⟨supCls_ok h1, He.eqO_ok h2, He.eqO_ok h3, He.eqO_ok h4, h5, h6, h7, h8, h9, h10, He.eqO_ok h11, supFn_ok h12, by rw [isNone_eq h13]; rfl⟩, xfB_ok h14⟩
/-! ### the hook -/
def cellsOf (K : Frag) (q : Str × Str) : List Addr := match K.lookup (He.ma K (He.ga K q.1) "__init__") with
  | some ⟨_, _, .func fd, _⟩ => fd.closure.map (·.2)
  | _ => []
def frB (g : Addr → Option Obj) (n : Nat) (cn : List (Str × List Int)) (sp : List (Str × Str)) : Frag := frA g n cn ++ He.frG g (cStatics :: sp.flatMap fun q => cellsOf (frA g n cn) q)
theorem frB_in {h : Heap} {n : Nat} {cn : List (Str × List Int)} {sp : List (Str × Str)} : (frB h.get? n cn sp).In h := fun a o e => by
  rcases List.mem_append.mp (He.lookup_mem e) with m | m
  · exact He.frG_mem (List.mem_filter.mp (List.mem_filter.mp m).1).1
  · exact He.frG_mem m
theorem saysA_ofK {K : Frag} {fa : List He.Fa} {fn : List He.FnD} {tf : List He.Defn} {cn : List (Str × List Int)} {h : Heap} (e1 : He.obsE fa fn K = He.valE fn) (e2 : (tabsA h.get? K tf && consB h.get? K cn) = true) : SaysA fa fn tf cn h K := by
  rw [Bool.and_eq_true] at e2
  obtain ⟨h1, h2⟩ := e2
  have h1 : (decide ((tf.map fun p => (He.cT K p).2).Nodup) && tf.all fun p => (K.lookup (He.cT K p).2).isNone && (PySem.W.codeHdIn K (He.cT K p).1 (He.cT K p).2 && (match h.get? (He.cT K p).2 with
  | some o => He.emptyTab o
  | none => false))) = true := h1
  have h2 : (decide ((cn.map fun q => He.ga K q.1).Nodup) && cn.all fun q => (K.lookup (He.ga K q.1)).isNone && (match h.get? (He.ga K q.1) with
  | some o => tupB o q.2
  | none => false)) = true := h2
  rw [Bool.and_eq_true] at h1 h2
  obtain ⟨n1, h1⟩ := h1
  obtain ⟨n2, h2⟩ := h2
  have key : ∀ p ∈ tf, K.lookup (He.cT K p).2 = none ∧ PySem.W.codeHdIn K (He.cT K p).1 (He.cT K p).2 = true ∧ h.get? (He.cT K p).2 = some { cls := .none, data := .fields #[] } := fun p hp => by
    have z := List.all_eq_true.mp h1 p hp
    rw [Bool.and_eq_true, Bool.and_eq_true] at z
    obtain ⟨z1, z2, z3⟩ := z
    refine ⟨isNone_eq z1, z2, ?_⟩
    cases q : h.get? (He.cT K p).2 with
    | none => rw [q] at z3; cases z3
    | some o => rw [q] at z3; rw [He.emptyTab_eq z3]
  refine ⟨e1, of_decide_eq_true n1, of_decide_eq_true n2, fun p hp => (key p hp).2.1, fun p hp => (key p hp).1, fun p hp => (key p hp).2.2, fun q hq => ?_⟩
  have z := List.all_eq_true.mp h2 q hq
  rw [Bool.and_eq_true] at z
  obtain ⟨z1, z2⟩ := z
  refine ⟨isNone_eq z1, ?_⟩
  cases qq : h.get? (He.ga K q.1) with
  | none => rw [qq] at z2; cases z2
  | some o =>
    rw [qq] at z2
    obtain ⟨its, e1, e2⟩ := tupB_ok z2
    exact ⟨its, by rw [e1], e2⟩
structure SaysB (fa : List He.Fa) (fn : List He.FnD) (tf : List He.Defn) (cn : List (Str × List Int)) (sp : List (Str × Str)) (P : Program) (h : Heap) (K : Frag) : Prop extends SaysA fa fn tf cn h K where
  u : ∀ q ∈ sp, supB P K q = true
def obsB (n : Nat) (fa : List He.Fa) (fn : List He.FnD) (tf : List He.Defn) (cn : List (Str × List Int)) (sp : List (Str × Str)) (P : Program) (g : Addr → Option Obj) : He.Al × Bool :=
  (He.obsE fa fn (frB g n cn sp), (tabsA g (frB g n cn sp) tf && consB g (frB g n cn sp) cn) && sp.all fun q => supB P (frB g n cn sp) q)
theorem saysB_of {n : Nat} {fa : List He.Fa} {fn : List He.FnD} {tf : List He.Defn} {cn : List (Str × List Int)} {sp : List (Str × Str)} {P : Program} {h : Heap} (e : obsB n fa fn tf cn sp P h.get? = (He.valE fn, true)) : SaysB fa fn tf cn sp P h (frB h.get? n cn sp) := by
  have e1 : He.obsE fa fn (frB h.get? n cn sp) = He.valE fn := congrArg Prod.fst e
  have e2 : ((tabsA h.get? (frB h.get? n cn sp) tf && consB h.get? (frB h.get? n cn sp) cn) && sp.all fun q => supB P (frB h.get? n cn sp) q) = true := congrArg Prod.snd e
  obtain ⟨h1, h2⟩ := Bool.and_eq_true_iff.mp e2
  exact { toSaysA := saysA_ofK e1 h1, u := fun q hq => List.all_eq_true.mp h2 q hq }
def hookB (n : Nat) (fa : List He.Fa) (fn : List He.FnD) (tf : List He.Defn) (cn : List (Str × List Int)) (sp : List (Str × Str)) (P : Program) : PySem.W.Hook where
  α := He.Al × Bool
  obs := fun s => obsB n fa fn tf cn sp P s.heap.get?
  val := fun _ => (He.valE fn, true)
  says := fun _ h => ∃ K : PySem.W.Frag, K.In h ∧ SaysB fa fn tf cn sp P h K
  of := fun _ _ e => ⟨_, frB_in, saysB_of e⟩
  keeps := fun _ _ _ ⟨K, hK, c⟩ k => ⟨K, PySem.W.Frag.In.keeps hK k, { toSaysA := ⟨c.e, c.ndT, c.ndC, c.hd, c.out, fun p hp => k _ _ (c.empty p hp), fun q hq => let ⟨a, its, b, d⟩ := c.cons q hq; ⟨a, its, k _ _ b, d⟩⟩, u := c.u }⟩
theorem obsB_eq {n : Nat} {fa : List He.Fa} {fn : List He.FnD} {tf : List He.Defn} {cn : List (Str × List Int)} {sp : List (Str × Str)} {P : Program} {g : Addr → Option Obj} {s : Shared} (h : ∀ a, g a = s.heap.get? a) : obsB n fa fn tf cn sp P g = (hookB n fa fn tf cn sp P).obs s := by
  have e : g = s.heap.get? := funext h
  rw [e] <;> rfl
theorem paperOk_of {X : Cx} {cs : Tx} {x a e n fl ret : Str} {st : Stmt} {N : List Str} {f : Addr} {fd : FuncData} {c j : Nat} {p1 p2 p3 p4 p5 p6 p7 p8 p9 p10 p11 : Pos} (F : Fun X.K x x st f fd) (hg : X.mg x = some (.ref f)) (S : FnScope N [a] (defScope st))
    (bd : ∀ (kV doc pm : Value) (an : Option Addr) (cdv ct : Value) (us : List Value), us.length = [a].length → bindArgs (PySem.W.fnOf x x (defArgs st) (defBody st) (defScope st) .none kV doc pm an cdv ct) ⟨us, []⟩ = pure ([a].zip us))
    (hb : defBody st = [.Try [.Expr (.Call (.Name a p1) [] [] p2) p3] [.ExceptHandler (some (.Name e p4)) (some n) [.Return (some (.Attribute (.Name n p5) fl p6)) p7] p8] [] [] p9, .Return (some (.Constant (.str ret) j p10)) p11]) (hst : ∀ f : Addr, (L2.start N [V.ref f])[0]? = some (some (V.ref f)))
    (hme : X.mg e = some (.ref (cs.C c))) (T : XfC X.K (cs.C c)) (hno : PySem.W.findIn X.K (.ref (cs.C c)) fl = some none) (hex : PySem.W.exmOne X.K (.ref (cs.C c)) (.ref (cs.C c)) = some true)
    (hge : (defScope st).names.lookup e = some .globalImplicit := by rfl) (h1 : N[1]? = some n := by rfl) (hln : (defScope st).names.lookup n = some .local := by rfl) (hde : (e == ("__debug__" : Str)) = false := by decide) (hdn : (n == ("__debug__" : Str)) = false := by decide) (hcn : (n == ("__classdict__" : Str)) = false := by decide)
    (hN : N[0]? = some a := by rfl) (hv : Vis (defScope st) a := by exact Or.inl rfl) (hd : (a == ("__debug__" : Str)) = false := by decide) (hcd : (a == ("__classdict__" : Str)) = false := by decide) : PaperOk X cs x c fl ret := by
  have bb := F.binds bd
  have kp := F.kp
  obtain ⟨oc, od, kV, doc, pm, an, cdv, ct, osl, rfl, lk, hc⟩ := F.ex
  refine ⟨f, a, defArgs st, defBody st, defScope st, .none, kV, doc, pm, cdv, ct, oc, an, od, osl, N, hg, kp, lk, hc, bb, S, hN, hv, hd, hcd, fun q => ?_⟩
  rw [hb]
  exact paper_gives (p12 := p11) hge hme hde hst S.nd h1 hln hdn hcn T hno hex
end Ar
namespace Ar
open PySem PySem.Spec PyProof.Rows L2
/-! ### dict displays -/
def evPairs : List (FE × FE) → Env → Hs → R (List (P × P))
  | [], _, h => .ok [] h
  | q :: r, env, h => (q.1 env h).bind fun d h1 => (q.2 env h1).bind fun e h2 => (evPairs r env h2).bind fun ps h3 => match d, e with
    | .p k, .p v => if isKey k then .ok ((k, v) :: ps) h3 else .bad
    | _, _ => .bad
def cDisp (fin : List P → List P → Hs → R D) (l : List (FE × FE)) : FE := fun env h => (evPairs l env h).bind fun ps h1 => if ps.length ≤ 15 then fin (mergeP [] [] ps).1 (mergeP [] [] ps).2 h1 else .bad
def cDict0 (fin : List P → List P → Hs → R D) : FE := fun _ h => fin [] [] h
section
variable {X : Cx} {cs : Tx}
def relPs (K : PySem.W.Frag) (cs : Tx) : Gh → Nat → List (P × P) → List (V × V) → Prop := fun g _ ps xs => Paired (fun (q : P × P) (xy : V × V) => ∃ k : Key, q.1 = keyP k ∧ xy.1 = kV k ∧ RP K cs g.G q.2 xy.2) ps xs
theorem pairs_run {K : PySem.W.Frag} {W : WX} {σ : L2.St} : ∀ (l : List (FE × FE)) (g : Gh) (env : Env) (h : Hs) (H : Hp) (Q : List (V × V) → Hp → Prop), Rel K cs g h H → REnv K cs g h.length env σ → EndR K cs (relPs K cs) W σ g h.length H Q (evPairs l env h) → tPairs (l.map fun q => (tE K cs W q.1, tE K cs W q.2)) σ H Q
  | [], g, env, h, H, Q, R, E, F => F g [] H Step.refl R .nil
  | q :: r, g, env, h, H, Q, R, E, F => by
    refine ⟨g, env, h, R, E, EndR.of F fun d h1 g1 x H1 _ S1 R1 V1 F1 => ⟨g1, env, h1, R1, E.step S1, EndR.of F1 fun e h2 g2 y H2 _ S2 R2 V2 F2 => pairs_run r g2 env h2 H2 _ R2 ((E.step S1).step S2) (EndR.of F2 fun ps h3 g3 xs H3 _ S3 R3 V3 F3 => ?_)⟩⟩
    have V1' := V1.step (S2.trans S3)
    have V2' := V2.step S3
    cases V1' with
    | loc _ => exact F3.elim
    | p r1 =>
      cases V2' with
      | loc _ => exact F3.elim
      | p r2 =>
        dsimp only at F3
        split at F3
        · rename_i hk
          obtain ⟨k, rfl⟩ := isKey_of hk
          have ek := keyV r1
          exact F3 g3 _ H3 Step.refl R3 (.cons ⟨k, rfl, ek, r2⟩ V3)
        · exact F3.elim
theorem relPs_kvs {K : PySem.W.Frag} {g : Gh} {n : Nat} : ∀ {ps : List (P × P)} {xs : List (V × V)}, relPs K cs g n ps xs → ∃ kvs : List (Key × V), xs = kvs.map (fun kv => (kV kv.1, kv.2)) ∧ kvs.length = ps.length ∧ Paired (fun (q : P × P) (kv : Key × V) => q.1 = keyP kv.1 ∧ RP K cs g.G q.2 kv.2) ps kvs
  | _, _, .nil => ⟨[], rfl, rfl, .nil⟩
  | _, xy :: xs, .cons ⟨k, h1, h2, h3⟩ t => by
    obtain ⟨kvs, e1, e2, e3⟩ := relPs_kvs (n := n) t
    refine ⟨(k, xy.2) :: kvs, ?_, by simp [e2], .cons ⟨h1, h3⟩ e3⟩
    rw [e1, List.map_cons, ← h2]
def GPP (X : Cx) (cs : Tx) (keys : List (Option Expr)) (values : List Expr) (l : List (FE × FE)) : Prop := ∀ W, Takes X W → ∀ pos, PPs X pos keys values (l.map fun q => (tE X.K cs W q.1, tE X.K cs W q.2))
theorem gppN : GPP X cs [] [] [] := fun W tk pos => pps_nil
theorem gppC {k v : Expr} {ks : List (Option Expr)} {vs : List Expr} {fk fv : FE} {l : List (FE × FE)} (gk : GE X cs k fk) (gv : GE X cs v fv) (gr : GPP X cs ks vs l) : GPP X cs (some k :: ks) (v :: vs) ((fk, fv) :: l) := fun W tk pos => pps_cons (gk W tk) (gv W tk) (gr W tk pos)
theorem gDisp {fin : List P → List P → Hs → R D} {keys : List (Option Expr)} {values : List Expr} {l : List (FE × FE)} {pos : Pos} (hf : DFinOk fin) (gp : GPP X cs keys values l) (hall : keys.all (·.isSome) = true := by rfl) (hl : keys.length = values.length := by rfl) (h0 : keys ≠ [] := by exact fun z => nomatch z) (h15 : keys.length ≤ 15 := by decide) :
    GE X cs (.Dict keys values pos) (cDisp fin l) := fun W tk => by
  refine PE.imp (PE.locks (pe_disp (gp W tk pos) hall hl h0 h15)) fun σ H Q ⟨g, env, h, R, E, F⟩ => ?_
  intro p hp
  have A := R.apart hp
  have R1 := R.upd_apartU (o := .dK []) A (.inl hp)
  have S1 : Step g h.length H g h.length (upd H p (.dK [])) := Step.refl.upd_new hp
  refine pairs_run l g env h _ _ R1 (E.step S1) ?_
  unfold cDisp at F
  cases q : evPairs l env h with
  | bad => rw [q] at F; exact F
  | ex c fs h1 => rw [q] at F; exact EndR.shift S1 F
  | ok ps h1 =>
    rw [q] at F
    dsimp only [Ar.R.bind] at F
    split at F
    · rename_i h15'
      intro g1 xs H1 S2 R2 V2
      obtain ⟨kvs, rfl, hlen, hp2⟩ := relPs_kvs (n := h1.length) V2
      have e1 : H1 p = some (.dK []) := S2.keep p _ upd_same (fun _ z => nomatch z) A.ne
      have A2 := A.stepU S2 upd_same (fun _ z => nomatch z)
      obtain ⟨m1, m2⟩ := merge_rel [] [] hp2 .nil
      simp only [List.map_nil] at m1 m2
      rw [m1] at F
      exact ⟨e1, kvs, rfl, by omega, hf X.K cs g h.length H g1 h1 H1 _ _ p W σ Q (S1.trans S2) R2 A2 hp ⟨_, e1, placed_dK _⟩ m2 F⟩
    · exact F.elim
theorem gDict0 {fin : List P → List P → Hs → R D} {pos : Pos} (hf : DFinOk fin) : GE X cs (.Dict [] [] pos) (cDict0 fin) := fun W tk => by
  refine PE.imp (PE.locks pe_dnewK) fun σ H Q ⟨g, env, h, R, E, F⟩ => ?_
  intro p hp
  exact new_dct hf (kvs := []) R .nil F p hp
/-! ### d.get -/
def getP (d : D) (k : P) (h : Hs) : Option (Option P) := match dctP d h with
  | some z => if isKey k then some (dGet z.1 z.2 k) else none
  | none => none
def cGet1 (fo fe : FE) : FE := fun env h => (fo env h).bind fun d h1 => if (dctP d h1).isSome then (fe env h1).bind fun e h2 => (match e with
  | .p k => (match getP d k h2 with
    | some o => .ok (.p (o.getD .non)) h2
    | none => .bad)
  | _ => .bad) else .bad
def cGet2 (fo fe fd : FE) : FE := fun env h => (fo env h).bind fun d h1 => if (dctP d h1).isSome then (fe env h1).bind fun e h2 => (fd env h2).bind fun z h3 => (match e, z with
  | .p k, .p z => (match getP d k h3 with
    | some o => .ok (.p (o.getD z)) h3
    | none => .bad)
  | _, _ => .bad) else .bad
theorem get_core {K : PySem.W.Frag} {g : Gh} {h : Hs} {H : Hp} {d : D} {k : P} {x y : V} {o : Option P} (R : Rel K cs g h H) (V1 : RD K cs g.ρ g.G h.length d x) (r2 : RP K cs g.G k y) (e : getP d k h = some o) : ∃ a oo, x = .ref a ∧ DGet H a y oo ∧ ∀ z w, RP K cs g.G z w → RP K cs g.G (o.getD z) (oo.getD w) := by
  unfold getP at e
  split at e
  · rename_i z ez
    split at e
    · rename_i hk
      cases e
      obtain ⟨k, rfl⟩ := isKey_of hk
      have ey := keyV r2
      subst ey
      obtain ⟨a, kvs, rfl, hd, ek, r⟩ := dctP_ok R V1 (ks := z.1) (ws := z.2) ez
      refine ⟨a, valV kvs k, rfl, .inl ⟨kvs, k, hd, rfl, rfl⟩, fun z' w rw' => ?_⟩
      rw [ek]
      obtain ⟨g1, g2⟩ := dGet_rel (kp := keyP) (fun _ _ => keyP_inj) kvs z.2 k r
      cases q : dGet (kvs.map fun q => keyP q.1) z.2 (keyP k) with
      | none => rw [g2 q]; exact rw'
      | some v =>
        obtain ⟨v', h1, h2⟩ := g1 v q
        rw [h1]; exact h2
    · cases e
  · cases e
theorem isD_of {K : PySem.W.Frag} {g : Gh} {h : Hs} {H : Hp} {d : D} {x : V} (R : Rel K cs g h H) (V1 : RD K cs g.ρ g.G h.length d x) (e : (dctP d h).isSome = true) : ∃ a, x = .ref a ∧ IsD H a := by
  cases q : dctP d h with
  | none => rw [q] at e; cases e
  | some z =>
    obtain ⟨a, kvs, rfl, hd, _⟩ := dctP_ok R V1 (ks := z.1) (ws := z.2) q
    exact ⟨a, rfl, .inl ⟨kvs, hd⟩⟩
variable {o e f : Expr} {fo fe fd : FE} {apos cpos : Pos}
theorem gGet1 (hu : X.A.units + 1 < cLine) (go : GE X cs o fo) (ge : GE X cs e fe) (m : M1 X o "get" apos e cpos := by exact ⟨rfl, rfl, rfl, rfl⟩) : GE X cs (.Call (.Attribute o "get" apos) [e] [] cpos) (cGet1 fo fe) := fun W tk => by
  refine PE.imp (pe_dget1 hu (go W tk) (ge W tk) m) fun σ H Q ⟨g, env, h, R, E, F⟩ => ?_
  refine ⟨g, env, h, R, E, EndR.of F fun d h1 g1 x H1 _ S1 R1 V1 F1 => ?_⟩
  split at F1
  · rename_i hd
    obtain ⟨a, rfl, hi⟩ := isD_of R1 V1 hd
    refine ⟨a, rfl, hi, g1, env, h1, R1, E.step S1, EndR.of F1 fun d2 h2 g2 y H2 _ S2 R2 V2 F2 => ?_⟩
    cases V2 with
    | loc _ => exact F2.elim
    | p r2 =>
      dsimp only at F2
      split at F2
      · rename_i oo eo
        obtain ⟨a', ov, ea, hg, hr⟩ := get_core R2 (V1.step S2) r2 eo
        cases ea
        exact ⟨ov, hg, F2 g2 _ H2 Step.refl R2 (.p (hr _ _ .non))⟩
      · exact F2.elim
  · exact F1.elim
theorem gGet2 (hu : X.A.units + 1 < cLine) (go : GE X cs o fo) (ge : GE X cs e fe) (gf : GE X cs f fd) (m : M2 X o "get" apos e f cpos := by exact ⟨rfl, rfl, rfl, rfl⟩) : GE X cs (.Call (.Attribute o "get" apos) [e, f] [] cpos) (cGet2 fo fe fd) := fun W tk => by
  refine PE.imp (pe_dget2 hu (go W tk) (ge W tk) (gf W tk) m) fun σ H Q ⟨g, env, h, R, E, F⟩ => ?_
  refine ⟨g, env, h, R, E, EndR.of F fun d h1 g1 x H1 _ S1 R1 V1 F1 => ?_⟩
  split at F1
  · rename_i hd
    obtain ⟨a, rfl, hi⟩ := isD_of R1 V1 hd
    refine ⟨a, rfl, hi, g1, env, h1, R1, E.step S1, EndR.of F1 fun d2 h2 g2 y H2 _ S2 R2 V2 F2 => ⟨g2, env, h2, R2, (E.step S1).step S2, EndR.of F2 fun d3 h3 g3 z H3 _ S3 R3 V3 F3 => ?_⟩⟩
    have V2' := V2.step S3
    cases V2' with
    | loc _ => exact F3.elim
    | p r2 =>
      cases V3 with
      | loc _ => exact F3.elim
      | p r3 =>
        dsimp only at F3
        split at F3
        · rename_i oo eo
          obtain ⟨a', ov, ea, hg, hr⟩ := get_core R3 (V1.step (S2.trans S3)) r2 eo
          cases ea
          exact ⟨ov, hg, F3 g3 _ H3 Step.refl R3 (.p (hr _ _ r3))⟩
        · exact F3.elim
  · exact F1.elim
end
end Ar
namespace Ar
open PySem PySem.Spec PyProof.Rows L2
/-! ### a dict's place is given up: from then on it is known to its object -/
theorem PS.prelock {X : Cx} {st : Stmt} {t : TS} (h : PS X st t) : PS X st (fun D σ H => ∃ S : List Addr, (∀ d ∈ S, ∃ u, H d = some u ∧ Mut (some u)) ∧ ∀ H2, LkS S H H2 → t D σ H2) :=
  ⟨fun pins s σ H D I q => by
    obtain ⟨S, k, q⟩ := q
    obtain ⟨H2, I2, L⟩ := Inv.locks I S k
    exact h.run pins s σ H2 D I2 (q H2 L)⟩
section
variable {K : PySem.W.Frag} {cs : Tx} {g : Gh} {h : Hs} {H H2 : Hp}
theorem Rel.giveUp {i : Nat} {o : O} {u : HO} {od : Obj} (r : Rel K cs g h H) (e : h[i]? = some o) (hd : o ≠ .dead) (e1 : H (g.ρ i) = some u) (pu : notTbl u ∧ ∀ φ, u ≠ .ext φ) (hf : FzOk cs u) (L : LkS [g.ρ i] H H2) (e2 : H2 (g.ρ i) = some (.frz od u)) :
    Rel K cs ⟨g.ρ, upd g.G (g.ρ i) (.frz od u)⟩ (h.set i .dead) H2 ∧ Step g h.length H ⟨g.ρ, upd g.G (g.ρ i) (.frz od u)⟩ (h.set i .dead).length H2 := by
  have hi : i < h.length := (List.getElem?_eq_some_iff.mp e).1
  have hG := r.off i o e hd
  have same : ∀ a, a ≠ g.ρ i → H2 a = H a := fun a ha => L.same a (by simpa using ha)
  have S : Step g h.length H ⟨g.ρ, upd g.G (g.ρ i) (.frz od u)⟩ (h.set i .dead).length H2 := by
    rw [List.length_set]
    refine ⟨Nat.le_refl _, fun _ _ => rfl, sub_upd hG, fun a w q _ hx => by rw [same a (hx i hi)]; exact q, fun a w q _ hx z => ?_, fun j h1 h2 => absurd h2 (by omega), fun a w q nt => ?_⟩
    · show upd g.G (g.ρ i) _ a = none
      rw [upd_ne (hx i hi)]; exact z
    · by_cases ha : a = g.ρ i
      · subst ha; exact ⟨_, e2, fun _ z => nomatch z⟩
      · exact ⟨w, by rw [same a ha]; exact q, nt⟩
  refine ⟨⟨fun a w q => ?_, by rw [List.length_set]; exact r.inj, fun j w q => ?_, fun j w q hw => ?_, fun q hq => S.sub.rd (r.cst q hq), fun a ob w q => ?_, r.ntb_upd hG (fun _ z => nomatch z), tabs_of r.tabs (fun b ps q => ?_) (fun b φ q => ?_)⟩, S⟩
  · have q : upd g.G (g.ρ i) (.frz od u) a = some w := q
    by_cases ha : a = g.ρ i
    · subst ha; rw [upd_same] at q; rw [e2]; exact q
    · rw [upd_ne ha] at q; rw [same a ha]; exact r.sub a w q
  · by_cases hj : j = i
    · subst hj
      rw [List.getElem?_set_self hi] at q
      cases q
      exact ⟨_, e2, ⟨fun _ z => (nomatch z), trivial⟩, fun _ z => (nomatch z)⟩
    · rw [List.getElem?_set_ne (Ne.symm hj)] at q
      refine (r.at_ j w q).step S fun z hz => ?_
      rw [same _ fun z => hj (r.inj j i (List.getElem?_eq_some_iff.mp q).1 hi z)]; exact hz
  · by_cases hj : j = i
    · subst hj
      rw [List.getElem?_set_self hi] at q
      cases q
      exact absurd rfl hw
    · rw [List.getElem?_set_ne (Ne.symm hj)] at q
      show upd g.G (g.ρ i) _ (g.ρ j) = none
      rw [upd_ne fun z => hj (r.inj j i (List.getElem?_eq_some_iff.mp q).1 hi z)]
      exact r.off j w q hw
  · have q : upd g.G (g.ρ i) (.frz od u) a = some (.frz ob w) := q
    by_cases ha : a = g.ρ i
    · subst ha; rw [upd_same] at q
      injection q with q
      injection q with _ q
      subst q; exact hf
    · rw [upd_ne ha] at q; exact r.fz a ob w q
  · rw [same b fun z => by rw [z, e1] at q; cases q; exact pu.1 _ rfl]; exact q
  · rw [same b fun z => by rw [z, e1] at q; cases q; exact pu.2 _ rfl]; exact q
def frzV (j : Nat) (env : Env) (h : Hs) : Option (Nat × P) := match env[j]? with
  | some (some (.loc i)) => (match h[i]? with
    | some (.dct ks vs) => some (i, .dct ks vs)
    | some (.dtt ks vs) => some (i, .dtt ks vs)
    | _ => none)
  | _ => none
/-- slot j's dict is known from here on -/
def sFrz (j : Nat) (fs : FS) : FS := fun env h => match frzV j env h with
  | some q => fs (env.set j (some (.p q.2))) (h.set q.1 .dead)
  | none => fs env h
theorem gFrz {X : Cx} {st : Stmt} {fs : FS} (j : Nat) (gs : GS X cs st fs) : GS X cs st (sFrz j fs) := fun W tk => by
  refine PS.imp (PS.prelock (gs W tk)) fun D' σ H ⟨g, env, h, R, E, F⟩ => ?_
  unfold sFrz at F
  cases q : frzV j env h with
  | none =>
    rw [q] at F
    refine ⟨[], ?_, fun H2 L => ?_⟩
    · intro d hd
      exact absurd hd (by simp)
    · have : H2 = H := funext fun a => L.same a (by simp)
      subst this
      exact ⟨g, env, h, R, E, F⟩
  | some z =>
    rw [q] at F
    unfold frzV at q
    split at q
    · rename_i i ej
      obtain ⟨v, hv, rv⟩ := E.2 j _ ej
      cases rv with
      | loc hi =>
        have fin : ∀ (o : O) (u : HO) (x : P), h[i]? = some o → o ≠ .dead → H (g.ρ i) = some u → Mut (some u) → (notTbl u ∧ ∀ φ, u ≠ .ext φ) → FzOk cs u →
            (∀ od G', Sub g.G G' → G' (g.ρ i) = some (.frz od u) → RP X.K cs G' x (.ref (g.ρ i))) → EndS X.K cs W g h.length H D' (fs (env.set j (some (.p x))) (h.set i .dead)) →
            ∃ S : List Addr, (∀ d ∈ S, ∃ u, H d = some u ∧ Mut (some u)) ∧ ∀ H2, LkS S H H2 → tS X.K cs W fs D' σ H2 := by
          intro o u x eo hd e1 mu pu hf rp FF
          refine ⟨[g.ρ i], fun d hd => by rw [List.mem_singleton] at hd; subst hd; exact ⟨u, e1, mu⟩, fun H2 L => ?_⟩
          obtain ⟨u', od, l1, _, l2⟩ := L.lock (g.ρ i) (by simp)
          rw [e1] at l1; cases l1
          obtain ⟨R2, S2⟩ := R.giveUp eo hd e1 pu hf L l2
          have E2 := E.step S2
          refine ⟨_, env.set j (some (.p x)), _, R2, ⟨by rw [List.length_set]; exact E2.1, fun m d hm => ?_⟩, EndS.shift S2 FF⟩
          by_cases hmj : m = j
          · subst hmj
            have hl : m < env.length := (List.getElem?_eq_some_iff.mp ej).1
            rw [List.getElem?_set_self hl] at hm
            cases hm
            exact ⟨_, hv, .p (rp od _ S2.sub upd_same)⟩
          · rw [List.getElem?_set_ne (Ne.symm hmj)] at hm
            exact E2.2 m d hm
        split at q
        · rename_i ks vs eo
          cases q
          obtain ⟨kvs, q1, q2, q3⟩ := R.at_ _ _ eo
          exact fin _ _ _ eo (fun z => nomatch z) q1 trivial ⟨fun _ z => (nomatch z), fun _ z => (nomatch z)⟩ (.inr (.inr (.inr (.inl ⟨_, rfl⟩)))) (fun od G' hs hg => .dct ⟨od, hg⟩ q2 (q3.mono hs)) F
        · rename_i ks vs eo
          cases q
          obtain ⟨kvs, q1, q2, q3⟩ := R.at_ _ _ eo
          exact fin _ _ _ eo (fun z => nomatch z) q1 trivial ⟨fun _ z => (nomatch z), fun _ z => (nomatch z)⟩ (.inr (.inr (.inr (.inr ⟨_, rfl⟩)))) (fun od G' hs hg => .dctT ⟨od, hg⟩ q2 (q3.mono hs)) F
        · cases q
    · cases q
end
/-! ### a tuple of places -/
def mkTR (ds : List D) (h : Hs) : R D := if ds.length ≤ 1000 then .ok (.loc h.length) (h ++ [.rt ds]) else .bad
def cTupR (fa : FA) : FE := fun env h => (fa env h).bind mkTR
theorem gTupR {X : Cx} {cs : Tx} {es : List Expr} {f : FA} {k : Nat} {pos : Pos} (ga : GA X cs es f) : GE X cs (.Tuple es k pos) (cTupR f) := fun W tk => by
  refine PE.imp (pe_tup (ga W tk)) fun σ H Q ⟨g, env, h, R, E, F⟩ => ?_
  refine ⟨g, env, h, R, E, F.of fun ds h1 g1 xs H1 _ S1 R1 V1 F1 => ?_⟩
  unfold mkTR at F1
  split at F1
  · rename_i hl
    refine ⟨by rw [← Paired.length V1]; exact le1000 hl, fun p hp => ?_⟩
    have old : ∀ i, i < h1.length → addρ g1.ρ h1.length p i = g1.ρ i := fun i hi => if_neg (by omega)
    obtain ⟨R2, S2⟩ := R1.place (p := p) (o := .rt ds) (u := .tup xs) (H1 := upd H1 p (.tup xs)) hp (fun a ha => upd_ne fun z => ha (by rw [z]; exact hp)) (by rw [upd_same]; exact fun z => nomatch z) ⟨xs, upd_same, L2.Paired.mapP V1 fun d v q => by
      cases q with
      | p q => exact .p q
      | loc q => rename_i i; rw [← old i q]; exact .loc (Nat.lt_succ_of_lt q)⟩
    have own : addρ g1.ρ h1.length p h1.length = p := if_pos rfl
    have V2 := RD.loc (K := X.K) (cs := cs) (ρ := addρ g1.ρ h1.length p) (G := g1.G) (n := (h1 ++ [O.rt ds]).length) (i := h1.length) (by simp)
    rw [own] at V2
    exact F1 _ (.ref p) _ S2 R2 V2
  · exact F1.elim
end Ar
namespace Ar
open PySem PySem.Spec PyProof.Rows L2
/-! ### dicts compared -/
inductive HitV (K : PySem.W.Frag) (H : Hp) (ls : List (Key × V)) : List (Key × V) → Bool → Prop
  | nil : HitV K H ls [] true
  | miss {k : Key} {v : V} {r : List (Key × V)} : valV ls k = none → HitV K H ls ((k, v) :: r) false
  | hit {k : Key} {v u : V} {r : List (Key × V)} {d e : PyData} {b : Bool} : valV ls k = some u → Dp K H v d → Dp K H u e → SeqAt.shaped d = true → SeqAt.shaped e = true → HitV K H ls r b → HitV K H ls ((k, v) :: r) (PyData.eqv d e && b)
def rDD (K : PySem.W.Frag) (neg : Bool) : R2 := fun x y H Q => ∃ (a b : Addr) (ks ls : List (Key × V)) (r : Bool), x = .ref a ∧ y = .ref b ∧ Rd H a (.dK ks) ∧ Rd H b (.dK ls) ∧ (ks.length = ls.length → HitV K H ls ks r) ∧ Q (.bl (if neg then !(ks.length == ls.length && r) else (ks.length == ls.length && r))) H
section
variable {X : Cx} {cs : Tx}
theorem hitV_run {pins : List (Addr × Obj)} {σ : L2.St} {H : Hp} {s : Shared} (I : Inv X pins σ H s) {A : Around} (hu : A.units + 64 < cLine) {ls : List (Key × V)} {vb : List (Key × Value)} (rb : KV ls vb) : ∀ {ks : List (Key × V)} {va : List (Key × Value)} {r : Bool}, KV ks va → HitV X.K H ls ks r → PySem.W.KeqHits A s vb va r := by
  intro ks va r ra
  unfold KV at ra
  induction ra generalizing r with
  | nil => intro h; cases h; exact .nil
  | @cons p q ps qs h t k =>
    intro hv
    obtain ⟨h1, h2⟩ := h
    obtain ⟨key, v⟩ := q
    obtain ⟨pk, pv⟩ := p
    have h1' : pk = key := h1
    subst h1'
    have rr0 : RelO (valV ls pk) (valueAt vb pk) := rb.val pk
    cases hv with
    | miss hn =>
      refine .miss ?_
      rw [hn] at rr0
      cases e : valueAt vb pk with
      | none => rfl
      | some y => rw [e] at rr0; exact rr0.elim
    | hit hu' d1 d2 s1 s2 ht =>
      rw [hu'] at rr0
      obtain ⟨y, hy, ry⟩ := rr0.some_of
      obtain ⟨as, r1⟩ := Dp.reads I _ _ _ d1 h2
      obtain ⟨bs, r2⟩ := Dp.reads I _ _ _ d2 ry
      exact .hit hy (SeqAt.eqAt_reads _ _ A s _ _ _ _ r1 r2 (SeqAt.canLay_of_shaped s1) (SeqAt.canLay_of_shaped s2) (SeqAt.room_of_shaped s1 hu)) (k ht)
theorem op_DD {neg : Bool} (hu : X.A.units + 65 < cLine) : OpR X (compareOp (if neg then .NotEq else .Eq)) (rDD X.K neg) := by
  intro pins s σ H x y v u Q I rx ry h
  obtain ⟨a, b, ks, ls, r, rfl, rfl, ea, eb, hp, q⟩ := h
  obtain rfl : v = Value.ref a := rx
  obtain rfl : u = Value.ref b := ry
  obtain ⟨_, ya, va, ra, da⟩ := dk_rd I.hok ea
  obtain ⟨_, yb, vb, rb, db⟩ := dk_rd I.hok eb
  have l1 : ks.length = va.length := ra.length
  have l2 : ls.length = vb.length := rb.length
  have hits : va.length = vb.length → PySem.W.KeqHits X.A.in1 s vb va r := fun hl => hitV_run I (by show X.A.units + 1 + 64 < cLine; omega) rb ra (hp (by omega))
  cases neg with
  | true => exact PySem.W.keq_ne (knd := mixKind X.prog X.w) (r := r) ya yb da db (by omega) hits (fin_bl I q (by rw [← l1, ← l2]; rfl))
  | false => exact PySem.W.keq_eq (knd := mixKind X.prog X.w) (r := r) ya yb da db (by omega) hits (fin_bl I q (by rw [← l1, ← l2]; rfl))
def hitP (ls ws : List P) : List P → List P → Option Bool
  | [], [] => some true
  | k :: ks, v :: vs => (match dGet ls ws k with
    | none => some false
    | some u => if depLe 60 v && depLe 60 u then (hitP ls ws ks vs).map (eqP v u && ·) else none)
  | _, _ => none
def oDD (neg : Bool) : P → P → Option P
  | .dct ks vs, .dct ls ws => if ks.length = ls.length then (hitP ls ws ks vs).map fun r => .bl (if neg then !r else r) else some (.bl neg)
  | _, _ => none
theorem hitP_rel {K : PySem.W.Frag} {G H : Hp} (s : Sub G H) {ls : List (Key × V)} {ws : List P} (rl : RPs K cs G ws (ls.map (·.2))) : ∀ {ks : List (Key × V)} {vs : List P} {r : Bool}, RPs K cs G vs (ks.map (·.2)) → hitP (ls.map fun q => keyP q.1) ws (ks.map fun q => keyP q.1) vs = some r → HitV K H ls ks r
  | [], _, r, .nil, e => by
    simp only [List.map_nil, hitP] at e
    cases e; exact .nil
  | (k, v) :: ks, p :: vs, r, .cons rp t, e => by
    simp only [List.map_cons, hitP] at e
    obtain ⟨g1, g2⟩ := dGet_rel (kp := keyP) (fun _ _ => keyP_inj) ls ws k rl
    cases q : dGet (ls.map fun q => keyP q.1) ws (keyP k) with
    | none =>
      rw [q] at e
      cases e
      exact .miss (g2 q)
    | some u =>
      rw [q] at e
      simp only at e
      split at e
      · rename_i hd
        rw [Bool.and_eq_true] at hd
        obtain ⟨v', h1, h2⟩ := g1 u q
        simp only [Option.map_eq_some_iff] at e
        obtain ⟨b, e1, rfl⟩ := e
        rw [← eqP_eqv p u 60 60 hd.1 hd.2]
        exact .hit h1 (dp_of s 60 p v hd.1 rp) (dp_of s 60 u v' hd.2 h2) (shaped_pd hd.1) (shaped_pd hd.2) (hitP_rel s rl t e1)
      · cases e
theorem ok_DD {neg : Bool} : OpOk X.K cs (rDD X.K neg) (oDD neg) := fun G H x y p q z Q s rx ry e k => by
  unfold oDD at e
  split at e
  · cases rx with
    | dct q1 q2 q3 =>
      cases ry with
      | dct p1 p2 p3 =>
        subst q2 p2
        split at e
        · rename_i hl
          simp only [Option.map_eq_some_iff] at e
          obtain ⟨r, e1, rfl⟩ := e
          refine ⟨_, _, _, _, r, rfl, rfl, s.rd (.inr q1), s.rd (.inr p1), fun _ => hitP_rel s p3 q3 e1, ?_⟩
          simp only [List.length_map] at hl
          rw [hl]
          simp only [BEq.rfl, Bool.true_and]
          exact k.same _ (.bl _)
        · rename_i hl
          cases e
          refine ⟨_, _, _, _, true, rfl, rfl, s.rd (.inr q1), s.rd (.inr p1), fun h => absurd (by simpa using h) hl, ?_⟩
          simp only [List.length_map] at hl
          have : (List.length _ == List.length _) = false := beq_eq_false_iff_ne.mpr hl
          rw [this]
          cases neg <;> exact k.same _ (.bl _)
  · cases e
end
/-! ### lists compared, one or both a place -/
def depD (d : D) (h : Hs) : Option P := match d with
  | .p x => some x
  | .loc i => (match h[i]? with
    | some (.lst ps) => some (.lst ps)
    | _ => none)
def eqL (neg : Bool) (d e : D) (h : Hs) : R D := match depD d h, depD e h with
  | some x, some y => if depLe 60 x && depLe 60 y then .ok (.p (.bl (if neg then !eqP x y else eqP x y))) h else .bad
  | _, _ => .bad
def cEqL (neg : Bool) (fa fb : FE) : FE := fun env h => (fa env h).bind fun d h1 => (fb env h1).bind fun e h2 => eqL neg d e h2
section
variable {X : Cx} {cs : Tx}
theorem dpAll_of {K : PySem.W.Frag} {G H : Hp} (s : Sub G H) (n : Nat) : ∀ (ps : List P) (vs : List V), ps.all (depLe n) = true → RPs K cs G ps vs → DpAll K H vs (pds ps)
  | [], _, _, r => by cases r; exact .nil
  | p :: ps, vs, h, r => by
    simp only [List.all_cons, Bool.and_eq_true] at h
    cases r with
    | cons r t => exact .cons (dp_of s n p _ h.1 r) (dpAll_of s n ps _ h.2 t)
theorem depD_ok {K : PySem.W.Frag} {g : Gh} {h : Hs} {H : Hp} {d : D} {v : V} {x : P} (R : Rel K cs g h H) (V1 : RD K cs g.ρ g.G h.length d v) (e : depD d h = some x) (hx : depLe 60 x = true) : Dp K H v (pd x) := by
  unfold depD at e
  split at e
  · cases e
    cases V1 with
    | p r => exact dp_of R.sub 60 x v hx r
  · split at e
    · rename_i q
      cases e
      cases V1 with
      | loc hi =>
        obtain ⟨xs, q1, q2⟩ := R.at_ _ _ q
        exact .lst (SqL.of q1) (dpAll_of R.sub 59 _ _ (by simpa [depLe] using hx) q2)
    · cases e
def rDq (K : PySem.W.Frag) (neg : Bool) : R2 := fun x y H Q => ∃ d e, Dp K H x d ∧ Dp K H y e ∧ SeqAt.shaped d = true ∧ SeqAt.shaped e = true ∧ Q (.bl (if neg then !PyData.eqv d e else PyData.eqv d e)) H
theorem op_Dq {neg : Bool} (hu : X.A.units + 64 < cLine) : OpR X (compareOp (if neg then .NotEq else .Eq)) (rDq X.K neg) := by
  cases neg with
  | true => exact op_neD hu
  | false => exact op_eqD hu
theorem eqL_ok {K : PySem.W.Frag} {neg : Bool} {g : Gh} {h : Hs} {H : Hp} {d e : D} {x y : V} {W : WX} {σ : L2.St} {Q : VK} (R : Rel K cs g h H) (V1 : RD K cs g.ρ g.G h.length d x) (V2 : RD K cs g.ρ g.G h.length e y) (F : EndR K cs (relD K cs) W σ g h.length H Q (eqL neg d e h)) : rDq K neg x y H Q := by
  unfold eqL at F
  split at F
  · rename_i a b ea eb
    split at F
    · rename_i hd
      rw [Bool.and_eq_true] at hd
      refine ⟨pd a, pd b, depD_ok R V1 ea hd.1, depD_ok R V2 eb hd.2, shaped_pd hd.1, shaped_pd hd.2, ?_⟩
      rw [eqP_eqv a b 60 60 hd.1 hd.2]
      exact F g _ H Step.refl R (.p (.bl _))
    · exact F.elim
  · exact F.elim
theorem gEqL {neg : Bool} {op : CmpOp} {a b : Expr} {fa fb : FE} {pos : Pos} (ho : OpR X (compareOp op) (rDq X.K neg)) (ga : GE X cs a fa) (gb : GE X cs b fb) (hm : behindInMarks op b = false := by first | exact nomark _ | rfl) :
    GE X cs (.Compare a [op] [b] pos) (cEqL neg fa fb) := fun W tk => PE.imp (pe_cmpR ho (ga W tk) (gb W tk) hm) fun σ H Q ⟨g, env, h, R, E, F⟩ =>
  ⟨g, env, h, R, E, EndR.of F fun d h1 g1 x H1 _ S1 R1 V1 F1 => ⟨g1, env, h1, R1, E.step S1, EndR.of F1 fun e h2 g2 y H2 _ S2 R2 V2 F2 => eqL_ok R2 (V1.step S2) V2 F2⟩⟩
theorem gEqLT {neg : Bool} {op : CmpOp} {a b : Expr} {fa fb : FE} {pos : Pos} (ho : OpR X (compareOp op) (rDq X.K neg)) (ga : GE X cs a fa) (gb : GE X cs b fb) (hm : behindInMarks op b = false := by first | exact nomark _ | rfl) :
    GT X cs (.Compare a [op] [b] pos) (cT (cEqL neg fa fb)) := fun W tk => by
  refine PT.imp (pt_cmpR ho (ga W tk) (gb W tk) hm) fun σ H Q ⟨g, env, h, R, E, F⟩ => ?_
  have F' : EndR X.K cs relB W σ g h.length H Q ((fa env h).bind fun d h1 => (fb env h1).bind fun e h2 => (eqL neg d e h2).bind toB) := by
    unfold cT cEqL at F
    cases q : fa env h with
    | bad => rw [q] at F; exact F
    | ex c fs h' => rw [q] at F; exact F
    | ok d h1 =>
      rw [q] at F
      simp only [Ar.R.bind] at F ⊢
      cases q2 : fb env h1 with
      | bad => rw [q2] at F; exact F
      | ex c fs h' => rw [q2] at F; exact F
      | ok e h2 => rw [q2] at F; exact F
  refine ⟨g, env, h, R, E, EndR.of F' fun d h1 g1 x H1 _ S1 R1 V1 F1 => ⟨g1, env, h1, R1, E.step S1, EndR.of F1 fun e h2 g2 y H2 _ S2 R2 V2 F2 => ?_⟩⟩
  unfold eqL at F2
  split at F2
  · rename_i a b ea eb
    split at F2
    · rename_i hd
      rw [Bool.and_eq_true] at hd
      refine ⟨pd a, pd b, depD_ok R2 (V1.step S2) ea hd.1, depD_ok R2 V2 eb hd.2, shaped_pd hd.1, shaped_pd hd.2, ?_⟩
      rw [eqP_eqv a b 60 60 hd.1 hd.2]
      exact ⟨_, rfl, F2 g2 _ H2 Step.refl R2 rfl⟩
    · exact F2.elim
  · exact F2.elim
end
end Ar
namespace Ar
open PySem PySem.Calls PyProof.Rows RT L2
theorem nolen_rt : typeLookup (.type "reversed") "__len__" = pure none := by rw [typeLookup_type, builtinLookup_eq_fast]; kernel_rfl
theorem hint_rt : typeLookup (.type "reversed") "__length_hint__" = pure (some (.builtin "reversed.__length_hint__")) := by rw [typeLookup_type, builtinLookup_eq_fast]; kernel_rfl
theorem istup_at {h h' : Heap} {t : Addr} {items : Array Value} (x : IsTup h t items) (e : ∀ o, h.get? t = some o → h'.get? t = some o) : IsTup h' t items := let ⟨o, ho, r⟩ := x; ⟨o, e _ ho, r⟩
theorem slot_rt_hint : Slot "reversed" "__length_hint__" "reversed.__length_hint__" :=
  .of (owner := "reversed") (n := "__length_hint__") (by rw [typeLookup_type, builtinLookup_eq_fast]; kernel_rfl) (by decide +kernel) (by decide +kernel) (by decide +kernel)
    (by first | exact .inl (by decide +kernel) | exact .inr (by decide +kernel)) (by rw [isSubtype_type]; kernel_rfl)
theorem entry_rt_hint : entryFor table "reversed.__length_hint__" = some Builtin.«reversed.__length_hint__» := entryFor_of_tree (by kernel_rfl)
theorem args_rt_hint (a : Value) : argsOk "reversed.__length_hint__" ⟨[a], []⟩ := by
  unfold argsOk; rw [signature?_of (id := "reversed.__length_hint__") (n := "__length_hint__".toList.reverse) (o := ['d', 'e', 's', 'r', 'e', 'v', 'e', 'r']) (by kernel_rfl) owner_rt]; kernel_rfl
section
variable {prog : Program} {w : World} {A : Around} {E : Value → Shared → Prop} {s : Shared}
theorem walks_rt (hh : A.handled = none) (it t : Addr) (hne : t ≠ it) (items : Array Value) (hn : items.size ≤ sizeLine) : Walks prog w A it [it, t] [it] items.size (fun i v => items[items.size - 1 - i]? = some v) (fun i h => i ≤ items.size ∧ IsRt h it t ((items.size : Int) - 1 - (i : Int)) ∧ IsTup h t items) where
  sub := fun b hb => by rw [List.mem_singleton] at hb; subst hb; exact List.mem_cons_self
  frame := fun i h h' ⟨a, b, c⟩ k => ⟨a, b.at fun o e => k it List.mem_cons_self o e, istup_at c fun o e => k t (by simp) o e⟩
  item := fun i s Q E hi ⟨a, b, c⟩ hQ => by
    have e : (items.size : Int) - 1 - (i : Int) = ((items.size - 1 - i : Nat) : Int) := by omega
    have hx : items[items.size - 1 - i]? = some items[items.size - 1 - i] := Array.getElem?_eq_getElem (by omega)
    rw [e] at b
    refine next_rt_item b c hx hn fun h' b' k => hQ _ h' _ hx ⟨by omega, ?_, ?_⟩ fun b o hb q => ?_
    · have e2 : (items.size : Int) - 1 - ((i + 1 : Nat) : Int) = ((items.size - 1 - i : Nat) : Int) - 1 := by omega
      rw [e2]; exact b'
    · exact istup_at c fun o q => (k.2 t hne).trans q
    · exact (k.2 b (by simpa using hb)).trans q
  done := fun s Q E ⟨a, b, c⟩ hQ => by
    have e : (items.size : Int) - 1 - (items.size : Int) = -1 := by omega
    rw [e] at b
    exact next_rt_end hh b fun h' k => hQ h' _ fun b o hb q => k b o (by simpa using hb) q
  self := fun i s Q E ⟨a, b, c⟩ hQ => iter_rt b hQ
theorem lenHint_rt {it l : Addr} {items : Array Value} {Q : Bool → Shared → Prop} (hit : IsRt s.heap it l ((items.size : Int) - 1)) (hl : IsTup s.heap l items) (hn : items.size ≤ sizeLine)
    (hQ : ∀ b tk, Q b { s with toks := tk }) : wpAny (model prog w) A (Builtin.List.listLengthHint (.ref it)) Q E s := by
  have hT : s.TypeIs (.ref it) "reversed" := hit.typeIs
  obtain ⟨o, ho, hc, hd⟩ := id hit
  have h63 := line63
  rw [sizeLine_eq] at hn
  unfold Builtin.List.listLengthHint
  refine wpAny_bind (wpAny_specialOf hT nolen_rt ?_)
  show wpAny _ A (specialOf (Value.ref it) (Str.ofString "__length_hint__") >>= _) _ _ _
  refine wpAny_bind (wpAny_specialOf hT hint_rt ?_)
  generalize hid : ("reversed.__length_hint__" : String) = id0
  wp_delta
  rw [show splitId id0 = some ("reversed", "__length_hint__") from by subst hid; decide +kernel]
  subst hid
  refine wpAny_bind (wpAny_isInstance (b := true) hT (by rw [isSubtype_type]; kernel_rfl) ?_)
  rw [if_neg (by decide)]
  try dsimp only
  refine wpAny_bind (wpAny_rule ?_)
  rw [slot_rt_hint.bind]
  refine wpAny_bind (wpAny_pure ?_)
  try dsimp only
  refine wpAny_bind (wpAny_attempt (wpAny_call_entry slot_rt_hint hT entry_rt_hint ?_ (args_rt_hint _)))
  unfold Builtin.«reversed.__length_hint__»
  refine wpAny_bind (wpAny_of_eq (a := Value.ref it) rfl ?_)
  try dsimp only
  refine wpAny_bind (wpAny_field ho hd (x := .ref l) rfl ?_)
  try dsimp only
  rw [if_neg (by simp)]
  try dsimp only
  refine wpAny_bind (len_tuple hl (by omega) ?_)
  refine wpAny_bind (wpAny_of_eq (a := some ((items.size : Nat) : Int)) rfl ?_)
  try dsimp only
  refine wpAny_bind (wpAny_field (s := { s with toks := s.toks + 1 + 1 }) ho hd (x := rawInt ((items.size : Int) - 1)) rfl ?_)
  show wpAny _ _ (if ((items.size : Nat) : Int) < (items.size : Int) - 1 + 1 then _ else _) _ _ _
  rw [if_neg (by omega)]
  refine wpAny_bind (wpAny_mkInt ?_)
  refine wpAny_pure ⟨_, rfl, ?_⟩
  try dsimp only
  refine wpAny_bind (wpAny_of_eq (a := some ((items.size : Int) - 1 + 1)) rfl ?_)
  try dsimp only
  rw [if_neg (by simp [Builtin.List.listFitsIndex]; omega), if_neg (by omega), if_neg (by simp [Builtin.List.listTooLong, sizeLine_eq]; omega)]
  exact wpAny_pure (hQ _ _)
theorem collect_rt {it l : Addr} {items : Array Value} {Q : List Value → Shared → Prop} (hh : A.handled = none) (hit : IsRt s.heap it l ((items.size : Int) - 1)) (hl : IsTup s.heap l items) (hne : l ≠ it) (hn : items.size ≤ sizeLine)
    (hQ : ∀ (h' : Heap) (tk : Nat) (acc : Array Value), (∀ b o, b ≠ it → s.heap.get? b = some o → h'.get? b = some o) → ItemsOf (fun i v => items[items.size - 1 - i]? = some v) acc items.size → Q acc.toList { s with heap := h', toks := tk }) :
    wpAny (model prog w) A (collect (.ref it)) Q E s := by
  have W := (walks_rt (prog := prog) (w := w) (A := A.in1) hh it l hne items hn).toS
  obtain ⟨oi, hoi, _⟩ := id hit
  obtain ⟨ol, hol, _⟩ := id hl
  have hSi : s.heap.objs.size ≠ it := Nat.ne_of_gt (Heap.lt_size hoi)
  have hSl : s.heap.objs.size ≠ l := Nat.ne_of_gt (Heap.lt_size hol)
  have hSf : s.heap.objs.size ∉ [it, l] := by simp only [List.mem_cons, List.not_mem_nil, or_false, not_or]; exact ⟨hSi, hSl⟩
  unfold collect
  refine wpAny_bind (wpAny_runValue (codeAny_builtin F.entry_proto_collect ?_))
  rw [Around.under_plainId F.plain_proto_collect _]
  show wpAny _ A.in1 (newList [] >>= fun l' => again (.builtin "list.__iadd__" ⟨[l', .ref it], []⟩)) _ _ s
  refine wpAny_bind (wpAny_newObj_type ?_)
  refine wpAny_pure ⟨plainId_quiet F.plain_list_iadd _, codeAny_builtin F.entry_list_iadd ?_⟩
  rw [Around.under_plainId F.plain_list_iadd _]
  have hS₁ : (s.heap.push { cls := .type "list", data := .seq ([] : List Value).toArray }).get? s.heap.objs.size = some { cls := .type "list", data := .seq ([] : List Value).toArray } := Heap.get?_push_size _ rfl
  have hit1 : IsRt (s.heap.push { cls := .type "list", data := .seq ([] : List Value).toArray }) it l ((items.size : Int) - 1) := hit.at fun o e => Heap.get?_push_of_some _ e
  have hl1 : IsTup (s.heap.push { cls := .type "list", data := .seq ([] : List Value).toArray }) l items := istup_at hl fun o e => Heap.get?_push_of_some _ e
  have hT : ({ s with heap := s.heap.push { cls := .type "list", data := .seq ([] : List Value).toArray } } : Shared).TypeIs (.ref it) "reversed" := IsRt.typeIs (s := { s with heap := s.heap.push { cls := .type "list", data := .seq ([] : List Value).toArray } }) hit1
  have h1 : Builtin.List.listSameRef (.ref s.heap.objs.size) (.ref it) = false := by simp [Builtin.List.listSameRef, hSi]
  show wpAny _ A.in1 (Builtin.List.listExtendWith (.ref s.heap.objs.size) (.ref it) (.ref s.heap.objs.size)) _ _ _
  unfold Builtin.List.listExtendWith
  refine wpAny_bind (wpAny_typeOf hT ?_)
  rw [if_neg (by rw [h1]; decide)]
  refine wpAny_bind (iter_rt (s := { s with heap := s.heap.push { cls := .type "list", data := .seq ([] : List Value).toArray } }) hit1 ?_)
  refine wpAny_bind (wpAny_holding ?_)
  refine lenHint_rt hit1 hl1 hn fun b tk => ?_
  have e0 : ((items.size : Nat) : Int) - 1 - ((0 : Nat) : Int) = (items.size : Int) - 1 := by omega
  have st0 : 0 ≤ items.size ∧ IsRt (s.heap.push { cls := .type "list", data := .seq ([] : List Value).toArray }) it l ((items.size : Int) - 1 - ((0 : Nat) : Int)) ∧ IsTup (s.heap.push { cls := .type "list", data := .seq ([] : List Value).toArray }) l items := ⟨Nat.zero_le _, by rw [e0]; exact hit1, hl1⟩
  have fin : ∀ (s' : Shared) (acc' : Array Value) (c' : Nat), (∀ b o, b ≠ it → s.heap.get? b = some o → s'.heap.get? b = some o) → s'.gens = s.gens → s'.drawn = s.drawn → s'.os = s.os →
      s'.heap.get? s.heap.objs.size = some { cls := .type "list", dict := none, data := .seq acc' c', slots := #[] } → ItemsOf (fun i v => items[items.size - 1 - i]? = some v) acc' items.size →
      wpAny (model prog w) A (load s.heap.objs.size >>= fun o => match o.data with | .seq xs _ => pure xs.toList | _ => unsupported "internal:collect") Q E s' := by
    intro s' acc' c' hk hg hd ho hS' hacc
    refine wpAny_bind (wpAny_load hS' ?_)
    refine wpAny_pure ?_
    have := hQ s'.heap s'.toks acc' hk hacc
    rw [← hg, ← hd, ← ho] at this
    exact this
  have nb : ∀ b o, s.heap.get? b = some o → b ≠ s.heap.objs.size := fun b o e => Nat.ne_of_lt (Heap.lt_size e)
  cases b
  · rw [if_neg (by decide)]
    refine wpAny_pure ⟨plainId_quiet F.plain_extend_loop _, codeAny_extend_loopS W hn _ hSf _ items.size 0 _ _ _ rfl (Nat.zero_le _) st0 hS₁ (ItemsOf.nil _) fun s' acc' c' hm hS' hacc => ?_⟩
    have em := Moved.eq_with hm
    refine fin s' acc' c' (fun b o hb e => hm.heap b o (fun hmem => ?_) (Heap.get?_push_of_some _ e)) (by rw [em]) (by rw [em]) (by rw [em]) hS' hacc
    rcases List.mem_cons.mp hmem with e' | hmem
    · exact nb b o e e'
    · exact hb (List.mem_singleton.mp hmem)
  · rw [if_pos (by decide)]
    refine wpAny_bind (wpAny_rule ?_)
    refine wpAny_bind ?_
    show wpAny _ A.in1 (updateSeq s.heap.objs.size (·.push .none) >>= fun _ => updateSeq s.heap.objs.size (·.pop)) _ _ _
    refine wpAny_bind (wpAny_updateSeq hS₁ rfl ?_)
    have hS₂ := Heap.get?_update_self (Obj.mapSeq (·.push Value.none)) hS₁ rfl
    refine wpAny_updateSeq hS₂ rfl ?_
    have hS₃ := Heap.get?_update_self (Obj.mapSeq (·.pop)) hS₂ rfl
    have oth : ∀ b o, b ≠ s.heap.objs.size → (s.heap.push { cls := .type "list", data := .seq ([] : List Value).toArray }).get? b = some o →
        (((s.heap.push { cls := .type "list", data := .seq ([] : List Value).toArray }).update s.heap.objs.size (Obj.mapSeq (·.push Value.none))).update s.heap.objs.size (Obj.mapSeq (·.pop))).get? b = some o :=
      fun b o hb e => (Heap.get?_update_other _ _ (Ne.symm hb)).trans ((Heap.get?_update_other _ _ (Ne.symm hb)).trans e)
    refine wpAny_pure ⟨plainId_quiet F.plain_extend_loop _, codeAny_extend_loopS W hn _ hSf _ items.size 0 _ _ _ rfl (Nat.zero_le _) ⟨Nat.zero_le _, st0.2.1.at fun o e => oth it o (Ne.symm hSi) e, istup_at st0.2.2 fun o e => oth l o (Ne.symm hSl) e⟩ hS₃ (ItemsOf.nil _) fun s' acc' c' hm hS' hacc => ?_⟩
    have em := Moved.eq_with hm
    refine fin s' acc' c' (fun b o hb e => hm.heap b o (fun hmem => ?_) (oth b o (nb b o e) (Heap.get?_push_of_some _ e))) (by rw [em]) (by rw [em]) (by rw [em]) hS' hacc
    rcases List.mem_cons.mp hmem with e' | hmem
    · exact nb b o e e'
    · exact hb (List.mem_singleton.mp hmem)
theorem code_tuple_new_rt {it l : Addr} {items : Array Value} {Q₁ : Value → Shared → Prop} (hh : A.handled = none) (hit : IsRt s.heap it l ((items.size : Int) - 1)) (hl : IsTup s.heap l items) (hne : l ≠ it) (hn : items.size ≤ sizeLine)
    (h : ∀ (h' : Heap) (tk : Nat) (acc : Array Value), (∀ b o, b ≠ it → s.heap.get? b = some o → h'.get? b = some o) → ItemsOf (fun i v => items[items.size - 1 - i]? = some v) acc items.size →
      Q₁ (.ref h'.objs.size) { s with heap := h'.push { cls := .type "tuple", data := .seq acc }, toks := tk }) :
    codeAny (model prog w) A (.call (.builtin "tuple.__new__") ⟨[.type "tuple", .ref it], []⟩) (wants Q₁ E) s := by
  refine codeAny_of_tree ?_
  show wpAny _ A.in1 (do checkBuiltinCall "tuple.__new__" ⟨[.type "tuple", .ref it], []⟩; again (.builtin "tuple.__new__" ⟨[.type "tuple", .ref it], []⟩)) _ _ s
  refine wpAny_bind (wpAny_of_eq (F.newCall_tuple_1 _) (wpAny_pure ⟨plainId_quiet F.plain_tuple_new _, codeAny_builtin F.entry_tuple_new ?_⟩))
  rw [Around.under_plainId F.plain_tuple_new _]
  have hsub := sub_tuple_self
  have hinit := init_tuple_lookup
  have hmh := madeHere_tuple
  have hTI : s.TypeIs (.ref it) "reversed" := hit.typeIs
  have hh1 : A.in1.handled = none := hh
  wp_walk using wpAny_typeOf hTI, collect_rt (A := A.in1) hh1 hit hl hne hn
  intro h' tk acc hk hacc
  show wpAny _ _ (Builtin.Tuple.tupleExact acc.toList.toArray >>= fun v => ret v) _ _ _
  unfold Builtin.Tuple.tupleExact
  refine wpAny_bind (wpAny_newObj_type ?_ (by show acc.toList.toArray.size ≤ sizeLine; simp only [Array.toArray_toList]; rw [hacc.1]; exact hn))
  refine wpAny_pure ?_
  have e : acc.toList.toArray = acc := by simp
  rw [e]
  exact h h' tk acc hk hacc
theorem call_tuple_rt {it l : Addr} {items : Array Value} {Q : Value → Shared → Prop} (hh : A.handled = none) (hit : IsRt s.heap it l ((items.size : Int) - 1)) (hl : IsTup s.heap l items) (hne : l ≠ it) (hn : items.size ≤ sizeLine)
    (hQ : ∀ (h' : Heap) (tk : Nat) (acc : Array Value), (∀ b o, b ≠ it → s.heap.get? b = some o → h'.get? b = some o) → ItemsOf (fun i v => items[items.size - 1 - i]? = some v) acc items.size →
      Q (.ref h'.objs.size) { s with heap := h'.push { cls := .type "tuple", data := .seq acc }, toks := tk }) :
    wpAny (model prog w) A (call (.type "tuple") [.ref it]) Q E s := by
  refine callType_codes (Q₁ := fun obj s₁ => s₁.TypeIs obj "tuple" ∧ Q obj s₁) F.called_tuple (F.typeCall_tuple_1 _) F.entry_object_init
    (code_tuple_new_rt (A := A.in1) hh hit hl hne hn fun h' tk acc hk hacc => ⟨⟨_, Heap.get?_push_size _ rfl, rfl⟩, hQ h' tk acc hk hacc⟩) fun obj s₁ h₁ => ?_
  exact ⟨h₁.1, F.args_object_init_2 obj _, object_init_meets F.called_tuple.init.lookup F.called_tuple.made (by decide) prog w A.in1 _ s₁ ⟨h₁.1, rfl, h₁.2⟩⟩
end
end Ar
namespace Ar
open PySem PySem.Spec PySem.Calls PyProof.Rows RT L2
/-! ### tuple(reversed(x)), x a list or a tuple: a new tuple -/
def tTupRevA (K : PySem.W.Frag) (te : TE) : TE := fun σ H Q => te σ H fun v H1 => ∃ (a : Addr) (xs : List V), v = .ref a ∧ (SqL K H1 a xs ∨ SqT K H1 a xs) ∧ ∀ q, H1 q = none → Q (.ref q) (upd H1 q (.tup xs.reverse))
section
variable {X : Cx}
theorem pe_tupRevA {e : Expr} {te : TE} {p p2 pos pos2 : Pos} (hc : X.calm = true) (hg : Gl X "tuple") (hm : X.mg "tuple" = none) (hg2 : Gl X "reversed") (hm2 : X.mg "reversed" = none) (he : PE X e te)
    (hs : starEach [e] X.env = (false, eval e X.env) :: starEach [] X.env := by rfl)
    (hs2 : starEach [.Call (.Name "reversed" p2) [e] [] pos2] X.env = (false, eval (.Call (.Name "reversed" p2) [e] [] pos2) X.env) :: starEach [] X.env := by rfl) :
    PE X (.Call (.Name "tuple" p) [.Call (.Name "reversed" p2) [e] [] pos2] [] pos) (tTupRevA X.K te) := by
  refine ⟨fun pins s σ H Q I h => ?_⟩
  refine Call_ (ld_blt I hg hm boot_tuple (PyProof.Rows.callWith_type1 (args_cons (Call_ (ld_blt I hg2 hm2 PyProof.Rows.boot_reversed (PyProof.Rows.callWith_type1 (args_cons (thn (he.run pins s σ H _ I h) fun u s1 ⟨v, H1, I1, r1, q1⟩ => args_nil ?_) hs) hs rfl))) hs2) hs2 rfl))
  obtain ⟨a, xs, ev, hq, q⟩ := q1
  subst ev
  obtain rfl : u = Value.ref a := r1
  obtain ⟨f0, f1, f2, f3, f4, f5⟩ := I1.fpOk (H' := H1) (b := s1.heap.objs.size) (Nat.le_refl _) (I1.hok.fresh (Nat.le_refl _))
  rcases hq with hq | hq
  · obtain ⟨its, rv, p', hz⟩ := I1.list hq
    refine call_reversed_list p'.isList (args_nil ?_)
    have k0 : ∀ b o, s1.heap.get? b = some o → (s1.heap.push (revObj a ((its.toArray.size : Int) - 1))).get? b = some o := fun b o e => Heap.get?_push_of_some _ e
    have I2 : Inv X pins σ H1 { s1 with heap := s1.heap.push (revObj a ((its.toArray.size : Int) - 1)) } := I1.kept (t' := s1.toks) k0
    have hl := p'.isList
    obtain ⟨ol, hol, _⟩ := id hl
    have hne : a ≠ s1.heap.objs.size := Nat.ne_of_lt (Heap.lt_size hol)
    have hn : its.toArray.size ≤ sizeLine := by rw [List.size_toArray, ← rv.length]; exact hz
    refine call_tuple_rev (s := { s1 with heap := s1.heap.push (revObj a ((its.toArray.size : Int) - 1)) }) (I1.ok.hd hc) ⟨_, Heap.get?_push_size _ rfl, rfl, rfl⟩ (hl.push _) hne hn fun h' tk acc hk hi => ?_
    have I3 : Inv X pins σ H1 { s1 with heap := h', toks := tk } := I2.turned (t' := tk) (fun b o hb e => hk b o hb e) f0 f1 f3 f4 f5
    refine ⟨.ref h'.objs.size, upd H1 h'.objs.size (.tup xs.reverse), I3.laid (t' := tk) (fun c o e => Heap.get?_push_of_some _ e) (Nat.le_refl _) (show ObjOk X.prog X.w _ _ _ (.tup xs.reverse) from ⟨by rw [List.length_reverse]; exact hz, acc.toList, vals_rev rv hi, ?_⟩), rfl, q _ (I3.hok.fresh (Nat.le_refl _))⟩
    rw [Array.toArray_toList]
    exact IsTup.new _ _
  · obtain ⟨its, rv, p', hz⟩ := I1.tuple hq
    have hlen := rv.length
    have h63 := line63
    refine call_reversed_tup p' (fun A E Q k => len_tuple p' (by simp only [List.size_toArray] <;> omega) k) (args_nil ?_)
    have k0 : ∀ b o, s1.heap.get? b = some o → (s1.heap.push (rtObj a ((its.toArray.size : Int) - 1))).get? b = some o := fun b o e => Heap.get?_push_of_some _ e
    have I2 : Inv X pins σ H1 { s1 with heap := s1.heap.push (rtObj a ((its.toArray.size : Int) - 1)), toks := s1.toks + 1 + 1 } := I1.kept (t' := s1.toks + 1 + 1) k0
    obtain ⟨ol, hol, _⟩ := id p'
    have hne : a ≠ s1.heap.objs.size := Nat.ne_of_lt (Heap.lt_size hol)
    have hn : its.toArray.size ≤ sizeLine := by rw [List.size_toArray, ← rv.length]; exact hz
    refine call_tuple_rt (s := { s1 with heap := s1.heap.push (rtObj a ((its.toArray.size : Int) - 1)), toks := s1.toks + 1 + 1 }) (I1.ok.hd hc) ⟨_, Heap.get?_push_size _ rfl, rfl, rfl⟩ (istup_at p' fun o e => k0 a o e) hne hn fun h' tk acc hk hi => ?_
    have I3 : Inv X pins σ H1 { s1 with heap := h', toks := tk } := I2.turned (t' := tk) (fun b o hb e => hk b o hb e) f0 f1 f3 f4 f5
    refine ⟨.ref h'.objs.size, upd H1 h'.objs.size (.tup xs.reverse), I3.laid (t' := tk) (fun c o e => Heap.get?_push_of_some _ e) (Nat.le_refl _) (show ObjOk X.prog X.w _ _ _ (.tup xs.reverse) from ⟨by rw [List.length_reverse]; exact hz, acc.toList, vals_rev rv hi, ?_⟩), rfl, q _ (I3.hok.fresh (Nat.le_refl _))⟩
    rw [Array.toArray_toList]
    exact IsTup.new _ _
end
def tupRev (d : D) (h : Hs) : R D := match rowP d h with
  | some ps => .ok (.p (.tup ps.reverse)) h
  | none => .bad
def cTupRev (fe : FE) : FE := fun env h => (fe env h).bind tupRev
section
variable {X : Cx} {cs : Tx} {e : Expr} {fe : FE} {p pos p2 pos2 : Pos}
theorem rps_rev {K : PySem.W.Frag} {G : Hp} : ∀ {ps : List P} {xs : List V}, RPs K cs G ps xs → RPs K cs G ps.reverse xs.reverse := by
  have app : ∀ {ps qs : List P} {xs ys : List V}, RPs K cs G ps xs → RPs K cs G qs ys → RPs K cs G (ps ++ qs) (xs ++ ys) := by
    intro ps
    induction ps with
    | nil => intro qs xs ys a b; cases a; exact b
    | cons p ps ih => intro qs xs ys a b; cases a with | cons h t => exact .cons h (ih t b)
  intro ps
  induction ps with
  | nil => intro xs a; cases a; exact .nil
  | cons p ps ih => intro xs a; cases a with | cons h t => simp only [List.reverse_cons]; exact app (ih t) (.cons h .nil)
theorem gTupRev (hc : X.calm = true) (hm : X.mg "tuple" = none) (hm2 : X.mg "reversed" = none) (ge : GE X cs e fe) (hg : Gl X "tuple" := by rfl) (hg2 : Gl X "reversed" := by rfl)
    (n1 : starEach [e] X.env = (false, eval e X.env) :: starEach [] X.env := by rfl) (n2 : starEach [.Call (.Name "reversed" p2) [e] [] pos2] X.env = (false, eval (.Call (.Name "reversed" p2) [e] [] pos2) X.env) :: starEach [] X.env := by rfl) :
    GE X cs (.Call (.Name "tuple" p) [.Call (.Name "reversed" p2) [e] [] pos2] [] pos) (cTupRev fe) := fun W tk => by
  refine PE.imp (pe_tupRevA hc hg hm hg2 hm2 (ge W tk) n1 n2) fun σ H Q ⟨g, env, h, R, E, F⟩ => ?_
  refine ⟨g, env, h, R, E, ?_⟩
  unfold cTupRev at F
  cases q : fe env h with
  | bad => rw [q] at F; exact F
  | ex c fs h' => rw [q] at F; exact F
  | ok d h1 =>
    rw [q] at F
    simp only [Ar.R.bind] at F
    intro g1 v H1 S1 R1 V1
    unfold tupRev at F
    split at F
    · rename_i ps ep
      obtain ⟨a, xs, rfl, r, hs⟩ := rowP_ok R1 V1 ep
      refine ⟨a, xs, rfl, hs.imp (fun z => z) (fun z => z.1), fun l hl => ?_⟩
      obtain ⟨R', S'⟩ := R1.frozen (o := .tup xs.reverse) hl
      exact F _ (.ref l) _ (S1.trans S') R' (.p (.tup (.inl upd_same) (rps_rev (r.mono S'.sub))))
    · exact F.elim
end
end Ar
namespace Ar
open PySem PySem.Spec PySem.Calls PyProof.Rows RT L2
/-! ### enumerate(a list or a tuple) -/
theorem meets_enum1B {v : Value} {o : Obj} {H : Heap → Prop} (B : Begins v o H) :
    Meets (Builtin.«enumerate.__new__» ⟨[.type "enumerate", v], []⟩) (fun _ R s => H s.heap ∧
      R (.ok (.ret (.ref (s.heap.push o).objs.size))) { s with heap := (s.heap.push o).push { cls := .type "enumerate", data := .fields #[.none, .bool false, .ref s.heap.objs.size, rawInt 0, .none, .none] } }) :=
  .of_wp fun prog w A R s h => by
    obtain ⟨hp, g, d, tk, os⟩ := s; obtain ⟨h1, h⟩ := h
    have hsub := sub_enumerate
    have q1 : ∀ {A' : Around} {E : Value → Shared → Prop} {Q : Value → Shared → Prop}, Q (.ref hp.objs.size) ⟨hp.push o, g, d, tk, os⟩ → wpAny (model prog w) A' (pyIter v) Q E ⟨hp, g, d, tk, os⟩ :=
      fun q => B.iter prog w _ _ ⟨hp, g, d, tk, os⟩ _ h1 q
    wp_walk using q1
    refine wpAny_stack_any fun st => wpAny_pure ?_
    split
    · rename_i c _ _ _ _ _
      cases (c == Value.type "enumerate")
      · wp_walk using q1
        exact ⟨_, rfl, h⟩
      · wp_walk using q1
        exact ⟨_, rfl, h⟩
    · wp_walk using q1
      exact ⟨_, rfl, h⟩
section
variable {prog : Program} {w : World} {A : Around} {E : Value → Shared → Prop} {s : Shared}
theorem enum1_begins {v : Value} {o : Obj} {H : Heap → Prop} {Q : Value → Shared → Prop} (B : Begins v o H) (h1 : H s.heap)
    (h : ∀ h', IsEnum h' (s.heap.objs.size + 1) s.heap.objs.size 0 .none → h'.get? s.heap.objs.size = some o → h'.objs.size = s.heap.objs.size + 2 →
      (∀ b o, s.heap.get? b = some o → h'.get? b = some o) → Q (.ref (s.heap.objs.size + 1)) { s with heap := h' }) :
    wpAny (model prog w) A (call (.type "enumerate") [v]) Q E s := by
  refine callType_new F.called_enumerate (by decide) (F.typeCall_enumerate_1 _) (F.newCall_enumerate_1 _) (fun obj => F.args_object_init_2 obj _) F.entry_enumerate_new
    (meets_enum1B B) ⟨h1, ?_⟩
  have hz : (s.heap.push o).objs.size = s.heap.objs.size + 1 := Heap.size_push ..
  show _ ∧ _
  rw [hz]
  have he : IsEnum ((s.heap.push o).push { cls := .type "enumerate", data := .fields #[.none, .bool false, .ref s.heap.objs.size, rawInt 0, .none, .none] }) (s.heap.objs.size + 1) s.heap.objs.size 0 .none := by
    have := Heap.get?_push_size (s.heap.push o) (o := { cls := .type "enumerate", data := .fields #[.none, .bool false, .ref s.heap.objs.size, rawInt 0, .none, .none] }) rfl
    rw [hz] at this; exact this
  refine ⟨⟨_, he, rfl⟩, h _ he (Heap.get?_push_of_some _ (Heap.get?_push_size _ B.free)) (by rw [Heap.size_push, hz]) fun b o x => Heap.get?_push_of_some _ (Heap.get?_push_of_some _ x)⟩
end
def IteT (K : PySem.W.Frag) (a : Addr) : It :=
  ⟨fun i H => ∃ (xs : List V) (x : V), SqT K H a xs ∧ xs[i]? = some x, fun i H v H' => ∃ T x, v = .ref T ∧ H T = none ∧ H' = upd H T (.tup [.int (i : Nat), x]) ∧ ∀ xs, SqT K H a xs → xs[i]? = some x, fun i H => ∃ xs : List V, SqT K H a xs ∧ xs.length = i⟩
/-- where a tuple's iterator stands -/
theorem turn_enumT {P : Program} {w : World} {K : PySem.W.Frag} {elts : List Expr} {kk : Nat} {tpos : Pos} (a e it : Addr) (hai : a ≠ it) (hae : a ≠ e) :
    Turn P w K (.Tuple elts kk tpos) (IteT K a) [e, it] e (fun i h => (∃ old, IsEnum h e it ((i : Nat) : Int) old) ∧ h.IsTupleIter it a i ∧ e ≠ it) where
  mem := by simp
  obj := fun i h st b hb => by
    obtain ⟨⟨old, he⟩, ⟨o, ho, hc, hd⟩, _⟩ := st
    have e' : b = e ∨ b = it := by simpa using hb
    rcases e' with z | z
    · rw [z]; exact ⟨_, he, fun v q => nomatch q⟩
    · rw [z]; exact ⟨o, ho, fun v q => by rw [hd] at q; cases q⟩
  keep := fun i h h' st k => let ⟨⟨old, he⟩, hi, hne⟩ := st; ⟨⟨old, k e (by simp) _ he⟩, hi.at fun o q => k it (by simp) o q, hne⟩
  item := by
    intro X hP hw hK hc i pins s σ H E I hf st hg
    subst hP hw hK
    obtain ⟨⟨old, he⟩, hit, hne⟩ := st
    obtain ⟨xs, x, hq, hx⟩ := hg
    obtain ⟨its, rv, p, hz⟩ := I.tuple hq
    obtain ⟨u, hu, ru⟩ := rv.get hx
    have hel : e < s.heap.objs.size := Heap.lt_size he
    have hil : it < s.heap.objs.size := by obtain ⟨_, q, _⟩ := hit; exact Heap.lt_size q
    have D := Draws.tuple (prog := X.prog) (w := X.w) (A := X.A.in1) (I.ok.hd hc) it a hai its.toArray
    have hlt : i < its.toArray.size := by
      have := (List.getElem?_eq_some_iff.mp hu).1
      simpa using this
    refine wpAny_pyNext_enum_itemD D he ⟨hit, p⟩ hlt hne (by simp only [List.mem_cons, List.not_mem_nil, or_false, not_or]; exact ⟨hne, Ne.symm hae⟩) fun x' h' tk px ho hit' hT hsz hk => ?_
    obtain rfl : x' = u := by
      have : its.toArray[i]? = some u := by simpa using hu
      rw [this] at px; injection px with px; exact px.symm
    refine ⟨_, rfl, wpAny_letOwnedTupleGo_enum (s := { s with heap := h', toks := tk + 1 }) ho fun h'' he' sb => ?_⟩
    have hT2 : h''.get? s.heap.objs.size = some { cls := .type "tuple", data := .seq #[.int i tk, x'] } := (sb.2 _ (Nat.ne_of_gt hel)).trans hT
    have new : ObjOk X.prog X.w (upd H s.heap.objs.size (.tup [.int (i : Nat), x])) h'' s.heap.objs.size (.tup [.int (i : Nat), x]) :=
      ⟨by show 2 ≤ sizeLine; decide, [.int i tk, x'], .cons ⟨_, rfl⟩ (.cons ru .nil), ⟨_, hT2, rfl, _, rfl⟩⟩
    have I1 : Inv X pins σ (upd H s.heap.objs.size (.tup [.int (i : Nat), x])) { s with heap := h'', toks := tk + 1 } :=
      I.turnedNew (ch := [e, it]) (fun b ob hb q => (sb.2 b (fun z => hb (by simp [z]))).trans (hk b ob (fun z => hb (by simp [z])) (fun z => hb (by simp [z])) q)) hf (Nat.le_refl _) new
    refine ⟨.ref s.heap.objs.size, _, I1, rfl, ⟨_, x, rfl, I.hok.fresh (Nat.le_refl _), rfl, fun ys hy => by rw [I.tuple_inj hy hq]; exact hx⟩, ⟨⟨x', ?_⟩, hit'.1.at fun o q => (sb.2 it (Ne.symm hne)).trans q, hne⟩, fun b hb => ?_⟩
    · have e1 : ((i + 1 : Nat) : Int) = (i : Int) + 1 := by omega
      rw [e1]; exact he'
    · have hb' : b < s.heap.objs.size := by
        have e' : b = e ∨ b = it := by simpa using hb
        rcases e' with z | z
        · rw [z]; exact hel
        · rw [z]; exact hil
      rw [upd_ne (Nat.ne_of_lt hb')]
      exact (hf b hb).1
  done := by
    intro X hP hw hK hc i pins s σ H E I hf st hg
    subst hP hw hK
    obtain ⟨⟨old, he⟩, hit, hne⟩ := st
    obtain ⟨xs, hq, hx⟩ := hg
    obtain ⟨its, rv, p, hz⟩ := I.tuple hq
    obtain ⟨f0, f1, f2, f3, f4, f5⟩ := hf it (by simp)
    have hl := rv.length
    have D := Draws.tuple (prog := X.prog) (w := X.w) (A := X.A.in1) (I.ok.hd hc) it a hai its.toArray
    have hi : i = its.toArray.size := by simp; omega
    subst hi
    exact wpAny_pyNext_enum_endD D he ⟨hit, p⟩ fun h' eb => ⟨rfl, I.turned (t' := s.toks) (fun b o hb q => eb b o hb q) f0 f1 f3 f4 f5⟩
  self := fun A i s Q E st h => let ⟨⟨_, he⟩, _⟩ := st; wpAny_pyIter_enum he h
def iEnumA (K : PySem.W.Frag) (ta : TA) : TI := fun σ H R => ta σ H fun vs H1 => ∃ a xs, vs = [.ref a] ∧ ((SqL K H1 a xs ∧ R (Ite K a) H1) ∨ (SqT K H1 a xs ∧ R (IteT K a) H1))
theorem pi_enumA {X : Cx} {e : Expr} {ta : TA} {p pos tpos : Pos} {elts : List Expr} {kk : Nat} (hg : Gl X "enumerate") (hm : X.mg "enumerate" = none) (ha : PA X [e] ta) (hs : starEach [e] X.env = [(false, eval e X.env)] := by rfl) :
    PI X (.Tuple elts kk tpos) (.Call (.Name "enumerate" p) [e] [] pos) (iEnumA X.K ta) := by
  refine ⟨fun pins s σ H R I h => ?_⟩
  refine Call_ (ld_blt I hg hm boot_enumerate (PyProof.Rows.callWith_type1 (thn (ha.run pos pins s σ H _ I h) fun us s1 ⟨vs, H1, I1, r1, q1⟩ => ?_) hs rfl))
  obtain ⟨a, xs, ex, q⟩ := q1
  subst ex
  cases r1 with
  | cons r rr =>
    cases rr
    cases r
    have fre : ∀ b ∈ [s1.heap.objs.size + 1, s1.heap.objs.size], FpOk X pins H1 b := fun b hb => by
      have e' : b = s1.heap.objs.size + 1 ∨ b = s1.heap.objs.size := by simpa using hb
      have hle : s1.heap.objs.size ≤ b := by
        rcases e' with z | z
        · rw [z]; exact Nat.le_add_right _ _
        · rw [z]; exact Nat.le_refl _
      exact I1.fpOk hle (I1.hok.fresh hle)
    rcases q with ⟨hq, q⟩ | ⟨hq, q⟩
    · obtain ⟨its, rv, p', hz⟩ := I1.list hq
      refine call_enumerate_list p'.isList fun h' he hit hsz hk => wpAny_pyIter_enum he ?_
      have I2 : Inv X pins σ H1 { s1 with heap := h' } := I1.kept (t' := s1.toks) hk
      exact ⟨s1.heap.objs.size + 1, [s1.heap.objs.size + 1, s1.heap.objs.size], _, _, H1, rfl, I2, turn_enum a (s1.heap.objs.size + 1) s1.heap.objs.size, ⟨⟨.none, he⟩, hit, Nat.succ_ne_self _⟩, fre, q⟩
    · obtain ⟨its, rv, p', hz⟩ := I1.tuple hq
      obtain ⟨ol, hol, _⟩ := id p'
      have hlt : a < s1.heap.objs.size := Heap.lt_size hol
      refine enum1_begins (begins_tuple a its.toArray) p' fun h' he hit hsz hk => wpAny_pyIter_enum he ?_
      have I2 : Inv X pins σ H1 { s1 with heap := h' } := I1.kept (t' := s1.toks) hk
      exact ⟨s1.heap.objs.size + 1, [s1.heap.objs.size + 1, s1.heap.objs.size], _, _, H1, rfl, I2, turn_enumT a (s1.heap.objs.size + 1) s1.heap.objs.size (Nat.ne_of_lt hlt) (Nat.ne_of_lt (Nat.lt_succ_of_lt hlt)), ⟨⟨.none, he⟩, ⟨_, hit, rfl, rfl⟩, Nat.succ_ne_self _⟩, fre, q⟩
section
variable {K : PySem.W.Frag} {cs : Tx}
def enumJ (ds : List D) (h : Hs) : R (List D × (Hs → Bool)) := match ds with
  | [d] => (match seqItems d h with
    | .ok i _ => (match enumD 0 i.1 with
      | some zs => .ok (zs, i.2) h
      | none => .bad)
    | _ => .bad)
  | _ => .bad
def iEnum2 (fa : FA) : FI := fun env h => (fa env h).bind enumJ
theorem itOk_enumT {g0 : Gh} {n0 : Nat} {H0 : Hp} {a : Addr} {i1 : List D × (Hs → Bool)} {zs : List D} (k1 : KeyT K cs g0 n0 H0 a i1) (e : enumD 0 i1.1 = some zs) : ItOk K cs g0 n0 H0 (IteT K a) zs i1.2 where
  go := fun g h H i d S R hi ed => by
    obtain ⟨x, e1, rfl⟩ := enumD_get e ed
    obtain ⟨xs, q1, r1⟩ := k1 g h H S R hi
    obtain ⟨v, e3, rv⟩ := rds_get r1 e1
    refine ⟨⟨xs, v, q1, e3⟩, fun z H' hy => ?_⟩
    obtain ⟨T, v', rfl, hT, rfl, f1⟩ := hy
    have := f1 xs q1; rw [e3] at this; cases this
    obtain ⟨R', S'⟩ := R.frozen (o := .tup [.int (i : Nat), v]) hT
    cases rv with
    | p rv => exact ⟨_, S', R', .p (.tup (.inl upd_same) (.cons (by rw [Nat.zero_add]; exact .int _) (.cons (rv.mono S'.sub) .nil)))⟩
  stop := fun g h H S R hi => by
    obtain ⟨xs, q1, r1⟩ := k1 g h H S R hi
    have h1 := Paired.length r1
    exact ⟨xs, q1, by rw [enumD_len e]; omega⟩
end
section
variable {X : Cx} {cs : Tx} {e : Expr} {fa : FA} {p pos tpos : Pos} {elts : List Expr} {kk : Nat}
theorem giEnum2 (hm : X.mg "enumerate" = none) (ga : GA X cs [e] fa) (hg : Gl X "enumerate" := by rfl) (hs : starEach [e] X.env = [(false, eval e X.env)] := by rfl) :
    GI X cs (.Tuple elts kk tpos) (.Call (.Name "enumerate" p) [e] [] pos) (iEnum2 fa) := fun W tk => by
  refine PI.imp (pi_enumA hg hm (ga W tk) hs) fun σ H Rr ⟨g, env, h, R, E, F⟩ => ?_
  refine ⟨g, env, h, R, E, ?_⟩
  unfold iEnum2 at F
  cases q : fa env h with
  | bad => rw [q] at F; exact F
  | ex c fs h' => rw [q] at F; exact F
  | ok ds h1 =>
    rw [q] at F
    simp only [Ar.R.bind] at F
    intro g1 vs H1 S1 R1 V1
    unfold enumJ at F
    split at F
    · rename_i d1
      cases V1 with
      | cons r1 t =>
        cases t
        cases e1 : seqItems d1 h1 with
        | bad => simp only [e1] at F; exact F.elim
        | ex c fs h' => simp only [e1] at F; exact F.elim
        | ok i1 h2 =>
          simp only [e1] at F
          split at F
          · rename_i zs ez
            obtain ⟨_, x, rfl, k1⟩ := seq_key R1 r1 e1
            rcases k1 with ⟨l1, k1, xs, q1, z1⟩ | ⟨l1, k1, xs, q1, z1⟩
            · exact ⟨x, xs, rfl, .inl ⟨q1, F g1 _ H1 S1 R1 (itOk_enum (i1 := i1) k1 ez)⟩⟩
            · exact ⟨x, xs, rfl, .inr ⟨q1, F g1 _ H1 S1 R1 (itOk_enumT (i1 := i1) k1 ez)⟩⟩
          · exact F.elim
    · exact F.elim
end
end Ar
namespace Ar
open PySem PySem.Spec PySem.Calls PyProof.Rows RT L2
/-! ### l.index(x), l a list -/
def idxP (x : P) : List P → Nat → Option Nat
  | [], _ => none
  | q :: r, k => if eqP q x then some k else idxP x r (k + 1)
def mIndex (d : D) (ds : List D) (h : Hs) : R D := match lstP d h, ds with
  | some ps, [.p x] => if ps.all (depLe 59) && depLe 60 x then (match idxP x ps 0 with
    | some j => .ok (.p (.int (j : Nat))) h
    | none => .bad) else .bad
  | _, _ => .bad
section
variable {K : PySem.W.Frag} {cs : Tx}
theorem idxP_ok (x : P) (hx : depLe 60 x = true) : ∀ (ps : List P) (k j : Nat), ps.all (depLe 59) = true → idxP x ps k = some j → k ≤ j ∧ ∃ z, (pds ps)[j - k]? = some z ∧ PyData.eqv z (pd x) = true ∧ ∀ (m : Nat) (z' : PyData), m < j - k → (pds ps)[m]? = some z' → PyData.eqv z' (pd x) = false
  | [], k, j, _, e => by simp [idxP] at e
  | q :: r, k, j, h, e => by
    simp only [List.all_cons, Bool.and_eq_true] at h
    have eq := eqP_eqv q x 59 60 h.1 hx
    unfold idxP at e
    split at e
    · rename_i hq
      cases e
      refine ⟨Nat.le_refl _, pd q, ?_, by rw [eq]; exact hq, fun m z' hm => by omega⟩
      rw [Nat.sub_self]; rfl
    · rename_i hq
      obtain ⟨h1, z, h2, h3, h4⟩ := idxP_ok x hx r (k + 1) j h.2 e
      have e1 : j - k = (j - (k + 1)) + 1 := by omega
      refine ⟨by omega, z, ?_, h3, fun m z' hm hz => ?_⟩
      · rw [e1]; exact h2
      · cases m with
        | zero =>
          have : z' = pd q := by
            have hz : some (pd q) = some z' := hz
            injection hz with hz; exact hz.symm
          subst this
          rw [eq]; simpa using hq
        | succ m => exact h4 m z' (by omega) hz
theorem k_index : MethOk K cs (rIndexD K) mIndex := fun g h H d ds x xs W σ Q R V1 V2 F => by
  unfold mIndex at F
  split at F
  · rename_i ps y ep
    cases V2 with
    | cons r2 t2 =>
      cases t2
      cases r2 with
      | p r2 =>
        split at F
        · rename_i hd
          rw [Bool.and_eq_true] at hd
          split at F
          · rename_i j ej
            obtain ⟨a, ys, rfl, q2, q1⟩ := lstP_ok R V1 ep
            obtain ⟨_, z, h2, h3, h4⟩ := idxP_ok y hd.2 ps 0 j hd.1 ej
            exact ⟨a, _, pd y, pds ps, j, z, rfl, rfl, .lst q1 (dps_of R.sub 59 hd.1 q2), dp_of R.sub 60 _ _ hd.2 r2, shaped_pd (p := .lst ps) (by simpa [depLe] using hd.1), shaped_pd hd.2, h2, h3, h4, F g _ H Step.refl R (.p (.int _))⟩
          · exact F.elim
        · exact F.elim
  · exact F.elim
end
/-! ### [x] * n: a new list that is a place -/
def repN (d e : D) (h : Hs) : R D := match d, e with
  | .p (.lst a), .p (.int k) => if okLen (a.length * k.toNat) && decide (-(2 ^ 63) ≤ k ∧ k < 2 ^ 63) then .ok (.loc h.length) (h ++ [.lst (List.replicate k.toNat a).flatten]) else .bad
  | _, _ => .bad
def cRepN (fa fb : FE) : FE := fun env h => (fa env h).bind fun d h1 => (fb env h1).bind fun e h2 => repN d e h2
section
variable {X : Cx} {cs : Tx} {a b : Expr} {fa fb : FE} {pos : Pos}
theorem gRepN (hx : cs.ex = false) (ga : GE X cs a fa) (gb : GE X cs b fb) : GE X cs (.BinOp a .Mult b pos) (cRepN fa fb) := fun W tk =>
  PE.imp (pe_op op_rep (ga W tk) (gb W tk)) fun σ H Q ⟨g, env, h, R, E, F⟩ => by
    refine ⟨g, env, h, R, E, F.of fun d h1 g1 x H1 _ S1 R1 V1 F1 => ⟨g1, env, h1, R1, E.step S1, F1.of fun e h2 g2 y H2 _ S2 R2 V2 F2 => ?_⟩⟩
    have V1' := V1.step S2
    unfold repN at F2
    split at F2
    · rename_i a' k
      split at F2
      · rename_i hk
        rw [Bool.and_eq_true] at hk
        obtain ⟨k1, k2⟩ := hk
        have k2 := of_decide_eq_true k2
        cases V1' with
        | p r1 =>
          cases r1 with
          | lst q1 r1 =>
            cases V2 with
            | p r2 =>
              cases r2
              exact ⟨_, _, _, rfl, rfl, R2.sub _ _ (q1.2 hx), k2.1, k2.2, by rw [← r1.length]; exact okLen_le k1, new_lstN R2 (r1.rep _) F2⟩
      · exact F2.elim
    · exact F2.elim
end
end Ar
namespace Ar
open PySem PySem.Spec PyProof.Rows L2
/-! ### a list comprehension of two clauses -/
def lc2L (t : Tg) (ft : FT) (fi1 : FI) (t1 : Tg) (ft1 : FT) (fe : FE) (vs1 : List Nat) (inv : Hs → Bool) : List D → Env → Hs → R (List D)
  | [], _, h => if inv h then .ok [] h else .bad
  | d :: ds, env, h => if inv h then (match t.bind d env h with
    | some e1 => (match ft e1 h with
      | .ok true h1 => (match fi1 e1 h1 with
        | .ok it h2 => (match lcL t1 ft1 fe it.2 it.1 (wipeE e1 vs1) h2 with
          | .ok xs h3 => (match lc2L t ft fi1 t1 ft1 fe vs1 inv ds env h3 with
            | .ok ys h4 => .ok (xs ++ ys) h4
            | _ => .bad)
          | _ => .bad)
        | _ => .bad)
      | .ok false h1 => lc2L t ft fi1 t1 ft1 fe vs1 inv ds env h1
      | _ => .bad)
    | none => .bad) else .bad
def lenFin (fin : List D → Hs → R D) (xs : List D) (h : Hs) : R D := if okLen xs.length then fin xs h else .bad
def lc2All (fi : FI) (t : Tg) (ft : FT) (fi1 : FI) (t1 : Tg) (ft1 : FT) (fe : FE) (vs vs1 : List Nat) (fin : List D → Hs → R D) : FE := fun env h => (fi env h).bind fun it h1 => match lc2L t ft fi1 t1 ft1 fe vs1 it.2 it.1 (wipeE env vs) h1 with
  | .ok xs h2 => lenFin fin xs h2
  | _ => .bad
section
variable {X : Cx} {cs : Tx}
theorem lenFin_len {K : PySem.W.Frag} {W : WX} {σ : L2.St} {g : Gh} {n : Nat} {H : Hp} {Q : VK} {fin : List D → Hs → R D} {xs : List D} {h : Hs} (F : EndR K cs (relD K cs) W σ g n H Q (lenFin fin xs h)) : xs.length ≤ sizeLine := by
  unfold lenFin at F
  split at F
  · rename_i k; exact okLen_le k
  · exact F.elim
theorem lc2_core2 {K : PySem.W.Frag} {fi fi1 : FI} {t t1 : Tg} {ft ft1 : FT} {fe : FE} {vs vs1 : List Nat} {fin : List D → Hs → R D} {W : WX} {σ : L2.St} {H : Hp} {Q : VK} (hv : ∀ i, i ∈ t.slots → i ∈ vs) (hv1 : ∀ i, i ∈ t1.slots → i ∈ vs1) (hf : FinOk K cs fin) (hx : ∀ ds hh c fs h', fin ds hh ≠ .ex c fs h') (h : tE K cs W (lc2All fi t ft fi1 t1 ft1 fe vs vs1 fin) σ H Q) :
    tLc2 (tI K cs W fi) (t.rd K) (tT K cs wF ft) (tI K cs wF fi1) (t1.rd K) (tT K cs wF ft1) (tE K cs wF fe) vs vs1 σ H Q := by
  obtain ⟨g, env, h, R, E, F⟩ := h
  refine ⟨g, env, h, R, E, ?_⟩
  unfold lc2All at F
  cases q : fi env h with
  | bad => rw [q] at F; exact F
  | ex c fs h' => rw [q] at F; exact F
  | ok it h1 =>
    rw [q] at F
    intro g1 J H1 S1 R1 it1 p hp
    have F1 := EndR.shift S1 F
    dsimp only [Ar.R.bind] at F1
    have A1 := R1.apart hp
    have R1' := R1.upd_apart (o := .lst []) A1 (.inl hp)
    have S1' : Step g1 h1.length H1 g1 h1.length (upd H1 p (.lst [])) := Step.refl.upd_new hp
    refine ⟨fun i m H2 => ∃ g2 h2 acc xs r3, Step g1 h1.length H1 g2 h2.length H2 ∧ Rel K cs g2 h2 H2 ∧ Apart g2 h2.length p ∧ H2 p = some (.lst xs) ∧ RDs K cs g2.ρ g2.G h2.length acc xs ∧ i ≤ it.1.length ∧ m = it.1.length - i ∧
        lc2L t ft fi1 t1 ft1 fe vs1 it.2 (it.1.drop i) (wipeE env vs) h2 = r3 ∧ EndR K cs (relD K cs) W σ g1 h1.length H1 Q (match r3 with | .ok ys h3 => lenFin fin (acc ++ ys) h3 | _ => .bad),
      ⟨it.1.length, g1, h1, [], [], _, S1', R1', ⟨A1.gp, A1.ne⟩, upd_same, .nil, Nat.zero_le _, rfl, rfl, by simpa using F1⟩, ?_⟩
    rintro i m H2 ⟨g2, h2, acc, xs, r3, S2, R2, A2, e2, racc, hi, rfl, hr3, F2⟩
    have E2 : REnv K cs g2 h2.length (wipeE env vs) (L2.wipe σ vs) := ((E.step S1).step S2).wipe vs
    by_cases hlt : i < it.1.length
    · obtain ⟨d, hd⟩ : ∃ d, it.1[i]? = some d := ⟨it.1[i], List.getElem?_eq_getElem hlt⟩
      have hdr : it.1.drop i = d :: it.1.drop (i + 1) := by
        rw [List.drop_eq_getElem_cons hlt]
        rw [List.getElem?_eq_getElem hlt] at hd
        cases hd
        rfl
      rw [hdr] at hr3
      unfold lc2L at hr3
      split at hr3
      · rename_i hiv
        obtain ⟨go, yl⟩ := it1.go g2 h2 H2 i d S2.soft R2 hiv hd
        refine .inr ⟨go, fun H' => ∃ m', m' < it.1.length - i ∧ ∃ g2 h2 acc xs r3, Step g1 h1.length H1 g2 h2.length H' ∧ Rel K cs g2 h2 H' ∧ Apart g2 h2.length p ∧ H' p = some (.lst xs) ∧ RDs K cs g2.ρ g2.G h2.length acc xs ∧ i + 1 ≤ it.1.length ∧ m' = it.1.length - (i + 1) ∧
          lc2L t ft fi1 t1 ft1 fe vs1 it.2 (it.1.drop (i + 1)) (wipeE env vs) h2 = r3 ∧ EndR K cs (relD K cs) W σ g1 h1.length H1 Q (match r3 with | .ok ys h3 => lenFin fin (acc ++ ys) h3 | _ => .bad), fun H' h => h, fun x H3 hy => ?_⟩
        obtain ⟨g3, S3, R3, V3⟩ := yl x H3 hy
        have A3 := A2.step S3 e2
        have e3 : H3 p = some (.lst xs) := S3.keep p _ e2 (fun _ z => nomatch z) A2.ne
        have racc3 := RDs.step S3 racc
        have E3 := E2.step S3
        split at hr3
        · rename_i env1 hb
          refine Tg.rd_ok t R3 E3 V3 hb fun σ2 Eσ o2 => ⟨wipe_out (o2.mono hv), g3, env1, h2, R3, Eσ, ?_⟩
          cases q4 : ft env1 h2 with
          | bad => simp only [q4] at hr3; subst hr3; exact F2.elim
          | ex c fs h4 => simp only [q4] at hr3; subst hr3; exact F2.elim
          | ok b h4 =>
            intro g4 b' H4 S4 R4 hb'
            obtain rfl : b = b' := hb'
            have A4 := A3.step S4 e3
            have e4 : H4 p = some (.lst xs) := S4.keep p _ e3 (fun _ z => nomatch z) A3.ne
            have racc4 := RDs.step S4 racc3
            have S24 := (S2.trans S3).trans S4
            cases b with
            | false =>
              simp only [q4] at hr3
              rw [if_neg Bool.false_ne_true]
              exact ⟨_, by omega, g4, h4, acc, xs, _, S24, R4, A4, e4, racc4, hlt, rfl, hr3, F2⟩
            | true =>
              simp only [q4] at hr3
              rw [if_pos rfl]
              refine ⟨g4, env1, h4, R4, Eσ.step S4, ?_⟩
              cases q5 : fi1 env1 h4 with
              | bad => simp only [q5] at hr3; subst hr3; exact F2.elim
              | ex c fs h5 => simp only [q5] at hr3; subst hr3; exact F2.elim
              | ok it2 h5 =>
                simp only [q5] at hr3
                intro g5 J1 H5 S5 R5 itk
                have A5 := A4.step S5 e4
                have e5 : H5 p = some (.lst xs) := S5.keep p _ e4 (fun _ z => nomatch z) A4.ne
                have racc5 := RDs.step S5 racc4
                have S25 := S24.trans S5
                have Eσ5 := (Eσ.step S4).step S5
                -- the inner loop
                refine ⟨fun j k H6 => ∃ g6 h6 acc6 xs6 r6, (Soft g5 h5.length g6 h6.length ∧ Step g1 h1.length H1 g6 h6.length H6) ∧ Rel K cs g6 h6 H6 ∧ Apart g6 h6.length p ∧ H6 p = some (.lst xs6) ∧ RDs K cs g6.ρ g6.G h6.length acc6 xs6 ∧ j ≤ it2.1.length ∧ k = it2.1.length - j ∧
                    lcL t1 ft1 fe it2.2 (it2.1.drop j) (wipeE env1 vs1) h6 = r6 ∧ EndR K cs (relD K cs) W σ g1 h1.length H1 Q (match r6 with | .ok ys h7 => (match lc2L t ft fi1 t1 ft1 fe vs1 it.2 (it.1.drop (i + 1)) (wipeE env vs) h7 with | .ok zs h8 => lenFin fin (acc6 ++ (ys ++ zs)) h8 | _ => .bad) | _ => .bad),
                  ⟨it2.1.length, g5, h5, acc, xs, _, ⟨Soft.refl, S25⟩, R5, A5, e5, racc5, Nat.zero_le _, rfl, rfl, ?_⟩, ?_⟩
                · rw [List.drop_zero]
                  cases q6 : lcL t1 ft1 fe it2.2 it2.1 (wipeE env1 vs1) h5 with
                  | bad => simp only [q6] at hr3; subst hr3; exact F2
                  | ex c fs h6 => simp only [q6] at hr3; subst hr3; exact F2
                  | ok ys h6 =>
                    simp only [q6] at hr3
                    cases q7 : lc2L t ft fi1 t1 ft1 fe vs1 it.2 (it.1.drop (i + 1)) (wipeE env vs) h6 with
                    | bad => simp only [q7] at hr3; subst hr3; simp only [q7]; exact F2
                    | ex c fs h7 => simp only [q7] at hr3; subst hr3; simp only [q7]; exact F2
                    | ok zs h7 => simp only [q7] at hr3; subst hr3; simp only [q7]; exact F2
                · rintro j k H6 ⟨g6, h6, acc6, xs6, r6, ⟨Q6, S6⟩, R6, A6, e6, racc6, hj, rfl, hr6, F6⟩
                  have E6 : REnv K cs g6 h6.length (wipeE env1 vs1) (L2.wipe σ2 vs1) := (Eσ5.soft Q6).wipe vs1
                  by_cases hjt : j < it2.1.length
                  · obtain ⟨d1, hd1⟩ : ∃ d, it2.1[j]? = some d := ⟨it2.1[j], List.getElem?_eq_getElem hjt⟩
                    have hdr1 : it2.1.drop j = d1 :: it2.1.drop (j + 1) := by
                      rw [List.drop_eq_getElem_cons hjt]
                      rw [List.getElem?_eq_getElem hjt] at hd1
                      cases hd1
                      rfl
                    rw [hdr1] at hr6
                    unfold lcL at hr6
                    split at hr6
                    · rename_i hiv1
                      obtain ⟨go1, yl1⟩ := itk.go g6 h6 H6 j d1 Q6 R6 hiv1 hd1
                      refine .inr ⟨go1, fun H' => ∃ k', k' < it2.1.length - j ∧ ∃ g6 h6 acc6 xs6 r6, (Soft g5 h5.length g6 h6.length ∧ Step g1 h1.length H1 g6 h6.length H') ∧ Rel K cs g6 h6 H' ∧ Apart g6 h6.length p ∧ H' p = some (.lst xs6) ∧ RDs K cs g6.ρ g6.G h6.length acc6 xs6 ∧ j + 1 ≤ it2.1.length ∧ k' = it2.1.length - (j + 1) ∧
                        lcL t1 ft1 fe it2.2 (it2.1.drop (j + 1)) (wipeE env1 vs1) h6 = r6 ∧ EndR K cs (relD K cs) W σ g1 h1.length H1 Q (match r6 with | .ok ys h7 => (match lc2L t ft fi1 t1 ft1 fe vs1 it.2 (it.1.drop (i + 1)) (wipeE env vs) h7 with | .ok zs h8 => lenFin fin (acc6 ++ (ys ++ zs)) h8 | _ => .bad) | _ => .bad), fun H' h => h, fun x1 H7 hy1 => ?_⟩
                      obtain ⟨g7, S7, R7, V7⟩ := yl1 x1 H7 hy1
                      have A7 := A6.step S7 e6
                      have e7 : H7 p = some (.lst xs6) := S7.keep p _ e6 (fun _ z => nomatch z) A6.ne
                      have racc7 := RDs.step S7 racc6
                      split at hr6
                      · rename_i env2 hb1
                        refine Tg.rd_ok t1 R7 (E6.step S7) V7 hb1 fun σ3 Eτ o3 => ⟨wipe_out (o3.mono hv1), g7, env2, h6, R7, Eτ, ?_⟩
                        cases q8 : ft1 env2 h6 with
                        | bad => simp only [q8] at hr6; subst hr6; exact F6.elim
                        | ex c fs h4 => simp only [q8] at hr6; subst hr6; exact F6.elim
                        | ok b h8 =>
                          intro g8 b' H8 S8 R8 hb'
                          obtain rfl : b = b' := hb'
                          have A8 := A7.step S8 e7
                          have e8 : H8 p = some (.lst xs6) := S8.keep p _ e7 (fun _ z => nomatch z) A7.ne
                          have racc8 := RDs.step S8 racc7
                          have S68 := (S6.trans S7).trans S8
                          have Q68 := (Q6.trans S7.soft).trans S8.soft
                          cases b with
                          | false =>
                            simp only [q8] at hr6
                            rw [if_neg Bool.false_ne_true]
                            exact ⟨_, by omega, g8, h8, acc6, xs6, _, ⟨Q68, S68⟩, R8, A8, e8, racc8, hjt, rfl, hr6, F6⟩
                          | true =>
                            simp only [q8] at hr6
                            rw [if_pos rfl]
                            refine ⟨g8, env2, h8, R8, Eτ.step S8, ?_⟩
                            cases q9 : fe env2 h8 with
                            | bad => simp only [q9] at hr6; subst hr6; exact F6.elim
                            | ex c fs h9 => simp only [q9] at hr6; subst hr6; exact F6.elim
                            | ok y h9 =>
                              intro g9 yv H9 S9 R9 V9
                              have A9 := A8.step S9 e8
                              have e9 : H9 p = some (.lst xs6) := S9.keep p _ e8 (fun _ z => nomatch z) A8.ne
                              have racc9 := RDs.step S9 racc8
                              have lx : xs6.length = acc6.length := (Paired.length racc9).symm
                              simp only [q9] at hr6
                              cases q10 : lcL t1 ft1 fe it2.2 (it2.1.drop (j + 1)) (wipeE env1 vs1) h9 with
                              | bad => simp only [q10] at hr6; subst hr6; exact F6.elim
                              | ex c fs h10 => simp only [q10] at hr6; subst hr6; exact F6.elim
                              | ok ys h10 =>
                                simp only [q10] at hr6
                                subst hr6
                                cases q11 : lc2L t ft fi1 t1 ft1 fe vs1 it.2 (it.1.drop (i + 1)) (wipeE env vs) h10 with
                                | bad => simp only [q11] at F6; exact F6.elim
                                | ex c fs h11 => simp only [q11] at F6; exact F6.elim
                                | ok zs h11 =>
                                  simp only [q11] at F6
                                  have hle := lenFin_len F6
                                  simp only [List.length_append, List.length_cons] at hle
                                  refine ⟨xs6, e9, by omega, _, by omega, g9, h9, acc6 ++ [y], xs6 ++ [yv], _, ⟨Q68.trans S9.soft, (S68.trans S9).upd_new hp⟩, R9.upd_apart A9 (.inr ⟨_, e9⟩), A9, upd_same, ?_, hjt, rfl, q10, ?_⟩
                                  · have app : ∀ {as bs : List D} {us ws : List V}, RDs K cs g9.ρ g9.G h9.length as us → RDs K cs g9.ρ g9.G h9.length bs ws → RDs K cs g9.ρ g9.G h9.length (as ++ bs) (us ++ ws) := by
                                      intro as bs us ws ha hb
                                      induction ha with
                                      | nil => exact hb
                                      | cons r t ih => exact .cons r ih
                                    exact app racc9 (.cons V9 .nil)
                                  · simp only [q11]
                                    simpa using F6
                      · subst hr6; exact F6.elim
                    · subst hr6; exact F6.elim
                  · have e : j = it2.1.length := by omega
                    subst e
                    rw [List.drop_length] at hr6
                    unfold lcL at hr6
                    split at hr6
                    · rename_i hiv1
                      subst hr6
                      simp only [List.nil_append] at F6
                      exact .inl ⟨itk.stop g6 h6 H6 Q6 R6 hiv1, _, by omega, g6, h6, acc6, xs6, _, S6, R6, A6, e6, racc6, hlt, rfl, rfl, F6⟩
                    · subst hr6; exact F6.elim
        · subst hr3; exact F2.elim
      · subst hr3; exact F2.elim
    · have e : i = it.1.length := by omega
      subst e
      rw [List.drop_length] at hr3
      unfold lc2L at hr3
      split at hr3
      · rename_i hiv
        subst hr3
        simp only [List.append_nil] at F2
        unfold lenFin at F2
        split at F2
        · exact .inl ⟨it1.stop g2 h2 H2 S2.soft R2 hiv, hf g1 h1.length H1 g2 h2 H2 acc xs p W σ Q S2 R2 A2 hp e2 racc F2 (hx _ _)⟩
        · exact F2.elim
      · subst hr3; exact F2.elim
variable {elt tg iter tg1 iter1 : Expr} {ifs ifs1 : List Expr} {scope : Scope} {own : List (Str × Nat)} {vs1 : List Nat} {pos : Pos} {fi fi1 : FI} {t t1 : Tg} {ft ft1 : FT} {fe : FE} {fin : List D → Hs → R D}
/-- [elt for tg in iter if .. for tg1 in iter1 if ..] -/
theorem gLc2 (hf : FinOk X.K cs fin) (hx : ∀ ds hh c fs h', fin ds hh ≠ .ex c fs h') (hc : X.calm = true) (hN : X.N.Nodup) (gi : GI X cs tg iter fi) (ok : blkC X.N X.env.scope scope own = true)
    (gg : ∀ (s : Shared) (H : Hp) (C : Addr) (cl : List (Str × Addr)) (fp : List Addr), GTg (X.blk s H scope (compEnvC scope cl C X.env) fp) tg t) (gt : ∀ (s : Shared) (H : Hp) (C : Addr) (cl : List (Str × Addr)) (fp : List Addr), GTs (X.blk s H scope (compEnvC scope cl C X.env) fp) cs ifs ft) (gi1 : ∀ (s : Shared) (H : Hp) (C : Addr) (cl : List (Str × Addr)) (fp : List Addr), GI (X.blk s H scope (compEnvC scope cl C X.env) fp) cs tg1 iter1 fi1) (gg1 : ∀ (s : Shared) (H : Hp) (C : Addr) (cl : List (Str × Addr)) (fp : List Addr), GTg (X.blk s H scope (compEnvC scope cl C X.env) fp) tg1 t1) (gt1 : ∀ (s : Shared) (H : Hp) (C : Addr) (cl : List (Str × Addr)) (fp : List Addr), GTs (X.blk s H scope (compEnvC scope cl C X.env) fp) cs ifs1 ft1)
    (ge : ∀ (s : Shared) (H : Hp) (C : Addr) (cl : List (Str × Addr)) (fp : List Addr), GE (X.blk s H scope (compEnvC scope cl C X.env) fp) cs elt fe) (hv : ∀ i, i ∈ t.slots → i ∈ own.map (·.2)) (hv1 : ∀ i, i ∈ t1.slots → i ∈ vs1) (hv2 : ∀ i ∈ vs1, i ∈ own.map (·.2)) (hs : ∀ x, foldedSetIterable iter X.env x = pure x := by intro _; rfl) (hs1 : ∀ env x, foldedSetIterable iter1 env x = pure x := by intro _ _; rfl) :
    GE X cs (.ListComp elt [⟨tg, iter, ifs, 0⟩, ⟨tg1, iter1, ifs1, 0⟩] scope pos) (lc2All fi t ft fi1 t1 ft1 fe (own.map (·.2)) vs1 fin) := fun W tk =>
  PE.imp (pe_lc2 (g := t.rd X.K) (tt := tT X.K cs wF ft) (wi1 := tI X.K cs wF fi1) (g1 := t1.rd X.K) (tt1 := tT X.K cs wF ft1) (te := tE X.K cs wF fe) hc hN (gi W tk) (blkOk_by ok) hv2 gg (fun s H C cl fp => gt s H C cl fp wF takesF) (fun s H C cl fp => gi1 s H C cl fp wF takesF) gg1 (fun s H C cl fp => gt1 s H C cl fp wF takesF) (fun s H C cl fp => ge s H C cl fp wF takesF) hs hs1) fun σ H Q h => lc2_core2 hv hv1 hf hx h
/-- name = [..] on one line, the name a local -/
theorem gSetLc2 {i : Nat} {y : Str} {py spos : Pos} (hf : FinOk X.K cs fin) (hx : ∀ ds hh c fs h', fin ds hh ≠ .ex c fs h') (hc : X.calm = true) (hN : X.N.Nodup) (gi : GI X cs tg iter fi) (ok : blkC X.N X.env.scope scope own = true)
    (gg : ∀ (s : Shared) (H : Hp) (C : Addr) (cl : List (Str × Addr)) (fp : List Addr), GTg (X.blk s H scope (compEnvC scope cl C X.env) fp) tg t) (gt : ∀ (s : Shared) (H : Hp) (C : Addr) (cl : List (Str × Addr)) (fp : List Addr), GTs (X.blk s H scope (compEnvC scope cl C X.env) fp) cs ifs ft) (gi1 : ∀ (s : Shared) (H : Hp) (C : Addr) (cl : List (Str × Addr)) (fp : List Addr), GI (X.blk s H scope (compEnvC scope cl C X.env) fp) cs tg1 iter1 fi1) (gg1 : ∀ (s : Shared) (H : Hp) (C : Addr) (cl : List (Str × Addr)) (fp : List Addr), GTg (X.blk s H scope (compEnvC scope cl C X.env) fp) tg1 t1) (gt1 : ∀ (s : Shared) (H : Hp) (C : Addr) (cl : List (Str × Addr)) (fp : List Addr), GTs (X.blk s H scope (compEnvC scope cl C X.env) fp) cs ifs1 ft1)
    (ge : ∀ (s : Shared) (H : Hp) (C : Addr) (cl : List (Str × Addr)) (fp : List Addr), GE (X.blk s H scope (compEnvC scope cl C X.env) fp) cs elt fe) (hv : ∀ i, i ∈ t.slots → i ∈ own.map (·.2)) (hv1 : ∀ i, i ∈ t1.slots → i ∈ vs1) (hv2 : ∀ i ∈ vs1, i ∈ own.map (·.2))
    (hy : X.N[i]? = some y := by rfl) (hyl : X.env.scope.names.lookup y = some .local := by rfl) (hsw : swapsWith (.ListComp elt [⟨tg, iter, ifs, 0⟩, ⟨tg1, iter1, ifs1, 0⟩] scope pos) (some (.Name y py)) spos.line X.env = pure true := by exact sw_true rfl rfl rfl (by decide +kernel))
    (hs : ∀ x, foldedSetIterable iter X.env x = pure x := by intro _; rfl) (hs1 : ∀ env x, foldedSetIterable iter1 env x = pure x := by intro _ _; rfl) :
    GS X cs (.Assign [.Name y py] (.ListComp elt [⟨tg, iter, ifs, 0⟩, ⟨tg1, iter1, ifs1, 0⟩] scope pos) spos) (sSet i (lc2All fi t ft fi1 t1 ft1 fe (own.map (·.2)) vs1 fin)) := fun W tk =>
  PS.imp (ps_setLc2 (g := t.rd X.K) (tt := tT X.K cs wF ft) (wi1 := tI X.K cs wF fi1) (g1 := t1.rd X.K) (tt1 := tT X.K cs wF ft1) (te := tE X.K cs wF fe) hc hN hy hyl hsw (gi W tk) (blkOk_by ok) hv2 gg (fun s H C cl fp => gt s H C cl fp wF takesF) (fun s H C cl fp => gi1 s H C cl fp wF takesF) gg1 (fun s H C cl fp => gt1 s H C cl fp wF takesF) (fun s H C cl fp => ge s H C cl fp wF takesF) hs hs1) fun D' σ H ⟨g, env, h, R, E, F⟩ => by
    refine lc2_core2 (Q := fun x H1 => gName i x σ H1 D'.nx) hv hv1 hf hx ⟨g, env, h, R, E, ?_⟩
    exact EndR.ofS E F fun d h1 g1 v H1 e1 S1 R1 V1 F1 => F1 g1 _ H1 Step.refl R1 ((E.step S1).set i V1)
end
end Ar
namespace Ar
open PySem PySem.Spec PyProof.Rows L2
/-! ### try: .. except A: .. except B: .. -/
/-- how classes fare with a clause: known pairs -/
def mtT (M : List (Nat × Nat × Bool)) (c z : Nat) : Option Bool := (M.find? fun q => q.1 == c && q.2.1 == z).map (·.2.2)
def MatchT (K : PySem.W.Frag) (cs : Tx) (M : List (Nat × Nat × Bool)) : Prop := ∀ q ∈ M, PySem.W.exmOne K (.ref (cs.C q.1)) (.ref (cs.C q.2.1)) = some q.2.2
def catchS (M : List (Nat × Nat × Bool)) (c : Nat) (fs : List (Str × P)) (e : Env) (h : Hs) : List (Nat × FS) → S
  | [] => .ex c fs e h
  | (z, fh) :: r => match mtT M c z with
    | some true => (match fh e h with
      | .ex _ _ _ _ => .bad
      | r => r)
    | some false => catchS M c fs e h r
    | none => .bad
def sTry (M : List (Nat × Nat × Bool)) (fb : FS) (l : List (Nat × FS)) : FS := fun env h => match fb env h with
  | .ex c fs e h' => catchS M c fs e h' l
  | r => r
theorem mtT_ok {K : PySem.W.Frag} {cs : Tx} {M : List (Nat × Nat × Bool)} (h : MatchT K cs M) {c z : Nat} {b : Bool} (e : mtT M c z = some b) : PySem.W.exmOne K (.ref (cs.C c)) (.ref (cs.C z)) = some b := by
  unfold mtT at e
  rw [Option.map_eq_some_iff] at e
  obtain ⟨q, e1, rfl⟩ := e
  have h1 := List.find?_some e1
  simp only [Bool.and_eq_true, beq_iff_eq] at h1
  have := h q (List.mem_of_find?_eq_some e1)
  rw [h1.1, h1.2] at this
  exact this
inductive GHds (X : Cx) (cs : Tx) : List ExceptHandler → List (Nat × FS) → Prop
  | nil : GHds X cs [] []
  | cons {x : Str} {c : Nat} {fh : FS} {b₀ : Stmt} {suite : List Stmt} {np pos' : Pos} {hds : List ExceptHandler} {l : List (Nat × FS)} (hc : Names X x (.ref (cs.C c)))
      (hsu : ∀ (a : Addr) (oe : Obj) (cls : Value) (d : Option Addr) (pn : List (Addr × Obj)), Zc cls d oe → (∃ vs, oe.data = .fields vs) → GSs (X.suite a ((a, oe) :: pn)) cs (b₀ :: suite) fh) (r : GHds X cs hds l) :
      GHds X cs (.ExceptHandler (some (.Name x np)) none (b₀ :: suite) pos' :: hds) ((c, fh) :: l)
def hdT (K : PySem.W.Frag) (cs : Tx) (l : List (Nat × FS)) : List (Value × (Addr → Value → Option Addr → TS)) := l.map fun q => (.ref (cs.C q.1), fun _ _ _ => tS K cs (fun _ _ _ _ => False) q.2)
section
variable {X : Cx} {cs : Tx}
theorem hds_of {hds : List ExceptHandler} {l : List (Nat × FS)} (h : GHds X cs hds l) : HdsOk X hds (hdT X.K cs l) := by
  induction h with
  | nil => exact .nil
  | cons hc hsu r ih => exact .cons hc (fun a oe cls d pn hz hf => hsu a oe cls d pn hz hf _ takes_none5) ih
theorem catch_ok {K : PySem.W.Frag} {M : List (Nat × Nat × Bool)} (hM : MatchT K cs M) {W : WX} {D' : Ends} {g : Gh} {h : Hs} {H : Hp} {env : Env} {σ : L2.St} {c : Nat} {fs : List (Str × P)} {cls : Value} {dd : Option Addr} (R : Rel K cs g h H) (E : REnv K cs g h.length env σ) (x : RX K cs g H c fs cls dd) :
    ∀ l : List (Nat × FS), EndS K cs W g h.length H D' (catchS M c fs env h l) → wMany K W D' (hdT K cs l) cls dd σ H
  | [], F => F g σ cls dd H Step.refl R E x
  | (z, fh) :: r, F => by
    unfold catchS at F
    split at F
    · rename_i em
      have e := mtT_ok hM em
      rw [← x.1] at e
      refine ⟨true, e, fun _ a ha => ⟨g, env, h, R, E, ?_⟩, fun q => by cases q⟩
      show EndS K cs (fun _ _ _ _ => False) g h.length H D' (fh env h)
      cases q : fh env h with
      | nx e h' => rw [q] at F; exact F
      | rt d h' => rw [q] at F; exact F
      | bk e h' => rw [q] at F; exact F
      | ct e h' => rw [q] at F; exact F
      | ex c fs e h' => rw [q] at F; exact F.elim
      | bad => rw [q] at F; exact F.elim
    · rename_i em
      have e := mtT_ok hM em
      rw [← x.1] at e
      exact ⟨false, e, (fun q => by cases q), fun _ => catch_ok hM R E x r F⟩
    · exact F.elim
theorem gTry {M : List (Nat × Nat × Bool)} {body : List Stmt} {h₀ : ExceptHandler} {hds : List ExceptHandler} {l : List (Nat × FS)} {fb : FS} {pos : Pos} (hM : MatchT X.K cs M) (hs : X.stack = X.env :: X.outer) (hf : X.env.frame = some X.env.locals)
    (hb : ∀ (pn : List (Addr × Obj)) (xe : Value → Shared → Prop), PassesOwn (model X.prog X.w) X.A X.env xe → GSs (X.tr pn xe) cs body fb) (hh : GHds X cs (h₀ :: hds) l) :
    GS X cs (.Try body (h₀ :: hds) [] [] pos) (sTry M fb l) := fun W tk => by
  refine PS.imp (ps_try_many (tb := fun W => tS X.K cs W fb) hs hf tk (fun W' pn xe tk' ho => hb pn xe ho W' tk') (hds_of hh)) fun D' σ H ⟨g, env, h, R, E, F⟩ => ?_
  refine ⟨g, env, h, R, E, ?_⟩
  unfold sTry at F
  cases q : fb env h with
  | nx e h' => rw [q] at F; exact F
  | rt d h' => rw [q] at F; exact F
  | bk e h' => rw [q] at F; exact F
  | ct e h' => rw [q] at F; exact F
  | ex c fs e h' =>
    rw [q] at F
    intro g' σ' cls dd H' S' R' E' x
    exact catch_ok hM R' E' x l (EndS.shift S' F)
  | bad => rw [q] at F; exact F.elim
end
/-! ### {}, to be filled by tuples -/
def cDict0T : FE := fun _ h => .ok (.loc h.length) (h ++ [.dtt [] []])
theorem gDict0T {X : Cx} {cs : Tx} {pos : Pos} : GE X cs (.Dict [] [] pos) cDict0T := fun W tk => by
  refine PE.imp pe_dnewT fun σ H Q ⟨g, env, h, R, E, F⟩ => ?_
  intro q hq
  obtain ⟨R', S'⟩ := R.place (p := q) (o := .dtt [] []) (u := .dT []) (H1 := upd H q (.dT [])) hq (fun c hc => by rw [upd_ne (fun z => hc (by rw [z]; exact hq))]) (by rw [upd_same]; exact fun z => nomatch z) ⟨[], upd_same, rfl, .nil⟩
  have own : addρ g.ρ h.length q h.length = q := if_pos rfl
  have V1 := RD.loc (K := X.K) (cs := cs) (ρ := addρ g.ρ h.length q) (G := g.G) (n := (h ++ [O.dtt [] []]).length) (i := h.length) (by simp)
  rw [own] at V1
  exact F ⟨addρ g.ρ h.length q, g.G⟩ (.ref q) _ S' R' V1
/-! ### name = {k: v for ..} on one line -/
section
variable {X : Cx} {cs : Tx}
theorem ps_setDc {i : Nat} {y : Str} {py : Pos} {kx vx tg iter : Expr} {ifs : List Expr} {scope : Scope} {own : List (Str × Nat)} {pos spos : Pos} {wi : TI} {g : TG} {tt : TT} {tk tv : TE} (hc : X.calm = true) (hN : X.N.Nodup) (hy : X.N[i]? = some y) (hyl : X.env.scope.names.lookup y = some .local)
    (hsw : swapsWith (.DictComp kx vx [⟨tg, iter, ifs, 0⟩] scope pos) (some (.Name y py)) spos.line X.env = pure true) (hi : PI X tg iter wi) (ok : BlkOk X.N X.env.scope scope own)
    (hg : ∀ (s : Shared) (H : Hp) (C : Addr) (cl : List (Str × Addr)) (fp : List Addr), PG (X.blk s H scope (compEnvC scope cl C X.env) fp) tg g) (ht : ∀ (s : Shared) (H : Hp) (C : Addr) (cl : List (Str × Addr)) (fp : List Addr), PTs (X.blk s H scope (compEnvC scope cl C X.env) fp) ifs tt) (hk : ∀ (s : Shared) (H : Hp) (C : Addr) (cl : List (Str × Addr)) (fp : List Addr), PE (X.blk s H scope (compEnvC scope cl C X.env) fp) kx tk) (he : ∀ (s : Shared) (H : Hp) (C : Addr) (cl : List (Str × Addr)) (fp : List Addr), PE (X.blk s H scope (compEnvC scope cl C X.env) fp) vx tv) (hs : ∀ x, foldedSetIterable iter X.env x = pure x := by intro _; rfl) :
    PS X (.Assign [.Name y py] (.DictComp kx vx [⟨tg, iter, ifs, 0⟩] scope pos) spos) (fun D σ H => tDc wi g tt tk tv (own.map (·.2)) σ H (Lq fun x H1 => gName i x σ H1 D.nx)) := by
  refine ⟨fun pins s σ H D I h => ?_⟩
  rw [exec_Assign_Name_used _ _ _ _ hsw]
  refine wpAny_bind (wpAny_standAt (wpAny_bind ?_))
  show wpAny _ X.A (do let _ ← comprehension (.DictComp kx vx [⟨tg, iter, ifs, 0⟩] scope pos) scope X.env (firstIterPos [⟨tg, iter, ifs, 0⟩] pos) newDict false (eval iter X.env) (some (assign (.Name y py) X.env))) _ _ s
  have h : tDc wi g tt tk tv (own.map (·.2)) σ H (Lq fun x H1 => gName i x σ H1 D.nx) := h
  refine wpAny_bind (thn (L2.dc_core (Qf := fun _ s' => SP X pins D .next s') hc hN I hi ok hg ht hk he hs h fun L C s' m H' I' q hn f => ?_) fun _ s' hq => wpAny_pure (wpAny_pure hq))
  show wpAny _ _ (assign (.Name y py) X.env (.ref L)) _ _ _
  refine wpAny_assign_Name (store_ok2 (v := V.ref L) I' hN hy (.inl hyl) rfl (fun s2 I2 ⟨a, sb, ha⟩ => ?_) (.inr hyl))
  obtain ⟨f0, f1, f2, f3, f4, f5⟩ := f
  have haC : C ≠ a := by
    rcases ha with z | z
    · rw [z]; exact f1
    · exact fun e => f4 y a z e.symm
  refine ⟨m, hn.sameBut sb haC, fun h3 sb3 => ?_⟩
  obtain ⟨S, k, q⟩ := q
  obtain ⟨H2, I3, Lk⟩ := Inv.locks (I2.turned (t' := s2.toks) (fun b o hb e => (sb3.2 b hb).trans e) f0 f1 f3 f4 f5) S k
  exact ⟨_, H2, I3, q H2 Lk⟩
theorem sw_trueD {kx vx : Expr} {gs : List Comprehension} {scope : Scope} {pos py : Pos} {y : Str} {l : Nat} {env : PySem.Env} (hk : env.scope.kind = .function) (hy : env.scope.names.lookup y = some .local) (hl : (py.line == pos.line) = true)
    (ha : (scope.names.any fun (n, k) => n == y && (k == .local || k == .cell)) = false) : swapsWith (.DictComp kx vx gs scope pos) (some (.Name y py)) l env = pure true := by
  have ky : env.kindOf y = some .local := hy
  have hb : env.blockKind = .function := by unfold PySem.Env.blockKind; rw [hk]; rfl
  unfold swapsWith
  simp only [hb, ky, ha, Expr.pos, hl]
  rfl
variable {kx vx tg iter : Expr} {ifs : List Expr} {scope : Scope} {own : List (Str × Nat)} {pos : Pos} {fi : FI} {t : Tg} {ft : FT} {fk fv : FE} {fin : List P → List P → Hs → R D}
theorem gSetDc {i : Nat} {y : Str} {py spos : Pos} (hf : DFinOk fin) (hx : ∀ ks ws hh c fs h', fin ks ws hh ≠ .ex c fs h') (hc : X.calm = true) (hN : X.N.Nodup) (gi : GI X cs tg iter fi) (ok : blkC X.N X.env.scope scope own = true)
    (gg : ∀ (s : Shared) (H : Hp) (C : Addr) (cl : List (Str × Addr)) (fp : List Addr), GTg (X.blk s H scope (compEnvC scope cl C X.env) fp) tg t) (gt : ∀ (s : Shared) (H : Hp) (C : Addr) (cl : List (Str × Addr)) (fp : List Addr), GTs (X.blk s H scope (compEnvC scope cl C X.env) fp) cs ifs ft) (gk : ∀ (s : Shared) (H : Hp) (C : Addr) (cl : List (Str × Addr)) (fp : List Addr), GE (X.blk s H scope (compEnvC scope cl C X.env) fp) cs kx fk) (ge : ∀ (s : Shared) (H : Hp) (C : Addr) (cl : List (Str × Addr)) (fp : List Addr), GE (X.blk s H scope (compEnvC scope cl C X.env) fp) cs vx fv) (hv : ∀ i, i ∈ t.slots → i ∈ own.map (·.2))
    (hy : X.N[i]? = some y := by rfl) (hyl : X.env.scope.names.lookup y = some .local := by rfl) (hsw : swapsWith (.DictComp kx vx [⟨tg, iter, ifs, 0⟩] scope pos) (some (.Name y py)) spos.line X.env = pure true := by exact sw_trueD rfl rfl rfl (by decide +kernel))
    (hs : ∀ x, foldedSetIterable iter X.env x = pure x := by intro _; rfl) :
    GS X cs (.Assign [.Name y py] (.DictComp kx vx [⟨tg, iter, ifs, 0⟩] scope pos) spos) (sSet i (dcAll fi t ft fk fv (own.map (·.2)) fin)) := fun W tk =>
  PS.imp (ps_setDc (g := t.rd X.K) (tt := tT X.K cs wF ft) (tk := tE X.K cs wF fk) (tv := tE X.K cs wF fv) hc hN hy hyl hsw (gi W tk) (blkOk_by ok) gg (fun s H C cl fp => gt s H C cl fp wF takesF) (fun s H C cl fp => gk s H C cl fp wF takesF) (fun s H C cl fp => ge s H C cl fp wF takesF) hs) fun D' σ H ⟨g, env, h, R, E, F⟩ => by
    refine Ar.dc_core (W := W) (Q := fun x H1 => gName i x σ H1 D'.nx) hv hf hx ⟨g, env, h, R, E, ?_⟩
    exact EndR.ofS E F fun d h1 g1 v H1 e1 S1 R1 V1 F1 => F1 g1 _ H1 Step.refl R1 ((E.step S1).set i V1)
end
/-! ### a list's place is given up -/
theorem Rel.giveUpL {K : PySem.W.Frag} {cs : Tx} {g : Gh} {h : Hs} {H : Hp} {i : Nat} {ps : List P} {xs : List V} (r : Rel K cs g h H) (e : h[i]? = some (.lst ps)) (e1 : H (g.ρ i) = some (.lst xs)) :
    Rel K cs ⟨g.ρ, upd g.G (g.ρ i) (.lst xs)⟩ (h.set i .dead) H ∧ Step g h.length H ⟨g.ρ, upd g.G (g.ρ i) (.lst xs)⟩ (h.set i .dead).length H := by
  have hi : i < h.length := (List.getElem?_eq_some_iff.mp e).1
  have hG := r.off i _ e (fun z => nomatch z)
  have S : Step g h.length H ⟨g.ρ, upd g.G (g.ρ i) (.lst xs)⟩ (h.set i .dead).length H := by
    rw [List.length_set]
    refine ⟨Nat.le_refl _, fun _ _ => rfl, sub_upd hG, fun a w q _ hx => q, fun a w q _ hx z => ?_, fun j h1 h2 => absurd h2 (by omega), fun a w q nt => ⟨w, q, nt⟩⟩
    show upd g.G (g.ρ i) _ a = none
    rw [upd_ne (hx i hi)]; exact z
  refine ⟨⟨fun a w q => ?_, by rw [List.length_set]; exact r.inj, fun j w q => ?_, fun j w q hw => ?_, fun q hq => S.sub.rd (r.cst q hq), fun a ob w q => ?_, r.ntb_upd hG (fun _ z => nomatch z), r.tabs⟩, S⟩
  · have q : upd g.G (g.ρ i) (.lst xs) a = some w := q
    by_cases ha : a = g.ρ i
    · subst ha; rw [upd_same] at q; rw [e1]; exact q
    · rw [upd_ne ha] at q; exact r.sub a w q
  · by_cases hj : j = i
    · subst hj
      rw [List.getElem?_set_self hi] at q
      cases q
      exact ⟨_, e1, ⟨fun _ z => (nomatch z), trivial⟩, fun _ z => (nomatch z)⟩
    · rw [List.getElem?_set_ne (Ne.symm hj)] at q
      exact (r.at_ j w q).step S fun z hz => hz
  · by_cases hj : j = i
    · subst hj
      rw [List.getElem?_set_self hi] at q
      cases q
      exact absurd rfl hw
    · rw [List.getElem?_set_ne (Ne.symm hj)] at q
      show upd g.G (g.ρ i) _ (g.ρ j) = none
      rw [upd_ne fun z => hj (r.inj j i (List.getElem?_eq_some_iff.mp q).1 hi z)]
      exact r.off j w q hw
  · have q : upd g.G (g.ρ i) (.lst xs) a = some (.frz ob w) := q
    by_cases ha : a = g.ρ i
    · subst ha; rw [upd_same] at q; cases q
    · rw [upd_ne ha] at q; exact r.fz a ob w q
def frzL (j : Nat) (env : Env) (h : Hs) : Option (Nat × P) := match env[j]? with
  | some (some (.loc i)) => (match h[i]? with
    | some (.lst ps) => some (i, .lst ps)
    | _ => none)
  | _ => none
/-- slot j's list is plain data from here on -/
def sFzl (j : Nat) (fs : FS) : FS := fun env h => match frzL j env h with
  | some q => fs (env.set j (some (.p q.2))) (h.set q.1 .dead)
  | none => fs env h
theorem gFzl {X : Cx} {cs : Tx} {st : Stmt} {fs : FS} (j : Nat) (gs : GS X cs st fs) : GS X cs st (sFzl j fs) := fun W tk => by
  refine PS.imp (gs W tk) fun D' σ H ⟨g, env, h, R, E, F⟩ => ?_
  unfold sFzl at F
  cases q : frzL j env h with
  | none =>
    rw [q] at F
    exact ⟨g, env, h, R, E, F⟩
  | some z =>
    rw [q] at F
    unfold frzL at q
    split at q
    · rename_i i ej
      obtain ⟨v, hv, rv⟩ := E.2 j _ ej
      cases rv with
      | loc hi =>
        split at q
        · rename_i ps eo
          cases q
          obtain ⟨xs, q1, q2⟩ := R.at_ _ _ eo
          obtain ⟨R2, S2⟩ := R.giveUpL eo q1
          have E2 := E.step S2
          refine ⟨_, env.set j (some (.p (.lst ps))), _, R2, ⟨by rw [List.length_set]; exact E2.1, fun m d hm => ?_⟩, EndS.shift S2 F⟩
          by_cases hmj : m = j
          · subst hmj
            have hl : m < env.length := (List.getElem?_eq_some_iff.mp ej).1
            rw [List.getElem?_set_self hl] at hm
            cases hm
            exact ⟨_, hv, .p (.lst (.new upd_same) (q2.mono S2.sub))⟩
          · rw [List.getElem?_set_ne (Ne.symm hmj)] at hm
            exact E2.2 m d hm
        · cases q
    · cases q
end Ar
namespace Ar
open PySem
/-! ### parts: whole numbers over whole numbers -/
def wShared1 : FS := (sPar 0 1 (aC (cV 1) (aC (cOp oMod (cV 0) (cV 1)) aN)))
def wShared2 : FT := (cT (cOp oNe (cV 1) (cK (.int 0))))
def fShared : Fn := cFn 2 ((sSeq (sWhile 20000 wShared2 wShared1)
  (sRet (cV 0))))
def fPart : Fn := cFn 4 ((sSeq (sIf (cT (cOp oEq (cV 1) (cK (.int 0)))) (sRaise 1) sNx)
  (sSeq (sSet 2 (cCallP 2 fShared (aC (cB bAbs (aC (cV 0) aN)) (aC (cB bAbs (aC (cV 1) aN)) aN))))
  (sSeq (sSet 3 (cIf (cT (cOp oGt (cV 1) (cK (.int 0)))) (cK (.int 1)) (cNeg (cK (.int 1)))))
  (sSeq (sSet 2 (cB bMax2 (aC (cV 2) (aC (cK (.int 1)) aN))))
  (sRet (cTup (aC (cOp oDiv (cOp oMul (cV 3) (cV 0)) (cV 2)) (aC (cOp oDiv (cB bAbs (aC (cV 1) aN)) (cV 2)) aN)))))))))
def fOrder : Fn := cFn 3 ((sSeq (sSet 2 (cOp oSub (cOp oMul (cIx (cV 0) (cK (.int 0))) (cIx (cV 1) (cK (.int 1)))) (cOp oMul (cIx (cV 1) (cK (.int 0))) (cIx (cV 0) (cK (.int 1))))))
  (sRet (cOp oSub (cB bInt (aC (cOp oGt (cV 2) (cK (.int 0))) aN)) (cB bInt (aC (cOp oLt (cV 2) (cK (.int 0))) aN))))))
def fTimes : Fn := cFn 2 ((sRet (cCallP 2 fPart (aC (cOp oMul (cIx (cV 0) (cK (.int 0))) (cIx (cV 1) (cK (.int 0)))) (aC (cOp oMul (cIx (cV 0) (cK (.int 1))) (cIx (cV 1) (cK (.int 1)))) aN)))))
def fLess : Fn := cFn 2 ((sRet (cCallP 2 fPart (aC (cOp oSub (cOp oMul (cIx (cV 0) (cK (.int 0))) (cIx (cV 1) (cK (.int 1)))) (cOp oMul (cIx (cV 1) (cK (.int 0))) (cIx (cV 0) (cK (.int 1))))) (aC (cOp oMul (cIx (cV 0) (cK (.int 1))) (cIx (cV 1) (cK (.int 1)))) aN)))))
def fOver : Fn := cFn 2 ((sRet (cCallP 2 fPart (aC (cOp oMul (cIx (cV 0) (cK (.int 0))) (cIx (cV 1) (cK (.int 1)))) (aC (cOp oMul (cIx (cV 0) (cK (.int 1))) (cIx (cV 1) (cK (.int 0)))) aN)))))
def fAdd : Fn := cFn 2 ((sRet (cCallP 2 fPart (aC (cOp oAdd (cOp oMul (cIx (cV 0) (cK (.int 0))) (cIx (cV 1) (cK (.int 1)))) (cOp oMul (cIx (cV 1) (cK (.int 0))) (cIx (cV 0) (cK (.int 1))))) (aC (cOp oMul (cIx (cV 0) (cK (.int 1))) (cIx (cV 1) (cK (.int 1)))) aN)))))
def fSize : Fn := cFn 1 ((sRet (cTup (aC (cB bAbs (aC (cIx (cV 0) (cK (.int 0))) aN)) (aC (cIx (cV 0) (cK (.int 1))) aN)))))

theorem isPlain_p (x : P) (r : List D) : isPlain (.p x :: r) = isPlain r := rfl
theorem isPlain_nil : isPlain [] = true := rfl
/-- a call with plain arguments, from its run with no places -/
theorem callP_of {F : Fn} {ds : List D} {r : R D} (h : Hs) (hp : isPlain ds = true) (e : F ds [] = r) : callP F ds h = pureEnd r h := by
  unfold callP; rw [if_pos hp, e]
theorem pureEnd_p (x : P) (h0 h : Hs) : pureEnd (.ok (.p x) h0) h = .ok (.p x) h := rfl
theorem pureEnd_ex (c : Nat) (fs : List (Str × P)) (h0 h : Hs) : pureEnd (.ex c fs h0) h = .ex c fs h := rfl

/-! shared -/
theorem shared_loop (h : Hs) : ∀ (k : Nat) (a b : Nat) (n : Nat), b < 2 ^ k → 2 * k + 2 ≤ n →
    whL wShared2 wShared1 n [some (.p (.int a)), some (.p (.int b))] h = .nx [some (.p (.int (Nat.gcd a b : Nat))), some (.p (.int 0))] h := by
  intro k
  induction k with
  | zero =>
    intro a b n hb hn
    have : b = 0 := by omega
    subst this
    obtain ⟨m, rfl⟩ : ∃ m, n = m + 1 := ⟨n - 1, by omega⟩
    simp [whL, wShared2, cT, cOp, cV, cK, R.bind, R.toS, ap2, oNe_int, toB]
  | succ k ih =>
    intro a b n hb hn
    by_cases b0 : b = 0
    · subst b0
      obtain ⟨m, rfl⟩ : ∃ m, n = m + 1 := ⟨n - 1, by omega⟩
      simp [whL, wShared2, cT, cOp, cV, cK, R.bind, R.toS, ap2, oNe_int, toB]
    · obtain ⟨m, rfl⟩ : ∃ m, n = m + 2 := ⟨n - 2, by omega⟩
      have bp : (0 : Int) < b := by omega
      have s1 : ∀ m, whL wShared2 wShared1 (m + 1) [some (.p (.int a)), some (.p (.int b))] h = whL wShared2 wShared1 m [some (.p (.int b)), some (.p (.int ((a % b : Nat) : Int)))] h := by
        intro m
        conv => lhs; unfold whL
        simp [wShared2, wShared1, sPar, cT, cOp, cV, cK, aC, aN, R.bind, R.toS, ap2, oNe_int, toB, b0, oMod_pos _ _ bp]
      rw [s1]
      by_cases c0 : a % b = 0
      · rw [c0]
        unfold whL
        have : Nat.gcd a b = b := by rw [Nat.gcd_comm, Nat.gcd_rec, c0]; simp
        simp [wShared2, cT, cOp, cV, cK, R.bind, R.toS, ap2, oNe_int, toB, this]
      · have bp : (0 : Int) < ((a % b : Nat) : Int) := by omega
        have s2 : whL wShared2 wShared1 (m + 1) [some (.p (.int b)), some (.p (.int ((a % b : Nat) : Int)))] h = whL wShared2 wShared1 m [some (.p (.int ((a % b : Nat) : Int))), some (.p (.int ((b % (a % b) : Nat) : Int)))] h := by
          conv => lhs; unfold whL
          have : ¬ (a : Int) % (b : Int) = 0 := by omega
          have k1 : oMod (.int b) (.int ((a : Int) % (b : Int))) = some (.int ((b : Int) % ((a : Int) % (b : Int)))) := oMod_pos _ _ (by omega)
          simp [wShared2, wShared1, sPar, cT, cOp, cV, cK, aC, aN, R.bind, R.toS, ap2, oNe_int, toB, this, k1]
        rw [s2]
        have lt : b % (a % b) < 2 ^ k := by
          have h1 : a % b < b := Nat.mod_lt _ (by omega)
          have h2 : b % (a % b) < a % b := Nat.mod_lt _ (by omega)
          have h3 := Nat.div_add_mod b (a % b)
          have h4 : 1 ≤ b / (a % b) := Nat.div_pos (by omega) (by omega)
          have h5 : (a % b) * 1 ≤ (a % b) * (b / (a % b)) := Nat.mul_le_mul_left _ h4
          rw [Nat.pow_succ] at hb
          omega
        rw [ih _ _ _ lt (by omega)]
        have : Nat.gcd (a % b) (b % (a % b)) = Nat.gcd a b := by
          rw [Nat.gcd_comm (a % b), ← Nat.gcd_rec, ← Nat.gcd_rec, Nat.gcd_comm]
        rw [this]
theorem shared_nat (a b : Nat) (hb : b < 2 ^ 8900) (h : Hs) : callP fShared [.p (.int a), .p (.int b)] h = .ok (.p (.int (Nat.gcd a b : Nat))) h := by
  refine callP_ok (h0 := []) h rfl ?_
  have e := shared_loop [] 8900 a b 20000 hb (by decide)
  simp [fShared, cFn, sSeq, sWhile, e, sRet, cV, R.toS]
theorem shared_ok (a b : Int) (ha : 0 ≤ a) (hb : 0 ≤ b) (hb2 : b.natAbs < 2 ^ 8900) (h : Hs) : callP fShared [.p (.int a), .p (.int b)] h = .ok (.p (.int (Int.gcd a b : Nat))) h := by
  have e := shared_nat a.natAbs b.natAbs hb2 h
  rw [show ((a.natAbs : Nat) : Int) = a by omega, show ((b.natAbs : Nat) : Int) = b by omega] at e
  exact e
/-! part -/
def pr (q : Rat) : P := .tup [.int q.num, .int q.den]
theorem okMul_of {a b : Int} {n m : Nat} (ha : a.natAbs < 2 ^ n) (hb : b.natAbs < 2 ^ m) (h : n + m ≤ 8900) : okMul a b = true := by
  unfold okMul
  rw [Bool.or_eq_true, Bool.or_eq_true]
  refine .inl (.inl (decide_eq_true ?_))
  have l1 : a.natAbs.log2 ≤ n := by
    by_cases z : a.natAbs = 0
    · rw [z]; simp
    · exact Nat.le_of_lt ((Nat.log2_lt z).mpr ha)
  have l2 : b.natAbs.log2 ≤ m := by
    by_cases z : b.natAbs = 0
    · rw [z]; simp
    · exact Nat.le_of_lt ((Nat.log2_lt z).mpr hb)
  omega
theorem oMul_of {a b : Int} {n m : Nat} (ha : a.natAbs < 2 ^ n) (hb : b.natAbs < 2 ^ m) (h : n + m ≤ 8900) : oMul (.int a) (.int b) = some (.int (a * b)) := by
  simp only [oMul, okMul_of ha hb h, if_pos]
theorem oDiv_of {a b : Int} (h0 : 0 < b) (hb : b.natAbs < 2 ^ 8901) : oDiv (.int a) (.int b) = some (.int (a / b)) := by
  simp only [oDiv]
  rw [if_pos h0, if_pos]
  unfold okDiv
  refine decide_eq_true ?_
  have := (Nat.log2_lt (n := b.natAbs) (by omega)).mpr hb
  omega
theorem part_no (a : Int) (h : Hs) : callP fPart [.p (.int a), .p (.int 0)] h = .ex 1 [] h := by
  rw [callP_of (r := .ex 1 [] []) h rfl, pureEnd_ex]
  simp [fPart, cFn, sSeq, sIf, cT, cOp, cV, cK, R.bind, R.toS, ap2, oEq_int, toB, sRaise]
theorem part_ok (a b : Int) (hb : b ≠ 0) (hb2 : b.natAbs < 2 ^ 8900) (h : Hs) : callP fPart [.p (.int a), .p (.int b)] h = .ok (.p (pr ((a : Rat) / b))) h := by
  refine callP_ok (h0 := []) h rfl ?_
  have habs : ∀ x : Int, (if x < 0 then -x else x) = (x.natAbs : Int) := fun x => by split <;> omega
  have gpos : 0 < Int.gcd a b := Nat.pos_of_ne_zero fun z => hb (by
    have := Int.eq_zero_of_gcd_eq_zero_right z; exact this)
  have gle : Int.gcd a b ≤ b.natAbs := Nat.le_of_dvd (by omega) (Int.gcd_dvd_natAbs_right a b)
  have e1 : callP fShared [.p (.int (a.natAbs : Int)), .p (.int (b.natAbs : Int))] [] = .ok (.p (.int (Int.gcd a b : Nat))) [] := by
    have := shared_nat a.natAbs b.natAbs hb2 []
    exact this
  have mx : (if (1 : Int) > (Int.gcd a b : Nat) then (1 : Int) else (Int.gcd a b : Nat)) = (Int.gcd a b : Nat) := by rw [if_neg (by omega)]
  have k1 : ∀ x : Int, oDiv (.int x) (.int (Int.gcd a b : Nat)) = some (.int (x / (Int.gcd a b : Nat))) := fun x => oDiv_of (by omega) (by
    have : ((Int.gcd a b : Nat) : Int).natAbs = Int.gcd a b := by omega
    rw [this]
    exact Nat.lt_of_le_of_lt gle (Nat.lt_of_lt_of_le hb2 (Nat.pow_le_pow_right (by decide) (by decide))))
  have nn : ((a : Rat) / b).num = b.sign * a / (Int.gcd a b : Nat) := by rw [← Rat.divInt_eq_div, Rat.num_divInt, Int.gcd_comm]
  have dd : (((a : Rat) / b).den : Int) = (b.natAbs : Int) / (Int.gcd a b : Nat) := by
    rw [← Rat.divInt_eq_div, Rat.den_divInt, if_neg hb, Int.gcd_comm]; simp
  unfold pr
  rw [nn, dd]
  by_cases bp : 0 < b
  · have sg : b.sign = 1 := Int.sign_eq_one_of_pos bp
    have k2 : oMul (.int 1) (.int a) = some (.int (1 * a)) := oMul_smallL _ _ (by decide)
    simp [fPart, cFn, sSeq, sIf, cT, cOp, cV, cK, R.bind, R.toS, ap2, oEq_int, toB, hb, sNx, sSet, cCallP, aC, aN, cB, bAbs, habs, arity, e1, cIf, oGt, bp, bMax2, mx, sRet, cTup, k1, k2, mkTup, Ar.plain, sg]
  · have sg : b.sign = -1 := Int.sign_eq_neg_one_of_neg (by omega)
    have k2 : oMul (.int (-1)) (.int a) = some (.int (-1 * a)) := oMul_smallL _ _ (by decide)
    simp [fPart, cFn, sSeq, sIf, cT, cOp, cV, cK, R.bind, R.toS, ap2, oEq_int, toB, hb, sNx, sSet, cCallP, aC, aN, cB, bAbs, habs, arity, e1, cIf, oGt, bp, cNeg, bMax2, mx, sRet, cTup, k1, k2, mkTup, Ar.plain, sg]
end Ar
namespace Ar
open PySem
/-! ### bounds that Lean finds by itself -/
class BdZ (a : Int) (n : outParam Nat) : Prop where
  lt : a.natAbs < 2 ^ n
class BdQ (q : Rat) (n : outParam Nat) : Prop where
  num : q.num.natAbs < 2 ^ n
  den : q.den < 2 ^ n
class BdP (x : P) (n : outParam Nat) : Prop where
  eq : ∃ a b : Int, x = .tup [.int a, .int b] ∧ a.natAbs < 2 ^ n ∧ b.natAbs < 2 ^ n ∧ 0 < b
def toQ : P → Rat
  | .tup [.int a, .int b] => (a : Rat) / b
  | _ => 0
@[simp] theorem toQ_pr (q : Rat) : toQ (pr q) = q := by
  show ((q.num : Rat) / ((q.den : Int) : Rat)) = q
  rw [← Rat.divInt_eq_div, Rat.num_divInt_den]
theorem toQ_tup (a b : Int) : toQ (.tup [.int a, .int b]) = (a : Rat) / b := rfl
theorem pow_le {n m : Nat} (h : n ≤ m) : 2 ^ n ≤ 2 ^ m := Nat.pow_le_pow_right (by decide) h
theorem lt_pow_mono {x n m : Nat} (h : x < 2 ^ n) (k : n ≤ m) : x < 2 ^ m := Nat.lt_of_lt_of_le h (pow_le k)
instance instBdPpr {q : Rat} {n : Nat} [h : BdQ q n] : BdP (pr q) n := ⟨⟨q.num, q.den, rfl, h.num, by simpa using h.den, by have := q.den_pos; omega⟩⟩
def bits (k : Nat) : Nat := if k < 4 then 2 else if k < 16 then 4 else if k < 256 then 8 else if k < 65536 then 16 else k.log2 + 1
theorem bits_lt (k : Nat) : k < 2 ^ bits k := by
  unfold bits
  split
  · omega
  · split
    · omega
    · split
      · omega
      · split
        · omega
        · exact (Nat.log2_lt (by omega)).mp (Nat.lt_succ_self _)
instance instBdZlit (k : Nat) : BdZ (no_index (OfNat.ofNat k : Int)) (bits k) := ⟨bits_lt k⟩
theorem BdZ.mono {a : Int} {n m : Nat} (h : BdZ a n) (l : n ≤ m) : BdZ a m := ⟨Nat.lt_of_lt_of_le h.lt (Nat.pow_le_pow_right (by decide) l)⟩
theorem BdQ.mono {a : Rat} {n m : Nat} (h : BdQ a n) (l : n ≤ m) : BdQ a m := ⟨Nat.lt_of_lt_of_le h.num (Nat.pow_le_pow_right (by decide) l), Nat.lt_of_lt_of_le h.den (Nat.pow_le_pow_right (by decide) l)⟩
theorem mul_lt_pow {x y n m : Nat} (hx : x < 2 ^ n) (hy : y < 2 ^ m) : x * y < 2 ^ (n + m) := by
  rw [Nat.pow_add]
  exact Nat.mul_lt_mul'' hx hy
instance instBdZneg {a : Int} {n : Nat} [h : BdZ a n] : BdZ (-a) n := ⟨by simpa using h.lt⟩
instance instBdZmul {a b : Int} {n m : Nat} [h : BdZ a n] [k : BdZ b m] : BdZ (a * b) (n + m) := ⟨by rw [Int.natAbs_mul]; exact mul_lt_pow h.lt k.lt⟩
theorem add_lt_pow {x y z n m : Nat} (hz : z ≤ x + y) (hx : x < 2 ^ n) (hy : y < 2 ^ m) : z < 2 ^ (n + m + 1) := by
  have h1 := pow_le (n := n) (m := n + m) (by omega)
  have h2 := pow_le (n := m) (m := n + m) (by omega)
  rw [Nat.pow_succ]
  omega
instance instBdZadd {a b : Int} {n m : Nat} [h : BdZ a n] [k : BdZ b m] : BdZ (a + b) (n + m + 1) := ⟨add_lt_pow (by omega) h.lt k.lt⟩
instance instBdZsub {a b : Int} {n m : Nat} [h : BdZ a n] [k : BdZ b m] : BdZ (a - b) (n + m + 1) := ⟨add_lt_pow (by omega) h.lt k.lt⟩
instance instBdZnum {q : Rat} {n : Nat} [h : BdQ q n] : BdZ q.num n := ⟨h.num⟩
instance instBdZden {q : Rat} {n : Nat} [h : BdQ q n] : BdZ (q.den : Int) n := ⟨by simpa using h.den⟩
class PZ (a : Int) : Prop where
  pos : 0 < a
instance instPZlit (k : Nat) [h : NeZero k] : PZ (no_index (OfNat.ofNat k : Int)) := ⟨by
  have := h.ne
  exact Int.ofNat_lt.mpr (Nat.pos_of_ne_zero this)⟩
instance instPZden {q : Rat} : PZ (q.den : Int) := ⟨by have := q.den_pos; omega⟩
instance instPZmul {a b : Int} [h : PZ a] [k : PZ b] : PZ (a * b) := ⟨Int.mul_pos h.pos k.pos⟩
instance instBdPtup {a b : Int} {n m : Nat} [h : BdZ a n] [k : BdZ b m] [z : PZ b] : BdP (.tup [.int a, .int b]) (n + m) := ⟨⟨a, b, rfl, lt_pow_mono h.lt (by omega), lt_pow_mono k.lt (by omega), z.pos⟩⟩
/-! rationals -/
theorem bdQ_div {a b : Int} {n : Nat} (z : b ≠ 0) (hn : a.natAbs < 2 ^ n) (hb : b.natAbs < 2 ^ n) : BdQ ((a : Rat) / (b : Rat)) n := by
  rw [← Rat.divInt_eq_div]
  refine ⟨?_, ?_⟩
  · rw [Rat.num_divInt]
    have h1 : (b.sign * a / ((Int.gcd b a : Nat) : Int)).natAbs ≤ a.natAbs := by
      have d : ((Int.gcd b a : Nat) : Int) ∣ b.sign * a := Int.dvd_mul_of_dvd_right (Int.gcd_dvd_right ..)
      have e : (b.sign * a / ((Int.gcd b a : Nat) : Int)).natAbs = (b.sign * a).natAbs / Int.gcd b a := by
        rw [Int.natAbs_ediv_of_dvd d]; simp
      rw [e]
      refine Nat.le_trans (Nat.div_le_self _ _) ?_
      rw [Int.natAbs_mul, Int.natAbs_sign_of_ne_zero z, Nat.one_mul]
      exact Nat.le_refl _
    exact Nat.lt_of_le_of_lt h1 hn
  · rw [Rat.den_divInt, if_neg z]
    exact Nat.lt_of_le_of_lt (Nat.div_le_self _ _) hb
theorem as_div (q : Rat) : q = (q.num : Rat) / ((q.den : Int) : Rat) := by rw [← Rat.divInt_eq_div, Rat.num_divInt_den]
theorem den_ne (q : Rat) : ((q.den : Int) : Rat) ≠ 0 := by
  intro z
  have := congrArg Rat.num z
  simp at this
  exact q.den_nz this
instance instBdQadd {p q : Rat} {n m : Nat} [h : BdQ p n] [k : BdQ q m] : BdQ (p + q) (n + m + 1) := by
  have e : p + q = ((p.num * q.den + q.num * p.den : Int) : Rat) / ((p.den * q.den : Int) : Rat) := by
    have h1 := as_div p
    have h2 := as_div q
    have d1 := den_ne p
    have d2 := den_ne q
    rw [Rat.intCast_add, Rat.intCast_mul, Rat.intCast_mul, Rat.intCast_mul]
    generalize hpn : (p.num : Rat) = pn at *
    generalize hpd : ((p.den : Int) : Rat) = pd at *
    generalize hqn : (q.num : Rat) = qn at *
    generalize hqd : ((q.den : Int) : Rat) = qd at *
    rw [h1, h2]
    grind
  rw [e]
  have nz : (p.den : Int) * q.den ≠ 0 := Int.mul_ne_zero (by simpa using p.den_nz) (by simpa using q.den_nz)
  refine bdQ_div nz ?_ ?_
  · have h1 : (p.num * (q.den : Int)).natAbs < 2 ^ (n + m) := by rw [Int.natAbs_mul]; exact mul_lt_pow h.num (by simpa using k.den)
    have h2 : (q.num * (p.den : Int)).natAbs < 2 ^ (n + m) := by rw [Int.natAbs_mul, Nat.add_comm]; exact mul_lt_pow k.num (by simpa using h.den)
    rw [Nat.pow_succ]
    omega
  · rw [Int.natAbs_mul]; exact lt_pow_mono (mul_lt_pow (by simpa using h.den) (by simpa using k.den)) (by omega)
instance instBdQneg {p : Rat} {n : Nat} [h : BdQ p n] : BdQ (-p) n := ⟨by simpa using h.num, by simpa using h.den⟩
instance instBdQsub {p q : Rat} {n m : Nat} [h : BdQ p n] [k : BdQ q m] : BdQ (p - q) (n + m + 1) := by
  rw [Rat.sub_eq_add_neg]; infer_instance
instance instBdQmul {p q : Rat} {n m : Nat} [h : BdQ p n] [k : BdQ q m] : BdQ (p * q) (n + m) := by
  have e : p * q = ((p.num * q.num : Int) : Rat) / ((p.den * q.den : Int) : Rat) := by
    have h1 := as_div p
    have h2 := as_div q
    have d1 := den_ne p
    have d2 := den_ne q
    rw [Rat.intCast_mul, Rat.intCast_mul]
    generalize hpn : (p.num : Rat) = pn at *
    generalize hpd : ((p.den : Int) : Rat) = pd at *
    generalize hqn : (q.num : Rat) = qn at *
    generalize hqd : ((q.den : Int) : Rat) = qd at *
    rw [h1, h2]
    grind
  rw [e]
  have nz : (p.den : Int) * q.den ≠ 0 := Int.mul_ne_zero (by simpa using p.den_nz) (by simpa using q.den_nz)
  exact bdQ_div nz (by rw [Int.natAbs_mul]; exact mul_lt_pow h.num k.num) (by rw [Int.natAbs_mul]; exact mul_lt_pow (by simpa using h.den) (by simpa using k.den))
instance instBdQinv {p : Rat} {n : Nat} [h : BdQ p n] : BdQ p⁻¹ (n + 1) := by
  have p1 : 1 < 2 ^ (n + 1) := by
    have := Nat.two_pow_pos n
    rw [Nat.pow_succ]; omega
  have h1 := lt_pow_mono (m := n + 1) h.num (by omega)
  have h2 := lt_pow_mono (m := n + 1) h.den (by omega)
  refine ⟨?_, ?_⟩
  · rw [Rat.num_inv, Int.natAbs_mul]
    have : p.num.sign.natAbs ≤ 1 := by
      by_cases z : p.num = 0
      · rw [z]; simp
      · rw [Int.natAbs_sign_of_ne_zero z]; exact Nat.le_refl _
    refine Nat.lt_of_le_of_lt (Nat.mul_le_mul_right _ this) ?_
    simpa using h2
  · rw [Rat.den_inv]
    split
    · exact p1
    · exact h1
instance instBdQdiv {p q : Rat} {n m : Nat} [h : BdQ p n] [k : BdQ q m] : BdQ (p / q) (n + m + 1) := by
  rw [Rat.div_def]
  have : BdQ (p * q⁻¹) (n + (m + 1)) := inferInstance
  exact this
instance instBdQint {a : Int} {n : Nat} [h : BdZ a n] : BdQ (a : Rat) (n + 1) := ⟨by rw [Rat.num_intCast]; exact lt_pow_mono h.lt (by omega), by
  rw [Rat.den_intCast]
  have := Nat.two_pow_pos n
  rw [Nat.pow_succ]; omega⟩
instance instBdQlit (k : Nat) : BdQ (no_index (OfNat.ofNat k : Rat)) (bits k + 1) := by
  have : BdQ (((OfNat.ofNat k : Int)) : Rat) (bits k + 1) := inferInstance
  exact this

/-! ### the defs -/
theorem bdZ_of {v m : Int} {n : Nat} (h0 : 0 ≤ v) (h1 : v < m) (h2 : m.natAbs ≤ 2 ^ n) : BdZ v n := ⟨by omega⟩
theorem oMul_bd {a b : Int} {n m : Nat} [h : BdZ a n] [k : BdZ b m] (l : n + m ≤ 8900) : oMul (.int a) (.int b) = some (.int (a * b)) := oMul_of h.lt k.lt l
theorem BdP.elim {x : P} {n : Nat} (h : BdP x n) : ∃ a b : Int, x = .tup [.int a, .int b] ∧ BdZ a n ∧ BdZ b n ∧ 0 < b := by
  obtain ⟨a, b, e, h1, h2, h3⟩ := h.eq
  exact ⟨a, b, e, ⟨h1⟩, ⟨h2⟩, h3⟩
theorem cast_ne {b : Int} (h : b ≠ 0) : (b : Rat) ≠ 0 := by
  intro z
  have := congrArg Rat.num z
  simp at this
  exact h this
section
variable (x y : P) {n m : Nat} [hx : BdP x n] [hy : BdP y m] (hs : Hs)
theorem add_ok (l : n + m ≤ 8899) : callP fAdd [.p x, .p y] hs = .ok (.p (pr (toQ x + toQ y))) hs := by
  obtain ⟨a, b, rfl, ha, hb, pb⟩ := hx.elim
  obtain ⟨c, d, rfl, hc, hd, pd⟩ := hy.elim
  refine callP_ok (h0 := []) hs rfl ?_
  have k1 := oMul_bd (a := a) (b := d) (by omega)
  have k2 := oMul_bd (a := c) (b := b) (by omega)
  have k3 := oMul_bd (a := b) (b := d) (by omega)
  have bd : (b * d).natAbs < 2 ^ 8900 := lt_pow_mono (instBdZmul (a := b) (b := d)).lt (by omega)
  have nz : b * d ≠ 0 := Int.mul_ne_zero (by omega) (by omega)
  have k4 := part_ok (a * d + c * b) (b * d) nz bd []
  have e : ((a * d + c * b : Int) : Rat) / ((b * d : Int) : Rat) = toQ (.tup [.int a, .int b]) + toQ (.tup [.int c, .int d]) := by
    have := cast_ne (b := b) (by omega)
    have := cast_ne (b := d) (by omega)
    rw [toQ_tup, toQ_tup, Rat.intCast_add, Rat.intCast_mul, Rat.intCast_mul, Rat.intCast_mul]
    grind
  rw [e] at k4
  simp [fAdd, cFn, sRet, cCallP, aC, aN, cOp, cIx, cV, cK, R.bind, R.toS, ixD, ixP, atZ, ap2, k1, k2, k3, oAdd, arity, k4]
theorem less_ok (l : n + m ≤ 8899) : callP fLess [.p x, .p y] hs = .ok (.p (pr (toQ x - toQ y))) hs := by
  obtain ⟨a, b, rfl, ha, hb, pb⟩ := hx.elim
  obtain ⟨c, d, rfl, hc, hd, pd⟩ := hy.elim
  refine callP_ok (h0 := []) hs rfl ?_
  have k1 := oMul_bd (a := a) (b := d) (by omega)
  have k2 := oMul_bd (a := c) (b := b) (by omega)
  have k3 := oMul_bd (a := b) (b := d) (by omega)
  have bd : (b * d).natAbs < 2 ^ 8900 := lt_pow_mono (instBdZmul (a := b) (b := d)).lt (by omega)
  have nz : b * d ≠ 0 := Int.mul_ne_zero (by omega) (by omega)
  have k4 := part_ok (a * d - c * b) (b * d) nz bd []
  have e : ((a * d - c * b : Int) : Rat) / ((b * d : Int) : Rat) = toQ (.tup [.int a, .int b]) - toQ (.tup [.int c, .int d]) := by
    have := cast_ne (b := b) (by omega)
    have := cast_ne (b := d) (by omega)
    rw [toQ_tup, toQ_tup, Rat.intCast_sub, Rat.intCast_mul, Rat.intCast_mul, Rat.intCast_mul]
    grind
  rw [e] at k4
  simp [fLess, cFn, sRet, cCallP, aC, aN, cOp, cIx, cV, cK, R.bind, R.toS, ixD, ixP, atZ, ap2, k1, k2, k3, oSub, arity, k4]
theorem times_ok (l : n + m ≤ 8899) : callP fTimes [.p x, .p y] hs = .ok (.p (pr (toQ x * toQ y))) hs := by
  obtain ⟨a, b, rfl, ha, hb, pb⟩ := hx.elim
  obtain ⟨c, d, rfl, hc, hd, pd⟩ := hy.elim
  refine callP_ok (h0 := []) hs rfl ?_
  have k1 := oMul_bd (a := a) (b := c) (by omega)
  have k3 := oMul_bd (a := b) (b := d) (by omega)
  have bd : (b * d).natAbs < 2 ^ 8900 := lt_pow_mono (instBdZmul (a := b) (b := d)).lt (by omega)
  have nz : b * d ≠ 0 := Int.mul_ne_zero (by omega) (by omega)
  have k4 := part_ok (a * c) (b * d) nz bd []
  have e : ((a * c : Int) : Rat) / ((b * d : Int) : Rat) = toQ (.tup [.int a, .int b]) * toQ (.tup [.int c, .int d]) := by
    have := cast_ne (b := b) (by omega)
    have := cast_ne (b := d) (by omega)
    rw [toQ_tup, toQ_tup, Rat.intCast_mul, Rat.intCast_mul]
    grind
  rw [e] at k4
  simp [fTimes, cFn, sRet, cCallP, aC, aN, cOp, cIx, cV, cK, R.bind, R.toS, ixD, ixP, atZ, ap2, k1, k3, arity, k4]
theorem over_ok (l : n + m ≤ 8899) (h0 : toQ y ≠ 0) : callP fOver [.p x, .p y] hs = .ok (.p (pr (toQ x / toQ y))) hs := by
  obtain ⟨a, b, rfl, ha, hb, pb⟩ := hx.elim
  obtain ⟨c, d, rfl, hc, hd, pd⟩ := hy.elim
  refine callP_ok (h0 := []) hs rfl ?_
  have k1 := oMul_bd (a := a) (b := d) (by omega)
  have k3 := oMul_bd (a := b) (b := c) (by omega)
  have c0 : c ≠ 0 := fun z => h0 (by rw [toQ_tup, z, Rat.intCast_zero, Rat.div_def, Rat.zero_mul])
  have bd : (b * c).natAbs < 2 ^ 8900 := lt_pow_mono (instBdZmul (a := b) (b := c)).lt (by omega)
  have nz : b * c ≠ 0 := Int.mul_ne_zero (by omega) c0
  have k4 := part_ok (a * d) (b * c) nz bd []
  have e : ((a * d : Int) : Rat) / ((b * c : Int) : Rat) = toQ (.tup [.int a, .int b]) / toQ (.tup [.int c, .int d]) := by
    have := cast_ne (b := b) (by omega)
    have := cast_ne (b := d) (by omega)
    have := cast_ne c0
    rw [toQ_tup, toQ_tup, Rat.intCast_mul, Rat.intCast_mul]
    grind
  rw [e] at k4
  simp [fOver, cFn, sRet, cCallP, aC, aN, cOp, cIx, cV, cK, R.bind, R.toS, ixD, ixP, atZ, ap2, k1, k3, arity, k4]
def ordZ (a b : Rat) : Int := (if b < a then 1 else 0) - (if a < b then 1 else 0)
theorem order_ok (l : n + m ≤ 8899) : callP fOrder [.p x, .p y] hs = .ok (.p (.int (ordZ (toQ x) (toQ y)))) hs := by
  obtain ⟨a, b, rfl, ha, hb, pb⟩ := hx.elim
  obtain ⟨c, d, rfl, hc, hd, pd⟩ := hy.elim
  refine callP_ok (h0 := []) hs rfl ?_
  have k1 := oMul_bd (a := a) (b := d) (by omega)
  have k2 := oMul_bd (a := c) (b := b) (by omega)
  have bp : (0 : Rat) < b := Rat.intCast_pos.mpr pb
  have dp : (0 : Rat) < d := Rat.intCast_pos.mpr pd
  have key : ∀ a b c d : Int, (0 : Rat) < b → (0 : Rat) < d → ((a : Rat) / b < (c : Rat) / d ↔ a * d < c * b) := fun a b c d bp dp => by
    rw [Rat.div_lt_iff bp, Rat.div_def, Rat.mul_assoc, Rat.mul_comm (d : Rat)⁻¹, ← Rat.mul_assoc, ← Rat.div_def, Rat.lt_div_iff dp, ← Rat.intCast_mul, ← Rat.intCast_mul, Rat.intCast_lt_intCast]
  have e1 := key a b c d bp dp
  have e2 := key c d a b dp bp
  unfold ordZ
  rw [toQ_tup, toQ_tup]
  by_cases h1 : a * d < c * b
  · have h2 : ¬ c * b < a * d := by omega
    have g1 : ¬ 0 < a * d - c * b := by omega
    have g2 : a * d - c * b < 0 := by omega
    simp [fOrder, cFn, sSeq, sSet, sRet, aC, aN, cOp, cIx, cV, cK, R.bind, R.toS, ixD, ixP, atZ, ap2, k1, k2, oSub, oGt, oLt, cB, bInt, h1, h2, e1, e2, g1, g2]
  · by_cases h2 : c * b < a * d
    · have g1 : 0 < a * d - c * b := by omega
      have g2 : ¬ a * d - c * b < 0 := by omega
      simp [fOrder, cFn, sSeq, sSet, sRet, aC, aN, cOp, cIx, cV, cK, R.bind, R.toS, ixD, ixP, atZ, ap2, k1, k2, oSub, oGt, oLt, cB, bInt, h1, h2, e1, e2, g1, g2]
    · have g1 : ¬ 0 < a * d - c * b := by omega
      have g2 : ¬ a * d - c * b < 0 := by omega
      simp [fOrder, cFn, sSeq, sSet, sRet, aC, aN, cOp, cIx, cV, cK, R.bind, R.toS, ixD, ixP, atZ, ap2, k1, k2, oSub, oGt, oLt, cB, bInt, h1, h2, e1, e2, g1, g2]
end
theorem size_ok (q : Rat) (hs : Hs) : callP fSize [.p (pr q)] hs = .ok (.p (pr (if q < 0 then -q else q))) hs := by
  refine callP_ok (h0 := []) hs rfl ?_
  have hq : q < 0 ↔ q.num < 0 := by
    have := @Rat.num_nonneg q
    rw [← Rat.not_le, ← this]
    exact Int.not_le
  by_cases h : q.num < 0
  · have e : ((q.num.natAbs : Nat) : Int) = -q.num := by omega
    simp [fSize, cFn, sRet, cTup, aC, aN, cB, bAbs, cIx, cV, cK, R.bind, R.toS, ixD, ixP, atZ, pr, h, hq, mkTup, Ar.plain, e]
  · have e : ((q.num.natAbs : Nat) : Int) = q.num := by omega
    simp [fSize, cFn, sRet, cTup, aC, aN, cB, bAbs, cIx, cV, cK, R.bind, R.toS, ixD, ixP, atZ, pr, h, hq, mkTup, Ar.plain, e]
/-! == of parts -/
theorem eqP_pr (a b : Rat) : eqP (pr a) (pr b) = decide (a = b) := by
  have : (a.num = b.num ∧ a.den = b.den) ↔ a = b := ⟨fun ⟨h1, h2⟩ => Rat.ext h1 h2, fun h => by subst h; exact ⟨rfl, rfl⟩⟩
  by_cases h : a = b
  · subst h; simp [pr, eqP, eqPs]
  · rw [decide_eq_false h]
    simp [pr, eqP, eqPs]
    intro h1 h2
    exact h (this.mp ⟨h1, by omega⟩)
theorem oEq_pr (a b : Rat) : oEq (pr a) (pr b) = some (.bl (decide (a = b))) := by
  unfold oEq
  rw [if_pos (by rfl), eqP_pr]
theorem oNe_pr (a b : Rat) : oNe (pr a) (pr b) = some (.bl (!decide (a = b))) := by
  unfold oNe
  rw [if_pos (by rfl), eqP_pr]
theorem pr_lit {q : Rat} {a b : Int} (h1 : q.num = a) (h2 : (q.den : Int) = b) : (.tup [.int a, .int b] : P) = pr q := by subst h1 h2; rfl
theorem pr_int (a : Int) : (.tup [.int a, .int 1] : P) = pr (a : Rat) := by unfold pr; rw [Rat.num_intCast, Rat.den_intCast]; rfl
theorem pr_nat (k : Nat) : (.tup [.int (OfNat.ofNat k), .int 1] : P) = pr (OfNat.ofNat k : Rat) := rfl
end Ar
namespace Ar
open PySem
/-! ### rolls told by functions -/
theorem roll_ex (h : Hs) (i : Nat) (m : Int) : ∃ z : Int × O, (Dice h i → 0 < m → m < 2 ^ 90 → 0 ≤ z.1 ∧ z.1 < m ∧ Dice (h.set i z.2) i ∧ fRoll [.loc i, .p (.int m)] h = .ok (.p (.int z.1)) (h.set i z.2)) := by
  by_cases d : Dice h i
  · by_cases m0 : 0 < m
    · by_cases m1 : m < 2 ^ 90
      · obtain ⟨v, o, a⟩ := roll_ok d m0 m1
        exact ⟨(v, o), fun _ _ _ => a⟩
      · exact ⟨(0, .dead), fun _ _ z => absurd z m1⟩
    · exact ⟨(0, .dead), fun _ z => absurd z m0⟩
  · exact ⟨(0, .dead), fun z => absurd z d⟩
noncomputable def rv (h : Hs) (i : Nat) (m : Int) : Int := (roll_ex h i m).choose.1
noncomputable def rh (h : Hs) (i : Nat) (m : Int) : Hs := h.set i (roll_ex h i m).choose.2
section
variable {h : Hs} {i : Nat} {m : Int}
theorem roll_eq (d : Dice h i) (m0 : 0 < m) (m1 : m < 2 ^ 90) : fRoll [.loc i, .p (.int m)] h = .ok (.p (.int (rv h i m))) (rh h i m) := ((roll_ex h i m).choose_spec d m0 m1).2.2.2
theorem rv_lo (d : Dice h i) (m0 : 0 < m) (m1 : m < 2 ^ 90) : 0 ≤ rv h i m := ((roll_ex h i m).choose_spec d m0 m1).1
theorem rv_hi (d : Dice h i) (m0 : 0 < m) (m1 : m < 2 ^ 90) : rv h i m < m := ((roll_ex h i m).choose_spec d m0 m1).2.1
theorem rh_dice (d : Dice h i) (m0 : 0 < m) (m1 : m < 2 ^ 90) : Dice (rh h i m) i := ((roll_ex h i m).choose_spec d m0 m1).2.2.1
theorem rh_same : Same i h (rh h i m) := Same.set i h _
theorem rh_len : (rh h i m).length = h.length := List.length_set
theorem rh_ne {j : Nat} (hj : j ≠ i) : (rh h i m)[j]? = h[j]? := List.getElem?_set_ne (Ne.symm hj)
end
theorem Dice.app {h : Hs} {i : Nat} (d : Dice h i) (o : List O) : Dice (h ++ o) i := by
  obtain ⟨a, b, c, q⟩ := d
  exact ⟨a, b, c, by rw [List.getElem?_append_left (List.getElem?_eq_some_iff.mp q).1]; exact q⟩
theorem Dice.setNe {h : Hs} {i j : Nat} (d : Dice h i) (o : O) (hj : j ≠ i) : Dice (h.set j o) i := by
  obtain ⟨a, b, c, q⟩ := d
  exact ⟨a, b, c, by rw [List.getElem?_set_ne hj]; exact q⟩
theorem Same.app {i : Nat} {h h1 : Hs} (s : Same i h h1) (o : List O) : Same i h (h1 ++ o) := s.trans ⟨by simp, fun j hj _ => by rw [List.getElem?_append_left hj]⟩
theorem Same.setTop {i j : Nat} {h h1 : Hs} (s : Same i h h1) (o : O) (hj : h.length ≤ j) : Same i h (h1.set j o) := ⟨by simpa using s.1, fun k hk hi => by rw [List.getElem?_set_ne (by omega)]; exact s.2 k hk hi⟩
/-! ### ends of statements, of calls -/
def EndN (P : Env → Hs → Prop) (r : S) : Prop := ∃ e h, r = .nx e h ∧ P e h
theorem endN_nx {P : Env → Hs → Prop} {e : Env} {h : Hs} (p : P e h) : EndN P (.nx e h) := ⟨e, h, rfl, p⟩
def EndT (P : D → Hs → Prop) (r : R D) : Prop := ∃ d h, r = .ok d h ∧ P d h
theorem endT_ok {P : D → Hs → Prop} {d : D} {h : Hs} (p : P d h) : EndT P (.ok d h) := ⟨d, h, rfl, p⟩
theorem sSeq_of {f k : FS} {e e' : Env} {h h' : Hs} (q : f e h = .nx e' h') : sSeq f k e h = k e' h' := by unfold sSeq; rw [q]
/-! ### loops -/
theorem forL_ind {ft : FG} {fb : FS} {inv : Hs → Bool} {items : List D} (I : Nat → Env → Hs → Prop)
    (step : ∀ k d e h, items[k]? = some d → I k e h → inv h = true ∧ ∃ e1 h1 e2 h2, ft d e h = .ok e1 h1 ∧ fb e1 h1 = .nx e2 h2 ∧ I (k + 1) e2 h2)
    (last : ∀ e h, I items.length e h → inv h = true) {env : Env} {h : Hs} (h0 : I 0 env h) : ∃ e' h', forL ft fb inv items env h = .nx e' h' ∧ I items.length e' h' := by
  have key : ∀ (n k : Nat) (e : Env) (h : Hs), n = items.length - k → k ≤ items.length → I k e h → ∃ e' h', forL ft fb inv (items.drop k) e h = .nx e' h' ∧ I items.length e' h' := by
    intro n
    induction n with
    | zero =>
      intro k e h hn hk hi
      have : k = items.length := by omega
      subst this
      rw [List.drop_length]
      unfold forL
      rw [last e h hi]
      exact ⟨e, h, rfl, hi⟩
    | succ n ih =>
      intro k e h hn hk hi
      have lt : k < items.length := by omega
      rw [List.drop_eq_getElem_cons lt]
      obtain ⟨iv, e1, h1, e2, h2, q1, q2, i2⟩ := step k _ e h (List.getElem?_eq_getElem lt) hi
      obtain ⟨e', h', q3, i3⟩ := ih (k + 1) e2 h2 (by omega) lt i2
      refine ⟨e', h', ?_, i3⟩
      conv => lhs; unfold forL
      simp only [iv, if_pos, q1, q2, q3]
  have := key items.length 0 env h rfl (Nat.zero_le _) h0
  simpa using this
theorem lcL_fm {t : Tg} {ft : FT} {fe : FE} {inv : Hs → Bool} {h : Hs} {env : Env} (iv : inv h = true) (g : D → Option D) : ∀ (items : List D),
    (∀ d ∈ items, ∃ e1, t.bind d env h = some e1 ∧ ((∃ x, g d = some x ∧ ft e1 h = .ok true h ∧ fe e1 h = .ok x h) ∨ (g d = none ∧ ft e1 h = .ok false h))) →
    lcL t ft fe inv items env h = .ok (items.filterMap g) h
  | [], _ => by unfold lcL; rw [iv]; rfl
  | d :: ds, k => by
    obtain ⟨e1, b, c⟩ := k d List.mem_cons_self
    have ih := lcL_fm iv g ds fun d' hd => k d' (List.mem_cons_of_mem _ hd)
    unfold lcL
    rcases c with ⟨x, c1, c2, c3⟩ | ⟨c1, c2⟩
    · simp only [iv, if_pos, b, c2, c3, ih, List.filterMap_cons, c1]
    · simp only [iv, if_pos, b, c2, ih, List.filterMap_cons, c1]
theorem lcL_map {t : Tg} {fe : FE} {inv : Hs → Bool} {h : Hs} {env : Env} (iv : inv h = true) (g : D → D) (items : List D)
    (k : ∀ d ∈ items, ∃ e1, t.bind d env h = some e1 ∧ fe e1 h = .ok (g d) h) : lcL t cYes fe inv items env h = .ok (items.map g) h := by
  rw [lcL_fm iv (fun d => some (g d)) items fun d hd => by
    obtain ⟨e1, b, c⟩ := k d hd
    exact ⟨e1, b, .inl ⟨_, rfl, rfl, c⟩⟩]
  rw [List.filterMap_eq_map']
theorem lcL_none {t : Tg} {ft : FT} {fe : FE} {inv : Hs → Bool} {h : Hs} {env : Env} (iv : inv h = true) (items : List D)
    (k : ∀ d ∈ items, ∃ e1, t.bind d env h = some e1 ∧ ft e1 h = .ok false h) : lcL t ft fe inv items env h = .ok [] h := by
  rw [lcL_fm iv (fun _ => none) items fun d hd => by
    obtain ⟨e1, b, c⟩ := k d hd
    exact ⟨e1, b, .inr ⟨rfl, c⟩⟩]
  simp
theorem allL_ok {t : Tg} {fe : FE} {inv : Hs → Bool} {h : Hs} {env : Env} (iv : inv h = true) (g : D → Bool) : ∀ (items : List D),
    (∀ d ∈ items, ∃ e1, t.bind d env h = some e1 ∧ fe e1 h = .ok (.p (.bl (g d))) h) → anyL t fe (fun b => !b) true false inv items env h = .ok (.p (.bl (items.all g))) h
  | [], _ => by unfold anyL; rw [iv]; rfl
  | d :: ds, k => by
    obtain ⟨e1, b, c⟩ := k d List.mem_cons_self
    have ih := allL_ok iv g ds fun d' hd => k d' (List.mem_cons_of_mem _ hd)
    unfold anyL
    cases q : g d <;> simp [iv, b, c, q, ih]
theorem anyL_ok {t : Tg} {fe : FE} {inv : Hs → Bool} {h : Hs} {env : Env} (iv : inv h = true) (g : D → Bool) : ∀ (items : List D),
    (∀ d ∈ items, ∃ e1, t.bind d env h = some e1 ∧ fe e1 h = .ok (.p (.bl (g d))) h) → anyL t fe (fun b => b) false true inv items env h = .ok (.p (.bl (items.any g))) h
  | [], _ => by unfold anyL; rw [iv]; rfl
  | d :: ds, k => by
    obtain ⟨e1, b, c⟩ := k d List.mem_cons_self
    have ih := anyL_ok iv g ds fun d' hd => k d' (List.mem_cons_of_mem _ hd)
    unfold anyL
    cases q : g d <;> simp [iv, b, c, q, ih]
/-! ### the law's loop, its body told in place -/
def BodyOk (N : Nat) (B : FS) : Prop := ∀ (env : Env) (h : Hs) (i : Nat), env.length = N → env[1]? = some (some (.loc i)) → Dice h i → EndN (fun e' h' => e'.length = N ∧ Same i h h' ∧ Dice h' i) (B env h)
theorem loopB_ok {N : Nat} {B : FS} (hB : BodyOk N B) (hN : 1 < N) {k : Nat} {es : List D} {inv : Hs → Bool} (hinv : ∀ h' : Hs, h'[k]? = some (.rl es) → inv h' = true) : ∀ (ds : List D) (env : Env) (h : Hs), env.length = N → h[k]? = some (.rl es) → (∀ d ∈ ds, ∃ i, d = .loc i ∧ Dice h i) →
    ∃ env' h', forL (tN 1) B inv ds env h = .nx env' h'
  | [], env, h, _, hk, _ => ⟨env, h, by unfold forL; rw [hinv h hk]; rfl⟩
  | d :: ds, env, h, he, hk, hd => by
    obtain ⟨i, rfl, di⟩ := hd d List.mem_cons_self
    obtain ⟨e1, h1, q1, l1, s1, d1⟩ := hB (env.set 1 (some (.loc i))) h i (by simpa using he) (List.getElem?_set_self (by omega)) di
    have hki : k ≠ i := fun z => by
      obtain ⟨a, b, c, q⟩ := di
      rw [← z, hk] at q; cases q
    have hk1 : h1[k]? = some (.rl es) := (s1.2 k (List.getElem?_eq_some_iff.mp hk).1 hki).trans hk
    obtain ⟨env', h', e2⟩ := loopB_ok hB hN hinv ds e1 h1 l1 hk1 fun d' hd' => by
      obtain ⟨j, rfl, a, b, c, q⟩ := hd d' (List.mem_cons_of_mem _ hd')
      by_cases hj : j = i
      · subst hj; exact ⟨j, rfl, d1⟩
      · exact ⟨j, rfl, a, b, c, (s1.2 j (List.getElem?_eq_some_iff.mp q).1 hj).trans q⟩
    refine ⟨env', h', ?_⟩
    unfold forL
    simp only [hinv h hk, if_pos, tN, q1]
    exact e2
def fLawB (N : Nat) (most : Int) (B : FS) : Fn := cFn N ((sSeq (sFor (iSeq (cCall 2 fRounds (aC (cV 0) (aC (cK (.int most)) aN)))) (tN 1) B)
  (sRet (cK (.bl true)))))
theorem lawB_ok {N : Nat} {B : FS} (hB : BodyOk N B) (hN : 1 < N) (most : Int) (ns : List Int) (hl : ns.length ≤ 63) : ∃ h', fLawB N most B [.p (.scr ns)] [] = .ok (.p (.bl true)) h' := by
  obtain ⟨ds, os, e, k⟩ := rounds_ok ns most hl
  have hk : (os ++ [O.rl ds])[os.length]? = some (.rl ds) := by simp
  obtain ⟨inv, e3, hinv⟩ := seqItems_rl hk
  obtain ⟨env', h', e2⟩ := loopB_ok hB hN hinv ds (some (.p (.scr ns)) :: List.replicate (N - 1) none) (os ++ [.rl ds]) (by simp; omega) hk fun d hd => by
    obtain ⟨i, rfl, a, b, c, q⟩ := k d hd
    exact ⟨i, rfl, a, b, c, by rw [List.getElem?_append_left (List.getElem?_eq_some_iff.mp q).1]; exact q⟩
  refine ⟨h', ?_⟩
  simp [fLawB, cFn, sSeq, sFor, iSeq, cCall, aC, cV, cK, aN, R.bind, R.toS, arity, e, e3, e2, sRet]
/-! ### what simp wants to know -/
theorem ix_pr0 (q : Rat) (h : Hs) : ixD (.p (pr q)) (.p (.int 0)) h = .ok (.p (.int q.num)) h := rfl
theorem ix_pr1 (q : Rat) (h : Hs) : ixD (.p (pr q)) (.p (.int 1)) h = .ok (.p (.int q.den)) h := rfl
theorem toQ_one (a : Int) : toQ (.tup [.int a, .int 1]) = (a : Rat) := by rw [toQ_tup, Rat.intCast_one]; grind
instance instBdZdiv {a b : Int} {n : Nat} [h : BdZ a n] [k : PZ b] : BdZ (a / b) n := ⟨by
  have := h.lt
  have h2 := k.pos
  have h3 : (a / b).natAbs ≤ a.natAbs := by
    have := Int.natAbs_ediv_le_natAbs a b
    exact this
  omega⟩
instance instBdZmod {a b : Int} {n : Nat} [h : BdZ b n] [k : PZ b] : BdZ (a % b) n := ⟨by
  have := h.lt
  have := Int.emod_nonneg a (b := b) (by have := k.pos; omega)
  have := Int.emod_lt_of_pos a k.pos
  omega⟩
end Ar
namespace Ar
open PySem
/-! ### the evaluator's words as rows for simp -/
@[simp] theorem bits_e (k : Nat) : bits (no_index (OfNat.ofNat k)) = if OfNat.ofNat k < 4 then 2 else if OfNat.ofNat k < 16 then 4 else if OfNat.ofNat k < 256 then 8 else if OfNat.ofNat k < 65536 then 16 else Nat.log2 (OfNat.ofNat k) + 1 := (rfl)
@[simp] theorem bits_0 : bits 0 = 2 := (rfl)
@[simp] theorem bits_1 : bits 1 = 2 := (rfl)
section
variable {α β : Type} {env e e' : Env} {h h' hs : Hs} {f k fa fb fc : FE} {ft kt : FT} {fs ks : FS} {a : FA} {d d' : D} {ds : List D} {x y : P} {ps : List P} {n i j c : Nat} {b : Bool}
@[simp] theorem bind_ok (a : α) (h : Hs) (k : α → Hs → R β) : (R.ok a h).bind k = k a h := (rfl)
@[simp] theorem bind_ex (c : Nat) (fs : List (Str × P)) (h : Hs) (k : α → Hs → R β) : (R.ex c fs h).bind k = .ex c fs h := (rfl)
@[simp] theorem bind_bad (k : α → Hs → R β) : (R.bad).bind k = .bad := (rfl)
@[simp] theorem toS_ok (a : α) (h : Hs) (e : Env) (k : α → Hs → S) : (R.ok a h).toS e k = k a h := (rfl)
@[simp] theorem toS_ex (c : Nat) (fs : List (Str × P)) (h : Hs) (e : Env) (k : α → Hs → S) : (R.ex c fs h).toS e k = .ex c fs e h := (rfl)
@[simp] theorem toS_bad (e : Env) (k : α → Hs → S) : (R.bad).toS e k = .bad := (rfl)
theorem bind_ite {p : Prop} [Decidable p] (a b : R α) (k : α → Hs → R β) : (if p then a else b).bind k = if p then a.bind k else b.bind k := by split <;> rfl
theorem toS_ite {p : Prop} [Decidable p] (a b : R α) (e : Env) (k : α → Hs → S) : (if p then a else b).toS e k = if p then a.toS e k else b.toS e k := by split <;> rfl
def slot (o : Option (Option D)) (h : Hs) : R D := match o with
  | some (some d) => .ok d h
  | _ => .bad
@[simp] theorem slot_ok : slot (some (some d)) h = .ok d h := (rfl)
@[simp] theorem cV_e : cV i env h = slot env[i]? h := (rfl)
@[simp] theorem cK_e : cK x env h = .ok (.p x) h := (rfl)
/-- an answer that is there -/
def ofO (o : Option P) (h : Hs) : R D := match o with
  | some z => .ok (.p z) h
  | none => .bad
@[simp] theorem ofO_some : ofO (some x) h = .ok (.p x) h := (rfl)
@[simp] theorem ofO_none : ofO none h = .bad := (rfl)
@[simp] theorem ap2_e (o : P → P → Option P) : ap2 o (.p x) (.p y) h = ofO (o x y) h := by unfold ap2 ofO; rfl
@[simp] theorem cOp_e (o : P → P → Option P) : cOp o fa fb env h = (fa env h).bind fun d h1 => (fb env h1).bind fun e h2 => ap2 o d e h2 := (rfl)
@[simp] theorem toB_e : toB (.p (.bl b)) h = .ok b h := (rfl)
@[simp] theorem cT_e : cT f env h = (f env h).bind toB := (rfl)
@[simp] theorem cAndT_e : cAndT ft kt env h = (ft env h).bind fun b h1 => if b = true then kt env h1 else .ok false h1 := by
  unfold cAndT; congr; funext b h1; cases b <;> rfl
@[simp] theorem cOrT_e : cOrT ft kt env h = (ft env h).bind fun b h1 => if b = true then .ok true h1 else kt env h1 := by
  unfold cOrT; congr; funext b h1; cases b <;> rfl
@[simp] theorem cNotT_e : cNotT ft env h = (ft env h).bind fun b h1 => .ok (!b) h1 := (rfl)
def andV (d : D) (r : R D) (h : Hs) : R D := match d with
  | .p (.bl true) => r
  | .p (.bl false) => .ok (.p (.bl false)) h
  | _ => .bad
def orV (d : D) (r : R D) (h : Hs) : R D := match d with
  | .p (.bl true) => .ok (.p (.bl true)) h
  | .p (.bl false) => r
  | _ => .bad
@[simp] theorem andV_e (r : R D) : andV (.p (.bl b)) r h = if b = true then r else .ok (.p (.bl false)) h := by cases b <;> rfl
@[simp] theorem orV_e (r : R D) : orV (.p (.bl b)) r h = if b = true then .ok (.p (.bl true)) h else r := by cases b <;> rfl
@[simp] theorem cAndV_e : cAndV f k env h = (f env h).bind fun d h1 => andV d (k env h1) h1 := by
  unfold cAndV; congr
@[simp] theorem cOrV_e : cOrV f k env h = (f env h).bind fun d h1 => orV d (k env h1) h1 := by
  unfold cOrV; congr
def notV (d : D) (h : Hs) : R D := match d with
  | .p (.bl b) => .ok (.p (.bl (!b))) h
  | _ => .bad
@[simp] theorem notV_e : notV (.p (.bl b)) h = .ok (.p (.bl (!b))) h := (rfl)
@[simp] theorem cNotV_e : cNotV f env h = (f env h).bind notV := (rfl)
@[simp] theorem cIf_e : cIf ft f k env h = (ft env h).bind fun b h1 => if b = true then f env h1 else k env h1 := by
  unfold cIf; congr; funext b h1; cases b <;> rfl
def negV (d : D) (h : Hs) : R D := match d with
  | .p (.int i) => .ok (.p (.int (-i))) h
  | _ => .bad
@[simp] theorem negV_e (i : Int) : negV (.p (.int i)) h = .ok (.p (.int (-i))) h := (rfl)
@[simp] theorem cNeg_e : cNeg f env h = (f env h).bind negV := (rfl)
@[simp] theorem aN_e : aN env h = .ok [] h := (rfl)
@[simp] theorem aC_e : aC f a env h = (f env h).bind fun d h1 => (a env h1).bind fun ds h2 => .ok (d :: ds) h2 := (rfl)
@[simp] theorem plain_nil : Ar.plain [] = some [] := (rfl)
@[simp] theorem plain_p (r : List D) : Ar.plain (.p x :: r) = (Ar.plain r).map (x :: ·) := by
  simp only [Ar.plain]; cases Ar.plain r <;> rfl
theorem plain_map (ps : List P) : Ar.plain (ps.map D.p) = some ps := by
  induction ps with
  | nil => rfl
  | cons p r ih => simp [ih]
def okTup (o : Option (List P)) (h : Hs) : R D := match o with
  | some ps => if ps.length ≤ 1000 then .ok (.p (.tup ps)) h else .bad
  | none => .bad
def okLst (o : Option (List P)) (h : Hs) : R D := match o with
  | some ps => if ps.length ≤ 1000 then .ok (.p (.lst ps)) h else .bad
  | none => .bad
def okN (o : Option (List P)) (h : Hs) : R D := match o with
  | some ps => if ps.length ≤ 1000 then .ok (.loc h.length) (h ++ [.lst ps]) else .bad
  | none => .bad
@[simp] theorem okTup_some : okTup (some ps) h = if ps.length ≤ 1000 then .ok (.p (.tup ps)) h else .bad := (rfl)
@[simp] theorem okLst_some : okLst (some ps) h = if ps.length ≤ 1000 then .ok (.p (.lst ps)) h else .bad := (rfl)
@[simp] theorem okN_some : okN (some ps) h = if ps.length ≤ 1000 then .ok (.loc h.length) (h ++ [.lst ps]) else .bad := (rfl)
@[simp] theorem mkTup_e : mkTup ds h = okTup (Ar.plain ds) h := (rfl)
@[simp] theorem mkLst_e : mkLst ds h = okLst (Ar.plain ds) h := (rfl)
@[simp] theorem mkN_e : mkN ds h = okN (Ar.plain ds) h := (rfl)
@[simp] theorem cTup_e : cTup a env h = (a env h).bind mkTup := (rfl)
@[simp] theorem cLst_e : cLst a env h = (a env h).bind mkLst := (rfl)
@[simp] theorem cLstN_e : cLstN a env h = (a env h).bind mkN := (rfl)
@[simp] theorem cLstR_e : cLstR a env h = (a env h).bind mkR := (rfl)
@[simp] theorem mkR_e : mkR ds h = if ds.length ≤ 1000 then .ok (.loc h.length) (h ++ [.rl ds]) else .bad := (rfl)
/-! calls -/
@[simp] theorem arity_e (F : Fn) : arity n F ds h = if ds.length = n then F ds h else .bad := (rfl)
@[simp] theorem cCall_e (F : Fn) : cCall n F a env h = (a env h).bind (arity n F) := (rfl)
@[simp] theorem cCallP_e (F : Fn) : cCallP n F a env h = (a env h).bind (arity n (callP F)) := (rfl)
@[simp] theorem cMake_e (F : Fn) : cMake c n F a env h = (a env h).bind (make c n F) := (rfl)
@[simp] theorem cMakeP_e (F : Fn) : cMakeP c n F a env h = (a env h).bind (callP (make c n F)) := (rfl)
@[simp] theorem cMeth_e (m : Str) (F : Fn) : cMeth c m n F f a env h = (f env h).bind fun d h1 => if isIns c m d h1 = true then (a env h1).bind fun ds h2 => arity n F (d :: ds) h2 else .bad := (rfl)
@[simp] theorem cMethP_e (m : Str) (F : Fn) : cMethP c m n F f a env h = (f env h).bind fun d h1 => if isIns c m d h1 = true then (a env h1).bind fun ds h2 => arity n (callP F) (d :: ds) h2 else .bad := (rfl)
@[simp] theorem cB_e (op : List D → Hs → R D) : cB op a env h = (a env h).bind op := (rfl)
@[simp] theorem isIns_p (m : Str) (c' : Nat) (ns : List Str) (vs : List P) : isIns c m (.p (.ins c' ns vs)) h = (decide (c' = c) && !ns.contains m) := (rfl)
def isInsO (c : Nat) (m : Str) (o : Option O) : Bool := match o with
  | some (.ins c' ns _) => decide (c' = c) && !ns.contains m
  | _ => false
@[simp] theorem isInsO_e (m : Str) (c' : Nat) (ns : List Str) (vs : List D) : isInsO c m (some (.ins c' ns vs)) = (decide (c' = c) && !ns.contains m) := (rfl)
@[simp] theorem isIns_loc (m : Str) : isIns c m (.loc i) h = isInsO c m h[i]? := by unfold isIns isInsO; rfl
def retOf (r : S) : R D := match r with
  | .nx _ h' => .ok (.p .non) h'
  | .rt d h' => .ok d h'
  | .ex c fs _ h' => .ex c fs h'
  | _ => .bad
@[simp] theorem retOf_nx : retOf (.nx e h) = .ok (.p .non) h := (rfl)
@[simp] theorem retOf_rt : retOf (.rt d h) = .ok d h := (rfl)
@[simp] theorem retOf_ex (fs : List (Str × P)) : retOf (.ex c fs e h) = .ex c fs h := (rfl)
@[simp] theorem cFn_e (fb : FS) : cFn n fb ds h = retOf (fb (ds.map some ++ List.replicate (n - ds.length) none) h) := (rfl)
theorem retOf_ite {p : Prop} [Decidable p] (a b : S) : retOf (if p then a else b) = if p then retOf a else retOf b := by split <;> rfl
def toldOf (l : List (Nat × Str)) (r : R D) : R D := match r with
  | .ok d h' => .ok d h'
  | .ex c _ h' => (match l.lookup c with
    | some ret => .ok (.p (.str ret)) h'
    | none => .bad)
  | .bad => .bad
@[simp] theorem toldOf_ok (l : List (Nat × Str)) : toldOf l (.ok d h) = .ok d h := (rfl)
@[simp] theorem toldOf_ex (l : List (Nat × Str)) (fs : List (Str × P)) : toldOf l (.ex c fs h) = ofO ((l.lookup c).map P.str) h := by
  unfold toldOf; cases q : l.lookup c <;> simp [q]
@[simp] theorem cTold_e (l : List (Nat × Str)) : cTold l f env h = toldOf l (f env h) := (rfl)
@[simp] theorem pureEnd_ok_p (h0 : Hs) : pureEnd (.ok (.p x) h0) h = .ok (.p x) h := (rfl)
@[simp] theorem pureEnd_ex' (fs : List (Str × P)) (h0 : Hs) : pureEnd (.ex c fs h0) h = .ex c fs h := (rfl)
theorem callP_e (F : Fn) (hp : isPlain ds = true) : callP F ds h = pureEnd (F ds []) h := by unfold callP; rw [if_pos hp]
def makeOf (l : Nat) (r : R D) : R D := match r with
  | .ok (.p .non) h2 => .ok (.loc l) h2
  | .ex c' fs h2 => .ex c' fs h2
  | _ => .bad
@[simp] theorem makeOf_ok (l : Nat) : makeOf l (.ok (.p .non) h) = .ok (.loc l) h := (rfl)
@[simp] theorem makeOf_ex (l : Nat) (fs : List (Str × P)) : makeOf l (.ex c fs h) = .ex c fs h := (rfl)
@[simp] theorem make_e (F : Fn) : make c n F ds h = if ds.length + 1 = n then makeOf h.length (F (.loc h.length :: ds) (h ++ [.ins c [] []])) else .bad := (rfl)
/-! statements -/
def seqS (k : FS) (r : S) : S := match r with
  | .nx e h' => k e h'
  | r => r
@[simp] theorem seqS_nx : seqS ks (.nx e h) = ks e h := (rfl)
@[simp] theorem seqS_rt : seqS ks (.rt d h) = .rt d h := (rfl)
@[simp] theorem seqS_ex (l : List (Str × P)) : seqS ks (.ex c l e h) = .ex c l e h := (rfl)
@[simp] theorem seqS_bk : seqS ks (.bk e h) = .bk e h := (rfl)
@[simp] theorem seqS_ct : seqS ks (.ct e h) = .ct e h := (rfl)
theorem seqS_ite {p : Prop} [Decidable p] (a b : S) : seqS ks (if p then a else b) = if p then seqS ks a else seqS ks b := by split <;> rfl
@[simp] theorem sSeq_e : sSeq fs ks env h = seqS ks (fs env h) := by unfold sSeq seqS; rfl
@[simp] theorem sNx_e : sNx env h = .nx env h := (rfl)
@[simp] theorem sBk_e : sBk env h = .bk env h := (rfl)
@[simp] theorem sCt_e : sCt env h = .ct env h := (rfl)
@[simp] theorem sRet_e : sRet f env h = (f env h).toS env fun d h1 => .rt d h1 := (rfl)
@[simp] theorem sRetN_e : sRetN env h = .rt (.p .non) h := (rfl)
@[simp] theorem sEx_e : sEx f env h = (f env h).toS env fun _ h1 => .nx env h1 := (rfl)
@[simp] theorem sIf_e : sIf ft fs ks env h = (ft env h).toS env fun b h1 => if b = true then fs env h1 else ks env h1 := by
  unfold sIf; congr; funext b h1; cases b <;> rfl
@[simp] theorem sSet_e : sSet i f env h = (f env h).toS env fun d h1 => .nx (env.set i (some d)) h1 := (rfl)
@[simp] theorem sRaise_e : sRaise c env h = .ex c [] env h := (rfl)
def par2 (i j : Nat) (env : Env) (ds : List D) (h : Hs) : S := match ds with
  | [a, b] => .nx ((env.set i (some a)).set j (some b)) h
  | _ => .bad
def par3 (i j l : Nat) (env : Env) (ds : List D) (h : Hs) : S := match ds with
  | [a, b, c] => .nx (((env.set i (some a)).set j (some b)).set l (some c)) h
  | _ => .bad
@[simp] theorem par2_e : par2 i j env [d, d'] h = .nx ((env.set i (some d)).set j (some d')) h := (rfl)
@[simp] theorem par3_e (l : Nat) (d2 : D) : par3 i j l env [d, d', d2] h = .nx (((env.set i (some d)).set j (some d')).set l (some d2)) h := (rfl)
@[simp] theorem sPar_e : sPar i j a env h = (a env h).toS env (par2 i j env) := (rfl)
@[simp] theorem sPar3_e (l : Nat) : sPar3 i j l a env h = (a env h).toS env (par3 i j l env) := (rfl)
def nxOf (r : R Env) : S := match r with
  | .ok e h2 => .nx e h2
  | _ => .bad
@[simp] theorem nxOf_ok : nxOf (.ok e h) = .nx e h := (rfl)
@[simp] theorem sAsg_e (g : FG) : sAsg f g env h = (f env h).toS env fun d h1 => nxOf (g d env h1) := (rfl)
@[simp] theorem sTupTup_e (g : FGs) : sTupTup a g env h = (a env h).toS env fun ds h1 => if ds.length ≤ 1000 then nxOf (g ds env h1) else .bad := (rfl)
@[simp] theorem tN_e : tN i d env h = .ok (env.set i (some d)) h := (rfl)
@[simp] theorem tsN_e : tsN [] env h = .ok env h := (rfl)
@[simp] theorem tsC_e (g : FG) (gs : FGs) : tsC g gs (d :: ds) env h = (g d env h).bind fun e h1 => gs ds e h1 := (rfl)
def tupK (n : Nat) (k : FGs) (env : Env) (h : Hs) (o : Option (List D)) : R Env := match o with
  | some ds => if ds.length = n then k ds env h else .bad
  | none => .bad
@[simp] theorem tupK_e (k : FGs) : tupK n k env h (some ds) = if ds.length = n then k ds env h else .bad := (rfl)
@[simp] theorem tT2_e (k : FGs) : tT2 n k d env h = tupK n k env h (tupOf d h) := (rfl)
@[simp] theorem tupOf_p : tupOf (.p (.tup ps)) h = some (ps.map D.p) := (rfl)
def tupOO (o : Option O) : Option (List D) := match o with
  | some (.rt ds) => some ds
  | _ => none
@[simp] theorem tupOO_e : tupOO (some (.rt ds)) = some ds := (rfl)
@[simp] theorem tupOf_loc : tupOf (.loc i) h = tupOO h[i]? := by unfold tupOf tupOO; rfl
@[simp] theorem tSub_e (fo fi : FE) : tSub fo fi d env h = (fo env h).bind fun o h1 => (fi env h1).bind fun i h2 => (setD o i d h2).bind fun _ h3 => .ok env h3 := (rfl)
def augS (i : Nat) (o : P → P → Option P) (fe : FE) (env : Env) (h : Hs) (x : Option (Option D)) : S := match x with
  | some (some a) => (fe env h).toS env fun b h1 => (ap2 o a b h1).toS env fun z h2 => .nx (env.set i (some z)) h2
  | _ => .bad
@[simp] theorem augS_e (o : P → P → Option P) : augS i o f env h (some (some d)) = (f env h).toS env fun b h1 => (ap2 o d b h1).toS env fun z h2 => .nx (env.set i (some z)) h2 := (rfl)
@[simp] theorem sAug_e (o : P → P → Option P) : sAug i o f env h = augS i o f env h env[i]? := (rfl)
@[simp] theorem sAttr_e (fl : Str) (fo fe : FE) : sAttr c fl fo fe env h = (fe env h).toS env fun v h1 => (fo env h1).toS env fun d h2 => (Ar.setAttr c fl d v h2).toS env fun _ h3 => .nx env h3 := (rfl)
@[simp] theorem sAttrAug_e (fl : Str) (o : P → P → Option P) (fo fe : FE) : sAttrAug c fl o fo fe env h = (fo env h).toS env fun d h1 => (attrL c fl d h1).toS env fun v h2 => (fe env h2).toS env fun w h3 => (ap2 o v w h3).toS env fun z h4 => (Ar.setAttr c fl d z h4).toS env fun _ h5 => .nx env h5 := (rfl)
@[simp] theorem cAttr_e (fl : Str) : cAttr c fl f env h = (f env h).bind (attr c fl) := (rfl)
@[simp] theorem attr_p (fl : Str) (c' : Nat) (ns : List Str) (vs : List P) : attr c fl (.p (.ins c' ns vs)) h = if c' = c then ofO (getN ns vs fl) h else .bad := by
  unfold attr ofO; rfl
def okD (o : Option D) (h : Hs) : R D := match o with
  | some v => .ok v h
  | none => .bad
@[simp] theorem okD_some : okD (some d) h = .ok d h := (rfl)
def attrO (c : Nat) (fl : Str) (h : Hs) (o : Option O) : R D := match o with
  | some (.ins c' ns vs) => if c' = c then okD (getN ns vs fl) h else .bad
  | _ => .bad
@[simp] theorem attrO_e (fl : Str) (c' : Nat) (ns : List Str) (vs : List D) : attrO c fl h (some (.ins c' ns vs)) = if c' = c then okD (getN ns vs fl) h else .bad := (rfl)
@[simp] theorem attr_loc (fl : Str) : attr c fl (.loc i) h = attrO c fl h h[i]? := by
  unfold attr attrO okD; rfl
@[simp] theorem attrL_loc (fl : Str) : attrL c fl (.loc i) h = attrO c fl h h[i]? := by
  unfold attrL attrO okD; rfl
def setAO (c : Nat) (fl : Str) (i : Nat) (d : D) (h : Hs) (o : Option O) : R Unit := match o with
  | some (.ins c' ns vs) => if c' = c ∧ ns.length < 1000 then .ok () (h.set i (.ins c' (putN ns vs fl d).1 (putN ns vs fl d).2)) else .bad
  | _ => .bad
@[simp] theorem setAO_e (fl : Str) (c' : Nat) (ns : List Str) (vs : List D) : setAO c fl i d h (some (.ins c' ns vs)) = if c' = c ∧ ns.length < 1000 then .ok () (h.set i (.ins c' (putN ns vs fl d).1 (putN ns vs fl d).2)) else .bad := (rfl)
@[simp] theorem setAttr_loc (fl : Str) : Ar.setAttr c fl (.loc i) d h = setAO c fl i d h h[i]? := by
  unfold Ar.setAttr setAO; rfl
@[simp] theorem getN_cons (m fl : Str) (ns : List Str) (v : α) (vs : List α) : getN (m :: ns) (v :: vs) fl = if m = fl then some v else getN ns vs fl := (rfl)
@[simp] theorem putN_nil (fl : Str) (v : α) : putN [] [] fl v = ([fl], [v]) := (rfl)
@[simp] theorem putN_cons (m fl : Str) (ns : List Str) (v w : α) (vs : List α) : putN (m :: ns) (v :: vs) fl w = if m = fl then (m :: ns, w :: vs) else (m :: (putN ns vs fl w).1, v :: (putN ns vs fl w).2) := (rfl)
/-! data -/
@[simp] theorem cIx_e : cIx fa fb env h = (fa env h).bind fun d h1 => (fb env h1).bind fun e h2 => ixD d e h2 := (rfl)
@[simp] theorem ixD_pr0 (q : Rat) : ixD (.p (pr q)) (.p (.int 0)) h = .ok (.p (.int q.num)) h := (rfl)
@[simp] theorem ixD_pr1 (q : Rat) : ixD (.p (pr q)) (.p (.int 1)) h = .ok (.p (.int q.den)) h := (rfl)
@[simp] theorem ixD_tup (i : Int) : ixD (.p (.tup ps)) (.p (.int i)) h = ofO (atZ ps i) h := by
  unfold ixD ixP ofO; rfl
@[simp] theorem ixD_lst (i : Int) : ixD (.p (.lst ps)) (.p (.int i)) h = ofO (atZ ps i) h := by
  unfold ixD ixP ofO; rfl
def ixOO (o : Option O) (k : P) (h : Hs) : R D := match o, k with
  | some (.lst ps), .int j => ofO (atZ ps j) h
  | some (.rl ds), .int j => okD (atZ ds j) h
  | some (.rt ds), .int j => okD (atZ ds j) h
  | some (.dct ks vs), k => if isKey k = true then ofO (dGet ks vs k) h else .bad
  | some (.dtt ks vs), k => if isTKey k = true then ofO (dGet ks vs k) h else .bad
  | _, _ => .bad
@[simp] theorem ixOO_l (j : Int) : ixOO (some (.lst ps)) (.int j) h = ofO (atZ ps j) h := (rfl)
@[simp] theorem ixOO_rl (j : Int) : ixOO (some (.rl ds)) (.int j) h = okD (atZ ds j) h := (rfl)
@[simp] theorem ixOO_rt (j : Int) : ixOO (some (.rt ds)) (.int j) h = okD (atZ ds j) h := (rfl)
@[simp] theorem ixOO_d (ks vs : List P) : ixOO (some (.dct ks vs)) x h = if isKey x = true then ofO (dGet ks vs x) h else .bad := by unfold ixOO; split <;> simp_all
@[simp] theorem ixOO_t (ks vs : List P) : ixOO (some (.dtt ks vs)) x h = if isTKey x = true then ofO (dGet ks vs x) h else .bad := by unfold ixOO; split <;> simp_all
@[simp] theorem ixD_loc : ixD (.loc i) (.p x) h = ixOO h[i]? x h := by unfold ixD ixOO ofO okD; rfl
@[simp] theorem ixD_d (ks vs : List P) : ixD (.p (.dct ks vs)) (.p x) h = if isKey x = true then ofO (dGet ks vs x) h else .bad := by
  show (match ixP (.dct ks vs) x with | some x => R.ok (D.p x) h | none => R.bad) = _
  have e : ixP (.dct ks vs) x = if isKey x = true then dGet ks vs x else none := by unfold ixP; split <;> simp_all
  rw [e]
  cases isKey x <;> rfl
@[simp] theorem ixD_dt (ks vs : List P) : ixD (.p (.dtt ks vs)) (.p x) h = if isTKey x = true then ofO (dGet ks vs x) h else .bad := by
  show (match ixP (.dtt ks vs) x with | some x => R.ok (D.p x) h | none => R.bad) = _
  have e : ixP (.dtt ks vs) x = if isTKey x = true then dGet ks vs x else none := by unfold ixP; split <;> simp_all
  rw [e]
  cases isTKey x <;> rfl
@[simp] theorem atZ_lit (xs : List α) (k : Nat) : atZ xs (no_index (OfNat.ofNat k : Int)) = xs[(OfNat.ofNat k : Nat)]? := (rfl)
@[simp] theorem atZ_0 (xs : List α) : atZ xs 0 = xs[0]? := (rfl)
@[simp] theorem atZ_1 (xs : List α) : atZ xs 1 = xs[1]? := (rfl)
@[simp] theorem atZ_nat (xs : List α) (k : Nat) : atZ xs (k : Int) = xs[k]? := (rfl)
@[simp] theorem atZ_m1 (xs : List α) : atZ xs (-1) = if 0 < xs.length then xs[xs.length - 1]? else none := by
  show (if 0 < xs.length then xs[xs.length - 1 - 0]? else none) = _
  rfl
theorem atZ_pos (xs : List α) {i : Int} (h : 0 ≤ i) : atZ xs i = xs[i.toNat]? := by
  obtain ⟨k, rfl⟩ := Int.eq_ofNat_of_zero_le h
  rfl
@[simp] theorem oAdd_ii (a b : Int) : oAdd (.int a) (.int b) = some (.int (a + b)) := (rfl)
@[simp] theorem oAdd_ib (a : Int) : oAdd (.int a) (.bl b) = some (.int (a + (if b = true then 1 else 0))) := (rfl)
@[simp] theorem oAddI_ii (a b : Int) : oAddI (.int a) (.int b) = some (.int (a + b)) := (rfl)
@[simp] theorem oAdd_tt (a b : List P) : oAdd (.tup a) (.tup b) = if okLen (a.length + b.length) = true then some (.tup (a ++ b)) else none := (rfl)
@[simp] theorem oAdd_ll (a b : List P) : oAdd (.lst a) (.lst b) = if okLen (a.length + b.length) = true then some (.lst (a ++ b)) else none := (rfl)
@[simp] theorem oAdd_ss (a b : Str) : oAdd (.str a) (.str b) = if okLen (a.length + b.length) = true then some (.str (a ++ b)) else none := (rfl)
@[simp] theorem oSub_ii (a b : Int) : oSub (.int a) (.int b) = some (.int (a - b)) := (rfl)
@[simp] theorem oLt_ii (a b : Int) : oLt (.int a) (.int b) = some (.bl (decide (a < b))) := (rfl)
@[simp] theorem oLe_ii (a b : Int) : oLe (.int a) (.int b) = some (.bl (decide (a ≤ b))) := (rfl)
@[simp] theorem oGt_ii (a b : Int) : oGt (.int a) (.int b) = some (.bl (decide (b < a))) := (rfl)
@[simp] theorem oGe_ii (a b : Int) : oGe (.int a) (.int b) = some (.bl (decide (b ≤ a))) := (rfl)
theorem oMul_ii (a b : Int) [ha : BdZ a n] [hb : BdZ b i] (l : n + i ≤ 8900) : oMul (.int a) (.int b) = some (.int (a * b)) := oMul_bd l
theorem oMulI_ii (a b : Int) [ha : BdZ a n] [hb : BdZ b i] (l : n + i ≤ 8900) : oMulI (.int a) (.int b) = some (.int (a * b)) := by
  simp only [oMulI, okMul_of ha.lt hb.lt l, if_pos]
theorem oDiv_ii (a b : Int) [hb : BdZ b n] [pb : PZ b] (l : n ≤ 8900) : oDiv (.int a) (.int b) = some (.int (a / b)) := oDiv_of pb.pos (lt_pow_mono hb.lt (by omega))
theorem oMod_ii (a b : Int) [pb : PZ b] : oMod (.int a) (.int b) = some (.int (a % b)) := oMod_pos a b pb.pos
@[simp] theorem oEq_ii (a b : Int) : oEq (.int a) (.int b) = some (.bl (decide (a = b))) := oEq_int a b
@[simp] theorem oNe_ii (a b : Int) : oNe (.int a) (.int b) = some (.bl (!decide (a = b))) := oNe_int a b
@[simp] theorem oEq_bb (a b : Bool) : oEq (.bl a) (.bl b) = some (.bl (a == b)) := oEq_bl a b
@[simp] theorem oNe_bb (a b : Bool) : oNe (.bl a) (.bl b) = some (.bl (!(a == b))) := oNe_bl a b
@[simp] theorem oEq_ss (a b : Str) : oEq (.str a) (.str b) = some (.bl (a == b)) := oEq_str a b
@[simp] theorem oNe_ss (a b : Str) : oNe (.str a) (.str b) = some (.bl (!(a == b))) := oNe_str a b
@[simp] theorem oEq_qq (a b : Rat) : oEq (pr a) (pr b) = some (.bl (decide (a = b))) := oEq_pr a b
@[simp] theorem oNe_qq (a b : Rat) : oNe (pr a) (pr b) = some (.bl (!decide (a = b))) := oNe_pr a b
@[simp] theorem oIs_non : oIs .non .non = some (.bl true) := (rfl)
@[simp] theorem oIs_tup : oIs (.tup ps) .non = some (.bl false) := (rfl)
@[simp] theorem oIs_int (a : Int) : oIs (.int a) .non = some (.bl false) := (rfl)
@[simp] theorem oIs_str (a : Str) : oIs (.str a) .non = some (.bl false) := (rfl)
@[simp] theorem oIs_pr (a : Rat) : oIs (pr a) .non = some (.bl false) := (rfl)
@[simp] theorem oIsNot_non : oIsNot .non .non = some (.bl false) := (rfl)
@[simp] theorem oIsNot_tup : oIsNot (.tup ps) .non = some (.bl true) := (rfl)
@[simp] theorem oIsNot_int (a : Int) : oIsNot (.int a) .non = some (.bl true) := (rfl)
@[simp] theorem oIsNot_str (a : Str) : oIsNot (.str a) .non = some (.bl true) := (rfl)
@[simp] theorem oIsNot_pr (a : Rat) : oIsNot (pr a) .non = some (.bl true) := (rfl)
def chainK (o2 : P → P → Option P) (b : D) (fc : FE) (env : Env) (h : Hs) (z : D) : R D := match z with
  | .p (.bl true) => (fc env h).bind fun c h4 => ap2 o2 b c h4
  | .p (.bl false) => .ok (.p (.bl false)) h
  | _ => .bad
@[simp] theorem chainK_e (o2 : P → P → Option P) : chainK o2 d fc env h (.p (.bl b)) = if b = true then (fc env h).bind fun c h4 => ap2 o2 d c h4 else .ok (.p (.bl false)) h := by cases b <;> rfl
@[simp] theorem cChain_e (o1 o2 : P → P → Option P) : cChain o1 o2 fa fb fc env h = (fa env h).bind fun a h1 => (fb env h1).bind fun b h2 => (ap2 o1 a b h2).bind fun z h3 => chainK o2 b fc env h3 z := (rfl)
/-! builtins -/
def finO (o : Option (List P)) (h : Hs) : R D := match o with
  | some ps => .ok (.p (.lst ps)) h
  | none => .bad
@[simp] theorem finO_e : finO (some ps) h = .ok (.p (.lst ps)) h := (rfl)
def finOn (o : Option (List P)) (h : Hs) : R D := match o with
  | some ps => .ok (.loc h.length) (h ++ [.lst ps])
  | none => .bad
@[simp] theorem finOn_e : finOn (some ps) h = .ok (.loc h.length) (h ++ [.lst ps]) := (rfl)
@[simp] theorem bAbs_e (a : Int) : bAbs [.p (.int a)] h = .ok (.p (.int (if a < 0 then -a else a))) h := (rfl)
@[simp] theorem bInt_i (a : Int) : bInt [.p (.int a)] h = .ok (.p (.int a)) h := (rfl)
@[simp] theorem bInt_b : bInt [.p (.bl b)] h = .ok (.p (.int (if b = true then 1 else 0))) h := (rfl)
@[simp] theorem bMax2_e (a b : Int) : bMax2 [.p (.int a), .p (.int b)] h = .ok (.p (.int (if b > a then b else a))) h := (rfl)
@[simp] theorem bMin2_e (a b : Int) : bMin2 [.p (.int a), .p (.int b)] h = .ok (.p (.int (if b < a then b else a))) h := (rfl)
@[simp] theorem bLen_t : bLen [.p (.tup ps)] h = .ok (.p (.int ps.length)) h := (rfl)
@[simp] theorem bLen_l : bLen [.p (.lst ps)] h = .ok (.p (.int ps.length)) h := (rfl)
def lenOO (o : Option O) (h : Hs) : R D := match o with
  | some (.lst ps) => .ok (.p (.int ps.length)) h
  | some (.rl ds) => .ok (.p (.int ds.length)) h
  | some (.rt ds) => .ok (.p (.int ds.length)) h
  | _ => .bad
@[simp] theorem lenOO_l : lenOO (some (.lst ps)) h = .ok (.p (.int ps.length)) h := (rfl)
@[simp] theorem lenOO_rl : lenOO (some (.rl ds)) h = .ok (.p (.int ds.length)) h := (rfl)
@[simp] theorem lenOO_rt : lenOO (some (.rt ds)) h = .ok (.p (.int ds.length)) h := (rfl)
@[simp] theorem bLen_loc : bLen [.loc i] h = lenOO h[i]? h := by unfold bLen lenOO; rfl
def rowOO (o : Option O) : Option (List P) := match o with
  | some (.lst ps) => some ps
  | _ => none
@[simp] theorem rowOO_e : rowOO (some (.lst ps)) = some ps := (rfl)
def okTuple (o : Option (List P)) (h : Hs) : R D := match o with
  | some ps => .ok (.p (.tup ps)) h
  | none => .bad
@[simp] theorem okTuple_e : okTuple (some ps) h = .ok (.p (.tup ps)) h := (rfl)
@[simp] theorem bTuple_loc : bTuple [.loc i] h = okTuple (rowOO h[i]?) h := by unfold bTuple rowP okTuple rowOO; rfl
@[simp] theorem bListP_loc : bListP [.loc i] h = finO (rowOO h[i]?) h := by unfold bListP rowP finO rowOO; rfl
@[simp] theorem bListN_loc : bListN [.loc i] h = finOn (rowOO h[i]?) h := by unfold bListN rowP finOn rowOO; rfl
@[simp] theorem bTuple_l : bTuple [.p (.lst ps)] h = .ok (.p (.tup ps)) h := (rfl)
@[simp] theorem bTuple_t : bTuple [.p (.tup ps)] h = .ok (.p (.tup ps)) h := (rfl)
@[simp] theorem bListP_l : bListP [.p (.lst ps)] h = .ok (.p (.lst ps)) h := (rfl)
@[simp] theorem bListP_t : bListP [.p (.tup ps)] h = .ok (.p (.lst ps)) h := (rfl)
@[simp] theorem bListN_l : bListN [.p (.lst ps)] h = .ok (.loc h.length) (h ++ [.lst ps]) := (rfl)
@[simp] theorem bListN_t : bListN [.p (.tup ps)] h = .ok (.loc h.length) (h ++ [.lst ps]) := (rfl)
theorem intP_map : ∀ ns : List Int, intP (ns.map P.int) = some ns
  | [] => rfl
  | n :: r => by simp only [List.map_cons, intP, intP_map r]
theorem bInts_l (k : List Int → Option P) (ns : List Int) : bInts k [.p (.lst (ns.map P.int))] h = ofO (k ns) h := by
  unfold bInts lstP ofO; simp only [intP_map] <;> rfl
@[simp] theorem bSum_l (ns : List Int) : bSum [.p (.lst (ns.map P.int))] h = .ok (.p (.int (sumZ ns))) h := by unfold bSum; rw [bInts_l]; rfl
@[simp] theorem bMaxL_l (ns : List Int) : bMaxL [.p (.lst (ns.map P.int))] h = ofO ((maxZ ns).map P.int) h := by unfold bMaxL; rw [bInts_l]
@[simp] theorem bMinL_l (ns : List Int) : bMinL [.p (.lst (ns.map P.int))] h = ofO ((minZ ns).map P.int) h := by unfold bMinL; rw [bInts_l]
@[simp] theorem bSorted_l (ns : List Int) : bSorted [.p (.lst (ns.map P.int))] h = .ok (.p (.lst ((sortZ ns).map P.int))) h := by unfold bSorted; rw [bInts_l]; rfl
@[simp] theorem cLM_e (op : D → List D → Hs → R D) : cLM op f a env h = (f env h).bind fun d h1 => if isLst d h1 = true then (a env h1).bind fun ds h2 => op d ds h2 else .bad := (rfl)
@[simp] theorem isLst_p : isLst (.p (.lst ps)) h = true := (rfl)
def isLstO (o : Option O) : Bool := match o with
  | some (.lst _) => true
  | some (.rl _) => true
  | _ => false
@[simp] theorem isLstO_l : isLstO (some (.lst ps)) = true := (rfl)
@[simp] theorem isLstO_rl : isLstO (some (.rl ds)) = true := (rfl)
@[simp] theorem isLst_loc : isLst (.loc i) h = isLstO h[i]? := by unfold isLst isLstO; rfl
def appOO (o : Option O) (i : Nat) (v : D) (h : Hs) : R D := match o, v with
  | some (.lst ps), .p x => if okLen (ps.length + 1) = true then .ok (.p .non) (h.set i (.lst (ps ++ [x]))) else .bad
  | some (.rl es), v => if okLen (es.length + 1) = true then .ok (.p .non) (h.set i (.rl (es ++ [v]))) else .bad
  | _, _ => .bad
@[simp] theorem appOO_l : appOO (some (.lst ps)) i (.p x) h = if okLen (ps.length + 1) = true then .ok (.p .non) (h.set i (.lst (ps ++ [x]))) else .bad := (rfl)
@[simp] theorem appOO_rl : appOO (some (.rl ds)) i d h = if okLen (ds.length + 1) = true then .ok (.p .non) (h.set i (.rl (ds ++ [d]))) else .bad := by unfold appOO; split <;> simp_all
@[simp] theorem mAppend_loc : mAppend (.loc i) [d] h = appOO h[i]? i d h := by unfold mAppend appOO; rfl
def setOO (o : Option O) (n : Nat) (k : P) (v : D) (h : Hs) : R Unit := match o, k, v with
  | some (.lst ps), .int j, .p x => (match ixZ ps.length j with | some m => .ok () (h.set n (.lst (ps.set m x))) | none => .bad)
  | some (.rl ds), .int j, v => (match ixZ ds.length j with | some m => .ok () (h.set n (.rl (ds.set m v))) | none => .bad)
  | some (.dct ks vs), k, .p x => if (isKey k && okLen (ks.length + 1)) = true then .ok () (h.set n (.dct (dPut ks vs k x).1 (dPut ks vs k x).2)) else .bad
  | some (.dtt ks vs), k, .p x => if (isTKey k && okLen (ks.length + 1)) = true then .ok () (h.set n (.dtt (dPut ks vs k x).1 (dPut ks vs k x).2)) else .bad
  | _, _, _ => .bad
def setK {β : Type} (o : Option Nat) (f : Nat → R β) : R β := match o with
  | some m => f m
  | none => .bad
@[simp] theorem setK_e {β : Type} (f : Nat → R β) : setK (some n) f = f n := (rfl)
@[simp] theorem setOO_l (j : Int) : setOO (some (.lst ps)) n (.int j) (.p x) h = setK (ixZ ps.length j) fun m => .ok () (h.set n (.lst (ps.set m x))) := by unfold setOO setK; rfl
@[simp] theorem setOO_rl (j : Int) : setOO (some (.rl ds)) n (.int j) d h = setK (ixZ ds.length j) fun m => .ok () (h.set n (.rl (ds.set m d))) := by unfold setOO setK; rfl
@[simp] theorem setOO_d (ks vs : List P) : setOO (some (.dct ks vs)) n x (.p y) h = if isKey x = true ∧ ks.length + 1 ≤ 16777216 then .ok () (h.set n (.dct (dPut ks vs x y).1 (dPut ks vs x y).2)) else .bad := by
  unfold setOO; split <;> simp_all [okLen]
@[simp] theorem setOO_t (ks vs : List P) : setOO (some (.dtt ks vs)) n x (.p y) h = if isTKey x = true ∧ ks.length + 1 ≤ 16777216 then .ok () (h.set n (.dtt (dPut ks vs x y).1 (dPut ks vs x y).2)) else .bad := by
  unfold setOO; split <;> simp_all [okLen]
@[simp] theorem setD_loc : setD (.loc n) (.p x) d h = setOO h[n]? n x d h := by unfold setD setOO; rfl
@[simp] theorem ixZ_lit (m k : Nat) : ixZ m (no_index (OfNat.ofNat k : Int)) = if OfNat.ofNat k < m then some (OfNat.ofNat k) else none := (rfl)
@[simp] theorem ixZ_0 (m : Nat) : ixZ m 0 = if 0 < m then some 0 else none := (rfl)
@[simp] theorem ixZ_1 (m : Nat) : ixZ m 1 = if 1 < m then some 1 else none := (rfl)
@[simp] theorem ixZ_nat (m k : Nat) : ixZ m (k : Int) = if k < m then some k else none := (rfl)
@[simp] theorem okLen_e : okLen n = decide (n ≤ 16777216) := (rfl)
/-! what is walked -/
@[simp] theorem iSeq_e : iSeq f env h = (f env h).bind seqItems := (rfl)
@[simp] theorem seqItems_l : seqItems (.p (.lst ps)) h = .ok (ps.map D.p, fun _ => true) h := (rfl)
@[simp] theorem seqItems_t : seqItems (.p (.tup ps)) h = .ok (ps.map D.p, fun _ => true) h := (rfl)
@[simp] theorem iRng1_e : Ar.iRng1 a env h = (a env h).bind rngItems1 := (rfl)
@[simp] theorem iRng2_e : Ar.iRng2 a env h = (a env h).bind rngItems2 := (rfl)
theorem okI_of {k : Int} (h1 : -1000000000 ≤ k) (h2 : k ≤ 1000000000) : okI k = true := decide_eq_true ⟨by omega, by omega⟩
@[simp] theorem rng1_e {k : Int} (h1 : -1000000000 ≤ k) (h2 : k ≤ 1000000000) : rngItems1 [.p (.int k)] h = .ok (zs 0 k.toNat, fun _ => true) h := by
  show (if okI k = true then _ else _) = _
  rw [if_pos (okI_of h1 h2)]
@[simp] theorem rng2_e {k l : Int} (h1 : -1000000000 ≤ k) (h2 : k ≤ 1000000000) (h3 : -1000000000 ≤ l) (h4 : l ≤ 1000000000) : rngItems2 [.p (.int k), .p (.int l)] h = .ok (zs k (l - k).toNat, fun _ => true) h := by
  show (if (okI k && okI l) = true then _ else _) = _
  rw [if_pos (by rw [okI_of h1 h2, okI_of h3 h4]; rfl)]
@[simp] theorem sFor_e (fi : FI) (g : FG) (fb : FS) : sFor fi g fb env h = (fi env h).toS env fun it h1 => forL g fb it.2 it.1 env h1 := (rfl)
def lcK (fin : List D → Hs → R D) (r : R (List D)) : R D := match r with
  | .ok xs h2 => fin xs h2
  | _ => .bad
@[simp] theorem lcK_ok (fin : List D → Hs → R D) : lcK fin (.ok ds h) = fin ds h := (rfl)
@[simp] theorem lcAll_e (fi : FI) (t : Tg) (vs : List Nat) (fin : List D → Hs → R D) : lcAll fi t ft f vs fin env h = (fi env h).bind fun it h1 => if okLen it.1.length = true then lcK fin (lcL t ft f it.2 it.1 (wipeE env vs) h1) else .bad := (rfl)
@[simp] theorem cYes_e : cYes env h = .ok true h := (rfl)
@[simp] theorem finP_e : finP ds h = finO (Ar.plain ds) h := (rfl)
@[simp] theorem finN_e : finN ds h = finOn (Ar.plain ds) h := (rfl)
@[simp] theorem cGen_e (st : Bool → Bool) (u v : Bool) (fi : FI) (t : Tg) (vs : List Nat) : cGen st u v fi t f vs env hs = (fi env hs).bind fun it h1 => anyL t f st u v it.2 it.1 (wipeE env vs) h1 := (rfl)
@[simp] theorem wipeE_nil : wipeE env [] = env := (rfl)
@[simp] theorem wipeE_cons (v : Nat) (vs : List Nat) : wipeE env (v :: vs) = (wipeE env vs).set v none := (rfl)
@[simp] theorem bind_nm : (Tg.nm i).bind d env h = some (env.set i (some d)) := (rfl)
@[simp] theorem bind_tp2 (t1 t2 : Tg) : (Tg.tp [t1, t2]).bind (.p (.tup [x, y])) env h = (t1.bind (.p x) env h).bind fun e1 => t2.bind (.p y) e1 h := by
  show Tg.bindL [t1, t2] [.p x, .p y] env h = _
  unfold Tg.bindL
  cases t1.bind (.p x) env h with
  | none => rfl
  | some e1 =>
    show Tg.bindL [t2] [.p y] e1 h = t2.bind (.p y) e1 h
    unfold Tg.bindL
    cases t2.bind (.p y) e1 h <;> rfl
def seqOO (o : Option O) (i : Nat) (h : Hs) : R (List D × (Hs → Bool)) := match o with
  | some (.lst ps) => .ok (ps.map D.p, fun h' => match h'[i]? with | some (.lst qs) => beqXs ps qs | _ => false) h
  | some (.rl ds) => .ok (ds, fun h' => match h'[i]? with | some (.rl es) => beqDs ds es | _ => false) h
  | some (.rt ds) => .ok (ds, fun h' => match h'[i]? with | some (.rt es) => beqDs ds es | _ => false) h
  | _ => .bad
def invL (i : Nat) (ps : List P) (h' : Hs) : Bool := match h'[i]? with | some (.lst qs) => beqXs ps qs | _ => false
def invR (i : Nat) (ds : List D) (h' : Hs) : Bool := match h'[i]? with | some (.rl es) => beqDs ds es | _ => false
@[simp] theorem seqOO_l : seqOO (some (.lst ps)) i h = .ok (ps.map D.p, invL i ps) h := (rfl)
@[simp] theorem seqOO_rl : seqOO (some (.rl ds)) i h = .ok (ds, invR i ds) h := (rfl)
@[simp] theorem seqItems_loc : seqItems (.loc i) h = seqOO h[i]? i h := by unfold seqItems seqOO; rfl
theorem invL_ok (q : h[i]? = some (.lst ps)) : invL i ps h = true := by unfold invL; simp only [q, beqXs_refl]
theorem invR_ok (q : h[i]? = some (.rl ds)) : invR i ds h = true := by unfold invR; simp only [q, beqDs_refl]
end
@[simp] theorem ordZ_pos {a b : Rat} : 0 < ordZ a b ↔ b < a := by
  unfold ordZ
  by_cases h1 : b < a
  · have h2 : ¬ a < b := by grind
    simp [h1, h2]
  · by_cases h2 : a < b <;> simp [h1, h2]
@[simp] theorem ordZ_neg {a b : Rat} : ordZ a b < 0 ↔ a < b := by
  unfold ordZ
  by_cases h1 : a < b
  · have h2 : ¬ b < a := by grind
    simp [h1, h2]
  · by_cases h2 : b < a <;> simp [h1, h2]
@[simp] theorem ordZ_le {a b : Rat} : ordZ a b ≤ 0 ↔ a ≤ b := by
  rw [← Int.not_lt, ordZ_pos, Rat.not_lt]
@[simp] theorem ordZ_ge {a b : Rat} : 0 ≤ ordZ a b ↔ b ≤ a := by
  rw [← Int.not_lt, ordZ_neg, Rat.not_lt]
@[simp] theorem ordZ_zero {a b : Rat} : ordZ a b = 0 ↔ a = b := by
  constructor
  · intro h
    have h1 : ordZ a b ≤ 0 := by omega
    have h2 : 0 ≤ ordZ a b := by omega
    rw [ordZ_le] at h1
    rw [ordZ_ge] at h2
    exact Rat.le_antisymm h1 h2
  · intro h; subst h; simp [ordZ]
@[simp] theorem ordZ_one {a b : Rat} : ordZ a b = 1 ↔ b < a := by
  unfold ordZ
  by_cases h1 : b < a
  · have h2 : ¬ a < b := by grind
    simp [h1, h2]
  · by_cases h2 : a < b <;> simp [h1, h2]
theorem zs_at (n : Nat) (lo : Int) (i : Nat) (d : D) (e : (zs lo n)[i]? = some d) : i < n ∧ d = .p (.int (lo + i)) := zs_get n lo i d e
theorem zs_mem {n : Nat} {lo : Int} {d : D} (h : d ∈ zs lo n) : ∃ i : Nat, i < n ∧ d = .p (.int (lo + i)) := by
  obtain ⟨i, hi, e⟩ := List.mem_iff_getElem.mp h
  obtain ⟨h1, h2⟩ := zs_get n lo i d (by rw [List.getElem?_eq_getElem hi, e])
  exact ⟨i, h1, h2⟩
theorem range_succ_map {α : Type} (f : Nat → α) (k : Nat) : (List.range (k + 1)).map f = (List.range k).map f ++ [f k] := by
  rw [List.range_succ, List.map_append]; rfl
theorem roll_get {h : Hs} {i : Nat} (d : Dice h i) (m : Int) (m0 : 0 < m := by decide) (m1 : m < 2 ^ 90 := by decide) : ∃ v h', fRoll [.loc i, .p (.int m)] h = .ok (.p (.int v)) h' ∧ 0 ≤ v ∧ v < m ∧ Dice h' i ∧ Same i h h' ∧ h'.length = h.length ∧ ∀ j, j ≠ i → h'[j]? = h[j]? :=
  ⟨_, _, roll_eq d m0 m1, rv_lo d m0 m1, rv_hi d m0 m1, rh_dice d m0 m1, rh_same, rh_len, fun _ => rh_ne⟩
theorem part_bd (a b : Int) {n : Nat} [hb : BdZ b n] [pb : PZ b] (l : n ≤ 8900) (h : Hs) : callP fPart [.p (.int a), .p (.int b)] h = .ok (.p (pr ((a : Rat) / b))) h :=
  part_ok a b (by have := pb.pos; omega) (lt_pow_mono hb.lt l) h
instance instBdQdivZ {a b : Int} {n m : Nat} [h : BdZ a n] [k : BdZ b m] [z : PZ b] : BdQ ((a : Rat) / (b : Rat)) (n + m) := bdQ_div (by have := z.pos; omega) (lt_pow_mono h.lt (by omega)) (lt_pow_mono k.lt (by omega))
theorem div_pos_num {a b : Int} (h : 0 < a) (k : 0 < b) : 0 < ((a : Rat) / b).num := by
  have h1 : (0 : Rat) < (a : Rat) / b := by rw [Rat.lt_div_iff (Rat.intCast_pos.mpr k), Rat.zero_mul]; exact Rat.intCast_pos.mpr h
  have := @Rat.num_nonneg (-((a : Rat) / b))
  rw [Rat.neg_num] at this
  by_cases z : 0 < ((a : Rat) / b).num
  · exact z
  · have h2 := this.mp (by omega)
    grind
theorem num_pos {q : Rat} : 0 < q.num ↔ 0 < q := by
  have := @Rat.num_nonneg (-q)
  rw [Rat.neg_num] at this
  constructor
  · intro h
    rw [← Rat.not_le]
    intro z
    have := this.mpr (by grind)
    omega
  · intro h
    by_cases z : 0 < q.num
    · exact z
    · have h2 := this.mp (by omega)
      grind
theorem num_neg {q : Rat} : q.num < 0 ↔ q < 0 := by
  have := @Rat.num_nonneg q
  rw [← Rat.not_le, ← this]; exact Int.not_le.symm
theorem part_get (a b : Int) (n : Nat) (b0 : 0 < b) (an : a.natAbs < 2 ^ n) (bn : b.natAbs < 2 ^ n) (l : n ≤ 8900 := by decide) : ∃ p : Rat, (∀ h, callP fPart [.p (.int a), .p (.int b)] h = .ok (.p (pr p)) h) ∧ p = (a : Rat) / b ∧ BdQ p n ∧ (0 < a → 0 < p) ∧ (0 ≤ a → 0 ≤ p) ∧ (a ≠ 0 → p ≠ 0) := by
  have bp : (0 : Rat) < b := Rat.intCast_pos.mpr b0
  refine ⟨(a : Rat) / b, fun h => part_ok a b (by omega) (lt_pow_mono bn l) h, rfl, bdQ_div (by omega) an bn, fun h => num_pos.mp (div_pos_num h b0), fun h => ?_, fun h => ?_⟩
  · rcases Int.lt_or_eq_of_le h with h | h
    · exact Rat.le_of_lt (num_pos.mp (div_pos_num h b0))
    · rw [← h]; simp [Rat.div_def]
  · have := cast_ne h
    grind
@[simp] theorem rat_div_one (a : Rat) : a / 1 = a := by grind
@[simp] theorem oNe_nil : oNe (.lst []) (.lst []) = some (.bl false) := (rfl)
@[simp] theorem oEq_nil0 : oEq (.lst []) (.lst []) = some (.bl true) := (rfl)
theorem oEq_tt (a b c d : Int) : oEq (.tup [.int a, .int b]) (.tup [.int c, .int d]) = some (.bl (decide (a = c ∧ b = d))) := by
  unfold oEq
  rw [if_pos (by rfl)]
  simp [eqP, eqPs, Bool.beq_eq_decide_eq]
theorem oNe_tt (a b c d : Int) : oNe (.tup [.int a, .int b]) (.tup [.int c, .int d]) = some (.bl (!decide (a = c ∧ b = d))) := by
  unfold oNe
  rw [if_pos (by rfl)]
  simp [eqP, eqPs, Bool.beq_eq_decide_eq]
theorem oEq_pt (q : Rat) (c d : Int) : oEq (pr q) (.tup [.int c, .int d]) = some (.bl (decide (q.num = c ∧ (q.den : Int) = d))) := oEq_tt ..
theorem oNe_pt (q : Rat) (c d : Int) : oNe (pr q) (.tup [.int c, .int d]) = some (.bl (!decide (q.num = c ∧ (q.den : Int) = d))) := oNe_tt ..
theorem ix_eta (q : Rat) : (.tup [.int q.num, .int q.den] : P) = pr q := rfl
section
variable {ns : List Int} {h : Hs} {i : Nat} {k : List Int → Option P} {kk : List Int → Hs → R D} {ps : List P}
def intsOf (k : List Int → Option P) (o : Option (List P)) (h : Hs) : R D := match o with
  | some ps => (match intP ps with
    | some ns => ofO (k ns) h
    | none => .bad)
  | none => .bad
@[simp] theorem intP_nil : intP [] = some [] := (rfl)
@[simp] theorem intP_cons (a : Int) (r : List P) : intP (.int a :: r) = (intP r).map (a :: ·) := by
  simp only [intP]; cases intP r <;> rfl
@[simp] theorem intP_m (ns : List Int) : intP (ns.map P.int) = some ns := intP_map ns
@[simp] theorem intsOf_e : intsOf k (some (ns.map P.int)) h = ofO (k ns) h := by unfold intsOf; simp only [intP_map] <;> rfl
theorem intsOf_s (ps : List P) : intsOf k (some ps) h = match intP ps with | some ns => ofO (k ns) h | none => .bad := (rfl)
@[simp] theorem bIntsA_l : bIntsA k [.p (.lst ps)] h = intsOf k (some ps) h := by unfold bIntsA rowP intsOf ofO; rfl
@[simp] theorem bIntsA_t : bIntsA k [.p (.tup ps)] h = intsOf k (some ps) h := by unfold bIntsA rowP intsOf ofO; rfl
@[simp] theorem bIntsA_loc : bIntsA k [.loc i] h = intsOf k (rowOO h[i]?) h := by unfold bIntsA rowP intsOf ofO rowOO; rfl
@[simp] theorem bSumA_e (ds : List D) : bSumA ds h = bIntsA (fun ns => some (.int (sumZ ns))) ds h := (rfl)
@[simp] theorem bMaxA_e (ds : List D) : bMaxA ds h = bIntsA (fun ns => (maxZ ns).map P.int) ds h := (rfl)
@[simp] theorem bMinA_e (ds : List D) : bMinA ds h = bIntsA (fun ns => (minZ ns).map P.int) ds h := (rfl)
@[simp] theorem rgOk_e (a b : Int) : rgOk a b = decide (-1000000000 ≤ a ∧ a ≤ 1000000000 ∧ -1000000000 ≤ b ∧ b ≤ 1000000000 ∧ b - a ≤ 1000000) := (rfl)
@[simp] theorem bRg_1 (b : Int) : bRg kk [.p (.int b)] h = if rgOk 0 b = true then kk (rgZ 0 b.toNat) h else .bad := (rfl)
@[simp] theorem bRg_2 (a b : Int) : bRg kk [.p (.int a), .p (.int b)] h = if rgOk a b = true then kk (rgZ a (b - a).toNat) h else .bad := (rfl)
@[simp] theorem bRgP_e (ds : List D) : bRgP ds h = bRg (fun ns h => .ok (.p (.lst (ns.map P.int))) h) ds h := (rfl)
@[simp] theorem bRgT_e (ds : List D) : bRgT ds h = bRg (fun ns h => .ok (.p (.tup (ns.map P.int))) h) ds h := (rfl)
@[simp] theorem bRgN_e (ds : List D) : bRgN ds h = bRg (fun ns h => .ok (.loc h.length) (h ++ [.lst (ns.map P.int)])) ds h := (rfl)
end
/-- a comprehension that changes the places -/
theorem lcL_ind {t : Tg} {fe : FE} {inv : Hs → Bool} {items : List D} {env : Env} (I : Nat → Hs → Prop) (val : Nat → D)
    (step : ∀ k d h, items[k]? = some d → I k h → inv h = true ∧ ∃ e1 h1, t.bind d env h = some e1 ∧ fe e1 h = .ok (val k) h1 ∧ I (k + 1) h1)
    (last : ∀ h, I items.length h → inv h = true) {h : Hs} (h0 : I 0 h) : ∃ h', lcL t cYes fe inv items env h = .ok ((List.range items.length).map val) h' ∧ I items.length h' := by
  have key : ∀ (n k : Nat) (h : Hs), n = items.length - k → k ≤ items.length → I k h → ∃ h', lcL t cYes fe inv (items.drop k) env h = .ok ((List.range' k n).map val) h' ∧ I items.length h' := by
    intro n
    induction n with
    | zero =>
      intro k h hn hk hi
      have : k = items.length := by omega
      subst this
      rw [List.drop_length]
      unfold lcL
      rw [last h hi]
      exact ⟨h, rfl, hi⟩
    | succ n ih =>
      intro k h hn hk hi
      have lt : k < items.length := by omega
      rw [List.drop_eq_getElem_cons lt]
      obtain ⟨iv, e1, h1, q1, q2, i2⟩ := step k _ h (List.getElem?_eq_getElem lt) hi
      obtain ⟨h', q3, i3⟩ := ih (k + 1) h1 (by omega) lt i2
      refine ⟨h', ?_, i3⟩
      unfold lcL
      simp only [iv, if_pos, q1, cYes, q2, q3]
      rfl
  have := key items.length 0 h rfl (Nat.zero_le _) h0
  rw [List.range_eq_range']
  simpa using this
def CaseP (i : Nat) (h : Hs) (d : D) (h' : Hs) : Prop := d = .p (.bl true) ∧ Same i h h' ∧ Dice h' i
theorem caseOk_of {F : Fn} (k : ∀ (h : Hs) (i : Nat), Dice h i → EndT (CaseP i h) (F [.loc i] h)) : CaseOk F := fun h i d => by
  obtain ⟨d, h', e, rfl, s, dd⟩ := k h i d
  exact ⟨h', e, s, dd⟩
end Ar
namespace Ar
open PySem
section
variable {env : Env} {h : Hs} {f k fa fb fc : FE} {ft : FT} {a : FA} {d d' : D} {ds : List D} {x y : P} {ps ks vs : List P} {n i j c : Nat} {b : Bool}
def inR (neg : Bool) (o : Option Bool) (h : Hs) : R D := match o with
  | some b => .ok (.p (.bl (if neg then !b else b))) h
  | none => .bad
@[simp] theorem inR_t : inR true (some b) h = .ok (.p (.bl (!b))) h := (rfl)
@[simp] theorem inR_f : inR false (some b) h = .ok (.p (.bl b)) h := (rfl)
@[simp] theorem inD_pp (neg : Bool) : inD neg (.p x) (.p y) h = inR neg (inP x y) h := by unfold inD inR; rfl
@[simp] theorem inD_pl (neg : Bool) : inD neg (.p x) (.loc i) h = inR neg (inO x h[i]?) h := by unfold inD inR; rfl
@[simp] theorem cIn_e (neg : Bool) : cIn neg fa fb env h = (fa env h).bind fun d h1 => (fb env h1).bind fun e h2 => inD neg d e h2 := (rfl)
@[simp] theorem flatP_int (z : Int) : flatP (.int z) = true := (rfl)
@[simp] theorem flatP_str (z : Str) : flatP (.str z) = true := (rfl)
@[simp] theorem flatP_bl : flatP (.bl b) = true := (rfl)
@[simp] theorem inP_t : inP x (.tup ps) = if (flatP x && ps.all flatP) = true then some (ps.any fun z => eqP z x) else none := (rfl)
theorem inP_l : inP x (.lst ps) = if (flatP x && ps.all flatP) = true then some (ps.any fun z => eqP z x) else if (depLe 60 x && ps.all (depLe 59)) = true then some (ps.any fun z => eqP z x) else none := (rfl)
@[simp] theorem inP_d : inP x (.dct ks vs) = if isKey x = true then some (dHas ks x) else none := (rfl)
@[simp] theorem isKey_int (z : Int) : isKey (.int z) = true := (rfl)
@[simp] theorem isKey_str (z : Str) : isKey (.str z) = true := (rfl)
theorem inP_ti (z : Int) (ns : List Int) : inP (.int z) (.tup (ns.map P.int)) = some (decide (z ∈ ns)) := by
  rw [inP_t, if_pos (by simp [List.all_map])]
  congr 1
  rw [List.any_map]
  induction ns with
  | nil => simp
  | cons m r ih =>
    rw [List.any_cons, ih]
    by_cases e : m = z
    · subst e; simp [eqP]
    · have : ¬ z = m := fun q => e q.symm
      simp [eqP, e, this]
theorem inP_li (z : Int) (ns : List Int) : inP (.int z) (.lst (ns.map P.int)) = some (decide (z ∈ ns)) := by
  have : inP (.int z) (.lst (ns.map P.int)) = inP (.int z) (.tup (ns.map P.int)) := by
    rw [inP_t, inP_l, if_pos (by simp [List.all_map]), if_pos (by simp [List.all_map])]
  rw [this, inP_ti]
def dcK (fin : List P → List P → Hs → R D) (r : R (List P × List P)) : R D := match r with
  | .ok z h2 => fin z.1 z.2 h2
  | _ => .bad
@[simp] theorem dcK_ok (fin : List P → List P → Hs → R D) (z : List P × List P) : dcK fin (.ok z h) = fin z.1 z.2 h := (rfl)
@[simp] theorem dcAll_e (fi : FI) (t : Tg) (fk fv : FE) (sl : List Nat) (fin : List P → List P → Hs → R D) : dcAll fi t ft fk fv sl fin env h = (fi env h).bind fun it h1 => if okLen it.1.length = true then dcK fin (dcL t ft fk fv it.2 it.1 (wipeE env sl) h1 [] []) else .bad := (rfl)
@[simp] theorem finDP_e : finDP ks vs h = .ok (.p (.dct ks vs)) h := (rfl)
@[simp] theorem finDN_e : finDN ks vs h = .ok (.loc h.length) (h ++ [.dct ks vs]) := (rfl)
/-! len, dict, list, sorted -/
@[simp] theorem dctP_d : dctP (.p (.dct ks vs)) h = some (ks, vs) := (rfl)
@[simp] theorem dctP_l : dctP (.p (.lst ps)) h = none := (rfl)
@[simp] theorem dctP_t : dctP (.p (.tup ps)) h = none := (rfl)
def dctOO (o : Option O) : Option (List P × List P) := match o with
  | some (.dct ks vs) => some (ks, vs)
  | _ => none
@[simp] theorem dctOO_d : dctOO (some (.dct ks vs)) = some (ks, vs) := (rfl)
@[simp] theorem dctOO_l : dctOO (some (.lst ps)) = none := (rfl)
@[simp] theorem dctOO_rl : dctOO (some (.rl ds)) = none := (rfl)
@[simp] theorem dctP_loc : dctP (.loc i) h = dctOO h[i]? := by unfold dctP dctOO; rfl
def lenAK (d : D) (h : Hs) (o : Option (List P × List P)) : R D := match o with
  | some z => .ok (.p (.int z.1.length)) h
  | none => bLen [d] h
@[simp] theorem lenAK_some : lenAK d h (some (ks, vs)) = .ok (.p (.int ks.length)) h := (rfl)
@[simp] theorem lenAK_none : lenAK d h none = bLen [d] h := (rfl)
@[simp] theorem bLenA_e : bLenA [d] h = lenAK d h (dctP d h) := (rfl)
def dictL (fin : List P → List P → Hs → R D) (h : Hs) (o : Option (List P)) : R D := match o with
  | some ps => (match pairsP ps with
        | some qs => fin (mergeP [] [] qs).1 (mergeP [] [] qs).2 h
        | none => .bad)
  | none => .bad
def dictK (fin : List P → List P → Hs → R D) (d : D) (h : Hs) (o : Option (List P × List P)) : R D := match o with
  | some z => fin z.1 z.2 h
  | none => dictL fin h (lstP d h)
@[simp] theorem dictK_some (fin : List P → List P → Hs → R D) : dictK fin d h (some (ks, vs)) = fin ks vs h := (rfl)
@[simp] theorem dictK_none (fin : List P → List P → Hs → R D) : dictK fin d h none = dictL fin h (lstP d h) := (rfl)
theorem dictL_some (fin : List P → List P → Hs → R D) (qs : List (P × P)) (e : pairsP ps = some qs) : dictL fin h (some ps) = fin (mergeP [] [] qs).1 (mergeP [] [] qs).2 h := by
  unfold dictL; simp only [e]
@[simp] theorem bDict_e (fin : List P → List P → Hs → R D) : bDict fin [d] h = dictK fin d h (dctP d h) := (rfl)
@[simp] theorem lstP_l : lstP (.p (.lst ps)) h = some ps := (rfl)
@[simp] theorem lstP_t : lstP (.p (.tup ps)) h = none := (rfl)
def lstOO (o : Option O) : Option (List P) := match o with
  | some (.lst ps) => some ps
  | _ => none
@[simp] theorem lstOO_l : lstOO (some (.lst ps)) = some ps := (rfl)
@[simp] theorem lstP_loc : lstP (.loc i) h = lstOO h[i]? := by unfold lstP lstOO; rfl
theorem sorted_d (ns : List Int) (hk : ns.length < 64) (vs : List P) : bSortedA [.p (.dct (ns.map P.int) vs)] h = .ok (.p (.lst ((sortZ ns).map P.int))) h := by
  unfold bSortedA; simp [hk]
theorem sorted_l (ns : List Int) : bSortedA [.p (.lst (ns.map P.int))] h = .ok (.p (.lst ((sortZ ns).map P.int))) h := by
  unfold bSortedA; simp
theorem sorted_t (ns : List Int) (hk : ns.length < 64) : bSortedA [.p (.tup (ns.map P.int))] h = .ok (.p (.lst ((sortZ ns).map P.int))) h := by
  unfold bSortedA; simp [rowP, hk]
/-! walks -/
@[simp] theorem iKeysD_e : iKeysD f env h = (f env h).bind keysI := (rfl)
@[simp] theorem iValsD_e : iValsD f env h = (f env h).bind valsI := (rfl)
@[simp] theorem iItemsD_e : iItemsD f env h = (f env h).bind itemsI := (rfl)
@[simp] theorem keysI_e : keysI (.p (.dct ks vs)) h = .ok (ks.map D.p, fun _ => true) h := (rfl)
@[simp] theorem valsI_e : valsI (.p (.dct ks vs)) h = .ok (vs.map D.p, fun _ => true) h := (rfl)
@[simp] theorem itemsI_e : itemsI (.p (.dct ks vs)) h = .ok (prs ks vs, fun _ => true) h := (rfl)
@[simp] theorem iZip2_e : iZip2 a env h = (a env h).bind zipI := (rfl)
theorem zip_ll {ps qs : List P} {zs : List D} (e : zipD (ps.map D.p) (qs.map D.p) = some zs) : zipI [.p (.lst ps), .p (.lst qs)] h = .ok (zs, fun _ => true) h := by
  unfold zipI; simp [e, isL]
theorem zip_tt {ps qs : List P} {zs : List D} (e : zipD (ps.map D.p) (qs.map D.p) = some zs) : zipI [.p (.tup ps), .p (.tup qs)] h = .ok (zs, fun _ => true) h := by
  unfold zipI; simp [e, isL]
def zipPP : List P → List P → List P
  | x :: r, y :: t => .tup [x, y] :: zipPP r t
  | _, _ => []
theorem zipD_map : ∀ (ps qs : List P), zipD (ps.map D.p) (qs.map D.p) = some ((zipPP ps qs).map D.p)
  | [], [] => rfl
  | [], _ :: _ => rfl
  | _ :: _, [] => rfl
  | x :: r, y :: t => by
    show (zipD (r.map D.p) (t.map D.p)).map _ = _
    rw [zipD_map r t]; rfl
@[simp] theorem zipI_ll {qs : List P} : zipI [.p (.lst ps), .p (.lst qs)] h = .ok ((zipPP ps qs).map D.p, fun _ => true) h := zip_ll (zipD_map ps qs)
@[simp] theorem zipI_tt {qs : List P} : zipI [.p (.tup ps), .p (.tup qs)] h = .ok ((zipPP ps qs).map D.p, fun _ => true) h := zip_tt (zipD_map ps qs)
def enumPP : Nat → List P → List P
  | k, x :: r => .tup [.int k, x] :: enumPP (k + 1) r
  | _, [] => []
theorem enumD_map : ∀ (ps : List P) (k : Nat), enumD k (ps.map D.p) = some ((enumPP k ps).map D.p)
  | [], _ => rfl
  | x :: r, k => by
    show (enumD (k + 1) (r.map D.p)).map _ = _
    rw [enumD_map r (k + 1)]; rfl
@[simp] theorem iEnum1_e : iEnum1 a env h = (a env h).bind enumI := (rfl)
@[simp] theorem enumI_l : enumI [.p (.lst ps)] h = .ok ((enumPP 0 ps).map D.p, fun _ => true) h := by
  unfold enumI; simp [enumD_map, isL]
@[simp] theorem iRevD_e : iRevD f env h = (f env h).bind revI := (rfl)
@[simp] theorem revI_l : revI (.p (.lst ps)) h = .ok (ps.reverse.map D.p, fun _ => true) h := by
  unfold revI; simp
@[simp] theorem revI_t : revI (.p (.tup ps)) h = .ok (ps.reverse.map D.p, fun _ => true) h := by
  unfold revI; simp
end
end Ar
namespace Ar
open PySem
theorem floor_div (p q : Int) (h : 0 < q) : ((p : Rat) / (q : Rat)).floor = p / q := by
  have hq : (0 : Rat) < q := Rat.intCast_pos.mpr h
  have key : ∀ x : Int, x ≤ ((p : Rat) / (q : Rat)).floor ↔ x ≤ p / q := fun x => by
    rw [Rat.le_floor_iff, Int.le_ediv_iff_mul_le h, ← Rat.intCast_le_intCast, Rat.intCast_mul]
    constructor
    · intro k
      have := Rat.mul_le_mul_of_nonneg_right k (Rat.le_of_lt hq)
      rwa [Rat.div_mul_cancel (by grind)] at this
    · intro k
      rw [← Rat.not_lt, Rat.div_lt_iff hq, Rat.not_lt]
      exact k
  exact Int.le_antisymm ((key _).mp (Int.le_refl _)) ((key _).mpr (Int.le_refl _))
theorem fr_eq (q : Rat) : ((q.num % q.den : Int) : Rat) / ((q.den : Int) : Rat) = q - (q.floor : Rat) := by
  have e1 : q.num = q.den * (q.num / q.den) + q.num % q.den := (Int.mul_ediv_add_emod _ _).symm
  have e2 := congrArg (fun z : Int => (z : Rat)) e1
  simp only [Rat.intCast_add, Rat.intCast_mul] at e2
  have e3 := as_div q
  have e4 := den_ne q
  rw [Rat.floor_def]
  grind
theorem cross {a b c d : Int} (hb : 0 < b) (hd : 0 < d) (h : (a : Rat) / (b : Rat) = (c : Rat) / (d : Rat)) : a * d = c * b := by
  have hb' := cast_ne (b := b) (by omega)
  have hd' := cast_ne (b := d) (by omega)
  have : (a : Rat) * d = c * b := by grind
  rw [← Rat.intCast_mul, ← Rat.intCast_mul] at this
  have := congrArg Rat.num this
  rwa [Rat.num_intCast, Rat.num_intCast] at this
theorem floor_sub_int (q : Rat) (k : Int) : (q - (k : Rat)).floor = q.floor - k := by
  have := @Rat.floor_add_intCast (q - (k : Rat)) k
  rw [Rat.sub_add_cancel] at this
  omega
theorem floor_int_add (q : Rat) (k : Int) : ((k : Rat) + q).floor = k + q.floor := by
  rw [Rat.add_comm, Rat.floor_add_intCast, Int.add_comm]
end Ar
namespace Ar
open PySem
/-! ### more rows for simp -/
@[simp] theorem frzV_e (j : Nat) (env : Ar.Env) (h : Hs) (ks vs : List P) (i : Nat) (e : env[j]? = some (some (.loc i))) (e2 : h[i]? = some (.dct ks vs)) : frzV j env h = some (i, .dct ks vs) := by
  unfold frzV; simp only [e, e2]
@[simp] theorem frzV_p (j : Nat) (env : Ar.Env) (h : Hs) (x : P) (e : env[j]? = some (some (.p x))) : frzV j env h = none := by
  unfold frzV; simp only [e]
def frzS (fs : FS) (j : Nat) (env : Ar.Env) (h : Hs) (o : Option (Nat × P)) : S := match o with
  | some q => fs (env.set j (some (.p q.2))) (h.set q.1 .dead)
  | none => fs env h
@[simp] theorem sFrz_e (j : Nat) (fs : FS) (env : Ar.Env) (h : Hs) : sFrz j fs env h = frzS fs j env h (frzV j env h) := by unfold sFrz frzS; rfl
@[simp] theorem frzS_s (fs : FS) (j : Nat) (env : Ar.Env) (h : Hs) (q : Nat × P) : frzS fs j env h (some q) = fs (env.set j (some (.p q.2))) (h.set q.1 .dead) := (rfl)
@[simp] theorem frzS_n (fs : FS) (j : Nat) (env : Ar.Env) (h : Hs) : frzS fs j env h none = fs env h := (rfl)
def slR (o : Option P) (h : Hs) : Ar.R D := match o with
  | some z => .ok (.p z) h
  | none => .bad
@[simp] theorem slR_s (x : P) (h : Hs) : slR (some x) h = .ok (.p x) h := (rfl)
@[simp] theorem slD_p (x : P) (l u : Option Int) (h : Hs) : slD (.p x) l u h = slR (slP x l u) h := by unfold slD slR; rfl
def slOO (l u : Option Int) (h : Hs) (o : Option O) : Ar.R D := match o with
  | some (.lst ps) => .ok (.p (.lst (cut ps l u))) h
  | _ => .bad
@[simp] theorem slD_l (i : Nat) (l u : Option Int) (h : Hs) : slD (.loc i) l u h = slOO l u h h[i]? := by unfold slD slOO; rfl
@[simp] theorem slOO_l (ps : List P) (l u : Option Int) (h : Hs) : slOO l u h (some (.lst ps)) = .ok (.p (.lst (cut ps l u))) h := (rfl)
@[simp] theorem slP_t (ps : List P) (l u : Option Int) : slP (.tup ps) l u = some (.tup (cut ps l u)) := (rfl)
@[simp] theorem slP_l (ps : List P) (l u : Option Int) : slP (.lst ps) l u = some (.lst (cut ps l u)) := (rfl)
@[simp] theorem cSl_e' (fe : FE) (fl fh : FO) (env : Ar.Env) (h : Hs) : cSl fe fl fh env h = (fe env h).bind fun d h1 => (fl env h1).bind fun lo h2 => (fh env h2).bind fun hi h3 => slD d lo hi h3 := (rfl)
@[simp] theorem oN_e (env : Ar.Env) (h : Hs) : oN env h = .ok none h := (rfl)
@[simp] theorem oS_e (f : FE) (env : Ar.Env) (h : Hs) : oS f env h = (f env h).bind toI := (rfl)
@[simp] theorem toI_e (i : Int) (h : Hs) : toI (.p (.int i)) h = .ok (some i) h := (rfl)
def paperOf (c : Nat) (fl ret : Str) (r : Ar.R D) : Ar.R D := match r with
  | .ok _ h' => .ok (.p (.str ret)) h'
  | .ex c' fs h' => if c' = c then (match fs.lookup fl with
    | some v => .ok (.p v) h'
    | none => .bad) else .bad
  | .bad => .bad
@[simp] theorem cPaper_e (c : Nat) (fl ret : Str) (fb : FE) (env : Ar.Env) (h : Hs) : cPaper c fl ret fb env h = paperOf c fl ret (fb env h) := (rfl)
@[simp] theorem paperOf_ok (c : Nat) (fl ret : Str) (d : D) (h : Hs) : paperOf c fl ret (.ok d h) = .ok (.p (.str ret)) h := (rfl)
@[simp] theorem paperOf_ex (c : Nat) (fl ret : Str) (v : P) (h : Hs) : paperOf c fl ret (.ex c [(fl, v)] h) = .ok (.p v) h := by
  unfold paperOf; simp [List.lookup]
def raise1 (c : Nat) (f : Str) (env : Ar.Env) (d : D) (h : Hs) : S := match d with
  | .p v => .ex c [(f, v)] env h
  | _ => .bad
@[simp] theorem raise1_p (c : Nat) (f : Str) (env : Ar.Env) (x : P) (h : Hs) : raise1 c f env (.p x) h = .ex c [(f, x)] env h := (rfl)
@[simp] theorem sRaise1_e (c : Nat) (f : Str) (fe : FE) (env : Ar.Env) (h : Hs) : sRaise1 c f fe env h = (fe env h).toS env (raise1 c f env) := by
  unfold sRaise1; congr
@[simp] theorem cDict0_e (fin : List P → List P → Hs → Ar.R D) (env : Ar.Env) (h : Hs) : cDict0 fin env h = fin [] [] h := (rfl)
@[simp] theorem cDisp_e (fin : List P → List P → Hs → Ar.R D) (l : List (FE × FE)) (env : Ar.Env) (h : Hs) : cDisp fin l env h = (evPairs l env h).bind fun ps h1 => if ps.length ≤ 15 then fin (mergeP [] [] ps).1 (mergeP [] [] ps).2 h1 else .bad := (rfl)
def rowTO (o : Option (List P)) (h : Hs) : Ar.R D := match o with
  | some ps => .ok (.p (.tup ps.reverse)) h
  | none => .bad
@[simp] theorem rowTO_s (ps : List P) (h : Hs) : rowTO (some ps) h = .ok (.p (.tup ps.reverse)) h := (rfl)
@[simp] theorem cTupRev_e (fe : FE) (env : Ar.Env) (h : Hs) : cTupRev fe env h = (fe env h).bind tupRev := (rfl)
@[simp] theorem tupRev_e (d : D) (h : Hs) : tupRev d h = rowTO (rowP d h) h := by unfold tupRev rowTO; rfl
@[simp] theorem rowP_l (ps : List P) (h : Hs) : rowP (.p (.lst ps)) h = some ps := (rfl)
@[simp] theorem rowP_t (ps : List P) (h : Hs) : rowP (.p (.tup ps)) h = some ps := (rfl)
@[simp] theorem rowP_loc (i : Nat) (h : Hs) : rowP (.loc i) h = rowOO h[i]? := by unfold rowP rowOO; rfl
@[simp] theorem cRepN_e (fa fb : FE) (env : Ar.Env) (h : Hs) : cRepN fa fb env h = (fa env h).bind fun d h1 => (fb env h1).bind fun e h2 => repN d e h2 := (rfl)
@[simp] theorem repN_e (a : List P) (k : Int) (h : Hs) : repN (.p (.lst a)) (.p (.int k)) h = if (okLen (a.length * k.toNat) && decide (-(2 ^ 63) ≤ k ∧ k < 2 ^ 63)) = true then .ok (.loc h.length) (h ++ [.lst (List.replicate k.toNat a).flatten]) else .bad := (rfl)
@[simp] theorem iEnum2_e (a : FA) (env : Ar.Env) (h : Hs) : iEnum2 a env h = (a env h).bind enumJ := (rfl)
@[simp] theorem enumJ_l (ps : List P) (h : Hs) : enumJ [.p (.lst ps)] h = .ok ((enumPP 0 ps).map D.p, fun _ => true) h := by
  unfold enumJ; simp [enumD_map]
@[simp] theorem enumJ_t (ps : List P) (h : Hs) : enumJ [.p (.tup ps)] h = .ok ((enumPP 0 ps).map D.p, fun _ => true) h := by
  unfold enumJ; simp [enumD_map]
/-! ### numbers by their places -/
def gi (L : List Int) (i : Int) : Int := L.getD i.toNat 0
theorem atZ_gi (f : Int → P) (L : List Int) {i : Int} (h0 : 0 ≤ i) (h1 : i < L.length) : atZ (L.map f) i = some (f (gi L i)) := by
  rw [atZ_pos _ h0, List.getElem?_map]
  have : i.toNat < L.length := by omega
  rw [List.getElem?_eq_getElem this]
  simp [gi, List.getD_eq_getElem?_getD, List.getElem?_eq_getElem this]
theorem rgZ_len : ∀ (n : Nat) (a : Int), (rgZ a n).length = n
  | 0, _ => rfl
  | n + 1, a => by simp [rgZ, rgZ_len n]
theorem rgZ_mem : ∀ {n : Nat} {a x : Int}, x ∈ rgZ a n ↔ a ≤ x ∧ x < a + n
  | 0, a, x => by simp [rgZ] <;> omega
  | n + 1, a, x => by
    rw [rgZ, List.mem_cons, rgZ_mem (n := n)]
    omega
theorem rgZ_get : ∀ {n : Nat} {a : Int} {i : Nat}, i < n → (rgZ a n)[i]? = some (a + i)
  | n + 1, a, 0, _ => by simp [rgZ]
  | n + 1, a, i + 1, h => by
    rw [rgZ, List.getElem?_cons_succ, rgZ_get (n := n) (by omega)]
    congr 1; omega
theorem zs_rg : ∀ (n : Nat) (a : Int), zs a n = ((rgZ a n).map P.int).map D.p
  | 0, _ => rfl
  | n + 1, a => by simp only [zs, rgZ, List.map_cons, zs_rg n]
theorem gi_rg (f : Int → Int) {n : Nat} {a i : Int} (h0 : 0 ≤ i) (h1 : i < n) : gi ((rgZ a n).map f) i = f (a + i) := by
  unfold gi
  rw [List.getD_eq_getElem?_getD, List.getElem?_map, rgZ_get (by omega)]
  simp
  congr 1; omega
theorem rg_gi (L : List Int) : (rgZ 0 L.length).map (gi L) = L := by
  apply List.ext_getElem?
  intro i
  by_cases h : i < L.length
  · rw [List.getElem?_map, rgZ_get h, List.getElem?_eq_getElem h]
    simp [gi, List.getD_eq_getElem?_getD, List.getElem?_eq_getElem h]
  · rw [List.getElem?_eq_none (by rw [List.length_map, rgZ_len]; omega), List.getElem?_eq_none (by omega)]
theorem list_rg {L : List Int} {f : Int → Int} {n : Nat} (hl : L.length = n) (k : ∀ i : Int, 0 ≤ i → i < n → gi L i = f i) : L = (rgZ 0 n).map f := by
  subst hl
  conv => lhs; rw [← rg_gi L]
  apply List.map_congr_left
  intro i hi
  rw [rgZ_mem] at hi
  exact k i hi.1 (by omega)
theorem enum_rg : ∀ (L : List P) (k : Nat), enumPP k L = (rgZ k L.length).map fun i => .tup [.int i, L.getD (i - k).toNat .non]
  | [], _ => rfl
  | x :: r, k => by
    simp only [enumPP, List.length_cons, rgZ, List.map_cons]
    rw [enum_rg r (k + 1)]
    congr 1
    · simp <;> rfl
    · have e : ((k + 1 : Nat) : Int) = (k : Int) + 1 := by omega
      rw [e]
      apply List.map_congr_left
      intro i hi
      rw [rgZ_mem] at hi
      have : (i - (k : Int)).toNat = (i - ((k : Int) + 1)).toNat + 1 := by omega
      rw [this]; simp
theorem enum_gi (L : List Int) (f : Int → P) : enumPP 0 (L.map f) = (rgZ 0 L.length).map fun i => .tup [.int i, f (gi L i)] := by
  rw [enum_rg, List.length_map]
  apply List.map_congr_left
  intro i hi
  rw [rgZ_mem] at hi
  have : i.toNat < L.length := by omega
  simp [gi, List.getD_eq_getElem?_getD, List.getElem?_eq_getElem this]
/-- a comprehension that reads alone -/
theorem lc_to {t : Tg} {fe : FE} {h : Hs} {env : Ar.Env} {α : Type} (f : α → P) (r : α → P) (xs : List α)
    (k : ∀ a ∈ xs, ∃ e1, t.bind (.p (f a)) env h = some e1 ∧ fe e1 h = .ok (.p (r a)) h) : lcL t cYes fe (fun _ => true) ((xs.map f).map D.p) env h = .ok ((xs.map r).map D.p) h := by
  induction xs with
  | nil => rfl
  | cons a xs ih =>
    obtain ⟨e1, h0, h1⟩ := k a List.mem_cons_self
    have h2 := ih fun b hb => k b (List.mem_cons_of_mem _ hb)
    simp [-List.map_map, lcL, h0, h1, h2]
theorem lc_no {t : Tg} {ft : FT} {fe : FE} {h : Hs} {env : Ar.Env} {α : Type} (f : α → P) (xs : List α)
    (k : ∀ a ∈ xs, ∃ e1, t.bind (.p (f a)) env h = some e1 ∧ ft e1 h = .ok false h) : lcL t ft fe (fun _ => true) ((xs.map f).map D.p) env h = .ok [] h := by
  induction xs with
  | nil => rfl
  | cons a xs ih =>
    obtain ⟨e1, h0, h1⟩ := k a List.mem_cons_self
    have h2 := ih fun b hb => k b (List.mem_cons_of_mem _ hb)
    simp [-List.map_map, lcL, h0, h1, h2]
theorem lc_if {t : Tg} {ft : FT} {fe : FE} {h : Hs} {env : Ar.Env} {α : Type} (f : α → P) (b : α → Bool) (r : α → P) (xs : List α)
    (k : ∀ a ∈ xs, ∃ e1, t.bind (.p (f a)) env h = some e1 ∧ ft e1 h = .ok (b a) h ∧ (b a = true → fe e1 h = .ok (.p (r a)) h)) : lcL t ft fe (fun _ => true) ((xs.map f).map D.p) env h = .ok (((xs.filter b).map r).map D.p) h := by
  induction xs with
  | nil => rfl
  | cons a xs ih =>
    obtain ⟨e1, h0, h1, h3⟩ := k a List.mem_cons_self
    have h2 := ih fun b hb => k b (List.mem_cons_of_mem _ hb)
    cases hb : b a
    · rw [hb] at h1
      simp [-List.map_map, lcL, h0, h1, h2, hb]
    · rw [hb] at h1
      simp [-List.map_map, lcL, h0, h1, h2, hb, h3 hb]
theorem any_to {t : Tg} {fe : FE} {h : Hs} {env : Ar.Env} {α : Type} (f : α → P) (b : α → Bool) (xs : List α)
    (k : ∀ a ∈ xs, ∃ e1, t.bind (.p (f a)) env h = some e1 ∧ fe e1 h = .ok (.p (.bl (b a))) h) : anyL t fe (fun b => b) false true (fun _ => true) ((xs.map f).map D.p) env h = .ok (.p (.bl (xs.any b))) h := by
  induction xs with
  | nil => rfl
  | cons a xs ih =>
    obtain ⟨e1, h0, h1⟩ := k a List.mem_cons_self
    have h2 := ih fun b hb => k b (List.mem_cons_of_mem _ hb)
    cases hb : b a <;> rw [hb] at h1 <;> simp [-List.map_map, anyL, h0, h1, h2, hb]
theorem all_to {t : Tg} {fe : FE} {h : Hs} {env : Ar.Env} {α : Type} (f : α → P) (b : α → Bool) (xs : List α)
    (k : ∀ a ∈ xs, ∃ e1, t.bind (.p (f a)) env h = some e1 ∧ fe e1 h = .ok (.p (.bl (b a))) h) : anyL t fe (fun b => !b) true false (fun _ => true) ((xs.map f).map D.p) env h = .ok (.p (.bl (xs.all b))) h := by
  induction xs with
  | nil => rfl
  | cons a xs ih =>
    obtain ⟨e1, h0, h1⟩ := k a List.mem_cons_self
    have h2 := ih fun b hb => k b (List.mem_cons_of_mem _ hb)
    cases hb : b a <;> rw [hb] at h1 <;> simp [-List.map_map, anyL, h0, h1, h2, hb]
/-- a comprehension with rolls: values that obey a predicate -/
theorem lcL_exi {t : Tg} {fe : FE} {inv : Hs → Bool} {env : Ar.Env} {α : Type} (f : α → P) (Pv : α → Prop) (I : Hs → Prop) (hv : ∀ h, I h → inv h = true)
    (step : ∀ d h, I h → ∃ e1 x h', t.bind d env h = some e1 ∧ fe e1 h = .ok (.p (f x)) h' ∧ Pv x ∧ I h') : ∀ (items : List D) (h : Hs), I h → ∃ (xs : List α) (h' : Hs), lcL t cYes fe inv items env h = .ok ((xs.map f).map D.p) h' ∧ xs.length = items.length ∧ (∀ x ∈ xs, Pv x) ∧ I h'
  | [], h, hi => ⟨[], h, by unfold lcL; rw [hv h hi]; rfl, rfl, (fun _ hx => by cases hx), hi⟩
  | d :: ds, h, hi => by
    obtain ⟨e1, x, h1, b, q1, p1, i1⟩ := step d h hi
    obtain ⟨xs, h', q, l, p, i2⟩ := lcL_exi f Pv I hv step ds h1 i1
    refine ⟨x :: xs, h', ?_, by simp [l], fun y hy => ?_, i2⟩
    · unfold lcL
      simp only [hv h hi, if_pos, b, cYes, q1, q]
      rfl
    · rcases List.mem_cons.mp hy with rfl | hy
      · exact p1
      · exact p y hy
/-! ### == of rows of numbers -/
theorem eqPs_ints (f : Int → P) (hf : ∀ a b, eqP (f a) (f b) = decide (a = b)) : ∀ xs ys : List Int, eqPs (xs.map f) (ys.map f) = decide (xs = ys)
  | [], [] => rfl
  | [], _ :: _ => rfl
  | _ :: _, [] => rfl
  | a :: xs, b :: ys => by
    have ih := eqPs_ints f hf xs ys
    simp only [List.map_cons, eqPs, hf, ih, List.cons.injEq]
    by_cases h : a = b <;> simp [h]
theorem eqP_int (a b : Int) : eqP (.int a) (.int b) = decide (a = b) := by simp [eqP, Bool.beq_eq_decide_eq]
theorem depLe_ints (n : Nat) (xs : List Int) : (xs.map P.int).all (depLe n) = true := by
  rw [List.all_map]; simp [List.all_eq_true, depLe]
theorem oNe_rows (xs ys : List Int) : oNe (.tup (xs.map P.int)) (.tup (ys.map P.int)) = some (.bl (!decide (xs = ys))) := by
  have k : okEq (.tup (xs.map P.int)) (.tup (ys.map P.int)) = true := by unfold okEq; simp only [depLe, depLe_ints]; rfl
  unfold oNe
  rw [if_pos k]
  simp only [eqP, eqPs_ints P.int eqP_int]
theorem oNe_lsts (xs ys : List Int) : oNe (.lst (xs.map P.int)) (.lst (ys.map P.int)) = some (.bl (!decide (xs = ys))) := by
  have k : okEq (.lst (xs.map P.int)) (.lst (ys.map P.int)) = true := by unfold okEq; simp only [depLe, depLe_ints]; rfl
  unfold oNe
  rw [if_pos k]
  simp only [eqP, eqPs_ints P.int eqP_int]
theorem oEq_rows (xs ys : List Int) : oEq (.tup (xs.map P.int)) (.tup (ys.map P.int)) = some (.bl (decide (xs = ys))) := by
  have k : okEq (.tup (xs.map P.int)) (.tup (ys.map P.int)) = true := by unfold okEq; simp only [depLe, depLe_ints]; rfl
  unfold oEq
  rw [if_pos k]
  simp only [eqP, eqPs_ints P.int eqP_int]
theorem oEq_lsts (xs ys : List Int) : oEq (.lst (xs.map P.int)) (.lst (ys.map P.int)) = some (.bl (decide (xs = ys))) := by
  have k : okEq (.lst (xs.map P.int)) (.lst (ys.map P.int)) = true := by unfold okEq; simp only [depLe, depLe_ints]; rfl
  unfold oEq
  rw [if_pos k]
  simp only [eqP, eqPs_ints P.int eqP_int]
theorem oNe_same {x : P} (h : depLe 60 x = true) (r : eqP x x = true) : oNe x x = some (.bl false) := by
  unfold oNe
  rw [if_pos (by unfold okEq; split <;> simp_all), r]; rfl
/-! ### slices -/
theorem cut_to {α : Type} (xs : List α) (m : Int) (h0 : 0 ≤ m) : cut xs none (some m) = xs.take m.toNat := by
  unfold cut
  have e1 : HT.sIx xs.length 0 none = 0 := by rfl
  have e2 : HT.sIx xs.length xs.length (some m) = min m.toNat xs.length := by
    show (if m < 0 then (m + (xs.length : Int)).toNat else min m.toNat xs.length) = _
    rw [if_neg (by omega)]
  rw [e1, e2, List.drop_zero, Nat.sub_zero]
  by_cases c : m.toNat ≤ xs.length
  · rw [Nat.min_eq_left c]
  · rw [Nat.min_eq_right (by omega), List.take_of_length_le (Nat.le_refl _), List.take_of_length_le (by omega)]
theorem cut_from {α : Type} (xs : List α) (m : Int) (h0 : 0 ≤ m) : cut xs (some m) none = xs.drop m.toNat := by
  unfold cut
  have e1 : HT.sIx xs.length xs.length none = xs.length := by rfl
  have e2 : HT.sIx xs.length 0 (some m) = min m.toNat xs.length := by
    show (if m < 0 then (m + (xs.length : Int)).toNat else min m.toNat xs.length) = _
    rw [if_neg (by omega)]
  rw [e1, e2]
  by_cases c : m.toNat ≤ xs.length
  · rw [Nat.min_eq_left c, List.take_of_length_le (by simp)]
  · rw [Nat.min_eq_right (by omega), List.drop_eq_nil_of_le (Nat.le_refl _), List.drop_eq_nil_of_le (by omega), List.take_nil]
theorem cut_toN {α : Type} (xs : List α) (m : Int) (h0 : m < 0) : cut xs none (some m) = xs.take (m + (xs.length : Int)).toNat := by
  unfold cut
  have e1 : HT.sIx xs.length 0 none = 0 := by rfl
  have e2 : HT.sIx xs.length xs.length (some m) = (m + (xs.length : Int)).toNat := by
    show (if m < 0 then (m + (xs.length : Int)).toNat else min m.toNat xs.length) = _
    rw [if_pos h0]
  rw [e1, e2, List.drop_zero, Nat.sub_zero]
theorem cut_fromN {α : Type} (xs : List α) (m : Int) (h0 : m < 0) : cut xs (some m) none = xs.drop (m + (xs.length : Int)).toNat := by
  unfold cut
  have e1 : HT.sIx xs.length xs.length none = xs.length := by rfl
  have e2 : HT.sIx xs.length 0 (some m) = (m + (xs.length : Int)).toNat := by
    show (if m < 0 then (m + (xs.length : Int)).toNat else min m.toNat xs.length) = _
    rw [if_pos h0]
  rw [e1, e2, List.take_of_length_le (by simp)]
/-! ### dicts by numbers -/
theorem dHas_ints (ns : List Int) (v : Int) : dHas (ns.map P.int) (.int v) = decide (v ∈ ns) := by
  unfold dHas
  rw [List.any_map]
  induction ns with
  | nil => simp
  | cons m r ih =>
    rw [List.any_cons, ih]
    by_cases e : m = v
    · subst e; simp [beqX]
    · have : ¬ v = m := fun q => e q.symm
      simp [beqX, e, this]
def ins (ns : List Int) (v : Int) : List Int := if v ∈ ns then ns else ns ++ [v]
theorem dPut_ints (ns : List Int) (ws : List P) (v : Int) (w : P) : (dPut (ns.map P.int) ws (.int v) w).1 = (ins ns v).map P.int := by
  unfold dPut ins
  rw [dHas_ints]
  by_cases e : v ∈ ns <;> simp [e]
theorem ins_nd {ns : List Int} {v : Int} (nd : ns.Nodup) : (ins ns v).Nodup := by
  unfold ins; split
  · exact nd
  · rename_i h
    rw [List.nodup_append]
    refine ⟨nd, by simp, fun a ha b hb => ?_⟩
    rw [List.mem_singleton] at hb
    subst hb; exact fun z => h (z ▸ ha)
theorem ins_mem {ns : List Int} {v x : Int} : x ∈ ins ns v ↔ x ∈ ns ∨ x = v := by
  unfold ins; split
  · rename_i h
    constructor
    · exact .inl
    · rintro (a | rfl)
      · exact a
      · exact h
  · simp
/-- the keys of a dict that is made of xs, after ns -/
def keysZ (ns : List Int) : List Int → List Int
  | [] => ns
  | x :: r => keysZ (ins ns x) r
theorem keysZ_nd : ∀ {xs ns : List Int}, ns.Nodup → (keysZ ns xs).Nodup
  | [], _, h => h
  | x :: r, ns, h => by rw [keysZ]; exact keysZ_nd (xs := r) (ins_nd h)
theorem keysZ_mem {v : Int} : ∀ {xs ns : List Int}, v ∈ keysZ ns xs ↔ v ∈ ns ∨ v ∈ xs
  | [], ns => by simp [keysZ]
  | x :: r, ns => by
    rw [keysZ, keysZ_mem, ins_mem, List.mem_cons, or_assoc]
theorem keysZ_len : ∀ {xs ns : List Int}, (keysZ ns xs).length ≤ ns.length + xs.length
  | [], ns => by simp [keysZ]
  | x :: r, ns => by
    have := keysZ_len (xs := r) (ns := ins ns x)
    have : (ins ns x).length ≤ ns.length + 1 := by unfold ins; split <;> simp
    rw [keysZ, List.length_cons]; omega
theorem merge_ints (w : P) : ∀ (xs ns : List Int) (ws : List P), (mergeP (ns.map P.int) ws (xs.map fun x => (P.int x, w))).1 = (keysZ ns xs).map P.int
  | [], _, _ => rfl
  | x :: r, ns, ws => by
    simp only [List.map_cons, mergeP, dPut_ints, keysZ]
    exact merge_ints w r (ins ns x) _
theorem pairs_ints (w : P) : ∀ xs : List Int, pairsP (xs.map fun x => .tup [.int x, w]) = some (xs.map fun x => (P.int x, w))
  | [] => rfl
  | x :: r => by simp [pairsP, pairs_ints w r]
theorem dc_ints {i : Nat} {w : P} {env : Ar.Env} {h : Hs} (hi : i < env.length) : ∀ (xs ns : List Int) (ws : List P), ∃ ws', dcL (.nm i) cYes (cV i) (cK w) (fun _ => true) ((xs.map P.int).map D.p) env h (ns.map P.int) ws = .ok ((keysZ ns xs).map P.int, ws') h
  | [], _, ws => ⟨ws, rfl⟩
  | x :: r, ns, ws => by
    have e := dPut_ints ns ws x w
    obtain ⟨ws', ih⟩ := dc_ints (w := w) (h := h) hi r (ins ns x) (dPut (ns.map P.int) ws (.int x) w).2
    refine ⟨ws', ?_⟩
    rw [← e] at ih
    simp [dcL, hi, -List.map_map, ih, keysZ]
/-! ### sums around -/
theorem sumZ_app : ∀ xs ys : List Int, sumZ (xs ++ ys) = sumZ xs + sumZ ys
  | [], ys => by simp [sumZ]
  | x :: r, ys => by simp only [List.cons_append, sumZ, sumZ_app r ys]; omega
theorem sumZ_sub {α : Type} (f g : α → Int) : ∀ xs : List α, sumZ (xs.map fun x => f x - g x) = sumZ (xs.map f) - sumZ (xs.map g)
  | [] => by simp [sumZ]
  | x :: r => by simp only [List.map_cons, sumZ, sumZ_sub f g r]; omega
theorem rgZ_app : ∀ (n : Nat) (a : Int), rgZ a (n + 1) = rgZ a n ++ [a + n]
  | 0, a => by simp [rgZ]
  | n + 1, a => by
    rw [rgZ, rgZ_app n (a + 1), rgZ, List.cons_append]
    congr 3; omega
theorem rgZ_shift (c : Int) : ∀ (n : Nat) (a : Int), (rgZ a n).map (· + c) = rgZ (a + c) n
  | 0, a => rfl
  | n + 1, a => by
    rw [rgZ, rgZ, List.map_cons, rgZ_shift c n (a + 1)]
    congr 2; omega
theorem sum_rot (f : Int → Int) (m : Nat) : sumZ ((rgZ 0 m).map fun i => f ((i + 1) % m)) = sumZ ((rgZ 0 m).map f) := by
  cases m with
  | zero => rfl
  | succ n =>
    have e1 : (rgZ 0 (n + 1)).map (fun i => f ((i + 1) % ((n + 1 : Nat) : Int))) = (rgZ 1 n).map f ++ [f 0] := by
      rw [rgZ_app, List.map_append]
      congr 1
      · rw [← show (0 : Int) + 1 = 1 from rfl, ← rgZ_shift 1 n 0, List.map_map]
        apply List.map_congr_left
        intro i hi
        rw [rgZ_mem] at hi
        show f ((i + 1) % ((n + 1 : Nat) : Int)) = f (i + 1)
        rw [Int.emod_eq_of_lt (by omega) (by omega)]
      · have : ((0 : Int) + n + 1) % ((n + 1 : Nat) : Int) = 0 := by
          have : (0 : Int) + n + 1 = ((n + 1 : Nat) : Int) := by omega
          rw [this, Int.emod_self]
        simp [this]
    rw [e1, sumZ_app]
    have e2 : rgZ (0 + 1) n = rgZ 1 n := rfl
    simp only [rgZ, List.map_cons, sumZ, e2]
    omega
theorem sum_rotN (f : Int → Int) (m : Nat) : sumZ ((rgZ 0 m).map fun i => f ((i - 1) % m)) = sumZ ((rgZ 0 m).map f) := by
  rw [← sum_rot (fun i => f ((i - 1) % m)) m]
  congr 1
  apply List.map_congr_left
  intro i hi
  rw [rgZ_mem] at hi
  rw [Int.sub_emod, Int.emod_emod_of_dvd _ (Int.dvd_refl _), ← Int.sub_emod]
  congr 1
  have : i + 1 - 1 = i := by omega
  rw [this, Int.emod_eq_of_lt (by omega) (by omega)]
theorem maxZ_some : ∀ {xs : List Int}, xs ≠ [] → ∃ m, maxZ xs = some m
  | [], h => absurd rfl h
  | x :: r, _ => by
    unfold maxZ
    cases maxZ r with
    | none => exact ⟨_, rfl⟩
    | some m => exact ⟨_, rfl⟩
theorem zip_gi (L : List Int) (f : Int → P) (g : Int → P) : zipPP (L.map f) ((rgZ 0 L.length).map g) = (rgZ 0 L.length).map fun i => .tup [f (gi L i), g i] := by
  have key : ∀ (xs : List P) (a : Int) (g : Int → P), zipPP xs ((rgZ a xs.length).map g) = (rgZ a xs.length).map fun i => .tup [xs.getD (i - a).toNat .non, g i] := by
    intro xs
    induction xs with
    | nil => intro a g; rfl
    | cons x r ih =>
      intro a g
      simp only [List.length_cons, rgZ, List.map_cons, zipPP]
      congr 1
      · simp <;> rfl
      · rw [ih]
        apply List.map_congr_left
        intro i hi
        rw [rgZ_mem] at hi
        have : (i - a).toNat = (i - (a + 1)).toNat + 1 := by omega
        rw [this]; simp
  have := key (L.map f) 0 g
  rw [List.length_map] at this
  rw [this]
  apply List.map_congr_left
  intro i hi
  rw [rgZ_mem] at hi
  have : i.toNat < L.length := by omega
  simp [gi, List.getD_eq_getElem?_getD, List.getElem?_eq_getElem this]
/-- a loop that leaves the places as they are: its scope told by a state -/
theorem for_to {ft : FG} {fb : FS} {h : Hs} {α σ : Type} (f : α → P) (st : σ → Ar.Env) (step : σ → α → σ) (I : σ → Prop) : ∀ (xs : List α) (s : σ), I s →
    (∀ a ∈ xs, ∀ s, I s → ∃ e1, ft (.p (f a)) (st s) h = .ok e1 h ∧ fb e1 h = .nx (st (step s a)) h ∧ I (step s a)) →
    forL ft fb (fun _ => true) ((xs.map f).map D.p) (st s) h = .nx (st (xs.foldl step s)) h ∧ I (xs.foldl step s)
  | [], s, i, _ => ⟨rfl, i⟩
  | a :: r, s, i, k => by
    obtain ⟨e1, h1, h2, h3⟩ := k a List.mem_cons_self s i
    have ih := for_to f st step I r (step s a) h3 fun b hb => k b (List.mem_cons_of_mem _ hb)
    refine ⟨?_, ih.2⟩
    simp only [List.map_cons, List.foldl_cons]
    unfold forL
    simp only [if_pos, h1, h2, ih.1]
theorem lc_int {t : Tg} {fe : FE} {h : Hs} {env : Ar.Env} {α : Type} (f : α → P) (r : α → Int) (xs : List α)
    (k : ∀ a ∈ xs, ∃ e1, t.bind (.p (f a)) env h = some e1 ∧ fe e1 h = .ok (.p (.int (r a))) h) : lcL t cYes fe (fun _ => true) ((xs.map f).map D.p) env h = .ok (((xs.map r).map P.int).map D.p) h := by
  rw [lc_to f (fun a => .int (r a)) xs k, List.map_map (f := r)]; rfl
end Ar
namespace Ar
open PySem
/-! ### rows of parts brought to steps: the walk -/
def wStepped1 : FS := (sIf (cAndT (cT (cOp oNe (cV 8) (cV 5))) (cT (cOp oNe (cIx (cIx (cIx (cV 3) (cV 8)) (cV 2)) (cK (.int 0))) (cK (.int 0))))) (sAsg (lcAll (iZip2 (aC (cIx (cV 3) (cV 8)) (aC (cIx (cV 3) (cV 5)) aN))) (.tp [(.nm 11), (.nm 12)]) cYes (cCallP 2 fLess (aC (cV 11) (aC (cCallP 2 fTimes (aC (cIx (cIx (cV 3) (cV 8)) (cV 2)) (aC (cV 12) aN))) aN))) [11, 12] finP) (tSub (cV 3) (cV 8))) sNx)
def wStepped2 : FS := (sSeq (sSet 6 (lcAll (Ar.iRng2 (aC (cV 5) (aC (cB bLen (aC (cV 3) aN)) aN))) (.nm 8) (cT (cOp oNe (cIx (cIx (cIx (cV 3) (cV 8)) (cV 2)) (cK (.int 0))) (cK (.int 0)))) (cV 8) [8] finP))
  (sSeq (sIf (cT (cOp oEq (cV 6) (cLst aN))) sCt sNx)
  (sSeq (sTupTup (aC (cIx (cV 3) (cIx (cV 6) (cK (.int 0)))) (aC (cIx (cV 3) (cV 5)) aN)) (tsC (tSub (cV 3) (cV 5)) (tsC (tSub (cV 3) (cIx (cV 6) (cK (.int 0)))) tsN)))
  (sSeq (sSet 7 (cIx (cIx (cV 3) (cV 5)) (cV 2)))
  (sSeq (sAsg (lcAll (iSeq (cIx (cV 3) (cV 5))) (.nm 10) cYes (cCallP 2 fOver (aC (cV 10) (aC (cV 7) aN))) [10] finP) (tSub (cV 3) (cV 5)))
  (sSeq (sFor (Ar.iRng1 (aC (cB bLen (aC (cV 3) aN)) aN)) (tN 8) wStepped1)
  (sSeq (sEx (cLM mAppend (cV 4) (aC (cV 2) aN)))
  (sAug 5 oAddI (cK (.int 1))))))))))
def fStepped : Fn := cFn 13 ((sSeq (sTupTup (aC (lcAll (iSeq (cV 0)) (.nm 9) cYes (cB bListP (aC (cV 9) aN)) [9] finN) (aC (cLstN aN) (aC (cK (.int 0)) aN))) (tsC (tN 3) (tsC (tN 4) (tsC (tN 5) tsN))))
  (sSeq (sSet 1 (cIf (cT (cEqL true (cV 3) (cLst aN))) (cB bLen (aC (cIx (cV 3) (cK (.int 0))) aN)) (cK (.int 0))))
  (sSeq (sFor (Ar.iRng1 (aC (cV 1) aN)) (tN 2) wStepped2)
  (sRet (cTup (aC (cB bTuple (aC (lcAll (iSeq (cSl (cV 3) oN (oS (cV 5)))) (.nm 9) cYes (cB bTuple (aC (cV 9) aN)) [9] finP) aN)) (aC (cB bTuple (aC (cV 4) aN)) aN))))))))
abbrev Mq := List (List Rat)
def rwP (r : List Rat) : P := .lst (r.map pr)
def at' (r : List Rat) (k : Nat) : Rat := r.getD k 0
def row' (M : Mq) (j : Nat) : List Rat := M.getD j []
/-- a row cleared by the row r at the column k -/
def clr (k : Nat) (r row : List Rat) : List Rat := List.zipWith (fun a b => a - at' row k * b) row r
def clrR (here k : Nat) (r : List Rat) (j : Nat) (row : List Rat) : List Rat := if j ≠ here ∧ at' row k ≠ 0 then clr k r row else row
/-- the first n rows cleared -/
def clrN (here k : Nat) (r : List Rat) (M : Mq) (n : Nat) : Mq := M.mapIdx fun j row => if j < n then clrR here k r j row else row
def hitQ (M : Mq) (k here : Nat) : List Nat := (List.range' here (M.length - here)).filter fun j => decide (at' (row' M j) k ≠ 0)
def swp (M : Mq) (i j : Nat) : Mq := (M.set i (row' M j)).set j (row' M i)
def dvd' (M : Mq) (here k : Nat) : Mq := M.set here ((row' M here).map fun a => a / at' (row' M here) k)
structure St3 where
  M : Mq
  sp : List Nat
  here : Nat
def stepQ (s : St3) (k : Nat) : St3 := match hitQ s.M k s.here with
  | [] => s
  | j0 :: _ => ⟨clrN s.here k (row' (dvd' (swp s.M s.here j0) s.here k) s.here) (dvd' (swp s.M s.here j0) s.here k) s.M.length, s.sp ++ [k], s.here + 1⟩
def stepsQ (M : Mq) (w : Nat) : St3 := (List.range w).foldl stepQ ⟨M, [], 0⟩
/-- the sizes that the walk asks of a matrix -/
def Bm (n : Nat) (M : Mq) : Prop := ∀ r ∈ M, ∀ x ∈ r, BdQ x n
/-- all rows w wide -/
def Wd (w : Nat) (M : Mq) : Prop := ∀ r ∈ M, r.length = w
theorem row_mem {M : Mq} {j : Nat} (h : j < M.length) : row' M j ∈ M := by
  unfold row'
  rw [List.getD_eq_getElem?_getD, List.getElem?_eq_getElem h]
  exact List.getElem_mem h
theorem at_mem {r : List Rat} {k : Nat} (h : k < r.length) : at' r k ∈ r := by
  unfold at'
  rw [List.getD_eq_getElem?_getD, List.getElem?_eq_getElem h]
  exact List.getElem_mem h
theorem rows_at {M : Mq} {j : Nat} (h : j < M.length) : atZ (M.map rwP) (j : Int) = some (rwP (row' M j)) := by
  rw [atZ_nat, List.getElem?_map, List.getElem?_eq_getElem h]
  simp [row', List.getD_eq_getElem?_getD, List.getElem?_eq_getElem h]
theorem prs_at {r : List Rat} {k : Nat} (h : k < r.length) : atZ (r.map pr) (k : Int) = some (pr (at' r k)) := by
  rw [atZ_nat, List.getElem?_map, List.getElem?_eq_getElem h]
  simp [at', List.getD_eq_getElem?_getD, List.getElem?_eq_getElem h]
theorem num_ne {q : Rat} : q.num = 0 ↔ q = 0 := by
  constructor
  · intro h
    have := as_div q
    rw [h] at this
    simp [Rat.div_def] at this
    exact this
  · intro h; subst h; rfl
section
variable {M : Mq} {w n : Nat} (hw : Wd w M) (hb : Bm n M) (hn : 3 * n ≤ 8890) (hM : M.length ≤ 1000)
include hw hb hn hM
/-- one entry asked -/
theorem ent_ok {j k : Nat} (hj : j < M.length) (hk : k < w) (env : Ar.Env) (sp : O) (h : Hs) (e3 : env[3]? = some (some (.loc 0))) (e8 : env[8]? = some (some (.p (.int (j : Nat))))) (e2 : env[2]? = some (some (.p (.int (k : Nat))))) (h0 : h[0]? = some (.lst (M.map rwP))) :
    (cIx (cIx (cV 3) (cV 8)) (cV 2)) env h = .ok (.p (pr (at' (row' M j) k))) h := by
  have a := rows_at hj
  have b := prs_at (r := row' M j) (k := k) (by rw [hw _ (row_mem hj)]; exact hk)
  simp [e3, e8, e2, h0, -List.map_map, -atZ_nat, a, rwP, b]
end
theorem zip_prs : ∀ (a b : List Rat), zipPP (a.map pr) (b.map pr) = (a.zip b).map fun q => .tup [pr q.1, pr q.2] := by
  intro a
  induction a with
  | nil => intro b; rfl
  | cons x r ih =>
    intro b
    cases b with
    | nil => rfl
    | cons y t => simp only [List.map_cons, zipPP, List.zip_cons_cons, ih]
theorem zip_clr (k : Nat) (f : Rat) : ∀ a b : List Rat, ((a.zip b).map fun q => pr (q.1 - f * q.2)) = (List.zipWith (fun x y => x - f * y) a b).map pr
  | [], _ => rfl
  | _ :: _, [] => rfl
  | x :: a, y :: b => by simp only [List.zip_cons_cons, List.map_cons, List.zipWith_cons_cons, zip_clr k f a b]
theorem set_row {M : Mq} {j : Nat} : M.set j (row' M j) = M := by
  by_cases h : j < M.length
  · unfold row'
    rw [List.getD_eq_getElem?_getD, List.getElem?_eq_getElem h]
    simp
  · rw [List.set_eq_of_length_le (by omega)]
abbrev e13 (R0 : P) (w k here : Int) (x6 x7 x8 : Option D) : Env := [some (.p R0), some (.p (.int w)), some (.p (.int k)), some (.loc 0), some (.loc 1), some (.p (.int here)), x6, x7, x8, none, none, none, none]
theorem clrN_len {here k m : Nat} {r : List Rat} {M : Mq} : (clrN here k r M m).length = M.length := by simp [clrN]
theorem clrN_row {here k m i : Nat} {r : List Rat} {M : Mq} (h : i < M.length) : row' (clrN here k r M m) i = if i < m then clrR here k r i (row' M i) else row' M i := by
  unfold row' clrN
  rw [List.getD_eq_getElem?_getD, List.getD_eq_getElem?_getD, List.getElem?_mapIdx, List.getElem?_eq_getElem h]
  rfl
theorem mem_row {M : Mq} {x : List Rat} (h : x ∈ M) : ∃ i, i < M.length ∧ x = row' M i := by
  obtain ⟨i, hi, e⟩ := List.mem_iff_getElem.mp h
  refine ⟨i, hi, ?_⟩
  unfold row'
  rw [List.getD_eq_getElem?_getD, List.getElem?_eq_getElem hi]
  exact e.symm
theorem rows_ext {M N : Mq} (hl : M.length = N.length) (h : ∀ i, i < M.length → row' M i = row' N i) : M = N := by
  apply List.ext_getElem hl
  intro i h1 h2
  have := h i h1
  unfold row' at this
  rw [List.getD_eq_getElem?_getD, List.getD_eq_getElem?_getD, List.getElem?_eq_getElem h1, List.getElem?_eq_getElem h2] at this
  exact this
theorem row_set {M : Mq} {i j : Nat} {x : List Rat} (h : i < M.length) : row' (M.set j x) i = if i = j then x else row' M i := by
  unfold row'
  rw [List.getD_eq_getElem?_getD, List.getD_eq_getElem?_getD, List.getElem?_set]
  by_cases c : j = i
  · subst c; simp [h]
  · have : ¬ i = j := fun q => c q.symm
    simp [c, this]
theorem clrR_len {here k j w : Nat} {r row : List Rat} (h1 : r.length = w) (h2 : row.length = w) : (clrR here k r j row).length = w := by
  unfold clrR
  split
  · unfold clr; rw [List.length_zipWith, h1, h2, Nat.min_self]
  · exact h2
section
variable {M : Mq} {w n : Nat} (hw : Wd w M) (hb : Bm n M) (hn : 3 * n ≤ 8890) (hM : M.length ≤ 1000) (hw1 : w ≤ 1000) {here k j : Nat} (hk : k < w) (hh : here < M.length) (hj : j < M.length)
include hw hb hn hM hw1 hk hh hj
theorem clr_step (R0 : P) (x6 x7 : Option D) (sp : List P) :
    wStepped1 (e13 R0 w k here x6 x7 (some (.p (.int j)))) [.lst (M.map rwP), .lst sp] = .nx (e13 R0 w k here x6 x7 (some (.p (.int j)))) [.lst ((M.set j (clrR here k (row' M here) j (row' M j))).map rwP), .lst sp] := by
  have a := rows_at hj
  have ah := rows_at hh
  have lj := hw _ (row_mem hj)
  have lh := hw _ (row_mem hh)
  have b := prs_at (r := row' M j) (k := k) (by rw [lj]; exact hk)
  by_cases c : j = here
  · subst c
    have e : clrR j k (row' M j) j (row' M j) = row' M j := by unfold clrR; rw [if_neg (by simp)]
    rw [e, set_row]
    simp [wStepped1, -List.map_map]
  · have c2 : ¬ ((j : Nat) : Int) = (here : Nat) := by omega
    by_cases f0 : at' (row' M j) k = 0
    · have e : clrR here k (row' M here) j (row' M j) = row' M j := by unfold clrR; rw [if_neg (by simp [f0])]
      have n0 : (at' (row' M j) k).num = 0 := num_ne.mpr f0
      rw [e, set_row]
      simp [wStepped1, c2, -List.map_map, -atZ_nat, a, rwP, b, n0]
    · have n0 : ¬ (at' (row' M j) k).num = 0 := fun z => f0 (num_ne.mp z)
      obtain ⟨f, hf⟩ : ∃ f, f = at' (row' M j) k := ⟨_, rfl⟩
      have e : clrR here k (row' M here) j (row' M j) = List.zipWith (fun x y => x - f * y) (row' M j) (row' M here) := by unfold clrR clr; rw [if_pos ⟨c, f0⟩, hf]
      haveI bf : BdQ f n := by rw [hf]; exact hb _ (row_mem hj) _ (at_mem (by rw [lj]; exact hk))
      have l := lc_to (t := .tp [.nm 11, .nm 12]) (fe := (cCallP 2 fLess (aC (cV 11) (aC (cCallP 2 fTimes (aC (cIx (cIx (cV 3) (cV 8)) (cV 2)) (aC (cV 12) aN))) aN)))) (h := [.lst (M.map rwP), .lst sp]) (env := e13 R0 w k here x6 x7 (some (.p (.int j)))) (fun q : Rat × Rat => .tup [pr q.1, pr q.2]) (fun q => pr (q.1 - f * q.2)) ((row' M j).zip (row' M here)) (fun q hq => by
        obtain ⟨q1, q2⟩ := List.of_mem_zip hq
        haveI := hb _ (row_mem hj) _ q1
        haveI := hb _ (row_mem hh) _ q2
        have t := fun hs => times_ok (x := pr f) (y := pr q.2) hs (by omega)
        have u := fun hs => less_ok (x := pr q.1) (y := pr (f * q.2)) hs (by omega)
        simp only [toQ_pr] at t u
        refine ⟨_, rfl, ?_⟩
        rw [← hf] at b
        simp [-List.map_map, -atZ_nat, a, rwP, b, t, u])
      rw [zip_clr k f] at l
      rw [e]
      have lz : (List.zip (row' M j) (row' M here)).length ≤ 16777216 := by rw [List.length_zip, lj, lh]; omega
      have ix : ixZ M.length (j : Int) = some j := by rw [ixZ_nat, if_pos hj]
      have zp := zip_prs (row' M j) (row' M here)
      simp [wStepped1, c2, -List.map_map, -atZ_nat, a, ah, rwP, b, n0, zp]
      simp only [List.length_zip] at lz
      simp [-List.map_map, -atZ_nat, lj, lh, (show w ≤ 16777216 by omega)]
      rw [l]
      simp [-List.map_map, -List.map_zipWith, plain_map, ix]
      simp [rwP]
end
section
variable {M : Mq} {w n : Nat} (hw : Wd w M) (hb : Bm n M) (hn : 3 * n ≤ 8890) (hM : M.length ≤ 1000) (hw1 : w ≤ 1000) {here k : Nat} (hk : k < w) (hh : here < M.length)
include hw hb hn hM hw1 hk hh
/-- the rows cleared, one after the other -/
theorem clr_loop (R0 : P) (x6 x7 x8 : Option D) (sp : List P) (hr : Bm n (clrN here k (row' M here) M M.length)) : ∃ x8',
    forL (tN 8) wStepped1 (fun _ => true) (zs 0 M.length) (e13 R0 w k here x6 x7 x8) [.lst (M.map rwP), .lst sp] = .nx (e13 R0 w k here x6 x7 x8') [.lst ((clrN here k (row' M here) M M.length).map rwP), .lst sp] := by
  have main : ∀ m : Nat, m ≤ M.length → ∀ x8 : Option D, ∃ x8', forL (tN 8) wStepped1 (fun _ => true) (zs ((M.length - m : Nat) : Int) m) (e13 R0 w k here x6 x7 x8) [.lst ((clrN here k (row' M here) M (M.length - m)).map rwP), .lst sp] = .nx (e13 R0 w k here x6 x7 x8') [.lst ((clrN here k (row' M here) M M.length).map rwP), .lst sp] := by
    intro m
    induction m with
    | zero => intro _ x8; exact ⟨x8, by simp [zs, forL]⟩
    | succ m ih =>
      intro hm x8
      obtain ⟨x8', q⟩ := ih (by omega) (some (.p (.int ((M.length - (m + 1) : Nat) : Int))))
      refine ⟨x8', ?_⟩
      obtain ⟨j, hj⟩ : ∃ j, j = M.length - (m + 1) := ⟨_, rfl⟩
      rw [← hj] at q ⊢
      have hjl : j < M.length := by omega
      obtain ⟨N, hN⟩ : ∃ N, N = clrN here k (row' M here) M j := ⟨_, rfl⟩
      have nl : N.length = M.length := by rw [hN]; exact clrN_len
      have nr : ∀ i, i < M.length → row' N i = if i < j then clrR here k (row' M here) i (row' M i) else row' M i := fun i hi => by rw [hN]; exact clrN_row hi
      have nW : Wd w N := fun x hx => by
        obtain ⟨i, hi, rfl⟩ := mem_row hx
        rw [nl] at hi
        rw [nr i hi]
        split
        · exact clrR_len (hw _ (row_mem hh)) (hw _ (row_mem hi))
        · exact hw _ (row_mem hi)
      have nB : Bm n N := fun x hx => by
        obtain ⟨i, hi, rfl⟩ := mem_row hx
        rw [nl] at hi
        rw [nr i hi]
        split
        · have : clrR here k (row' M here) i (row' M i) = row' (clrN here k (row' M here) M M.length) i := by rw [clrN_row hi, if_pos hi]
          rw [this]
          exact hr _ (row_mem (by rw [clrN_len]; exact hi))
        · exact hb _ (row_mem hi)
      have rh : row' N here = row' M here := by
        rw [nr here hh]
        split
        · unfold clrR; rw [if_neg (by simp)]
        · rfl
      have rj : row' N j = row' M j := by rw [nr j hjl, if_neg (by omega)]
      have st := clr_step nW nB hn (by rw [nl]; exact hM) hw1 hk (by rw [nl]; exact hh) (by rw [nl]; exact hjl) (here := here) (j := j) R0 x6 x7 sp
      have nx : N.set j (clrR here k (row' N here) j (row' N j)) = clrN here k (row' M here) M (M.length - m) := by
        rw [rh, rj]
        refine rows_ext (by rw [List.length_set, nl, clrN_len]) fun i hi => ?_
        rw [List.length_set] at hi
        rw [row_set hi, clrN_row (by rw [← nl]; exact hi), nr i (by rw [← nl]; exact hi)]
        by_cases c : i = j
        · subst c; rw [if_pos rfl, if_pos (by omega)]
        · rw [if_neg c]
          by_cases d : i < j
          · rw [if_pos d, if_pos (by omega)]
          · rw [if_neg d, if_neg (by omega)]
      rw [nx] at st
      have z : zs (j : Int) (m + 1) = .p (.int j) :: zs ((M.length - m : Nat) : Int) m := by
        have : ((M.length - m : Nat) : Int) = (j : Int) + 1 := by omega
        rw [this]; rfl
      rw [z, ← hN]
      have bind : tN 8 (.p (.int (j : Int))) (e13 R0 w k here x6 x7 x8) [.lst (N.map rwP), .lst sp] = .ok (e13 R0 w k here x6 x7 (some (.p (.int j)))) [.lst (N.map rwP), .lst sp] := rfl
      unfold forL
      simp only [if_pos, bind, st, q]
  obtain ⟨x8', q⟩ := main M.length (Nat.le_refl _) x8
  refine ⟨x8', ?_⟩
  rw [Nat.sub_self] at q
  have e : clrN here k (row' M here) M 0 = M := by
    unfold clrN
    apply List.ext_getElem?
    intro i
    simp
  rw [e] at q
  exact q
end
theorem zs_nat : ∀ (n a : Nat), zs (a : Int) n = ((List.range' a n).map fun j : Nat => P.int j).map D.p
  | 0, _ => rfl
  | n + 1, a => by
    have : ((a : Nat) : Int) + 1 = ((a + 1 : Nat) : Int) := by omega
    simp only [zs, List.range'_succ, List.map_cons, this, zs_nat n (a + 1)]
def spP (sp : List Nat) : List P := sp.map fun i : Nat => P.int i
theorem spP_ints (sp : List Nat) : spP sp = (sp.map fun i : Nat => (i : Int)).map P.int := by simp [spP, Function.comp_def]
section
variable {M : Mq} {w n : Nat} (hw : Wd w M) (hb : Bm n M) (hn : 3 * n ≤ 8890) (hM : M.length ≤ 1000) (hw1 : w ≤ 1000) {here k : Nat} (hk : k < w) (hh : here ≤ M.length) (sp : List Nat) (hsp : sp.length ≤ 1000) (hB : Bm n (stepQ ⟨M, sp, here⟩ k).M)
include hw hb hn hM hw1 hk hh hsp hB
theorem col_step (R0 : P) (x6 x7 x8 : Option D) : ∃ x6' x7' x8',
    (wStepped2 (e13 R0 w k here x6 x7 x8) [.lst (M.map rwP), .lst (spP sp)] = .nx (e13 R0 w k (stepQ ⟨M, sp, here⟩ k).here x6' x7' x8') [.lst ((stepQ ⟨M, sp, here⟩ k).M.map rwP), .lst (spP (stepQ ⟨M, sp, here⟩ k).sp)] ∨
     wStepped2 (e13 R0 w k here x6 x7 x8) [.lst (M.map rwP), .lst (spP sp)] = .ct (e13 R0 w k (stepQ ⟨M, sp, here⟩ k).here x6' x7' x8') [.lst ((stepQ ⟨M, sp, here⟩ k).M.map rwP), .lst (spP (stepQ ⟨M, sp, here⟩ k).sp)]) := by
  have hit := fun x8 => lc_if (t := .nm 8) (ft := (cT (cOp oNe (cIx (cIx (cIx (cV 3) (cV 8)) (cV 2)) (cK (.int 0))) (cK (.int 0))))) (fe := (cV 8)) (h := [.lst (M.map rwP), .lst (spP sp)]) (env := e13 R0 w k here x6 x7 x8)
    (fun j : Nat => P.int j) (fun j => decide (at' (row' M j) k ≠ 0)) (fun j : Nat => P.int j) (List.range' here (M.length - here)) (fun j hj => by
      rw [List.mem_range'_1] at hj
      have hjl : j < M.length := by omega
      have a := rows_at hjl
      have b := prs_at (r := row' M j) (k := k) (by rw [hw _ (row_mem hjl)]; exact hk)
      have nn : (at' (row' M j) k).num = 0 ↔ at' (row' M j) k = 0 := num_ne
      exact ⟨_, rfl, by simp [-List.map_map, -atZ_nat, a, rwP, b, nn], fun _ => by simp⟩)
  rw [← zs_nat] at hit
  have hl : (List.filter (fun j => decide (at' (row' M j) k ≠ 0)) (List.range' here (M.length - here))) = hitQ M k here := rfl
  simp only [hl] at hit
  have r1 : (-1000000000 : Int) ≤ (here : Nat) := by omega
  have r2 : ((here : Nat) : Int) ≤ 1000000000 := by omega
  have r3 : (-1000000000 : Int) ≤ (M.length : Nat) := by omega
  have r4 : ((M.length : Nat) : Int) ≤ 1000000000 := by omega
  have tn : (((M.length : Nat) : Int) - (here : Nat)).toNat = M.length - here := by omega
  have hq : oEq (.lst ((hitQ M k here).map fun j : Nat => P.int j)) (.lst []) = some (.bl (decide (hitQ M k here = []))) := by
    have := oEq_lsts ((hitQ M k here).map fun j : Nat => (j : Int)) []
    rw [List.map_map] at this
    rw [show ((hitQ M k here).map fun j : Nat => P.int j) = (hitQ M k here).map (P.int ∘ fun j : Nat => (j : Int)) from rfl, show (P.lst []) = .lst (([] : List Int).map P.int) from rfl, this]
    simp
  cases q : hitQ M k here with
  | nil =>
    have sq : stepQ ⟨M, sp, here⟩ k = ⟨M, sp, here⟩ := by unfold stepQ; rw [q]
    rw [q] at hit hq
    refine ⟨some (.p (.lst [])), x7, x8, .inr ?_⟩
    rw [sq]
    have h8 := hit none
    simp [-List.map_map] at h8
    simp [wStepped2, -List.map_map, r1, r2, r3, r4, tn, zs_len, (show M.length - here ≤ 16777216 by omega), h8]
  | cons j0 t =>
    have sq : stepQ ⟨M, sp, here⟩ k = ⟨clrN here k (row' (dvd' (swp M here j0) here k) here) (dvd' (swp M here j0) here k) M.length, sp ++ [k], here + 1⟩ := by unfold stepQ; rw [q]
    have j0m : j0 ∈ hitQ M k here := by rw [q]; exact List.mem_cons_self
    unfold hitQ at j0m
    rw [List.mem_filter, List.mem_range'_1] at j0m
    obtain ⟨⟨j1, j2⟩, pv⟩ := j0m
    have pv : at' (row' M j0) k ≠ 0 := of_decide_eq_true pv
    have hh1 : here < M.length := by omega
    have j0l : j0 < M.length := by omega
    rw [q] at hit hq
    rw [sq] at hB ⊢
    obtain ⟨A, hA⟩ : ∃ A, A = swp M here j0 := ⟨_, rfl⟩
    have Al : A.length = M.length := by rw [hA]; simp [swp]
    have Ar : ∀ i, i < M.length → row' A i = if i = j0 then row' M here else if i = here then row' M j0 else row' M i := fun i hi => by
      rw [hA]; unfold swp
      rw [row_set (by simpa using hi), row_set hi]
    have Ah : row' A here = row' M j0 := by
      rw [Ar here hh1]
      by_cases c : here = j0
      · rw [if_pos c, c]
      · rw [if_neg c, if_pos rfl]
    obtain ⟨N, hN⟩ : ∃ N, N = dvd' A here k := ⟨_, rfl⟩
    rw [← hA, ← hN] at hB ⊢
    have Nl : N.length = M.length := by rw [hN]; simp [dvd', Al]
    have Nr : ∀ i, i < M.length → row' N i = if i = here then (row' M j0).map (fun a => a / at' (row' M j0) k) else row' A i := fun i hi => by
      rw [hN]; unfold dvd'
      rw [row_set (by rw [Al]; exact hi), Ah]
    have Nh : row' N here = (row' M j0).map (fun a => a / at' (row' M j0) k) := by rw [Nr here hh1, if_pos rfl]
    have Ain : ∀ i, i < M.length → row' A i ∈ M := fun i hi => by
      rw [Ar i hi]
      split
      · exact row_mem hh1
      · split
        · exact row_mem j0l
        · exact row_mem hi
    have Nw : Wd w N := fun x hx => by
      obtain ⟨i, hi, rfl⟩ := mem_row hx
      rw [Nl] at hi
      rw [Nr i hi]
      split
      · rw [List.length_map]; exact hw _ (row_mem j0l)
      · exact hw _ (Ain i hi)
    have Nb : Bm n N := fun x hx => by
      obtain ⟨i, hi, rfl⟩ := mem_row hx
      rw [Nl] at hi
      by_cases c : i = here
      · subst c
        have : row' N i = row' (clrN i k (row' N i) N M.length) i := by
          rw [clrN_row (by rw [Nl]; exact hi), if_pos hi]
          unfold clrR; rw [if_neg (by simp)]
        rw [this]
        exact hB _ (row_mem (by rw [clrN_len, Nl]; exact hi))
      · rw [Nr i hi, if_neg c]
        exact hb _ (Ain i hi)
    have cl := fun x6 x7 x8 => clr_loop Nw Nb hn (by rw [Nl]; exact hM) hw1 hk (by rw [Nl]; exact hh1) (here := here) R0 x6 x7 x8 (spP sp) (by rw [Nl]; exact hB)
    rw [Nl] at cl
    obtain ⟨m, hm⟩ : ∃ m, m = at' (row' M j0) k := ⟨_, rfl⟩
    haveI bm : BdQ m n := by rw [hm]; exact hb _ (row_mem j0l) _ (at_mem (by rw [hw _ (row_mem j0l)]; exact hk))
    have ov := lc_to (t := .nm 10) (fe := (cCallP 2 fOver (aC (cV 10) (aC (cV 7) aN)))) (h := [.lst (A.map rwP), .lst (spP sp)]) (env := e13 R0 w k here (some (.p (.lst ((j0 :: t).map fun j : Nat => P.int j)))) (some (.p (pr m))) x8) pr (fun a => pr (a / m)) (row' M j0) (fun a ha => by
      haveI := hb _ (row_mem j0l) _ ha
      have o := fun hs => over_ok (x := pr a) (y := pr m) hs (by omega) (by rw [toQ_pr, hm]; exact pv)
      simp only [toQ_pr] at o
      exact ⟨_, rfl, by simp [o]⟩)
    have om : (row' M j0).map (fun a => pr (a / m)) = ((row' M j0).map fun a => a / m).map pr := by rw [List.map_map]; rfl
    rw [om] at ov
    obtain ⟨x8', cl⟩ := cl (some (.p (.lst ((j0 :: t).map fun j : Nat => P.int j)))) (some (.p (pr m))) x8
    refine ⟨some (.p (.lst ((j0 :: t).map fun j : Nat => P.int j))), some (.p (pr m)), x8', .inl ?_⟩
    · have h8 := hit none
      have m1 := rows_at j0l
      have m2 := rows_at hh1
      have i1 : ixZ M.length (here : Int) = some here := by rw [ixZ_nat, if_pos hh1]
      have i2 : ixZ M.length (j0 : Int) = some j0 := by rw [ixZ_nat, if_pos j0l]
      have sA : ((M.map rwP).set here (rwP (row' M j0))).set j0 (rwP (row' M here)) = A.map rwP := by
        rw [hA]; simp [swp]
      have a1 := rows_at (M := A) (j := here) (by rw [Al]; exact hh1)
      rw [Ah] at a1
      have a2 := prs_at (r := row' M j0) (k := k) (by rw [hw _ (row_mem j0l)]; exact hk)
      rw [← hm] at a2
      have sN : (A.map rwP).set here (.lst (((row' M j0).map fun a => a / m).map pr)) = N.map rwP := by
        rw [hN]; unfold dvd'; rw [Ah, ← hm, List.map_set]; rfl
      have zM : zs 0 M.length = zs 0 M.length := rfl
      simp only [List.map_cons] at h8 hq ov cl ⊢
      have en : (decide (j0 :: t = [])) = false := by simp
      rw [en] at hq
      have la : (List.map rwP A)[here]? = some (rwP (row' A here)) := by
        have := rows_at (M := A) (j := here) (by rw [Al]; exact hh1)
        rwa [atZ_nat] at this
      simp [wStepped2, -List.map_map, -atZ_nat, r1, r2, r3, r4, tn, zs_len, (show M.length - here ≤ 16777216 by omega), h8, plain_map, hq, m1, m2, i1, i2, sA, a1]
      have ixr : ∀ h, ixD (.p (rwP (row' M j0))) (.p (.int (k : Nat))) h = .ok (.p (pr m)) h := fun h => by simp [rwP, -List.map_map, -atZ_nat, a2]
      have sqr : ∀ h, seqItems (.p (rwP (row' M j0))) h = .ok (((row' M j0).map pr).map D.p, fun _ => true) h := fun h => rfl
      have lr := hw _ (row_mem j0l)
      have i1A : ixZ A.length (here : Int) = some here := by rw [Al]; exact i1
      have ls : (spP sp).length = sp.length := by simp [spP]
      have l9 : sp.length + 1 ≤ 16777216 := by omega
      have e1 : spP sp ++ [P.int (k : Nat)] = spP (sp ++ [k]) := by simp [spP]
      simp only [e13] at ov cl
      simp [-List.map_map, -atZ_nat, ixr, a1, sqr, lr, (show w ≤ 16777216 by omega), ov, plain_map, i1A, sN]
      simp [-List.map_map, Nl, r3, r4, cl, ls, l9, e1]
end
theorem forL_nx {gt : FG} {gb : FS} {d : D} {ds : List D} {e e' e2 : Env} {h h1 h2 : Hs} (q1 : gt d e h = .ok e' h1) (q2 : gb e' h1 = .nx e2 h2) : forL gt gb (fun _ => true) (d :: ds) e h = forL gt gb (fun _ => true) ds e2 h2 := by
  conv => lhs; unfold forL
  simp only [q1, q2, if_pos]
theorem forL_ct {gt : FG} {gb : FS} {d : D} {ds : List D} {e e' e2 : Env} {h h1 h2 : Hs} (q1 : gt d e h = .ok e' h1) (q2 : gb e' h1 = .ct e2 h2) : forL gt gb (fun _ => true) (d :: ds) e h = forL gt gb (fun _ => true) ds e2 h2 := by
  conv => lhs; unfold forL
  simp only [q1, q2, if_pos]
def stAt (M : Mq) (t : Nat) : St3 := (List.range t).foldl stepQ ⟨M, [], 0⟩
theorem stAt_succ (M : Mq) (t : Nat) : stAt M (t + 1) = stepQ (stAt M t) t := by
  unfold stAt; rw [List.range_succ, List.foldl_append]; rfl
theorem stepQ_len (s : St3) (k : Nat) : (stepQ s k).M.length = s.M.length := by
  unfold stepQ
  split
  · rfl
  · rw [clrN_len]; simp [dvd', swp]
theorem stepQ_here {s : St3} {k : Nat} (h : s.here ≤ s.M.length) (hs : s.sp.length = s.here) : (stepQ s k).here ≤ s.M.length ∧ (stepQ s k).sp.length = (stepQ s k).here ∧ (stepQ s k).here ≤ s.here + 1 := by
  unfold stepQ
  split
  · exact ⟨h, hs, by omega⟩
  · rename_i j0 t q
    have j0m : j0 ∈ hitQ s.M k s.here := by rw [q]; exact List.mem_cons_self
    unfold hitQ at j0m
    rw [List.mem_filter, List.mem_range'_1] at j0m
    have := j0m.1
    refine ⟨by simp only; omega, by simp [hs], by simp only; omega⟩
theorem stepQ_wd {s : St3} {k w : Nat} (hw : Wd w s.M) : Wd w (stepQ s k).M := by
  unfold stepQ
  split
  · exact hw
  · rename_i j0 t q
    have j0m : j0 ∈ hitQ s.M k s.here := by rw [q]; exact List.mem_cons_self
    unfold hitQ at j0m
    rw [List.mem_filter, List.mem_range'_1] at j0m
    obtain ⟨⟨j1, j2⟩, _⟩ := j0m
    have hh : s.here < s.M.length := by omega
    have j0l : j0 < s.M.length := by omega
    have key : ∀ i, i < s.M.length → (row' (dvd' (swp s.M s.here j0) s.here k) i).length = w := fun i hi => by
      unfold dvd'
      rw [row_set (by simpa [swp] using hi)]
      have sw : ∀ i, i < s.M.length → (row' (swp s.M s.here j0) i).length = w := fun i hi => by
        unfold swp
        rw [row_set (by simpa using hi), row_set hi]
        split
        · exact hw _ (row_mem hh)
        · split
          · exact hw _ (row_mem j0l)
          · exact hw _ (row_mem hi)
      split
      · rw [List.length_map]; exact sw _ hh
      · exact sw i hi
    intro x hx
    obtain ⟨i, hi, rfl⟩ := mem_row hx
    simp only [clrN_len] at hi
    have hi' : i < s.M.length := by simpa [dvd', swp] using hi
    rw [clrN_row (by simpa [dvd', swp] using hi')]
    rw [if_pos hi']
    exact clrR_len (key _ hh) (key _ hi')
theorem stAt_inv (M : Mq) {w : Nat} (hw : Wd w M) : ∀ t : Nat, (stAt M t).M.length = M.length ∧ Wd w (stAt M t).M ∧ (stAt M t).here ≤ M.length ∧ (stAt M t).sp.length = (stAt M t).here
  | 0 => ⟨rfl, hw, Nat.zero_le _, rfl⟩
  | t + 1 => by
    obtain ⟨a, b, c, d⟩ := stAt_inv M hw t
    rw [stAt_succ]
    have l := stepQ_len (stAt M t) t
    obtain ⟨h1, h2, _⟩ := stepQ_here (k := t) (by rw [a]; exact c) d
    exact ⟨by rw [l, a], stepQ_wd b, by rw [← a]; exact h1, h2⟩
def rwT (r : List Rat) : P := .tup (r.map pr)
def outP (s : St3) : P := .tup [.tup ((s.M.take s.here).map rwT), .tup (spP s.sp)]
section
variable {M : Mq} {w n : Nat} (hw : Wd w M) (hn : 3 * n ≤ 8890) (hM : M.length ≤ 1000) (hw1 : w ≤ 1000) (h0 : M ≠ []) (hB : ∀ t, t ≤ w → Bm n (stAt M t).M)
include hw hn hM hw1 h0 hB
theorem cols_loop (R0 : P) : ∃ e' : Env, forL (tN 2) wStepped2 (fun _ => true) (zs 0 w) [some (.p R0), some (.p (.int w)), none, some (.loc 0), some (.loc 1), some (.p (.int 0)), none, none, none, none, none, none, none] [.lst (M.map rwP), .lst []] = .nx e' [.lst ((stAt M w).M.map rwP), .lst (spP (stAt M w).sp)] ∧
    e'.length = 13 ∧ e'[3]? = some (some (.loc 0)) ∧ e'[4]? = some (some (.loc 1)) ∧ e'[5]? = some (some (.p (.int (stAt M w).here))) := by
  have main : ∀ m : Nat, m ≤ w → ∀ (x2 x6 x7 x8 : Option D), ∃ x2' x6' x7' x8', forL (tN 2) wStepped2 (fun _ => true) (zs ((w - m : Nat) : Int) m) [some (.p R0), some (.p (.int w)), x2, some (.loc 0), some (.loc 1), some (.p (.int (stAt M (w - m)).here)), x6, x7, x8, none, none, none, none] [.lst ((stAt M (w - m)).M.map rwP), .lst (spP (stAt M (w - m)).sp)] =
      .nx [some (.p R0), some (.p (.int w)), x2', some (.loc 0), some (.loc 1), some (.p (.int (stAt M w).here)), x6', x7', x8', none, none, none, none] [.lst ((stAt M w).M.map rwP), .lst (spP (stAt M w).sp)] := by
    intro m
    induction m with
    | zero => intro _ x2 x6 x7 x8; exact ⟨x2, x6, x7, x8, by simp [zs, forL]⟩
    | succ m ih =>
      intro hm x2 x6 x7 x8
      obtain ⟨k, hk⟩ : ∃ k, k = w - (m + 1) := ⟨_, rfl⟩
      have k1 : w - m = k + 1 := by omega
      rw [← hk]
      obtain ⟨a, b, c, d⟩ := stAt_inv M hw k
      have bk := hB k (by omega)
      have bk1 := hB (k + 1) (by omega)
      rw [stAt_succ] at bk1
      obtain ⟨x6', x7', x8', st⟩ := col_step b bk hn (by rw [a]; exact hM) hw1 (k := k) (by omega) (here := (stAt M k).here) (by rw [a]; exact c) (stAt M k).sp (by omega) bk1 R0 x6 x7 x8
      obtain ⟨y2, y6, y7, y8, q⟩ := ih (by omega) (some (.p (.int k))) x6' x7' x8'
      rw [k1, stAt_succ] at q
      refine ⟨y2, y6, y7, y8, ?_⟩
      have z : zs (k : Int) (m + 1) = .p (.int k) :: zs ((k + 1 : Nat) : Int) m := by
        have : ((k + 1 : Nat) : Int) = (k : Int) + 1 := by omega
        rw [this]; rfl
      rw [z]
      have bind : tN 2 (.p (.int (k : Int))) [some (.p R0), some (.p (.int w)), x2, some (.loc 0), some (.loc 1), some (.p (.int (stAt M k).here)), x6, x7, x8, none, none, none, none] [.lst ((stAt M k).M.map rwP), .lst (spP (stAt M k).sp)] = .ok (e13 R0 w k (stAt M k).here x6 x7 x8) [.lst ((stAt M k).M.map rwP), .lst (spP (stAt M k).sp)] := rfl
      rcases st with st | st
      · exact (forL_nx bind st).trans q
      · exact (forL_ct bind st).trans q
  obtain ⟨y2, y6, y7, y8, q⟩ := main w (Nat.le_refl _) none none none none
  rw [Nat.sub_self] at q
  have z0 : (((stAt M 0).here : Nat) : Int) = 0 := rfl
  have z1 : (stAt M 0).M = M := rfl
  have z2 : spP (stAt M 0).sp = [] := rfl
  have z3 : ((0 : Nat) : Int) = 0 := rfl
  rw [z0, z1, z2, z3] at q
  exact ⟨_, q, rfl, rfl, rfl, rfl⟩
theorem stepped_ok (h : Hs) : callP fStepped [.p (.lst (M.map rwP))] h = .ok (.p (outP (stAt M w))) h := by
  obtain ⟨e', q, el, e3, e4, e5⟩ := cols_loop hw hn hM hw1 h0 hB (.lst (M.map rwP))
  obtain ⟨r0, t, hMr⟩ : ∃ r0 t, M = r0 :: t := by
    cases M with
    | nil => exact absurd rfl h0
    | cons r t => exact ⟨r, t, rfl⟩
  have l1 := lc_to (t := .nm 9) (fe := (cB bListP (aC (cV 9) aN))) (h := []) (env := [some (.p (.lst (M.map rwP))), none, none, none, none, none, none, none, none, none, none, none, none]) rwP rwP M (fun r hr => ⟨_, rfl, by simp [rwP]⟩)
  obtain ⟨a, b, c, d⟩ := stAt_inv M hw w
  have l2 := fun h => lc_to (t := .nm 9) (fe := (cB bTuple (aC (cV 9) aN))) (h := h) (env := e'.set 9 none) rwP rwT ((stAt M w).M.take (stAt M w).here) (fun r hr => ⟨_, rfl, by simp [el, rwP, rwT]⟩)
  have ct := cut_to ((stAt M w).M.map rwP) ((stAt M w).here : Int) (by omega)
  rw [Int.toNat_natCast, ← List.map_take] at ct
  have w0 : (row' M 0).length = w := hw _ (row_mem (by rw [hMr]; simp))
  have r00 : row' M 0 = r0 := by rw [hMr]; rfl
  have dpr : ∀ q : Rat, depLe 58 (pr q) = true := fun q => rfl
  have drw : ∀ r : List Rat, depLe 59 (rwP r) = true := fun r => by
    simp only [rwP, depLe, List.all_map]
    exact List.all_eq_true.mpr fun q _ => dpr q
  have dM : depLe 60 (.lst (M.map rwP)) = true := by
    simp only [depLe, List.all_map]
    exact List.all_eq_true.mpr fun r _ => drw r
  have ne : eqP (.lst (M.map rwP)) (.lst []) = false := by rw [hMr]; rfl
  have ce : ∀ (env : Env) (x : O), env[3]? = some (some (.loc 0)) → cEqL true (cV 3) (cLst aN) env [.lst (M.map rwP), x] = .ok (.p (.bl true)) [.lst (M.map rwP), x] := fun env x e3 => by
    unfold cEqL
    simp [e3, eqL, depD, dM, ne, -List.map_map]
    rfl
  have m0 : M[0]? = some r0 := by rw [hMr]; rfl
  have lw : r0.length = w := by rw [← r00]; exact w0
  have r2 : (-1000000000 : Int) ≤ (w : Int) := by omega
  have r3 : (w : Int) ≤ 1000000000 := by omega
  have bl : ∀ h, bLen [.p (rwP r0)] h = .ok (.p (.int w)) h := fun h => by simp [rwP, lw]
  have li : ((stAt M w).M.take (stAt M w).here).length ≤ 16777216 := by rw [List.length_take]; omega
  rw [callP_e _ rfl]
  simp [fStepped, -List.map_map, l1, plain_map, (show M.length ≤ 16777216 by omega), ce, m0, bl, r2, r3, q, e3, e4, e5]
  rw [ct]
  simp only [seqItems_l, bind_ok, List.length_map]
  rw [if_pos li, l2]
  simp [-List.map_map, -List.map_take, plain_map, e4]
  rfl
omit hw hn hM hw1 h0 hB in
theorem stepped_nil (h : Hs) : callP fStepped [.p (.lst [])] h = .ok (.p (.tup [.tup [], .tup []])) h := by kernel_rfl
end
end Ar
namespace Ar
/-! ### rows brought to steps: what they say -/
def en (M : Mq) (i c : Nat) : Rat := at' (row' M i) c
def dot (f v : Nat → Rat) : Nat → Rat
  | 0 => 0
  | n + 1 => dot f v n + f n * v n
theorem dot_congr {f g v u : Nat → Rat} : ∀ {n : Nat}, (∀ c, c < n → f c * v c = g c * u c) → dot f v n = dot g u n
  | 0, _ => rfl
  | n + 1, h => by
    unfold dot
    rw [dot_congr (n := n) fun c hc => h c (by omega), h n (by omega)]
theorem dot_sub (f g v : Nat → Rat) (a : Rat) : ∀ n, dot (fun c => f c - a * g c) v n = dot f v n - a * dot g v n
  | 0 => by simp only [dot]; grind
  | n + 1 => by simp only [dot, dot_sub f g v a n]; grind
theorem dot_div (f v : Nat → Rat) (p : Rat) : ∀ n, dot (fun c => f c / p) v n = dot f v n / p
  | 0 => by simp only [dot]; grind
  | n + 1 => by simp only [dot, dot_div f v p n]; grind
theorem dot_zero {f v : Nat → Rat} : ∀ {n : Nat}, (∀ c, c < n → f c * v c = 0) → dot f v n = 0
  | 0, _ => rfl
  | n + 1, h => by
    unfold dot
    rw [dot_zero (n := n) fun c hc => h c (by omega), h n (by omega)]; grind
theorem dot_one {f v : Nat → Rat} {x : Nat} : ∀ {n : Nat}, x < n → (∀ c, c < n → c ≠ x → f c * v c = 0) → dot f v n = f x * v x
  | n + 1, hx, h => by
    unfold dot
    by_cases e : x = n
    · subst e
      rw [dot_zero fun c hc => h c (by omega) (by omega)]; grind
    · rw [dot_one (n := n) (by omega) fun c hc => h c (by omega), h n (by omega) (by omega)]; grind
theorem dot_two {f v : Nat → Rat} {x y : Nat} : ∀ {n : Nat}, x < n → y < n → x ≠ y → (∀ c, c < n → c ≠ x → c ≠ y → f c * v c = 0) → dot f v n = f x * v x + f y * v y
  | n + 1, hx, hy, ne, h => by
    unfold dot
    by_cases e : x = n
    · subst e
      rw [dot_one (x := y) (by omega) fun c hc h2 => h c (by omega) (by omega) h2]; grind
    · by_cases e2 : y = n
      · subst e2
        rw [dot_one (x := x) (by omega) fun c hc h2 => h c (by omega) h2 (by omega)]
      · rw [dot_two (n := n) (by omega) (by omega) ne fun c hc => h c (by omega), h n (by omega) (by omega) (by omega)]; grind
theorem at_zip {f : Rat → Rat → Rat} {a b : List Rat} {c : Nat} (h1 : c < a.length) (h2 : c < b.length) : at' (List.zipWith f a b) c = f (at' a c) (at' b c) := by
  unfold at'
  rw [List.getD_eq_getElem?_getD, List.getD_eq_getElem?_getD, List.getD_eq_getElem?_getD, List.getElem?_zipWith, List.getElem?_eq_getElem h1, List.getElem?_eq_getElem h2]
  rfl
theorem at_map {f : Rat → Rat} {a : List Rat} {c : Nat} (h1 : c < a.length) : at' (a.map f) c = f (at' a c) := by
  unfold at'
  rw [List.getD_eq_getElem?_getD, List.getD_eq_getElem?_getD, List.getElem?_map, List.getElem?_eq_getElem h1]
  rfl
/-- what a step with a hit does -/
theorem step_en {s : St3} {k w : Nat} (hw : Wd w s.M) (hk : k < w) : (stepQ s k = s ∧ ∀ j, s.here ≤ j → j < s.M.length → en s.M j k = 0) ∨
    ∃ j0, s.here ≤ j0 ∧ j0 < s.M.length ∧ en s.M j0 k ≠ 0 ∧ (stepQ s k).sp = s.sp ++ [k] ∧ (stepQ s k).here = s.here + 1 ∧ (∀ c, c < w → en (stepQ s k).M s.here c = en s.M j0 c / en s.M j0 k) ∧
      ∀ i, i < s.M.length → i ≠ s.here → ∃ i', i' < s.M.length ∧ (i' = if i = j0 then s.here else i) ∧ ∀ c, c < w → en (stepQ s k).M i c = en s.M i' c - en s.M i' k * (en s.M j0 c / en s.M j0 k) := by
  cases q : hitQ s.M k s.here with
  | nil =>
    refine .inl ⟨by unfold stepQ; rw [q], fun j h1 h2 => ?_⟩
    by_cases z : en s.M j k = 0
    · exact z
    · have : j ∈ hitQ s.M k s.here := by
        unfold hitQ
        rw [List.mem_filter, List.mem_range'_1]
        exact ⟨⟨h1, by omega⟩, decide_eq_true z⟩
      rw [q] at this; cases this
  | cons j0 t =>
    have j0m : j0 ∈ hitQ s.M k s.here := by rw [q]; exact List.mem_cons_self
    unfold hitQ at j0m
    rw [List.mem_filter, List.mem_range'_1] at j0m
    obtain ⟨⟨j1, j2⟩, pv⟩ := j0m
    have pv : en s.M j0 k ≠ 0 := of_decide_eq_true pv
    have hh : s.here < s.M.length := by omega
    have j0l : j0 < s.M.length := by omega
    have sq : stepQ s k = ⟨clrN s.here k (row' (dvd' (swp s.M s.here j0) s.here k) s.here) (dvd' (swp s.M s.here j0) s.here k) s.M.length, s.sp ++ [k], s.here + 1⟩ := by unfold stepQ; rw [q]
    obtain ⟨A, hA⟩ : ∃ A, A = swp s.M s.here j0 := ⟨_, rfl⟩
    have Al : A.length = s.M.length := by rw [hA]; simp [swp]
    have Ar : ∀ i, i < s.M.length → row' A i = if i = j0 then row' s.M s.here else if i = s.here then row' s.M j0 else row' s.M i := fun i hi => by
      rw [hA]; unfold swp
      rw [row_set (by simpa using hi), row_set hi]
    have Ah : row' A s.here = row' s.M j0 := by
      rw [Ar s.here hh]
      by_cases c : s.here = j0
      · rw [if_pos c, c]
      · rw [if_neg c, if_pos rfl]
    obtain ⟨N, hN⟩ : ∃ N, N = dvd' A s.here k := ⟨_, rfl⟩
    rw [← hA, ← hN] at sq
    have Nl : N.length = s.M.length := by rw [hN]; simp [dvd', Al]
    have Nr : ∀ i, i < s.M.length → row' N i = if i = s.here then (row' s.M j0).map (fun a => a / en s.M j0 k) else row' A i := fun i hi => by
      rw [hN]; unfold dvd'
      rw [row_set (by rw [Al]; exact hi), Ah]; rfl
    have Nh : row' N s.here = (row' s.M j0).map (fun a => a / en s.M j0 k) := by rw [Nr s.here hh, if_pos rfl]
    have lj := hw _ (row_mem j0l)
    have nh : ∀ c, c < w → at' (row' N s.here) c = en s.M j0 c / en s.M j0 k := fun c hc => by
      rw [Nh, at_map (by omega)]; rfl
    refine .inr ⟨j0, j1, j0l, pv, by rw [sq], by rw [sq], fun c hc => ?_, fun i hi ne => ⟨if i = j0 then s.here else i, by split <;> omega, rfl, fun c hc => ?_⟩⟩
    · rw [sq]
      show at' (row' (clrN s.here k (row' N s.here) N s.M.length) s.here) c = _
      rw [clrN_row (by omega), if_pos hh]
      unfold clrR
      rw [if_neg (by simp), nh c hc]
    · rw [sq]
      show at' (row' (clrN s.here k (row' N s.here) N s.M.length) i) c = _
      rw [clrN_row (by omega), if_pos hi]
      have e : row' N i = row' s.M (if i = j0 then s.here else i) := by
        rw [Nr i hi, if_neg ne, Ar i hi]
        by_cases q : i = j0
        · rw [if_pos q, if_pos q]
        · rw [if_neg q, if_neg q, if_neg ne]
      have li : (row' N i).length = w := by
        rw [e]; exact hw _ (row_mem (by split <;> omega))
      have lh : (row' N s.here).length = w := by rw [Nh, List.length_map]; exact lj
      unfold clrR
      split
      · unfold clr
        rw [at_zip (by omega) (by omega), nh c hc, e]; rfl
      · rename_i z
        have z : at' (row' N i) k = 0 := by
          by_cases y : at' (row' N i) k = 0
          · exact y
          · exact absurd ⟨ne, y⟩ z
        rw [e] at z ⊢
        have z : en s.M (if i = j0 then s.here else i) k = 0 := z
        rw [z]
        show en s.M _ c = _
        grind
structure Lin (M : Mq) (w t : Nat) (s : St3) : Prop where
  len : s.M.length = M.length
  wd : Wd w s.M
  le : s.here ≤ M.length
  spl : s.sp.length = s.here
  lt : ∀ a c : Nat, s.sp[a]? = some c → c < t
  mono : ∀ a b c d : Nat, s.sp[a]? = some c → s.sp[b]? = some d → a < b → c < d
  unit : ∀ a c : Nat, s.sp[a]? = some c → ∀ i, i < M.length → en s.M i c = if i = a then 1 else 0
  below : ∀ i, s.here ≤ i → i < M.length → ∀ c, c < t → en s.M i c = 0
  lead : ∀ a c : Nat, s.sp[a]? = some c → ∀ d, d < c → en s.M a d = 0
  sol : ∀ v : Nat → Rat, (∀ i, i < M.length → dot (en s.M i) v w = 0) ↔ ∀ i, i < M.length → dot (en M i) v w = 0
theorem lin_at (M : Mq) {w : Nat} (hw : Wd w M) : ∀ t, t ≤ w → Lin M w t (stAt M t)
  | 0, _ => ⟨rfl, hw, Nat.zero_le _, rfl, fun a c h => by simp [stAt] at h, fun a b c d h => by simp [stAt] at h, fun a c h => by simp [stAt] at h, fun i _ _ c hc => by omega, fun a c h => by simp [stAt] at h, fun v => Iff.rfl⟩
  | t + 1, ht => by
    have L := lin_at M hw t (by omega)
    rw [stAt_succ]
    obtain ⟨s, hs⟩ : ∃ s, s = stAt M t := ⟨_, rfl⟩
    rw [← hs] at L ⊢
    rcases step_en L.wd (show t < w by omega) with ⟨e, z⟩ | ⟨j0, j1, j2, pv, esp, ehr, eh, ei⟩
    · rw [e]
      refine ⟨L.len, L.wd, L.le, L.spl, fun a c h => by have := L.lt a c h; omega, L.mono, L.unit, fun i h1 h2 c hc => ?_, L.lead, L.sol⟩
      by_cases q : c = t
      · subst q; exact z i h1 (by rw [L.len]; exact h2)
      · exact L.below i h1 h2 c (by omega)
    · have lt0 : s.here < M.length := by rw [← L.len]; omega
      have j0l : j0 < M.length := by rw [← L.len]; exact j2
      have ei' : ∀ i, i < M.length → i ≠ s.here → ∀ c, c < w → en (stepQ s t).M i c = en s.M (if i = j0 then s.here else i) c - en s.M (if i = j0 then s.here else i) t * (en s.M j0 c / en s.M j0 t) := fun i hi ne c hc => by
        obtain ⟨i', _, rfl, k⟩ := ei i (by rw [L.len]; exact hi) ne
        exact k c hc
      have j0z : ∀ c, c < t → en s.M j0 c = 0 := fun c hc => L.below j0 j1 j0l c hc
      have sp_at : ∀ a c : Nat, (stepQ s t).sp[a]? = some c → (a < s.here ∧ s.sp[a]? = some c) ∨ (a = s.here ∧ c = t) := fun a c h => by
        rw [esp] at h
        by_cases q : a < s.sp.length
        · rw [List.getElem?_append_left q] at h
          exact .inl ⟨by rw [← L.spl]; exact q, h⟩
        · rw [List.getElem?_append_right (by omega)] at h
          have : a - s.sp.length = 0 := by
            have := (List.getElem?_eq_some_iff.mp h).1
            simp at this; omega
          rw [this] at h
          simp at h
          exact .inr ⟨by rw [← L.spl]; omega, h.symm⟩
      refine ⟨by rw [stepQ_len, L.len], stepQ_wd L.wd, by rw [ehr]; omega, by rw [esp, ehr, List.length_append, L.spl]; rfl, fun a c h => ?_, fun a b c d h1 h2 hab => ?_, fun a c h i hi => ?_, fun i h1 h2 c hc => ?_, fun a c h d hd => ?_, fun v => ?_⟩
      · rcases sp_at a c h with ⟨_, h⟩ | ⟨_, rfl⟩
        · have := L.lt a c h; omega
        · omega
      · rcases sp_at a c h1 with ⟨q1, g1⟩ | ⟨q1, g1⟩
        · rcases sp_at b d h2 with ⟨q2, g2⟩ | ⟨q2, g2⟩
          · exact L.mono a b c d g1 g2 hab
          · rw [g2]; exact L.lt a c g1
        · rcases sp_at b d h2 with ⟨q2, g2⟩ | ⟨q2, g2⟩ <;> omega
      · rcases sp_at a c h with ⟨q1, h1⟩ | ⟨q1, rfl⟩
        · have cw := L.lt a c h1
          have u := L.unit a c h1
          by_cases ih : i = s.here
          · subst ih
            rw [eh c (by omega), j0z c cw, if_neg (by omega)]; grind
          · rw [ei' i hi ih c (by omega), j0z c cw]
            by_cases ij : i = j0
            · subst ij
              rw [if_pos rfl, u s.here lt0, if_neg (by omega), if_neg (by omega)]; grind
            · rw [if_neg ij, u i hi]; grind
        · subst q1
          by_cases ih : i = s.here
          · subst ih
            rw [eh c (by omega), if_pos rfl]; grind
          · rw [ei' i hi ih c (by omega), if_neg ih]; grind
      · rw [ehr] at h1
        have ih : i ≠ s.here := by omega
        rw [ei' i h2 ih c (by omega)]
        by_cases q : c = t
        · subst q; grind
        · have b := L.below (if i = j0 then s.here else i) (by split <;> omega) (by split <;> omega) c (by omega)
          rw [b, j0z c (by omega)]; grind
      · rcases sp_at a c h with ⟨q1, h1⟩ | ⟨q1, rfl⟩
        · have cw := L.lt a c h1
          rw [ei' a (by omega) (by omega) d (by omega), if_neg (by omega), j0z d (by omega), L.lead a c h1 d hd]; grind
        · subst q1
          rw [eh d (by omega), j0z d hd]; grind
      · rw [← L.sol v]
        have de : ∀ i, i < M.length → i ≠ s.here → dot (en (stepQ s t).M i) v w = dot (en s.M (if i = j0 then s.here else i)) v w - en s.M (if i = j0 then s.here else i) t * (dot (en s.M j0) v w / en s.M j0 t) := fun i hi ne => by
          rw [← dot_div, ← dot_sub]
          exact dot_congr fun c hc => by rw [ei' i hi ne c hc]
        have dh : dot (en (stepQ s t).M s.here) v w = dot (en s.M j0) v w / en s.M j0 t := by
          rw [← dot_div]
          exact dot_congr fun c hc => by rw [eh c hc]
        constructor
        · intro h
          have z0 : dot (en s.M j0) v w = 0 := by
            have := h s.here lt0
            rw [dh] at this
            have h3 : dot (en s.M j0) v w = dot (en s.M j0) v w / en s.M j0 t * en s.M j0 t := by grind
            rw [h3, this]; grind
          intro i hi
          by_cases ij : i = j0
          · subst ij; exact z0
          · by_cases ih : i = s.here
            · subst ih
              by_cases js : j0 = s.here
              · exact absurd js.symm ij
              · have := h j0 j0l
                rw [de j0 j0l js, if_pos rfl, z0] at this
                grind
            · have := h i hi
              rw [de i hi ih, if_neg ij, z0] at this
              grind
        · intro h i hi
          have z0 := h j0 j0l
          by_cases ih : i = s.here
          · subst ih; rw [dh, z0]; grind
          · rw [de i hi ih, z0, h _ (by split <;> omega)]; grind
section
variable {M : Mq} {w : Nat} {s : St3} (L : Lin M w w s)
include L
theorem Lin.grow {a : Nat} : ∀ (k : Nat) {c d : Nat}, s.sp[a]? = some c → s.sp[a + k]? = some d → c + k ≤ d
  | 0, c, d, h1, h2 => by
    rw [Nat.add_zero, h1] at h2
    injection h2 with h2; omega
  | k + 1, c, d, h1, h2 => by
    have hl := (List.getElem?_eq_some_iff.mp h2).1
    have h3 : s.sp[a + k]? = some s.sp[a + k] := List.getElem?_eq_getElem (by omega)
    have := Lin.grow k h1 h3
    have := L.mono (a + k) (a + (k + 1)) _ d h3 h2 (by omega)
    omega
theorem Lin.idx {a c : Nat} (h : s.sp[a]? = some c) : s.sp.idxOf c = a := by
  have hm : c ∈ s.sp := List.mem_of_getElem? h
  have h1 := List.idxOf_lt_length_of_mem hm
  have h2 : s.sp[s.sp.idxOf c]? = some c := by rw [List.getElem?_eq_getElem h1]; simp
  by_cases q : s.sp.idxOf c < a
  · have := L.mono _ _ _ _ h2 h q; omega
  · by_cases q2 : a < s.sp.idxOf c
    · have := L.mono _ _ _ _ h h2 q2; omega
    · omega
def kerV (s : St3) (c0 : Nat) : Nat → Rat := fun c => if c = c0 then 1 else if c ∈ s.sp then -(en s.M (s.sp.idxOf c) c0) else 0
theorem Lin.ker {c0 : Nat} (h0 : c0 < w) (hn : c0 ∉ s.sp) : ∀ i, i < M.length → dot (en s.M i) (kerV s c0) w = 0 := by
  intro i hi
  by_cases q : i < s.here
  · have hl : i < s.sp.length := by rw [L.spl]; exact q
    obtain ⟨ci, hci⟩ : ∃ ci, s.sp[i]? = some ci := ⟨_, List.getElem?_eq_getElem hl⟩
    have lt := L.lt i ci hci
    have mem : ci ∈ s.sp := List.mem_of_getElem? hci
    have ne : c0 ≠ ci := fun z => hn (z ▸ mem)
    rw [dot_two h0 lt ne fun c hc h1 h2 => ?_]
    · have u := L.unit i ci hci i hi
      rw [if_pos rfl] at u
      have k1 : kerV s c0 c0 = 1 := if_pos rfl
      have k2 : kerV s c0 ci = -(en s.M i c0) := by
        unfold kerV
        rw [if_neg (fun z => ne z.symm), if_pos mem, L.idx hci]
      rw [u, k1, k2]; grind
    · by_cases cm : c ∈ s.sp
      · obtain ⟨a, ha, e⟩ := List.mem_iff_getElem.mp cm
        have ha' : s.sp[a]? = some c := by rw [List.getElem?_eq_getElem ha, e]
        have u := L.unit a c ha' i hi
        rw [if_neg (fun z => by
          subst z; rw [hci] at ha'; injection ha' with q; exact h2 q.symm)] at u
        rw [u]; grind
      · have : kerV s c0 c = 0 := by unfold kerV; rw [if_neg h1, if_neg cm]
        rw [this]; grind
  · exact dot_zero fun c hc => by rw [L.below i (by omega) hi c hc]; grind
theorem dot_neg (f v : Nat → Rat) : ∀ n, dot f (fun c => -(v c)) n = -(dot f v n)
  | 0 => by simp only [dot]; grind
  | n + 1 => by simp only [dot, dot_neg f v n]; grind
end
section
variable {M : Mq} {n : Nat} {s : St3} (L : Lin M (n + 1) (n + 1) s)
include L
/-- no solution: the last column is a step's -/
theorem Lin.locked (h : ¬ ∃ x : Nat → Rat, x n = -1 ∧ ∀ i, i < M.length → dot (en M i) x (n + 1) = 0) : n ∈ s.sp := by
  by_cases q : n ∈ s.sp
  · exact q
  · refine absurd ⟨fun c => -(kerV s n c), ?_, ?_⟩ h
    · have : kerV s n n = 1 := if_pos rfl
      simp only [this]
    · rw [← L.sol]
      intro i hi
      rw [dot_neg L, L.ker (by omega) q i hi]; grind
theorem Lin.open {x : Nat → Rat} (x1 : x n = -1) (hx : ∀ i, i < M.length → dot (en M i) x (n + 1) = 0) : n ∉ s.sp := by
  intro hm
  obtain ⟨a, ha, e⟩ := List.mem_iff_getElem.mp hm
  have ha' : s.sp[a]? = some n := by rw [List.getElem?_eq_getElem ha, e]
  have al : a < M.length := by have := L.le; rw [L.spl] at ha; omega
  have d := (L.sol x).mpr hx a al
  rw [dot_one (x := n) (by omega) fun c hc h => by rw [L.lead a n ha' c (by omega)]; grind] at d
  have u := L.unit a n ha' a al
  rw [if_pos rfl] at u
  rw [u, x1] at d
  grind
/-- as many steps as columns ahead of the last -/
theorem Lin.full (hn : n ∉ s.sp) (hl : n ≤ s.sp.length) : s.sp = List.range n ∧ s.here = n := by
  have lt : ∀ a c : Nat, s.sp[a]? = some c → c < n := fun a c h => by
    have h1 := L.lt a c h
    have : c ≠ n := fun z => hn (z ▸ List.mem_of_getElem? h)
    omega
  have at_ : ∀ a, a < s.sp.length → s.sp[a]? = some a := fun a ha => by
    have h1 : s.sp[a]? = some s.sp[a] := List.getElem?_eq_getElem ha
    have h0 : s.sp[0]? = some s.sp[0] := List.getElem?_eq_getElem (by omega)
    have hlast : s.sp[a + (s.sp.length - 1 - a)]? = some s.sp[a + (s.sp.length - 1 - a)] := List.getElem?_eq_getElem (by omega)
    have g1 := L.grow a h0 (by rw [Nat.zero_add]; exact h1)
    have g2 := L.grow _ h1 hlast
    have := lt _ _ hlast
    rw [h1]
    congr 1; omega
  have ll : s.sp.length = n := by
    by_cases q : n < s.sp.length
    · have := lt _ _ (at_ n q); omega
    · omega
  refine ⟨?_, by rw [← L.spl, ll]⟩
  apply List.ext_getElem?
  intro i
  by_cases q : i < n
  · rw [at_ i (by omega), List.getElem?_range q]
  · rw [List.getElem?_eq_none (by omega), List.getElem?_eq_none (by rw [List.length_range]; omega)]
/-- one solution: the rows tell it -/
theorem Lin.solved {x : Nat → Rat} (x1 : x n = -1) (hx : ∀ i, i < M.length → dot (en M i) x (n + 1) = 0) (hk : ∀ v : Nat → Rat, v n = 0 → (∀ i, i < M.length → dot (en M i) v (n + 1) = 0) → ∀ c, c < n → v c = 0) :
    s.sp = List.range n ∧ s.here = n ∧ ∀ a, a < n → en s.M a n = x a := by
  have no := L.open x1 hx
  have all : ∀ c, c < n → c ∈ s.sp := fun c hc => by
    by_cases q : c ∈ s.sp
    · exact q
    · have z := hk (kerV s c) (by
        have q2 : ¬ n = c := by omega
        show (if n = c then (1 : Rat) else if n ∈ s.sp then _ else 0) = 0
        rw [if_neg q2, if_neg no]) ((L.sol _).mp (L.ker (by omega) q)) c hc
      have : kerV s c c = 1 := if_pos rfl
      rw [this] at z
      grind
  have hl : n ≤ s.sp.length := by
    by_cases z : n = 0
    · omega
    · obtain ⟨a, ha, e⟩ := List.mem_iff_getElem.mp (all (n - 1) (by omega))
      -- the places of 0 .. n - 1
      have key : ∀ m, m ≤ n → m ≤ s.sp.length := by
        intro m
        induction m with
        | zero => intro _; omega
        | succ m ih =>
          intro hm
          have ih := ih (by omega)
          obtain ⟨b, hb, eb⟩ := List.mem_iff_getElem.mp (all m (by omega))
          by_cases q : m < s.sp.length
          · omega
          · have h0 : s.sp[0]? = some s.sp[0] := List.getElem?_eq_getElem (by omega)
            -- all of s.sp lies below
            have cm : s.sp.length = m := by omega
            have b1 : s.sp[b]? = some m := by rw [List.getElem?_eq_getElem hb, eb]
            -- values at b .. are past m; values 0 .. m have m + 1 places
            have inj : ∀ k, k ≤ m → s.sp.idxOf k < m := fun k hk2 => by
              have := List.idxOf_lt_length_of_mem (all k (by omega)); omega
            have mono2 : ∀ k, k ≤ m → k ≤ s.sp.idxOf k := by
              intro k
              induction k with
              | zero => intro _; omega
              | succ k ihk =>
                intro hk3
                have p1 := ihk (by omega)
                have m1 := all k (by omega)
                have m2 := all (k + 1) (by omega)
                have e1 : s.sp[s.sp.idxOf k]? = some k := by rw [List.getElem?_eq_getElem (List.idxOf_lt_length_of_mem m1)]; simp
                have e2 : s.sp[s.sp.idxOf (k + 1)]? = some (k + 1) := by rw [List.getElem?_eq_getElem (List.idxOf_lt_length_of_mem m2)]; simp
                by_cases q2 : s.sp.idxOf k < s.sp.idxOf (k + 1)
                · omega
                · by_cases q3 : s.sp.idxOf (k + 1) < s.sp.idxOf k
                  · have := L.mono _ _ _ _ e2 e1 q3; omega
                  · have : s.sp.idxOf k = s.sp.idxOf (k + 1) := by omega
                    rw [this, e2] at e1
                    injection e1 with e1; omega
            have := mono2 m (Nat.le_refl _)
            have := inj m (Nat.le_refl _)
            omega
      exact key n (Nat.le_refl _)
  obtain ⟨e1, e2⟩ := L.full no hl
  refine ⟨e1, e2, fun a ha => ?_⟩
  have al : a < M.length := by have := L.le; omega
  have sa : ∀ c, c < n → s.sp[c]? = some c := fun c hc => by rw [e1, List.getElem?_range hc]
  have d := (L.sol x).mpr hx a al
  rw [dot_two (x := a) (y := n) (by omega) (by omega) (by omega) fun c hc h1 h2 => by
    rw [L.unit c c (sa c (by omega)) a al, if_neg (fun z => h1 z.symm)]; grind] at d
  rw [L.unit a a (sa a ha) a al, if_pos rfl, x1] at d
  grind
/-- solutions, but no single one: fewer steps -/
theorem Lin.free {x v : Nat → Rat} (x1 : x n = -1) (hx : ∀ i, i < M.length → dot (en M i) x (n + 1) = 0) (v0 : v n = 0) (hv : ∀ i, i < M.length → dot (en M i) v (n + 1) = 0) {c : Nat} (hc : c < n) (vc : v c ≠ 0) : n ∉ s.sp ∧ s.sp.length < n := by
  have no := L.open x1 hx
  refine ⟨no, ?_⟩
  by_cases q : s.sp.length < n
  · exact q
  · obtain ⟨e1, e2⟩ := L.full no (by omega)
    have al : c < M.length := by have := L.le; omega
    have sa : ∀ c, c < n → s.sp[c]? = some c := fun c hc => by rw [e1, List.getElem?_range hc]
    have d := (L.sol v).mpr hv c al
    rw [dot_two (x := c) (y := n) (by omega) (by omega) (by omega) fun d hd h1 h2 => by
      rw [L.unit d d (sa d (by omega)) c al, if_neg (fun z => h1 z.symm)]; grind] at d
    rw [L.unit c c (sa c hc) c al, if_pos rfl, v0] at d
    grind
end
/-! ### sizes: one number below all -/
def Cd (D : Int) (B : Nat) (M : Mq) : Prop := D ≠ 0 ∧ D.natAbs ≤ B ∧ ∀ i, i < M.length → ∀ c, c < (row' M i).length → ∃ z : Int, en M i c = (z : Rat) / (D : Rat) ∧ z.natAbs ≤ B
theorem Cd.bm {D : Int} {B n : Nat} {M : Mq} (h : Cd D B M) (hB : B < 2 ^ n) : Bm n M := fun r hr x hx => by
  obtain ⟨i, hi, rfl⟩ := mem_row hr
  obtain ⟨c, hc, e⟩ := List.mem_iff_getElem.mp hx
  obtain ⟨z, ez, zb⟩ := h.2.2 i hi c hc
  have : x = en M i c := by
    show x = at' (row' M i) c
    unfold at'
    rw [List.getD_eq_getElem?_getD, List.getElem?_eq_getElem hc, e]; rfl
  rw [this, ez]
  exact bdQ_div h.1 (by omega) (by have := h.2.1; omega)
theorem Cd.step {D : Int} {B w k : Nat} {s : St3} (hw : Wd w s.M) (hk : k < w) (h : Cd D B s.M) : (stepQ s k = s) ∨ ∃ D', Cd D' (2 * B * B) (stepQ s k).M := by
  rcases step_en hw hk with ⟨e, _⟩ | ⟨j0, j1, j2, pv, esp, ehr, eh, ei⟩
  · exact .inl e
  · right
    have lw : ∀ i, i < s.M.length → (row' s.M i).length = w := fun i hi => hw _ (row_mem hi)
    have wd := stepQ_wd (k := k) hw
    obtain ⟨D0, DB, hE⟩ := h
    have E : ∀ i, i < s.M.length → ∀ c, c < w → ∃ z : Int, en s.M i c = (z : Rat) / (D : Rat) ∧ z.natAbs ≤ B := fun i hi c hc => hE i hi c (by rw [lw i hi]; exact hc)
    obtain ⟨p, ep, pb⟩ := E j0 j2 k hk
    have p0 : p ≠ 0 := fun z => pv (by rw [ep, z]; simp [Rat.div_def])
    have Dq := cast_ne D0
    have pq := cast_ne p0
    have B2 : ∀ a b : Int, a.natAbs ≤ B → b.natAbs ≤ B → (a * b).natAbs ≤ B * B := fun a b ha hb => by rw [Int.natAbs_mul]; exact Nat.mul_le_mul ha hb
    have hBB : 2 * B * B = B * B + B * B := by rw [Nat.mul_assoc, Nat.two_mul]
    refine ⟨D * p, Int.mul_ne_zero D0 p0, by have := B2 D p DB pb; omega, fun i hi c hc => ?_⟩
    rw [stepQ_len] at hi
    have hc' : c < w := by
      have := wd _ (row_mem (M := (stepQ s k).M) (j := i) (by rw [stepQ_len]; exact hi))
      omega
    obtain ⟨a, ea, ab⟩ := E j0 j2 c hc'
    by_cases ih : i = s.here
    · subst ih
      refine ⟨a * D, ?_, by have := B2 a D ab DB; omega⟩
      rw [eh c hc', ea, ep, Rat.intCast_mul, Rat.intCast_mul]
      grind
    · obtain ⟨i', hi', _, ee⟩ := ei i hi ih
      obtain ⟨x, ex, xb⟩ := E i' hi' c hc'
      obtain ⟨f, ef, fb⟩ := E i' hi' k hk
      refine ⟨x * p - f * a, ?_, ?_⟩
      · rw [ee c hc', ex, ef, ea, ep, Rat.intCast_sub, Rat.intCast_mul, Rat.intCast_mul, Rat.intCast_mul]
        grind
      · have := B2 x p xb pb
        have := B2 f a fb ab
        omega
/-- b bits at first, so many after t steps -/
def bitsT (b : Nat) : Nat → Nat
  | 0 => b
  | t + 1 => 2 * bitsT b t + 1
theorem bits_le (b : Nat) : ∀ t, bitsT b t ≤ bitsT b (t + 1) := fun t => by simp only [bitsT]; omega
theorem bits_mono (b : Nat) {t u : Nat} (h : t ≤ u) : bitsT b t ≤ bitsT b u := by
  induction u with
  | zero => have : t = 0 := by omega
            subst this; exact Nat.le_refl _
  | succ u ih =>
    by_cases q : t ≤ u
    · exact Nat.le_trans (ih q) (bits_le b u)
    · have : t = u + 1 := by omega
      subst this; exact Nat.le_refl _
theorem Cd.mono {D : Int} {B C : Nat} {M : Mq} (h : Cd D B M) (k : B ≤ C) : Cd D C M := ⟨h.1, Nat.le_trans h.2.1 k, fun i hi c hc => let ⟨z, e, b⟩ := h.2.2 i hi c hc; ⟨z, e, Nat.le_trans b k⟩⟩
/-- the number of steps is at most that of rows -/
theorem cd_at {M : Mq} {w b : Nat} {D : Int} (hw : Wd w M) (h : Cd D (2 ^ b) M) : ∀ t, t ≤ w → ∃ D', Cd D' (2 ^ bitsT b (stAt M t).here) (stAt M t).M
  | 0, _ => ⟨D, h⟩
  | t + 1, ht => by
    obtain ⟨D1, h1⟩ := cd_at hw h t (by omega)
    obtain ⟨_, wd, _, _⟩ := stAt_inv M hw t
    rw [stAt_succ]
    rcases Cd.step wd (show t < w by omega) h1 with e | ⟨D2, h2⟩
    · rw [e]; exact ⟨D1, h1⟩
    · rcases step_en wd (show t < w by omega) with ⟨e, _⟩ | ⟨j0, _, _, _, _, ehr, _, _⟩
      · rw [e]; exact ⟨D1, h1⟩
      · refine ⟨D2, ?_⟩
        rw [ehr]
        refine h2.mono ?_
        simp only [bitsT]
        generalize bitsT b (stAt M t).here = x
        have e : 2 ^ (2 * x + 1) = 2 ^ x * 2 ^ x * 2 := by rw [Nat.pow_succ, show 2 * x = x + x by omega, Nat.pow_add]
        rw [e, Nat.mul_assoc, Nat.mul_comm]
        exact Nat.le_refl _
theorem bm_at {M : Mq} {w b n : Nat} {D : Int} (hw : Wd w M) (h : Cd D (2 ^ b) M) (hn : bitsT b M.length < n) : ∀ t, t ≤ w → Bm n (stAt M t).M := fun t ht => by
  obtain ⟨D', k⟩ := cd_at hw h t ht
  obtain ⟨_, _, hl, _⟩ := stAt_inv M hw t
  exact k.bm (Nat.pow_lt_pow_right (by decide) (Nat.lt_of_le_of_lt (bits_mono b hl) hn))
end Ar
namespace Ar
open PySem
/-! ### rows for simp: dicts, try, places given up -/
section
variable {env : Ar.Env} {h : Hs} {fo fe fd : FE} {d e z : D} {x y k : P} {ks vs : List P}
def get2K (d e z : D) (h : Hs) : R D := match e, z with
  | .p k, .p z => (match getP d k h with
    | some o => .ok (.p (o.getD z)) h
    | none => .bad)
  | _, _ => .bad
def get1K (d e : D) (h : Hs) : R D := match e with
  | .p k => (match getP d k h with
    | some o => .ok (.p (o.getD .non)) h
    | none => .bad)
  | _ => .bad
@[simp] theorem cGet2_e : cGet2 fo fe fd env h = (fo env h).bind fun d h1 => if (dctP d h1).isSome = true then (fe env h1).bind fun e h2 => (fd env h2).bind fun z h3 => get2K d e z h3 else .bad := (rfl)
@[simp] theorem cGet1_e : cGet1 fo fe env h = (fo env h).bind fun d h1 => if (dctP d h1).isSome = true then (fe env h1).bind fun e h2 => get1K d e h2 else .bad := (rfl)
def getO (k : P) (o : Option (List P × List P)) : Option (Option P) := match o with
  | some z => if isKey k then some (dGet z.1 z.2 k) else none
  | none => none
@[simp] theorem getP_e : getP d k h = getO k (dctP d h) := by unfold getP getO; rfl
@[simp] theorem getO_e : getO k (some (ks, vs)) = if isKey k = true then some (dGet ks vs k) else none := (rfl)
def okG2 (o : Option (Option P)) (z : P) (h : Hs) : R D := match o with
  | some o => .ok (.p (o.getD z)) h
  | none => .bad
@[simp] theorem okG2_e (o : Option P) : okG2 (some o) x h = .ok (.p (o.getD x)) h := (rfl)
@[simp] theorem get2K_e : get2K d (.p k) (.p x) h = okG2 (getP d k h) x h := by unfold get2K okG2; rfl
@[simp] theorem get1K_e : get1K d (.p k) h = okG2 (getP d k h) .non h := by unfold get1K okG2; rfl
@[simp] theorem dGet_cons (a b : P) : dGet (a :: ks) (b :: vs) k = if beqX a k = true then some b else dGet ks vs k := (rfl)
@[simp] theorem dGet_nil : dGet [] vs k = none := (rfl)
@[simp] theorem beqX_str (a b : Str) : beqX (.str a) (.str b) = decide (a = b) := by simp [beqX, Bool.beq_eq_decide_eq]
@[simp] theorem beqX_int (a b : Int) : beqX (.int a) (.int b) = decide (a = b) := by simp [beqX, Bool.beq_eq_decide_eq]
@[simp] theorem beqX_tup (a b : List P) : beqX (.tup a) (.tup b) = beqXs a b := by simp only [beqX]
@[simp] theorem beqXs_cons (a b : P) (r t : List P) : beqXs (a :: r) (b :: t) = (beqX a b && beqXs r t) := by simp only [beqXs]
@[simp] theorem beqXs_nil : beqXs [] [] = true := (rfl)
@[simp] theorem dHas_nil : dHas [] k = false := (rfl)
@[simp] theorem dHas_cons (a : P) : dHas (a :: ks) k = (beqX a k || dHas ks k) := (rfl)
@[simp] theorem dPut_e : dPut ks vs k x = if dHas ks k = true then (ks, dRep ks vs k x) else (ks ++ [k], vs ++ [x]) := by unfold dPut; cases dHas ks k <;> rfl
@[simp] theorem dRep_cons (a b : P) : dRep (a :: ks) (b :: vs) k x = (if beqX a k = true then x else b) :: dRep ks vs k x := (rfl)
@[simp] theorem dRep_nil : dRep [] vs k x = [] := (rfl)
@[simp] theorem mergeP_nil : mergeP ks vs [] = (ks, vs) := (rfl)
@[simp] theorem mergeP_cons (q : P × P) (r : List (P × P)) : mergeP ks vs (q :: r) = mergeP (dPut ks vs q.1 q.2).1 (dPut ks vs q.1 q.2).2 r := (rfl)
@[simp] theorem cDict0T_e : cDict0T env h = .ok (.loc h.length) (h ++ [.dtt [] []]) := (rfl)
@[simp] theorem isTKey_3 (a b c : Str) : isTKey (.tup [.str a, .str b, .str c]) = true := (rfl)
@[simp] theorem evPairs_nil : evPairs [] env h = .ok [] h := (rfl)
@[simp] theorem frzL_e (j : Nat) (ps : List P) (i : Nat) (e : env[j]? = some (some (.loc i))) (e2 : h[i]? = some (.lst ps)) : frzL j env h = some (i, .lst ps) := by
  unfold frzL; simp only [e, e2]
@[simp] theorem frzL_p (j : Nat) (e : env[j]? = some (some (.p x))) : frzL j env h = none := by
  unfold frzL; simp only [e]
@[simp] theorem sFzl_e (j : Nat) (fs : FS) : sFzl j fs env h = frzS fs j env h (frzL j env h) := by unfold sFzl frzS; rfl
def tryK (M : List (Nat × Nat × Bool)) (l : List (Nat × FS)) (r : S) : S := match r with
  | .ex c fs e h' => catchS M c fs e h' l
  | r => r
@[simp] theorem sTry_e (M : List (Nat × Nat × Bool)) (fb : FS) (l : List (Nat × FS)) : sTry M fb l env h = tryK M l (fb env h) := by unfold sTry tryK; rfl
@[simp] theorem tryK_nx (M : List (Nat × Nat × Bool)) (l : List (Nat × FS)) : tryK M l (.nx env h) = .nx env h := (rfl)
@[simp] theorem tryK_rt (M : List (Nat × Nat × Bool)) (l : List (Nat × FS)) : tryK M l (.rt d h) = .rt d h := (rfl)
@[simp] theorem tryK_ex (M : List (Nat × Nat × Bool)) (l : List (Nat × FS)) (c : Nat) (fs : List (Str × P)) : tryK M l (.ex c fs env h) = catchS M c fs env h l := (rfl)
def pairK (d e : D) (ps : List (P × P)) (h3 : Hs) : R (List (P × P)) := match d, e with
  | .p k, .p v => if isKey k then .ok ((k, v) :: ps) h3 else .bad
  | _, _ => .bad
@[simp] theorem pairK_e (ps : List (P × P)) : pairK (.p k) (.p x) ps h = if isKey k = true then .ok ((k, x) :: ps) h else .bad := (rfl)
@[simp] theorem evPairs_cons (q : FE × FE) (r : List (FE × FE)) : evPairs (q :: r) env h = (q.1 env h).bind fun d h1 => (q.2 env h1).bind fun e h2 => (evPairs r env h2).bind (pairK d e) := by
  simp only [evPairs]; congr
@[simp] theorem bListA_e : bListA [d] h = finO (rowK d h) h := by unfold bListA finO; rfl
@[simp] theorem rowK_d : rowK (.p (.dct ks vs)) h = some ks := (rfl)
@[simp] theorem rowK_l (ps : List P) : rowK (.p (.lst ps)) h = some ps := (rfl)
@[simp] theorem rowK_t (ps : List P) : rowK (.p (.tup ps)) h = some ps := (rfl)
def rowKO (o : Option O) : Option (List P) := match o with
  | some (.dct ks _) => some ks
  | some (.lst ps) => some ps
  | _ => none
@[simp] theorem rowKO_d : rowKO (some (.dct ks vs)) = some ks := (rfl)
@[simp] theorem rowKO_l (ps : List P) : rowKO (some (.lst ps)) = some ps := (rfl)
@[simp] theorem rowK_loc (i : Nat) : rowK (.loc i) h = rowKO h[i]? := by
  unfold rowK rowKO
  rw [dctP_loc, rowP_loc]
  cases h[i]? with
  | none => rfl
  | some o => cases o <;> rfl
end
end Ar
namespace K07
open PySem PySem.Spec PyProof.Rows L2 Ar
abbrev row := PySem.Challenge.rw_arborhall_k07_planets
abbrev prg : Program := PySem.Challenge.pw_arborhall_k07_planets
def top (i : Nat) : Stmt := prg.main.body.getD i (.Pass ⟨0, 0, 0, 0⟩)
def mth (i j : Nat) : Stmt := match top i with | .ClassDef _ _ _ b _ _ _ _ _ _ _ => b.getD j (.Pass ⟨0, 0, 0, 0⟩) | s => s
/-! ### what the defs do -/
def l_law_told : List (Nat × Str) := [(1, "wheel"), (2, "train"), (3, "locked"), (4, "free"), (5, "no train"), (6, "large"), (7, "text")]
def mT : List (Nat × Nat × Bool) := [(0, 4, false), (0, 3, false), (1, 4, false), (1, 3, false), (2, 4, false), (2, 3, false), (3, 4, false), (3, 3, true), (4, 4, true), (4, 3, false), (5, 4, false), (5, 3, false), (6, 4, false), (6, 3, false), (7, 4, false), (7, 3, false)]
def L_shared_1 : FS := (sPar 0 1 (aC (cV 1) (aC (cOp oMod (cV 0) (cV 1)) aN)))
def L_shared_2 : FT := (cT (cOp oNe (cV 1) (cK (.int 0))))
def F_shared : Fn := cFn 2 ((sSeq (sWhile 20000 L_shared_2 L_shared_1)
  (sRet (cV 0))))
def F_part : Fn := cFn 4 ((sSeq (sIf (cT (cOp oEq (cV 1) (cK (.int 0)))) (sRaise 1) sNx)
  (sSeq (sSet 2 (cCallP 2 F_shared (aC (cB bAbs (aC (cV 0) aN)) (aC (cB bAbs (aC (cV 1) aN)) aN))))
  (sSeq (sSet 3 (cIf (cT (cOp oGt (cV 1) (cK (.int 0)))) (cK (.int 1)) (cNeg (cK (.int 1)))))
  (sSeq (sSet 2 (cB bMax2 (aC (cV 2) (aC (cK (.int 1)) aN))))
  (sRet (cTup (aC (cOp oDiv (cOp oMul (cV 3) (cV 0)) (cV 2)) (aC (cOp oDiv (cB bAbs (aC (cV 1) aN)) (cV 2)) aN)))))))))
def F_add : Fn := cFn 2 ((sRet (cCallP 2 F_part (aC (cOp oAdd (cOp oMul (cIx (cV 0) (cK (.int 0))) (cIx (cV 1) (cK (.int 1)))) (cOp oMul (cIx (cV 1) (cK (.int 0))) (cIx (cV 0) (cK (.int 1))))) (aC (cOp oMul (cIx (cV 0) (cK (.int 1))) (cIx (cV 1) (cK (.int 1)))) aN)))))
def F_times : Fn := cFn 2 ((sRet (cCallP 2 F_part (aC (cOp oMul (cIx (cV 0) (cK (.int 0))) (cIx (cV 1) (cK (.int 0)))) (aC (cOp oMul (cIx (cV 0) (cK (.int 1))) (cIx (cV 1) (cK (.int 1)))) aN)))))
def L_Set_fits_1 : FS := (sSet 4 (cCallP 2 F_add (aC (cV 4) (aC (cCallP 2 F_times (aC (cV 6) (aC (cIx (cV 1) (cV 5)) aN))) aN))))
def L_Set_fits_2 : FS := (sSeq (sSet 4 (cK (.tup [.int 0, .int 1])))
  (sSeq (sFor (iItemsD (cV 3)) (tT2 2 (tsC (tN 5) (tsC (tN 6) tsN))) L_Set_fits_1)
  (sIf (cT (cOp oNe (cV 4) (cK (.tup [.int 0, .int 1])))) (sRet (cV 2)) sNx)))
def F_Set_fits : Fn := cFn 7 ((sSeq (sFor (iEnum2 (aC (cAttr 8 "rows" (cV 0)) aN)) (tT2 2 (tsC (tN 2) (tsC (tN 3) tsN))) L_Set_fits_2)
  (sRet (cK .non))))
def F_Set_square : Fn := cFn 3 ((sRet (lcAll (iSeq (cAttr 8 "rows" (cV 0))) (.nm 1) cYes (lcAll (iSeq (cAttr 8 "arbors" (cV 0))) (.nm 2) cYes (cGet2 (cV 1) (cV 2) (cK (.tup [.int 0, .int 1]))) [2] finP) [1] finP)))
def F_less : Fn := cFn 2 ((sRet (cCallP 2 F_part (aC (cOp oSub (cOp oMul (cIx (cV 0) (cK (.int 0))) (cIx (cV 1) (cK (.int 1)))) (cOp oMul (cIx (cV 1) (cK (.int 0))) (cIx (cV 0) (cK (.int 1))))) (aC (cOp oMul (cIx (cV 0) (cK (.int 1))) (cIx (cV 1) (cK (.int 1)))) aN)))))
def F_over : Fn := cFn 2 ((sRet (cCallP 2 F_part (aC (cOp oMul (cIx (cV 0) (cK (.int 0))) (cIx (cV 1) (cK (.int 1)))) (aC (cOp oMul (cIx (cV 0) (cK (.int 1))) (cIx (cV 1) (cK (.int 0)))) aN)))))
def L_stepped_1 : FS := (sIf (cAndT (cT (cOp oNe (cV 8) (cV 5))) (cT (cOp oNe (cIx (cIx (cIx (cV 3) (cV 8)) (cV 2)) (cK (.int 0))) (cK (.int 0))))) (sAsg (lcAll (iZip2 (aC (cIx (cV 3) (cV 8)) (aC (cIx (cV 3) (cV 5)) aN))) (.tp [(.nm 11), (.nm 12)]) cYes (cCallP 2 F_less (aC (cV 11) (aC (cCallP 2 F_times (aC (cIx (cIx (cV 3) (cV 8)) (cV 2)) (aC (cV 12) aN))) aN))) [11, 12] finP) (tSub (cV 3) (cV 8))) sNx)
def L_stepped_2 : FS := (sSeq (sSet 6 (lcAll (Ar.iRng2 (aC (cV 5) (aC (cB bLen (aC (cV 3) aN)) aN))) (.nm 8) (cT (cOp oNe (cIx (cIx (cIx (cV 3) (cV 8)) (cV 2)) (cK (.int 0))) (cK (.int 0)))) (cV 8) [8] finP))
  (sSeq (sIf (cT (cOp oEq (cV 6) (cLst aN))) sCt sNx)
  (sSeq (sTupTup (aC (cIx (cV 3) (cIx (cV 6) (cK (.int 0)))) (aC (cIx (cV 3) (cV 5)) aN)) (tsC (tSub (cV 3) (cV 5)) (tsC (tSub (cV 3) (cIx (cV 6) (cK (.int 0)))) tsN)))
  (sSeq (sSet 7 (cIx (cIx (cV 3) (cV 5)) (cV 2)))
  (sSeq (sAsg (lcAll (iSeq (cIx (cV 3) (cV 5))) (.nm 10) cYes (cCallP 2 F_over (aC (cV 10) (aC (cV 7) aN))) [10] finP) (tSub (cV 3) (cV 5)))
  (sSeq (sFor (Ar.iRng1 (aC (cB bLen (aC (cV 3) aN)) aN)) (tN 8) L_stepped_1)
  (sSeq (sEx (cLM mAppend (cV 4) (aC (cV 2) aN)))
  (sAug 5 oAddI (cK (.int 1))))))))))
def F_stepped : Fn := cFn 13 ((sSeq (sTupTup (aC (lcAll (iSeq (cV 0)) (.nm 9) cYes (cB bListP (aC (cV 9) aN)) [9] finN) (aC (cLstN aN) (aC (cK (.int 0)) aN))) (tsC (tN 3) (tsC (tN 4) (tsC (tN 5) tsN))))
  (sSeq (sSet 1 (cIf (cT (cEqL true (cV 3) (cLst aN))) (cB bLen (aC (cIx (cV 3) (cK (.int 0))) aN)) (cK (.int 0))))
  (sSeq (sFor (Ar.iRng1 (aC (cV 1) aN)) (tN 2) L_stepped_2)
  (sRet (cTup (aC (cB bTuple (aC (lcAll (iSeq (cSl (cV 3) oN (oS (cV 5)))) (.nm 9) cYes (cB bTuple (aC (cV 9) aN)) [9] finP) aN)) (aC (cB bTuple (aC (cV 4) aN)) aN))))))))
def F_rank : Fn := cFn 1 ((sRet (cB bLen (aC (cIx (cCallP 1 F_stepped (aC (cV 0) aN)) (cK (.int 1))) aN))))
def F_Set_free_ways : Fn := cFn 1 ((sRet (cOp oSub (cB bLen (aC (cAttr 8 "arbors" (cV 0)) aN)) (cCallP 1 F_rank (aC (cMeth 8 "square" 1 F_Set_square (cV 0) aN) aN)))))
def F_Set_check : Fn := cFn 3 ((sIf (cT (cAny (iSeq (cV 1)) (.nm 2) (cIn true (cV 2) (cAttr 8 "arbors" (cV 0))) [2])) (sRaise 2) sNx))
def L_Set_turns_1 : FS := (sEx (cLM mAppend (cV 2) (aC (cOp oAdd (lcAll (iSeq (cAttr 8 "arbors" (cV 0))) (.nm 4) cYes (cGet2 (cV 3) (cV 4) (cK (.tup [.int 0, .int 1]))) [4] finP) (cLst (aC (cK (.tup [.int 0, .int 1])) aN))) aN)))
def L_Set_turns_2 : FS := (sEx (cLM mAppend (cV 2) (aC (cOp oAdd (lcAll (iSeq (cAttr 8 "arbors" (cV 0))) (.nm 9) cYes (cIf (cT (cOp oEq (cV 9) (cV 4))) (cK (.tup [.int 1, .int 1])) (cK (.tup [.int 0, .int 1]))) [9] finP) (cLst (aC (cV 5) aN))) aN)))
def F_Set_turns : Fn := cFn 10 ((sSeq (sEx (cMeth 8 "check" 2 F_Set_check (cV 0) (aC (cB bListA (aC (cV 1) aN)) aN)))
  (sSeq (sSet 2 (cLstN aN))
  (sSeq (sFor (iSeq (cAttr 8 "rows" (cV 0))) (tN 3) L_Set_turns_1)
  (sSeq (sFrz 1 (sFor (iItemsD (cV 1)) (tT2 2 (tsC (tN 4) (tsC (tN 5) tsN))) L_Set_turns_2))
  (sSeq (sFzl 2 (sAsg (cCallP 1 F_stepped (aC (cV 2) aN)) (tT2 2 (tsC (tN 6) (tsC (tN 7) tsN)))))
  (sSeq (sIf (cT (cIn false (cB bLen (aC (cAttr 8 "arbors" (cV 0)) aN)) (cV 7))) (sRaise1 3 "number" (cB bLen (aC (cAttr 8 "rows" (cV 0)) aN))) sNx)
  (sSeq (sIf (cT (cOp oLt (cB bLen (aC (cV 7) aN)) (cB bLen (aC (cAttr 8 "arbors" (cV 0)) aN)))) (sRaise 4) sNx)
  (sRet (dcAll (iZip2 (aC (cV 7) (aC (cV 6) aN))) (.tp [(.nm 8), (.nm 3)]) cYes (cIx (cAttr 8 "arbors" (cV 0)) (cV 8)) (cIx (cV 3) (cNeg (cK (.int 1)))) [8, 3] finDP))))))))))
def F_Set_ratio : Fn := cFn 6 ((sSeq (sSet 4 (dcAll (iSeq (cV 3)) (.nm 5) cYes (cV 5) (cK (.tup [.int 0, .int 1])) [5] finDN))
  (sSeq (sAsg (cK (.tup [.int 1, .int 1])) (tSub (cV 4) (cV 1)))
  (sRet (cIx (cMeth 8 "turns" 2 F_Set_turns (cV 0) (aC (cV 4) aN)) (cV 2))))))
def F_law_roll : Fn := cFn 3 ((sSeq (sIf (cOrT (cT (cOp oEq (cIx (cV 0) (cK (.int 2))) (cK (.int 2)))) (cAndT (cT (cOp oEq (cIx (cV 0) (cK (.int 2))) (cK (.int 1)))) (cT (cOp oGt (cIx (cV 0) (cK (.int 0))) (cK (.int 0)))))) (sSeq (sSet 2 (cOp oMod (cB bInt (aC (cIx (cV 0) (cK (.int 0))) aN)) (cV 1)))
  (sSeq (sAsg (cOp oDiv (cIx (cV 0) (cK (.int 0))) (cV 1)) (tSub (cV 0) (cK (.int 0))))
  (sRet (cV 2)))) sNx)
  (sSeq (sAsg (cK (.int 0)) (tSub (cV 0) (cK (.int 2))))
  (sSeq (sAsg (cOp oMod (cB bInt (aC (cOp oAdd (cOp oAdd (cOp oMul (cIx (cV 0) (cK (.int 0))) (cK (.int 48271))) (cOp oMul (cIx (cV 0) (cK (.int 1))) (cK (.int 69621)))) (cK (.int 11))) aN)) (cK (.int 2147483647))) (tSub (cV 0) (cK (.int 0))))
  (sSeq (sAsg (cOp oAdd (cIx (cV 0) (cK (.int 1))) (cK (.int 1))) (tSub (cV 0) (cK (.int 1))))
  (sRet (cOp oMod (cB bInt (aC (cOp oAdd (cOp oDiv (cIx (cV 0) (cK (.int 0))) (cK (.int 7))) (cIx (cV 0) (cK (.int 0)))) aN)) (cV 1))))))))
def F_law_part : Fn := cFn 1 ((sRet (cCallP 2 F_part (aC (cOp oMul (cOp oAdd (cK (.int 1)) (cCall 2 F_law_roll (aC (cV 0) (aC (cK (.int 9)) aN)))) (cOp oSub (cK (.int 1)) (cOp oMul (cK (.int 2)) (cCall 2 F_law_roll (aC (cV 0) (aC (cK (.int 2)) aN)))))) (aC (cOp oAdd (cK (.int 1)) (cCall 2 F_law_roll (aC (cV 0) (aC (cK (.int 9)) aN)))) aN)))))
def L_brakes_1 : FS := sCt
def L_brakes_2 : FS := sCt
def L_brakes_3 : FS := (sIf (cT (cIn true (cV 4) (cTup (aC (cV 1) (aC (cV 2) aN))))) (sTry mT (sAsg (cMethP 8 "ratio" 4 F_Set_ratio (cV 0) (aC (cV 1) (aC (cV 2) (aC (cTup (aC (cV 4) aN)) aN)))) (tSub (cV 3) (cV 4))) [(3, L_brakes_2), (4, L_brakes_1)]) sNx)
def F_brakes : Fn := cFn 5 ((sSeq (sSet 3 (cDict0 finDN))
  (sSeq (sFor (iSeq (cAttr 8 "arbors" (cV 0))) (tN 4) L_brakes_3)
  (sRet (cV 3)))))
def F_can_be_set : Fn := cFn 5 ((sSeq (sIf (cT (cIn true (cV 2) (cTup (aC (cK (.int 2)) (aC (cK (.int 3)) (aC (cK (.int 4)) (aC (cK (.int 6)) aN))))))) (sRaise 2) sNx)
  (sSeq (sSet 3 (cOp oAdd (cV 0) (cOp oMul (cK (.int 2)) (cV 1))))
  (sSeq (sIf (cT (cOp oNe (cOp oMod (cOp oAdd (cV 0) (cV 3)) (cV 2)) (cK (.int 0)))) (sRet (cK (.bl false))) sNx)
  (sSeq (sSet 4 (cIx (cDisp finDP [((cK (.int 2)), (cK (.int 4))), ((cK (.int 3)), (cK (.int 3))), ((cK (.int 4)), (cK (.int 2))), ((cK (.int 6)), (cK (.int 1)))]) (cV 2)))
  (sRet (cOp oLt (cOp oMul (cOp oMul (cK (.int 4)) (cOp oAdd (cV 1) (cK (.int 2)))) (cOp oAdd (cV 1) (cK (.int 2)))) (cOp oMul (cOp oMul (cOp oAdd (cV 0) (cV 1)) (cOp oAdd (cV 0) (cV 1))) (cV 4)))))))))
def F_Set__init : Fn := cFn 3 ((sSeq (sIf (cOrT (cT (cOp oEq (cB bLen (aC (cV 1) aN)) (cK (.int 0)))) (cT (cOp oNe (cB bLenA (aC (dcAll (iSeq (cV 1)) (.nm 2) cYes (cV 2) (cK (.bl true)) [2] finDP) aN)) (cB bLen (aC (cV 1) aN))))) (sRaise 2) sNx)
  (sSeq (sAttr 8 "arbors" (cV 0) (cB bTuple (aC (cV 1) aN)))
  (sAttr 8 "rows" (cV 0) (cLstR aN)))))
def F_differential : Fn := cFn 4 ((sSeq (sAsg (cV 0) (tT2 2 (tsC (tN 2) (tsC (tN 3) tsN))))
  (sSeq (sIf (cOrT (cT (cOp oLt (cV 2) (cK (.int 1)))) (cT (cOp oLt (cV 3) (cK (.int 1))))) (sRaise 2) sNx)
  (sSeq (sSet 1 (cMake 8 2 F_Set__init (aC (cTup (aC (cK (.str "left")) (aC (cK (.str "right")) (aC (cK (.str "arm")) aN)))) aN)))
  (sSeq (sEx (cLM mAppend (cAttr 8 "rows" (cV 1)) (aC (cDisp finDP [((cK (.str "arm")), (cTup (aC (cOp oAdd (cV 2) (cV 3)) (aC (cK (.int 1)) aN)))), ((cK (.str "left")), (cTup (aC (cNeg (cV 2)) (aC (cK (.int 1)) aN)))), ((cK (.str "right")), (cTup (aC (cNeg (cV 3)) (aC (cK (.int 1)) aN))))]) aN)))
  (sRet (cV 1)))))))
def F_force_share : Fn := cFn 6 ((sSeq (sSet 4 (cMethP 8 "ratio" 4 F_Set_ratio (cV 0) (aC (cV 1) (aC (cV 2) (aC (cTup (aC (cV 3) aN)) aN)))))
  (sSeq (sIf (cT (cOp oEq (cIx (cV 4) (cK (.int 0))) (cK (.int 0)))) (sRaise1 3 "number" (cK (.int 0))) sNx)
  (sSeq (sSet 5 (cCallP 2 F_over (aC (cTup (aC (cNeg (cK (.int 1))) (aC (cK (.int 1)) aN))) (aC (cV 4) aN))))
  (sRet (cTup (aC (cV 5) (aC (cCallP 2 F_less (aC (cK (.tup [.int 0, .int 1])) (aC (cCallP 2 F_add (aC (cK (.tup [.int 1, .int 1])) (aC (cV 5) aN))) aN))) aN))))))))
def L_joined_1 : FS := (sSeq (sSet 7 (cGet2 (cV 2) (cV 4) (cV 4)))
  (sIf (cT (cIn true (cV 7) (cV 3))) (sEx (cLM mAppend (cV 3) (aC (cV 7) aN))) sNx))
def L_joined_2 : FS := (sEx (cLM mAppend (cAttr 8 "rows" (cV 5)) (aC (dcAll (iItemsD (cV 6)) (.tp [(.nm 4), (.nm 8)]) cYes (cGet2 (cV 2) (cV 4) (cV 4)) (cV 8) [4, 8] finDP) aN)))
def F_joined : Fn := cFn 9 ((sSeq (sSet 3 (cB bListN (aC (cAttr 8 "arbors" (cV 0)) aN)))
  (sSeq (sFor (iSeq (cAttr 8 "arbors" (cV 1))) (tN 4) L_joined_1)
  (sSeq (sSet 5 (cMake 8 2 F_Set__init (aC (cV 3) aN)))
  (sSeq (sAttr 8 "rows" (cV 5) (cB bListN (aC (cAttr 8 "rows" (cV 0)) aN)))
  (sSeq (sFor (iSeq (cAttr 8 "rows" (cV 1))) (tN 6) L_joined_2)
  (sRet (cV 5))))))))
def L_Set_mesh_1 : FS := (sAsg (cCallP 2 F_add (aC (cGet2 (cV 5) (cV 6) (cK (.tup [.int 0, .int 1]))) (aC (cV 7) aN))) (tSub (cV 5) (cV 6)))
def F_Set_mesh : Fn := cFn 8 ((sSeq (sEx (cMeth 8 "check" 2 F_Set_check (cV 0) (aC (cTup (aC (cV 1) (aC (cV 2) (aC (cV 3) aN)))) aN)))
  (sSeq (sIf (cOrT (cT (cOp oEq (cIx (cV 4) (cK (.int 0))) (cK (.int 0)))) (cT (cOp oEq (cV 2) (cV 3)))) (sRaise 2) sNx)
  (sSeq (sSet 5 (cDict0 finDN))
  (sSeq (sFor (iSeq (cTup (aC (cTup (aC (cV 3) (aC (cK (.tup [.int 1, .int 1])) aN))) (aC (cTup (aC (cV 2) (aC (cCallP 2 F_times (aC (cTup (aC (cNeg (cK (.int 1))) (aC (cK (.int 1)) aN))) (aC (cV 4) aN))) aN))) (aC (cTup (aC (cV 1) (aC (cCallP 2 F_less (aC (cV 4) (aC (cK (.tup [.int 1, .int 1])) aN))) aN))) aN))))) (tT2 2 (tsC (tN 6) (tsC (tN 7) tsN))) L_Set_mesh_1)
  (sEx (cLM mAppend (cAttr 8 "rows" (cV 0)) (aC (cV 5) aN))))))))
def F_simple : Fn := cFn 3 ((sSeq (sSet 2 (cMake 8 2 F_Set__init (aC (cTup (aC (cK (.str "sun")) (aC (cK (.str "arm")) (aC (cK (.str "planet")) (aC (cK (.str "ring")) aN))))) aN)))
  (sSeq (sEx (cMeth 8 "mesh" 5 F_Set_mesh (cV 2) (aC (cK (.str "arm")) (aC (cK (.str "sun")) (aC (cK (.str "planet")) (aC (cCallP 2 F_part (aC (cNeg (cV 0)) (aC (cV 1) aN))) aN))))))
  (sSeq (sEx (cMeth 8 "mesh" 5 F_Set_mesh (cV 2) (aC (cK (.str "arm")) (aC (cK (.str "planet")) (aC (cK (.str "ring")) (aC (cCallP 2 F_part (aC (cV 1) (aC (cOp oAdd (cV 0) (cOp oMul (cK (.int 2)) (cV 1))) aN))) aN))))))
  (sRet (cV 2))))))
def L_ratios_of_1 : FS := (sIf (cT (cOp oEq (cB bLenA (aC (cDisp finDP [((cV 5), (cK (.bl true))), ((cV 6), (cK (.bl true))), ((cV 2), (cK (.bl true)))]) aN)) (cK (.int 3)))) (sAsg (cMethP 8 "ratio" 4 F_Set_ratio (cCallP 2 F_simple (aC (cV 0) (aC (cV 1) aN))) (aC (cV 5) (aC (cV 6) (aC (cTup (aC (cV 2) aN)) aN)))) (tSub (cV 4) (cTup (aC (cV 5) (aC (cV 6) (aC (cV 2) aN)))))) sNx)
def L_ratios_of_2 : FS := (sFor (iSeq (cV 3)) (tN 6) L_ratios_of_1)
def L_ratios_of_3 : FS := (sFor (iSeq (cV 3)) (tN 5) L_ratios_of_2)
def F_ratios_of : Fn := cFn 7 ((sSeq (sPar 3 4 (aC (cTup (aC (cK (.str "sun")) (aC (cK (.str "arm")) (aC (cK (.str "ring")) aN)))) (aC cDict0T aN)))
  (sSeq (sFor (iSeq (cV 3)) (tN 2) L_ratios_of_3)
  (sRet (cV 4)))))
def L_law_planets_1 : FS := (sIf (cT (cOp oNe (cCallP 2 F_times (aC (cIx (cV 9) (cTup (aC (cV 12) (aC (cV 13) (aC (cV 11) aN))))) (aC (cIx (cV 9) (cTup (aC (cV 13) (aC (cV 12) (aC (cV 11) aN))))) aN))) (cTup (aC (cK (.int 1)) (aC (cK (.int 1)) aN))))) (sRet (cK (.bl false))) sNx)
def F_law_planets : Fn := cFn 14 ((sSeq (sPar 7 8 (aC (cOp oAdd (cK (.int 10)) (cCall 2 F_law_roll (aC (cV 0) (aC (cK (.int 31)) aN)))) (aC (cOp oAdd (cK (.int 10)) (cCall 2 F_law_roll (aC (cV 0) (aC (cK (.int 31)) aN)))) aN)))
  (sSeq (sSet 1 (cOp oAdd (cV 7) (cOp oMul (cK (.int 2)) (cV 8))))
  (sSeq (sTupTup (aC (cCallP 2 F_ratios_of (aC (cV 7) (aC (cV 8) aN))) (aC (cCallP 2 F_simple (aC (cV 7) (aC (cV 8) aN))) aN)) (tsC (tN 9) (tsC (tN 10) tsN)))
  (sSeq (sIf (cT (cOp oNe (cIx (cV 9) (cTup (aC (cK (.str "sun")) (aC (cK (.str "arm")) (aC (cK (.str "ring")) aN))))) (cCallP 2 F_part (aC (cV 7) (aC (cOp oAdd (cV 7) (cV 1)) aN))))) (sRet (cK (.bl false))) sNx)
  (sSeq (sIf (cT (cOp oNe (cIx (cV 9) (cTup (aC (cK (.str "sun")) (aC (cK (.str "ring")) (aC (cK (.str "arm")) aN))))) (cCallP 2 F_part (aC (cOp oSub (cK (.int 0)) (cV 7)) (aC (cV 1) aN))))) (sRet (cK (.bl false))) sNx)
  (sSeq (sIf (cT (cOp oNe (cIx (cV 9) (cTup (aC (cK (.str "ring")) (aC (cK (.str "arm")) (aC (cK (.str "sun")) aN))))) (cCallP 2 F_part (aC (cV 1) (aC (cOp oAdd (cV 7) (cV 1)) aN))))) (sRet (cK (.bl false))) sNx)
  (sSeq (sFor (iSeq (cLst (aC (cTup (aC (cK (.str "sun")) (aC (cK (.str "ring")) (aC (cK (.str "arm")) aN)))) (aC (cTup (aC (cK (.str "ring")) (aC (cK (.str "sun")) (aC (cK (.str "arm")) aN)))) (aC (cTup (aC (cK (.str "arm")) (aC (cK (.str "sun")) (aC (cK (.str "ring")) aN)))) aN))))) (tT2 3 (tsC (tN 11) (tsC (tN 12) (tsC (tN 13) tsN)))) L_law_planets_1)
  (sSeq (sSet 2 (cDisp finDP [((cK (.str "sun")), (cTup (aC (cOp oSub (cCall 2 F_law_roll (aC (cV 0) (aC (cK (.int 19)) aN))) (cK (.int 9))) (aC (cK (.int 1)) aN)))), ((cK (.str "arm")), (cCall 1 F_law_part (aC (cV 0) aN)))]))
  (sSeq (sSet 3 (cMethP 8 "turns" 2 F_Set_turns (cV 10) (aC (cV 2) aN)))
  (sSeq (sIf (cOrT (cT (cOp oIsNot (cMethP 8 "fits" 2 F_Set_fits (cV 10) (aC (cV 3) aN)) (cK .non))) (cT (cOp oNe (cMethP 8 "free_ways" 1 F_Set_free_ways (cV 10) aN) (cK (.int 2))))) (sRet (cK (.bl false))) sNx)
  (sSeq (sIf (cT (cOp oNe (cCallP 2 F_add (aC (cCallP 2 F_times (aC (cTup (aC (cV 7) (aC (cK (.int 1)) aN))) (aC (cIx (cV 3) (cK (.str "sun"))) aN))) (aC (cCallP 2 F_times (aC (cTup (aC (cV 1) (aC (cK (.int 1)) aN))) (aC (cIx (cV 3) (cK (.str "ring"))) aN))) aN))) (cCallP 2 F_times (aC (cTup (aC (cOp oAdd (cV 7) (cV 1)) (aC (cK (.int 1)) aN))) (aC (cIx (cV 3) (cK (.str "arm"))) aN))))) (sRet (cK (.bl false))) sNx)
  (sSeq (sAsg (cCallP 4 F_force_share (aC (cV 10) (aC (cK (.str "sun")) (aC (cK (.str "arm")) (aC (cK (.str "ring")) aN))))) (tT2 2 (tsC (tN 13) (tsC (tN 11) tsN))))
  (sSeq (sIf (cT (cOp oNe (cCallP 2 F_add (aC (cCallP 2 F_add (aC (cTup (aC (cK (.int 1)) (aC (cK (.int 1)) aN))) (aC (cV 13) aN))) (aC (cV 11) aN))) (cTup (aC (cK (.int 0)) (aC (cK (.int 1)) aN))))) (sRet (cK (.bl false))) sNx)
  (sSeq (sIf (cT (cOp oNe (cCallP 2 F_add (aC (cTup (aC (cK (.int 1)) (aC (cK (.int 1)) aN))) (aC (cCallP 2 F_times (aC (cV 13) (aC (cIx (cV 9) (cTup (aC (cK (.str "sun")) (aC (cK (.str "arm")) (aC (cK (.str "ring")) aN))))) aN))) aN))) (cTup (aC (cK (.int 0)) (aC (cK (.int 1)) aN))))) (sRet (cK (.bl false))) sNx)
  (sSeq (sIf (cT (cOp oNe (cIx (cCallP 3 F_brakes (aC (cV 10) (aC (cK (.str "sun")) (aC (cK (.str "arm")) aN)))) (cK (.str "ring"))) (cIx (cV 9) (cTup (aC (cK (.str "sun")) (aC (cK (.str "arm")) (aC (cK (.str "ring")) aN))))))) (sRet (cK (.bl false))) sNx)
  (sSeq (sSet 4 (cCallP 1 F_differential (aC (cTup (aC (cK (.int 1)) (aC (cK (.int 1)) aN))) aN)))
  (sSeq (sSet 5 (cMethP 8 "turns" 2 F_Set_turns (cV 4) (aC (cDisp finDP [((cK (.str "left")), (cTup (aC (cK (.int 3)) (aC (cK (.int 1)) aN)))), ((cK (.str "right")), (cTup (aC (cK (.int 5)) (aC (cK (.int 1)) aN))))]) aN)))
  (sSeq (sSet 6 (cCallP 3 F_joined (aC (cCallP 2 F_simple (aC (cK (.int 20)) (aC (cK (.int 20)) aN))) (aC (cCallP 1 F_differential (aC (cTup (aC (cK (.int 1)) (aC (cK (.int 1)) aN))) aN)) (aC (cDisp finDP [((cK (.str "arm")), (cK (.str "cage"))), ((cK (.str "left")), (cK (.str "sun"))), ((cK (.str "right")), (cK (.str "ring")))]) aN)))))
  (sSeq (sIf (cOrT (cT (cOp oNe (cIx (cV 5) (cK (.str "arm"))) (cTup (aC (cK (.int 4)) (aC (cK (.int 1)) aN))))) (cOrT (cT (cOp oNe (cMethP 8 "ratio" 4 F_Set_ratio (cV 4) (aC (cK (.str "left")) (aC (cK (.str "arm")) (aC (cTup (aC (cK (.str "right")) aN)) aN)))) (cTup (aC (cK (.int 1)) (aC (cK (.int 2)) aN))))) (cT (cOp oNe (cMethP 8 "free_ways" 1 F_Set_free_ways (cV 6) aN) (cK (.int 2)))))) (sRet (cK (.bl false))) sNx)
  (sSeq (sIf (cOrT (cT (cOp oNe (cCallP 3 F_can_be_set (aC (cK (.int 20)) (aC (cK (.int 20)) (aC (cK (.int 3)) aN)))) (cOp oEq (cOp oMod (cOp oAdd (cK (.int 20)) (cK (.int 60))) (cK (.int 3))) (cK (.int 0))))) (cOrT (cT (cCallP 3 F_can_be_set (aC (cK (.int 12)) (aC (cK (.int 12)) (aC (cK (.int 6)) aN))))) (cNotT (cT (cCallP 3 F_can_be_set (aC (cK (.int 20)) (aC (cK (.int 20)) (aC (cK (.int 4)) aN)))))))) (sRet (cK (.bl false))) sNx)
  (sSeq (sIf (cT (cOp oNe (cTold l_law_told (cMethP 8 "turns" 2 F_Set_turns (cV 10) (aC (cDisp finDP [((cK (.str "sun")), (cTup (aC (cK (.int 1)) (aC (cK (.int 1)) aN))))]) aN))) (cK (.str "free")))) (sRet (cK (.bl false))) sNx)
  (sSeq (sIf (cT (cOp oNe (cTold l_law_told (cMethP 8 "turns" 2 F_Set_turns (cV 10) (aC (cDisp finDP [((cK (.str "sun")), (cTup (aC (cK (.int 1)) (aC (cK (.int 1)) aN)))), ((cK (.str "arm")), (cTup (aC (cK (.int 0)) (aC (cK (.int 1)) aN)))), ((cK (.str "ring")), (cTup (aC (cK (.int 1)) (aC (cK (.int 1)) aN))))]) aN))) (cK (.str "locked")))) (sRet (cK (.bl false))) sNx)
  (sRet (cOp oEq (cTold l_law_told (cCallP 3 F_can_be_set (aC (cK (.int 20)) (aC (cK (.int 20)) (aC (cK (.int 5)) aN))))) (cK (.str "train")))))))))))))))))))))))))))
def F_law_dice : Fn := cFn 1 ((sSeq (sIf (cT (cChain oLt oLt (cOp oSub (cK (.int 0)) (cK (.int 10))) (cV 0) (cK (.int 10)))) (sRet (cLstN (aC (cB bAbs (aC (cV 0) aN)) (aC (cK (.int 0)) (aC (cK (.int 2)) aN))))) sNx)
  (sRet (cLstN (aC (cV 0) (aC (cOp oAdd (cK (.int 1)) (cOp oMod (cB bInt (aC (cV 0) aN)) (cK (.int 1009)))) (aC (cB bInt (aC (cOp oGe (cV 0) (cOp oPow (cK (.int 10)) (cK (.int 18)))) aN)) aN)))))))
def F_law_rounds : Fn := cFn 4 ((sSeq (sSet 2 (cSl (cV 0) oN (oS (cV 1))))
  (sSeq (sIf (cT (cOp oEq (cV 2) (cLst aN))) (sSet 2 (cLst (aC (cK (.int 0)) aN))) sNx)
  (sRet (lcAll (iSeq (cV 2)) (.nm 3) cYes (cCall 1 F_law_dice (aC (cV 3) aN)) [3] finR)))))
def L_law_1 : FS := (sIf (cNotT (cT (cCall 1 F_law_planets (aC (cV 1) aN)))) (sRet (cK (.bl false))) sNx)
def F_law : Fn := cFn 2 ((sSeq (sFor (iSeq (cCall 2 F_law_rounds (aC (cV 0) (aC (cK (.int 1)) aN)))) (tN 1) L_law_1)
  (sRet (cK (.bl true)))))
/-! ### the facts -/
def clsN : List Str := ["ArborFault", "BadWheel", "BadTrain", "Locked", "Free", "NoTrain", "TooLarge", "BadText", "Set"]
def cn : List (Str × List Int) := [("NOUGHT", [0, 1]), ("ONE", [1, 1])]
def tf : List (He.Defn × Str) := [(("Set", some "check"), ("Set.check" : Str) ++ ".<locals>." ++ "<genexpr>"), (("_law_planets", none), ("_law_planets" : Str) ++ ".<locals>." ++ "<lambda>")]
def fn : List He.FnD := [⟨("shared", none), "shared", "shared", defArgs (top 12), defBody (top 12), defScope (top 12)⟩,
  ⟨("part", none), "part", "part", defArgs (top 11), defBody (top 11), defScope (top 11)⟩,
  ⟨("add", none), "add", "add", defArgs (top 15), defBody (top 15), defScope (top 15)⟩,
  ⟨("times", none), "times", "times", defArgs (top 17), defBody (top 17), defScope (top 17)⟩,
  ⟨("Set", some "fits"), "fits", "Set.fits", defArgs (mth 22 9), defBody (mth 22 9), defScope (mth 22 9)⟩,
  ⟨("Set", some "square"), "square", "Set.square", defArgs (mth 22 5), defBody (mth 22 5), defScope (mth 22 5)⟩,
  ⟨("less", none), "less", "less", defArgs (top 16), defBody (top 16), defScope (top 16)⟩,
  ⟨("over", none), "over", "over", defArgs (top 18), defBody (top 18), defScope (top 18)⟩,
  ⟨("stepped", none), "stepped", "stepped", defArgs (top 19), defBody (top 19), defScope (top 19)⟩,
  ⟨("rank", none), "rank", "rank", defArgs (top 20), defBody (top 20), defScope (top 20)⟩,
  ⟨("Set", some "free_ways"), "free_ways", "Set.free_ways", defArgs (mth 22 6), defBody (mth 22 6), defScope (mth 22 6)⟩,
  ⟨("Set", some "check"), "check", "Set.check", defArgs (mth 22 1), defBody (mth 22 1), defScope (mth 22 1)⟩,
  ⟨("Set", some "turns"), "turns", "Set.turns", defArgs (mth 22 7), defBody (mth 22 7), defScope (mth 22 7)⟩,
  ⟨("Set", some "ratio"), "ratio", "Set.ratio", defArgs (mth 22 8), defBody (mth 22 8), defScope (mth 22 8)⟩,
  ⟨("_law_roll", none), "_law_roll", "_law_roll", defArgs (top 32), defBody (top 32), defScope (top 32)⟩,
  ⟨("_law_part", none), "_law_part", "_law_part", defArgs (top 35), defBody (top 35), defScope (top 35)⟩,
  ⟨("brakes", none), "brakes", "brakes", defArgs (top 28), defBody (top 28), defScope (top 28)⟩,
  ⟨("can_be_set", none), "can_be_set", "can_be_set", defArgs (top 25), defBody (top 25), defScope (top 25)⟩,
  ⟨("Set", some "__init__"), "__init__", "Set.__init__", defArgs (mth 22 0), defBody (mth 22 0), defScope (mth 22 0)⟩,
  ⟨("differential", none), "differential", "differential", defArgs (top 26), defBody (top 26), defScope (top 26)⟩,
  ⟨("force_share", none), "force_share", "force_share", defArgs (top 29), defBody (top 29), defScope (top 29)⟩,
  ⟨("joined", none), "joined", "joined", defArgs (top 27), defBody (top 27), defScope (top 27)⟩,
  ⟨("Set", some "mesh"), "mesh", "Set.mesh", defArgs (mth 22 2), defBody (mth 22 2), defScope (mth 22 2)⟩,
  ⟨("simple", none), "simple", "simple", defArgs (top 23), defBody (top 23), defScope (top 23)⟩,
  ⟨("ratios_of", none), "ratios_of", "ratios_of", defArgs (top 24), defBody (top 24), defScope (top 24)⟩,
  ⟨("_law_planets", none), "_law_planets", "_law_planets", defArgs (top 36), defBody (top 36), defScope (top 36)⟩,
  ⟨("_law_dice", none), "_law_dice", "_law_dice", defArgs (top 31), defBody (top 31), defScope (top 31)⟩,
  ⟨("_law_rounds", none), "_law_rounds", "_law_rounds", defArgs (top 33), defBody (top 33), defScope (top 33)⟩,
  ⟨("law", none), "law", "law", defArgs (top 37), defBody (top 37), defScope (top 37)⟩,
  ⟨("_law_told", none), "_law_told", "_law_told", defArgs (top 34), defBody (top 34), defScope (top 34)⟩]
def fa : List He.Fa := [.free "abs", .free "any", .free "enumerate", .free "int", .free "len", .free "list", .free "max", .free "range", .free "super", .free "tuple", .free "zip", .glo "NOUGHT", .glo "ONE", .glo "ArborFault", .glo "BadWheel", .glo "BadTrain", .glo "Locked", .glo "Free", .glo "NoTrain", .glo "TooLarge", .glo "BadText", .glo "Set", .cls "Set", .noat "Set" "arbors", .noat "Set" "rows", .exc "BadWheel", .exc "BadTrain", .exc "Free", .exm "BadWheel" "BadWheel" true, .exm "BadWheel" "BadTrain" false, .exm "BadWheel" "Locked" false, .exm "BadWheel" "Free" false, .exm "BadWheel" "NoTrain" false, .exm "BadWheel" "TooLarge" false, .exm "BadWheel" "BadText" false, .exm "BadTrain" "BadWheel" false, .exm "BadTrain" "BadTrain" true, .exm "BadTrain" "Locked" false, .exm "BadTrain" "Free" false, .exm "BadTrain" "NoTrain" false, .exm "BadTrain" "TooLarge" false, .exm "BadTrain" "BadText" false, .exm "Locked" "BadWheel" false, .exm "Locked" "BadTrain" false, .exm "Locked" "Locked" true, .exm "Locked" "Free" false, .exm "Locked" "NoTrain" false, .exm "Locked" "TooLarge" false, .exm "Locked" "BadText" false, .exm "Free" "BadWheel" false, .exm "Free" "BadTrain" false, .exm "Free" "Locked" false, .exm "Free" "Free" true, .exm "Free" "NoTrain" false, .exm "Free" "TooLarge" false, .exm "Free" "BadText" false, .exm "NoTrain" "BadWheel" false, .exm "NoTrain" "BadTrain" false, .exm "NoTrain" "Locked" false, .exm "NoTrain" "Free" false, .exm "NoTrain" "NoTrain" true, .exm "NoTrain" "TooLarge" false, .exm "NoTrain" "BadText" false, .exm "TooLarge" "BadWheel" false, .exm "TooLarge" "BadTrain" false, .exm "TooLarge" "Locked" false, .exm "TooLarge" "Free" false, .exm "TooLarge" "NoTrain" false, .exm "TooLarge" "TooLarge" true, .exm "TooLarge" "BadText" false, .exm "BadText" "BadWheel" false, .exm "BadText" "BadTrain" false, .exm "BadText" "Locked" false, .exm "BadText" "Free" false, .exm "BadText" "NoTrain" false, .exm "BadText" "TooLarge" false, .exm "BadText" "BadText" true, .exm "ArborFault" "Free" false, .exm "ArborFault" "Locked" false, .exm "BadWheel" "Free" false, .exm "BadWheel" "Locked" false, .exm "BadTrain" "Free" false, .exm "BadTrain" "Locked" false, .exm "Locked" "Free" false, .exm "Locked" "Locked" true, .exm "Free" "Free" true, .exm "Free" "Locked" false, .exm "NoTrain" "Free" false, .exm "NoTrain" "Locked" false, .exm "TooLarge" "Free" false, .exm "TooLarge" "Locked" false, .exm "BadText" "Free" false, .exm "BadText" "Locked" false, .glo "shared", .keep "shared", .glo "part", .keep "part", .glo "add", .keep "add", .glo "times", .keep "times", .meth "Set" "fits", .meth "Set" "square", .glo "less", .keep "less", .glo "over", .keep "over", .glo "stepped", .keep "stepped", .glo "rank", .keep "rank", .meth "Set" "free_ways", .meth "Set" "check", .meth "Set" "turns", .meth "Set" "ratio", .glo "_law_roll", .keep "_law_roll", .glo "_law_part", .keep "_law_part", .glo "brakes", .keep "brakes", .glo "can_be_set", .keep "can_be_set", .meth "Set" "__init__", .mkr "Set", .glo "differential", .keep "differential", .glo "force_share", .keep "force_share", .glo "joined", .keep "joined", .meth "Set" "mesh", .glo "simple", .keep "simple", .glo "ratios_of", .keep "ratios_of", .glo "_law_planets", .keep "_law_planets", .glo "_law_dice", .keep "_law_dice", .glo "_law_rounds", .keep "_law_rounds", .glo "law", .keep "law", .glo "_law_told", .keep "_law_told"]
def sp : List (Str × Str) := [("Locked", "number")]
abbrev tx (K : PySem.W.Frag) : Tx := mkTx K clsN cn tf
structure Gr (w : World) (K : PySem.W.Frag) (mg : Str → Option Value) (base h : Heap) : Prop where
  X : K.In h
  G : h.Ns mainGlobals mg
  S : SaysA fa fn (tf.map (·.1)) cn h K
  TB : ∀ p ∈ tf.map (·.1), LamX.TabB base mg (He.cT K p).1 (He.cT K p).2
  U : ∀ q ∈ sp, supB prg K q = true
section
variable {w : World} {K : PySem.W.Frag} {mg : Str → Option Value} {base h : Heap}
theorem f_abs (Γ : Gr w K mg base h) : mg "abs" = none := He.free_ok Γ.X Γ.G (Γ.S.e.fact 0 rfl)
theorem f_any (Γ : Gr w K mg base h) : mg "any" = none := He.free_ok Γ.X Γ.G (Γ.S.e.fact 1 rfl)
theorem f_enumerate (Γ : Gr w K mg base h) : mg "enumerate" = none := He.free_ok Γ.X Γ.G (Γ.S.e.fact 2 rfl)
theorem f_int (Γ : Gr w K mg base h) : mg "int" = none := He.free_ok Γ.X Γ.G (Γ.S.e.fact 3 rfl)
theorem f_len (Γ : Gr w K mg base h) : mg "len" = none := He.free_ok Γ.X Γ.G (Γ.S.e.fact 4 rfl)
theorem f_list (Γ : Gr w K mg base h) : mg "list" = none := He.free_ok Γ.X Γ.G (Γ.S.e.fact 5 rfl)
theorem f_max (Γ : Gr w K mg base h) : mg "max" = none := He.free_ok Γ.X Γ.G (Γ.S.e.fact 6 rfl)
theorem f_range (Γ : Gr w K mg base h) : mg "range" = none := He.free_ok Γ.X Γ.G (Γ.S.e.fact 7 rfl)
theorem f_super (Γ : Gr w K mg base h) : mg "super" = none := He.free_ok Γ.X Γ.G (Γ.S.e.fact 8 rfl)
theorem f_tuple (Γ : Gr w K mg base h) : mg "tuple" = none := He.free_ok Γ.X Γ.G (Γ.S.e.fact 9 rfl)
theorem f_zip (Γ : Gr w K mg base h) : mg "zip" = none := He.free_ok Γ.X Γ.G (Γ.S.e.fact 10 rfl)
theorem k_NOUGHT (Γ : Gr w K mg base h) : mg "NOUGHT" = some (.ref (He.ga K "NOUGHT")) := He.glo_ok Γ.X Γ.G (Γ.S.e.fact 11 rfl)
theorem k_ONE (Γ : Gr w K mg base h) : mg "ONE" = some (.ref (He.ga K "ONE")) := He.glo_ok Γ.X Γ.G (Γ.S.e.fact 12 rfl)
theorem g_ArborFault (Γ : Gr w K mg base h) : mg "ArborFault" = some (.ref ((tx K).C 0)) := (He.glo_ok Γ.X Γ.G (Γ.S.e.fact 13 rfl) : mg "ArborFault" = some (.ref (He.ga K "ArborFault")))
theorem g_BadWheel (Γ : Gr w K mg base h) : mg "BadWheel" = some (.ref ((tx K).C 1)) := (He.glo_ok Γ.X Γ.G (Γ.S.e.fact 14 rfl) : mg "BadWheel" = some (.ref (He.ga K "BadWheel")))
theorem g_BadTrain (Γ : Gr w K mg base h) : mg "BadTrain" = some (.ref ((tx K).C 2)) := (He.glo_ok Γ.X Γ.G (Γ.S.e.fact 15 rfl) : mg "BadTrain" = some (.ref (He.ga K "BadTrain")))
theorem g_Locked (Γ : Gr w K mg base h) : mg "Locked" = some (.ref ((tx K).C 3)) := (He.glo_ok Γ.X Γ.G (Γ.S.e.fact 16 rfl) : mg "Locked" = some (.ref (He.ga K "Locked")))
theorem g_Free (Γ : Gr w K mg base h) : mg "Free" = some (.ref ((tx K).C 4)) := (He.glo_ok Γ.X Γ.G (Γ.S.e.fact 17 rfl) : mg "Free" = some (.ref (He.ga K "Free")))
theorem g_NoTrain (Γ : Gr w K mg base h) : mg "NoTrain" = some (.ref ((tx K).C 5)) := (He.glo_ok Γ.X Γ.G (Γ.S.e.fact 18 rfl) : mg "NoTrain" = some (.ref (He.ga K "NoTrain")))
theorem g_TooLarge (Γ : Gr w K mg base h) : mg "TooLarge" = some (.ref ((tx K).C 6)) := (He.glo_ok Γ.X Γ.G (Γ.S.e.fact 19 rfl) : mg "TooLarge" = some (.ref (He.ga K "TooLarge")))
theorem g_BadText (Γ : Gr w K mg base h) : mg "BadText" = some (.ref ((tx K).C 7)) := (He.glo_ok Γ.X Γ.G (Γ.S.e.fact 20 rfl) : mg "BadText" = some (.ref (He.ga K "BadText")))
theorem g_Set (Γ : Gr w K mg base h) : mg "Set" = some (.ref ((tx K).C 8)) := (He.glo_ok Γ.X Γ.G (Γ.S.e.fact 21 rfl) : mg "Set" = some (.ref (He.ga K "Set")))
theorem c_Set (Γ : Gr w K mg base h) : Cls K ((tx K).C 8) := (He.cls_ok (Γ.S.e.fact 22 rfl) : Cls K (He.ga K "Set"))
theorem na_Set_arbors (Γ : Gr w K mg base h) : NoAttr K ((tx K).C 8) "arbors" := (He.noat_ok (Γ.S.e.fact 23 rfl) : NoAttr K (He.ga K "Set") "arbors")
theorem na_Set_rows (Γ : Gr w K mg base h) : NoAttr K ((tx K).C 8) "rows" := (He.noat_ok (Γ.S.e.fact 24 rfl) : NoAttr K (He.ga K "Set") "rows")
theorem u_Locked (Γ : Gr w K mg base h) : SupTxt prg K ((tx K).C 3) (He.ma K (He.ga K "Locked") "__init__") "number" ∧ XfC K ((tx K).C 3) := (supB_ok (q := ("Locked", "number")) (Γ.U _ (by decide +kernel)) : SupTxt prg K (He.ga K "Locked") (He.ma K (He.ga K "Locked") "__init__") "number" ∧ XfC K (He.ga K "Locked"))
theorem x_BadWheel (Γ : Gr w K mg base h) : PySem.W.excIn K ((tx K).C 1) He.veBase "ValueError.__new__" = true ∧ PySem.W.keepIn K (.ref ((tx K).C 1)) = true ∧ PySem.W.subIn K (.ref ((tx K).C 1)) (.type "BaseException") = some true ∧ PySem.W.typeIn K (.ref ((tx K).C 1)) = some (.type "type") := (He.exc_ok (Γ.S.e.fact 25 rfl) : PySem.W.excIn K (He.ga K "BadWheel") He.veBase "ValueError.__new__" = true ∧ _)
theorem x_BadTrain (Γ : Gr w K mg base h) : PySem.W.excIn K ((tx K).C 2) He.veBase "ValueError.__new__" = true ∧ PySem.W.keepIn K (.ref ((tx K).C 2)) = true ∧ PySem.W.subIn K (.ref ((tx K).C 2)) (.type "BaseException") = some true ∧ PySem.W.typeIn K (.ref ((tx K).C 2)) = some (.type "type") := (He.exc_ok (Γ.S.e.fact 26 rfl) : PySem.W.excIn K (He.ga K "BadTrain") He.veBase "ValueError.__new__" = true ∧ _)
theorem x_Free (Γ : Gr w K mg base h) : PySem.W.excIn K ((tx K).C 4) He.veBase "ValueError.__new__" = true ∧ PySem.W.keepIn K (.ref ((tx K).C 4)) = true ∧ PySem.W.subIn K (.ref ((tx K).C 4)) (.type "BaseException") = some true ∧ PySem.W.typeIn K (.ref ((tx K).C 4)) = some (.type "type") := (He.exc_ok (Γ.S.e.fact 27 rfl) : PySem.W.excIn K (He.ga K "Free") He.veBase "ValueError.__new__" = true ∧ _)
theorem mt_law_told (Γ : Gr w K mg base h) : MatchOk K (tx K) l_law_told := mkr_ok (by
  intro c hc z hz
  simp only [l_law_told, List.map_cons, List.map_nil, List.mem_cons, List.not_mem_nil, or_false] at hc hz
  rcases hc with rfl | rfl | rfl | rfl | rfl | rfl | rfl
  · rcases hz with rfl | rfl | rfl | rfl | rfl | rfl | rfl
    · exact (He.exm_ok (Γ.S.e.fact 28 rfl) : PySem.W.exmOne K (.ref (He.ga K "BadWheel")) (.ref (He.ga K "BadWheel")) = some true)
    · exact (He.exm_ok (Γ.S.e.fact 29 rfl) : PySem.W.exmOne K (.ref (He.ga K "BadWheel")) (.ref (He.ga K "BadTrain")) = some false)
    · exact (He.exm_ok (Γ.S.e.fact 30 rfl) : PySem.W.exmOne K (.ref (He.ga K "BadWheel")) (.ref (He.ga K "Locked")) = some false)
    · exact (He.exm_ok (Γ.S.e.fact 31 rfl) : PySem.W.exmOne K (.ref (He.ga K "BadWheel")) (.ref (He.ga K "Free")) = some false)
    · exact (He.exm_ok (Γ.S.e.fact 32 rfl) : PySem.W.exmOne K (.ref (He.ga K "BadWheel")) (.ref (He.ga K "NoTrain")) = some false)
    · exact (He.exm_ok (Γ.S.e.fact 33 rfl) : PySem.W.exmOne K (.ref (He.ga K "BadWheel")) (.ref (He.ga K "TooLarge")) = some false)
    · exact (He.exm_ok (Γ.S.e.fact 34 rfl) : PySem.W.exmOne K (.ref (He.ga K "BadWheel")) (.ref (He.ga K "BadText")) = some false)
  · rcases hz with rfl | rfl | rfl | rfl | rfl | rfl | rfl
    · exact (He.exm_ok (Γ.S.e.fact 35 rfl) : PySem.W.exmOne K (.ref (He.ga K "BadTrain")) (.ref (He.ga K "BadWheel")) = some false)
    · exact (He.exm_ok (Γ.S.e.fact 36 rfl) : PySem.W.exmOne K (.ref (He.ga K "BadTrain")) (.ref (He.ga K "BadTrain")) = some true)
    · exact (He.exm_ok (Γ.S.e.fact 37 rfl) : PySem.W.exmOne K (.ref (He.ga K "BadTrain")) (.ref (He.ga K "Locked")) = some false)
    · exact (He.exm_ok (Γ.S.e.fact 38 rfl) : PySem.W.exmOne K (.ref (He.ga K "BadTrain")) (.ref (He.ga K "Free")) = some false)
    · exact (He.exm_ok (Γ.S.e.fact 39 rfl) : PySem.W.exmOne K (.ref (He.ga K "BadTrain")) (.ref (He.ga K "NoTrain")) = some false)
    · exact (He.exm_ok (Γ.S.e.fact 40 rfl) : PySem.W.exmOne K (.ref (He.ga K "BadTrain")) (.ref (He.ga K "TooLarge")) = some false)
    · exact (He.exm_ok (Γ.S.e.fact 41 rfl) : PySem.W.exmOne K (.ref (He.ga K "BadTrain")) (.ref (He.ga K "BadText")) = some false)
  · rcases hz with rfl | rfl | rfl | rfl | rfl | rfl | rfl
    · exact (He.exm_ok (Γ.S.e.fact 42 rfl) : PySem.W.exmOne K (.ref (He.ga K "Locked")) (.ref (He.ga K "BadWheel")) = some false)
    · exact (He.exm_ok (Γ.S.e.fact 43 rfl) : PySem.W.exmOne K (.ref (He.ga K "Locked")) (.ref (He.ga K "BadTrain")) = some false)
    · exact (He.exm_ok (Γ.S.e.fact 44 rfl) : PySem.W.exmOne K (.ref (He.ga K "Locked")) (.ref (He.ga K "Locked")) = some true)
    · exact (He.exm_ok (Γ.S.e.fact 45 rfl) : PySem.W.exmOne K (.ref (He.ga K "Locked")) (.ref (He.ga K "Free")) = some false)
    · exact (He.exm_ok (Γ.S.e.fact 46 rfl) : PySem.W.exmOne K (.ref (He.ga K "Locked")) (.ref (He.ga K "NoTrain")) = some false)
    · exact (He.exm_ok (Γ.S.e.fact 47 rfl) : PySem.W.exmOne K (.ref (He.ga K "Locked")) (.ref (He.ga K "TooLarge")) = some false)
    · exact (He.exm_ok (Γ.S.e.fact 48 rfl) : PySem.W.exmOne K (.ref (He.ga K "Locked")) (.ref (He.ga K "BadText")) = some false)
  · rcases hz with rfl | rfl | rfl | rfl | rfl | rfl | rfl
    · exact (He.exm_ok (Γ.S.e.fact 49 rfl) : PySem.W.exmOne K (.ref (He.ga K "Free")) (.ref (He.ga K "BadWheel")) = some false)
    · exact (He.exm_ok (Γ.S.e.fact 50 rfl) : PySem.W.exmOne K (.ref (He.ga K "Free")) (.ref (He.ga K "BadTrain")) = some false)
    · exact (He.exm_ok (Γ.S.e.fact 51 rfl) : PySem.W.exmOne K (.ref (He.ga K "Free")) (.ref (He.ga K "Locked")) = some false)
    · exact (He.exm_ok (Γ.S.e.fact 52 rfl) : PySem.W.exmOne K (.ref (He.ga K "Free")) (.ref (He.ga K "Free")) = some true)
    · exact (He.exm_ok (Γ.S.e.fact 53 rfl) : PySem.W.exmOne K (.ref (He.ga K "Free")) (.ref (He.ga K "NoTrain")) = some false)
    · exact (He.exm_ok (Γ.S.e.fact 54 rfl) : PySem.W.exmOne K (.ref (He.ga K "Free")) (.ref (He.ga K "TooLarge")) = some false)
    · exact (He.exm_ok (Γ.S.e.fact 55 rfl) : PySem.W.exmOne K (.ref (He.ga K "Free")) (.ref (He.ga K "BadText")) = some false)
  · rcases hz with rfl | rfl | rfl | rfl | rfl | rfl | rfl
    · exact (He.exm_ok (Γ.S.e.fact 56 rfl) : PySem.W.exmOne K (.ref (He.ga K "NoTrain")) (.ref (He.ga K "BadWheel")) = some false)
    · exact (He.exm_ok (Γ.S.e.fact 57 rfl) : PySem.W.exmOne K (.ref (He.ga K "NoTrain")) (.ref (He.ga K "BadTrain")) = some false)
    · exact (He.exm_ok (Γ.S.e.fact 58 rfl) : PySem.W.exmOne K (.ref (He.ga K "NoTrain")) (.ref (He.ga K "Locked")) = some false)
    · exact (He.exm_ok (Γ.S.e.fact 59 rfl) : PySem.W.exmOne K (.ref (He.ga K "NoTrain")) (.ref (He.ga K "Free")) = some false)
    · exact (He.exm_ok (Γ.S.e.fact 60 rfl) : PySem.W.exmOne K (.ref (He.ga K "NoTrain")) (.ref (He.ga K "NoTrain")) = some true)
    · exact (He.exm_ok (Γ.S.e.fact 61 rfl) : PySem.W.exmOne K (.ref (He.ga K "NoTrain")) (.ref (He.ga K "TooLarge")) = some false)
    · exact (He.exm_ok (Γ.S.e.fact 62 rfl) : PySem.W.exmOne K (.ref (He.ga K "NoTrain")) (.ref (He.ga K "BadText")) = some false)
  · rcases hz with rfl | rfl | rfl | rfl | rfl | rfl | rfl
    · exact (He.exm_ok (Γ.S.e.fact 63 rfl) : PySem.W.exmOne K (.ref (He.ga K "TooLarge")) (.ref (He.ga K "BadWheel")) = some false)
    · exact (He.exm_ok (Γ.S.e.fact 64 rfl) : PySem.W.exmOne K (.ref (He.ga K "TooLarge")) (.ref (He.ga K "BadTrain")) = some false)
    · exact (He.exm_ok (Γ.S.e.fact 65 rfl) : PySem.W.exmOne K (.ref (He.ga K "TooLarge")) (.ref (He.ga K "Locked")) = some false)
    · exact (He.exm_ok (Γ.S.e.fact 66 rfl) : PySem.W.exmOne K (.ref (He.ga K "TooLarge")) (.ref (He.ga K "Free")) = some false)
    · exact (He.exm_ok (Γ.S.e.fact 67 rfl) : PySem.W.exmOne K (.ref (He.ga K "TooLarge")) (.ref (He.ga K "NoTrain")) = some false)
    · exact (He.exm_ok (Γ.S.e.fact 68 rfl) : PySem.W.exmOne K (.ref (He.ga K "TooLarge")) (.ref (He.ga K "TooLarge")) = some true)
    · exact (He.exm_ok (Γ.S.e.fact 69 rfl) : PySem.W.exmOne K (.ref (He.ga K "TooLarge")) (.ref (He.ga K "BadText")) = some false)
  · rcases hz with rfl | rfl | rfl | rfl | rfl | rfl | rfl
    · exact (He.exm_ok (Γ.S.e.fact 70 rfl) : PySem.W.exmOne K (.ref (He.ga K "BadText")) (.ref (He.ga K "BadWheel")) = some false)
    · exact (He.exm_ok (Γ.S.e.fact 71 rfl) : PySem.W.exmOne K (.ref (He.ga K "BadText")) (.ref (He.ga K "BadTrain")) = some false)
    · exact (He.exm_ok (Γ.S.e.fact 72 rfl) : PySem.W.exmOne K (.ref (He.ga K "BadText")) (.ref (He.ga K "Locked")) = some false)
    · exact (He.exm_ok (Γ.S.e.fact 73 rfl) : PySem.W.exmOne K (.ref (He.ga K "BadText")) (.ref (He.ga K "Free")) = some false)
    · exact (He.exm_ok (Γ.S.e.fact 74 rfl) : PySem.W.exmOne K (.ref (He.ga K "BadText")) (.ref (He.ga K "NoTrain")) = some false)
    · exact (He.exm_ok (Γ.S.e.fact 75 rfl) : PySem.W.exmOne K (.ref (He.ga K "BadText")) (.ref (He.ga K "TooLarge")) = some false)
    · exact (He.exm_ok (Γ.S.e.fact 76 rfl) : PySem.W.exmOne K (.ref (He.ga K "BadText")) (.ref (He.ga K "BadText")) = some true))
theorem mt_T (Γ : Gr w K mg base h) : MatchT K (tx K) mT := by
  intro q hq
  simp only [mT, List.mem_cons, List.not_mem_nil, or_false] at hq
  rcases hq with rfl | rfl | rfl | rfl | rfl | rfl | rfl | rfl | rfl | rfl | rfl | rfl | rfl | rfl | rfl | rfl
  · exact (He.exm_ok (Γ.S.e.fact 77 rfl) : PySem.W.exmOne K (.ref (He.ga K "ArborFault")) (.ref (He.ga K "Free")) = some false)
  · exact (He.exm_ok (Γ.S.e.fact 78 rfl) : PySem.W.exmOne K (.ref (He.ga K "ArborFault")) (.ref (He.ga K "Locked")) = some false)
  · exact (He.exm_ok (Γ.S.e.fact 79 rfl) : PySem.W.exmOne K (.ref (He.ga K "BadWheel")) (.ref (He.ga K "Free")) = some false)
  · exact (He.exm_ok (Γ.S.e.fact 80 rfl) : PySem.W.exmOne K (.ref (He.ga K "BadWheel")) (.ref (He.ga K "Locked")) = some false)
  · exact (He.exm_ok (Γ.S.e.fact 81 rfl) : PySem.W.exmOne K (.ref (He.ga K "BadTrain")) (.ref (He.ga K "Free")) = some false)
  · exact (He.exm_ok (Γ.S.e.fact 82 rfl) : PySem.W.exmOne K (.ref (He.ga K "BadTrain")) (.ref (He.ga K "Locked")) = some false)
  · exact (He.exm_ok (Γ.S.e.fact 83 rfl) : PySem.W.exmOne K (.ref (He.ga K "Locked")) (.ref (He.ga K "Free")) = some false)
  · exact (He.exm_ok (Γ.S.e.fact 84 rfl) : PySem.W.exmOne K (.ref (He.ga K "Locked")) (.ref (He.ga K "Locked")) = some true)
  · exact (He.exm_ok (Γ.S.e.fact 85 rfl) : PySem.W.exmOne K (.ref (He.ga K "Free")) (.ref (He.ga K "Free")) = some true)
  · exact (He.exm_ok (Γ.S.e.fact 86 rfl) : PySem.W.exmOne K (.ref (He.ga K "Free")) (.ref (He.ga K "Locked")) = some false)
  · exact (He.exm_ok (Γ.S.e.fact 87 rfl) : PySem.W.exmOne K (.ref (He.ga K "NoTrain")) (.ref (He.ga K "Free")) = some false)
  · exact (He.exm_ok (Γ.S.e.fact 88 rfl) : PySem.W.exmOne K (.ref (He.ga K "NoTrain")) (.ref (He.ga K "Locked")) = some false)
  · exact (He.exm_ok (Γ.S.e.fact 89 rfl) : PySem.W.exmOne K (.ref (He.ga K "TooLarge")) (.ref (He.ga K "Free")) = some false)
  · exact (He.exm_ok (Γ.S.e.fact 90 rfl) : PySem.W.exmOne K (.ref (He.ga K "TooLarge")) (.ref (He.ga K "Locked")) = some false)
  · exact (He.exm_ok (Γ.S.e.fact 91 rfl) : PySem.W.exmOne K (.ref (He.ga K "BadText")) (.ref (He.ga K "Free")) = some false)
  · exact (He.exm_ok (Γ.S.e.fact 92 rfl) : PySem.W.exmOne K (.ref (He.ga K "BadText")) (.ref (He.ga K "Locked")) = some false)
theorem sc_law_told : FnScope ["what"] ["what"] (defScope (top 34)) := ⟨rfl, rfl, rfl, by decide +kernel, rfl, by decide +kernel, by decide +kernel⟩
theorem t_law_told (Γ : Gr w K mg base h) {X : Cx} (h1 : X.K = K) (h2 : X.mg = mg) (h3 : X.w = w) (h4 : X.prog = prg) : ToldOk X (tx K) "_law_told" l_law_told := by
  subst h1 h2
  obtain ⟨fd, F⟩ := Γ.S.fun_ 29 (at_ := ("_law_told", none)) (x := "_law_told") (qual := "_law_told") (st := top 34) rfl (He.keep_ok (Γ.S.e.fact 145 rfl))
  exact toldOk_of F (He.glo_ok Γ.X Γ.G (Γ.S.e.fact 144 rfl)) sc_law_told (fun _ _ _ _ _ _ us hl => match us, hl with | [_], _ => rfl) rfl (fun _ => rfl) (fun cdv s H => (.cons ⟨rfl, by decide, .inl (g_BadWheel Γ)⟩ (fun a oe cls d pn _ _ => pss_one (ps_ret pe_str)) (.cons ⟨rfl, by decide, .inl (g_BadTrain Γ)⟩ (fun a oe cls d pn _ _ => pss_one (ps_ret pe_str)) (.cons ⟨rfl, by decide, .inl (g_Locked Γ)⟩ (fun a oe cls d pn _ _ => pss_one (ps_ret pe_str)) (.cons ⟨rfl, by decide, .inl (g_Free Γ)⟩ (fun a oe cls d pn _ _ => pss_one (ps_ret pe_str)) (.cons ⟨rfl, by decide, .inl (g_NoTrain Γ)⟩ (fun a oe cls d pn _ _ => pss_one (ps_ret pe_str)) (.cons ⟨rfl, by decide, .inl (g_TooLarge Γ)⟩ (fun a oe cls d pn _ _ => pss_one (ps_ret pe_str)) (.cons ⟨rfl, by decide, .inl (g_BadText Γ)⟩ (fun a oe cls d pn _ _ => pss_one (ps_ret pe_str)) .nil))))))))
theorem sc_shared : FnScope ["a", "b"] ["a", "b"] (defScope (top 12)) := ⟨rfl, rfl, rfl, by decide +kernel, rfl, by decide +kernel, by decide +kernel⟩
theorem ok_shared (Γ : Gr w K mg base h) : Dn prg w K mg base (tx K) 1 "shared" 2 F_shared := dn_of Γ.S 0 (He.glo_ok Γ.X Γ.G (Γ.S.e.fact 93 rfl)) (He.keep_ok (Γ.S.e.fact 94 rfl)) sc_shared rfl (fun _ _ _ _ _ _ us hl => match us, hl with | [_, _], _ => rfl) (fun cdv A outer s H E hcd hr => by
  have hu := hr.units
  have hu1 : (A.deeper _).units + 1 < cLine := hu_of hr
  have hu2 : (A.deeper _).units + 65 < cLine := hr.units65
  have hx : (tx K).ex = false := rfl
  have nd := sc_shared.nd
  exact (gsC (gWhile 20000 (passes_of rfl) (gCmpT (op_neG hu) _root_.Ar.ok_ne (gV 1) gInt) (gs1 (gPar (i := 0) (j := 1) rfl nd (gaC (gV 1) (gaC (gOp op_modG _root_.Ar.ok_mod (gV 0) (gV 1)) gaN)))))
  (gs1 (gRet (gV 0)))))
theorem sc_part : FnScope ["top", "bottom", "a", "sign"] ["top", "bottom"] (defScope (top 11)) := ⟨rfl, rfl, rfl, by decide +kernel, rfl, by decide +kernel, by decide +kernel⟩
theorem ok_part (Γ : Gr w K mg base h) : Dn prg w K mg base (tx K) 2 "part" 2 F_part := dn_of Γ.S 1 (He.glo_ok Γ.X Γ.G (Γ.S.e.fact 95 rfl)) (He.keep_ok (Γ.S.e.fact 96 rfl)) sc_part rfl (fun _ _ _ _ _ _ us hl => match us, hl with | [_, _], _ => rfl) (fun cdv A outer s H E hcd hr => by
  have hu := hr.units
  have hu1 : (A.deeper _).units + 1 < cLine := hu_of hr
  have hu2 : (A.deeper _).units + 65 < cLine := hr.units65
  have hx : (tx K).ex = false := rfl
  have nd := sc_part.nd
  exact (gsC (gIfS (gCmpT (op_eqG hu) _root_.Ar.ok_eq (gV 1) gInt) (gs1 (gRaise rfl PySem.F.excBase_ValueError (x_BadWheel Γ).1 (g_BadWheel Γ) (x_BadWheel Γ).2.1 (raises_own (x_BadWheel Γ).2.2.1 (x_BadWheel Γ).2.2.2))) gsN)
  (gsC (gSet (i := 2) nd (gCallP ⟨(ok_shared Γ).ex⟩ hr (gaC (gB call_abs k_abs (f_abs Γ) (by decide +kernel) (gaC (gV 0) gaN)) (gaC (gB call_abs k_abs (f_abs Γ) (by decide +kernel) (gaC (gV 1) gaN)) gaN))))
  (gsC (gSet (i := 3) nd (gIf (gCmpT op_gt _root_.Ar.ok_gt (gV 1) gInt) gInt (gNeg gInt)))
  (gsC (gSet (i := 2) nd (gB (call_max2 rfl) k_max2 (f_max Γ) (by decide +kernel) (gaC (gV 2) (gaC gInt gaN))))
  (gs1 (gRet (gTup (gaC (gOp op_divG _root_.Ar.ok_div (gOp op_mulG (_root_.Ar.ok_mul hx) (gV 3) (gV 0)) (gV 2)) (gaC (gOp op_divG _root_.Ar.ok_div (gB call_abs k_abs (f_abs Γ) (by decide +kernel) (gaC (gV 1) gaN)) (gV 2)) gaN))))))))))
theorem sc_add : FnScope ["a", "b"] ["a", "b"] (defScope (top 15)) := ⟨rfl, rfl, rfl, by decide +kernel, rfl, by decide +kernel, by decide +kernel⟩
theorem ok_add (Γ : Gr w K mg base h) : Dn prg w K mg base (tx K) 3 "add" 2 F_add := dn_of Γ.S 2 (He.glo_ok Γ.X Γ.G (Γ.S.e.fact 97 rfl)) (He.keep_ok (Γ.S.e.fact 98 rfl)) sc_add rfl (fun _ _ _ _ _ _ us hl => match us, hl with | [_, _], _ => rfl) (fun cdv A outer s H E hcd hr => by
  have hu := hr.units
  have hu1 : (A.deeper _).units + 1 < cLine := hu_of hr
  have hu2 : (A.deeper _).units + 65 < cLine := hr.units65
  have hx : (tx K).ex = false := rfl
  have nd := sc_add.nd
  exact (gs1 (gRet (gCallP ⟨(ok_part Γ).ex⟩ hr (gaC (gOp op_addG (_root_.Ar.ok_add hx) (gOp op_mulG (_root_.Ar.ok_mul hx) (gIx hx hu1 (gV 0) gInt) (gIx hx hu1 (gV 1) gInt)) (gOp op_mulG (_root_.Ar.ok_mul hx) (gIx hx hu1 (gV 1) gInt) (gIx hx hu1 (gV 0) gInt))) (gaC (gOp op_mulG (_root_.Ar.ok_mul hx) (gIx hx hu1 (gV 0) gInt) (gIx hx hu1 (gV 1) gInt)) gaN))))))
theorem sc_times : FnScope ["a", "b"] ["a", "b"] (defScope (top 17)) := ⟨rfl, rfl, rfl, by decide +kernel, rfl, by decide +kernel, by decide +kernel⟩
theorem ok_times (Γ : Gr w K mg base h) : Dn prg w K mg base (tx K) 3 "times" 2 F_times := dn_of Γ.S 3 (He.glo_ok Γ.X Γ.G (Γ.S.e.fact 99 rfl)) (He.keep_ok (Γ.S.e.fact 100 rfl)) sc_times rfl (fun _ _ _ _ _ _ us hl => match us, hl with | [_, _], _ => rfl) (fun cdv A outer s H E hcd hr => by
  have hu := hr.units
  have hu1 : (A.deeper _).units + 1 < cLine := hu_of hr
  have hu2 : (A.deeper _).units + 65 < cLine := hr.units65
  have hx : (tx K).ex = false := rfl
  have nd := sc_times.nd
  exact (gs1 (gRet (gCallP ⟨(ok_part Γ).ex⟩ hr (gaC (gOp op_mulG (_root_.Ar.ok_mul hx) (gIx hx hu1 (gV 0) gInt) (gIx hx hu1 (gV 1) gInt)) (gaC (gOp op_mulG (_root_.Ar.ok_mul hx) (gIx hx hu1 (gV 0) gInt) (gIx hx hu1 (gV 1) gInt)) gaN))))))
theorem sc_Set_fits : FnScope ["self", "turns", "k", "row", "whole", "name", "much"] ["self", "turns"] (defScope (mth 22 9)) := ⟨rfl, rfl, rfl, by decide +kernel, rfl, by decide +kernel, by decide +kernel⟩
theorem ok_Set_fits (Γ : Gr w K mg base h) : Mn prg w K mg base (tx K) 4 8 "fits" 2 F_Set_fits := mn_of Γ.S 4 rfl (He.cls_ok (Γ.S.e.fact 22 rfl)) (He.meth_ok (Γ.S.e.fact 101 rfl)) sc_Set_fits rfl (fun _ _ _ _ _ _ us hl => match us, hl with | [_, _], _ => rfl) (fun cdv A outer s H E hcd hr => by
  have hu := hr.units
  have hu1 : (A.deeper _).units + 1 < cLine := hu_of hr
  have hu2 : (A.deeper _).units + 65 < cLine := hr.units65
  have hx : (tx K).ex = false := rfl
  have nd := sc_Set_fits.nd
  exact (gsC (gFor (passes_of rfl) rfl (giEnum2 (f_enumerate Γ) (gaC (gAttr (c_Set Γ) (na_Set_rows Γ) (gV 0)) gaN)) (tgT rfl (tgsC (tgN (i := 2) nd) (tgsC (tgN (i := 3) nd) tgsN))) (gsC (gSet (i := 4) nd (gCst (k_NOUGHT Γ) (tx_const (q := ("NOUGHT", [0, 1])) (by decide +kernel))))
  (gsC (gFor (passes_of rfl) rfl (giItemsD (gV 3)) (tgT rfl (tgsC (tgN (i := 5) nd) (tgsC (tgN (i := 6) nd) tgsN))) (gs1 (gSet (i := 4) nd (gCallP ⟨(ok_add Γ).ex⟩ hr (gaC (gV 4) (gaC (gCallP ⟨(ok_times Γ).ex⟩ hr (gaC (gV 6) (gaC (gIx hx hu1 (gV 1) (gV 5)) gaN))) gaN))))))
  (gs1 (gIfS (gCmpT (op_neG hu) _root_.Ar.ok_ne (gV 4) (gCst (k_NOUGHT Γ) (tx_const (q := ("NOUGHT", [0, 1])) (by decide +kernel)))) (gs1 (gRet (gV 2))) gsN)))))
  (gs1 (gRet gNon))))
theorem sc_Set_square : FnScope ["self", "row", "name"] ["self"] (defScope (mth 22 5)) := ⟨rfl, rfl, rfl, by decide +kernel, rfl, by decide +kernel, by decide +kernel⟩
theorem ok_Set_square (Γ : Gr w K mg base h) : Mn prg w K mg base (tx K) 1 8 "square" 1 F_Set_square := mn_of Γ.S 5 rfl (He.cls_ok (Γ.S.e.fact 22 rfl)) (He.meth_ok (Γ.S.e.fact 102 rfl)) sc_Set_square rfl (fun _ _ _ _ _ _ us hl => match us, hl with | [_], _ => rfl) (fun cdv A outer s H E hcd hr => by
  have hu := hr.units
  have hu1 : (A.deeper _).units + 1 < cLine := hu_of hr
  have hu2 : (A.deeper _).units + 65 < cLine := hr.units65
  have hx : (tx K).ex = false := rfl
  have nd := sc_Set_square.nd
  exact (gs1 (gRet (gLc (own := [("row", 1)]) finP_ok (fin_noex (.inl rfl)) rfl nd (giSeq (gAttr (c_Set Γ) (na_Set_rows Γ) (gV 0))) (by first | rfl | kernel_rfl) (fun _ _ _ _ _ => (ttN (i := 1) nd)) (fun _ _ _ _ _ => gtsN) (fun _ _ _ _ _ => (gLc (own := [("name", 2)]) finP_ok (fin_noex (.inl rfl)) rfl nd (giSeq (gAttr (c_Set Γ) (na_Set_arbors Γ) (gV 0))) (by first | rfl | kernel_rfl) (fun _ _ _ _ _ => (ttN (i := 2) nd)) (fun _ _ _ _ _ => gtsN) (fun _ _ _ _ _ => (gGet2 hu1 (gV 1) (gV 2) (gCst (k_NOUGHT Γ) (tx_const (q := ("NOUGHT", [0, 1])) (by decide +kernel))))) (by decide))) (by decide)))))
theorem sc_less : FnScope ["a", "b"] ["a", "b"] (defScope (top 16)) := ⟨rfl, rfl, rfl, by decide +kernel, rfl, by decide +kernel, by decide +kernel⟩
theorem ok_less (Γ : Gr w K mg base h) : Dn prg w K mg base (tx K) 3 "less" 2 F_less := dn_of Γ.S 6 (He.glo_ok Γ.X Γ.G (Γ.S.e.fact 103 rfl)) (He.keep_ok (Γ.S.e.fact 104 rfl)) sc_less rfl (fun _ _ _ _ _ _ us hl => match us, hl with | [_, _], _ => rfl) (fun cdv A outer s H E hcd hr => by
  have hu := hr.units
  have hu1 : (A.deeper _).units + 1 < cLine := hu_of hr
  have hu2 : (A.deeper _).units + 65 < cLine := hr.units65
  have hx : (tx K).ex = false := rfl
  have nd := sc_less.nd
  exact (gs1 (gRet (gCallP ⟨(ok_part Γ).ex⟩ hr (gaC (gOp op_sub _root_.Ar.ok_sub (gOp op_mulG (_root_.Ar.ok_mul hx) (gIx hx hu1 (gV 0) gInt) (gIx hx hu1 (gV 1) gInt)) (gOp op_mulG (_root_.Ar.ok_mul hx) (gIx hx hu1 (gV 1) gInt) (gIx hx hu1 (gV 0) gInt))) (gaC (gOp op_mulG (_root_.Ar.ok_mul hx) (gIx hx hu1 (gV 0) gInt) (gIx hx hu1 (gV 1) gInt)) gaN))))))
theorem sc_over : FnScope ["a", "b"] ["a", "b"] (defScope (top 18)) := ⟨rfl, rfl, rfl, by decide +kernel, rfl, by decide +kernel, by decide +kernel⟩
theorem ok_over (Γ : Gr w K mg base h) : Dn prg w K mg base (tx K) 3 "over" 2 F_over := dn_of Γ.S 7 (He.glo_ok Γ.X Γ.G (Γ.S.e.fact 105 rfl)) (He.keep_ok (Γ.S.e.fact 106 rfl)) sc_over rfl (fun _ _ _ _ _ _ us hl => match us, hl with | [_, _], _ => rfl) (fun cdv A outer s H E hcd hr => by
  have hu := hr.units
  have hu1 : (A.deeper _).units + 1 < cLine := hu_of hr
  have hu2 : (A.deeper _).units + 65 < cLine := hr.units65
  have hx : (tx K).ex = false := rfl
  have nd := sc_over.nd
  exact (gs1 (gRet (gCallP ⟨(ok_part Γ).ex⟩ hr (gaC (gOp op_mulG (_root_.Ar.ok_mul hx) (gIx hx hu1 (gV 0) gInt) (gIx hx hu1 (gV 1) gInt)) (gaC (gOp op_mulG (_root_.Ar.ok_mul hx) (gIx hx hu1 (gV 0) gInt) (gIx hx hu1 (gV 1) gInt)) gaN))))))
theorem sc_stepped : FnScope ["rows", "wide", "k", "left", "spots", "here", "hit", "much", "j", "row", "one", "a", "b"] ["rows"] (defScope (top 19)) := ⟨rfl, rfl, rfl, by decide +kernel, rfl, by decide +kernel, by decide +kernel⟩
theorem ok_stepped (Γ : Gr w K mg base h) : Dn prg w K mg base (tx K) 4 "stepped" 1 F_stepped := dn_of Γ.S 8 (He.glo_ok Γ.X Γ.G (Γ.S.e.fact 107 rfl)) (He.keep_ok (Γ.S.e.fact 108 rfl)) sc_stepped rfl (fun _ _ _ _ _ _ us hl => match us, hl with | [_], _ => rfl) (fun cdv A outer s H E hcd hr => by
  have hu := hr.units
  have hu1 : (A.deeper _).units + 1 < cLine := hu_of hr
  have hu2 : (A.deeper _).units + 65 < cLine := hr.units65
  have hx : (tx K).ex = false := rfl
  have nd := sc_stepped.nd
  exact (gsC (gTupTup rfl (gaC (gLc (own := [("row", 9)]) finN_ok (fin_noex (.inr (.inl rfl))) rfl nd (giSeq (gV 0)) (by first | rfl | kernel_rfl) (fun _ _ _ _ _ => (ttN (i := 9) nd)) (fun _ _ _ _ _ => gtsN) (fun _ _ _ _ _ => (gTy call_list_of k_listP (f_list Γ) (by decide +kernel) (gaC (gV 9) gaN))) (by decide)) (gaC (gLstN gaN) (gaC gInt gaN))) (tgsC (tgN (i := 3) nd) (tgsC (tgN (i := 4) nd) (tgsC (tgN (i := 5) nd) tgsN))) (hal := (len_aC (len_aC (len_aC len_aN)))))
  (gsC (gSet (i := 1) nd (gIf (gEqLT (op := .NotEq) (op_Dq (neg := true) hu) (gV 3) (gLst gaN)) (gB call_len k_len (f_len Γ) (by decide +kernel) (gaC (gIx hx hu1 (gV 3) gInt) gaN)) gInt))
  (gsC (gFor (passes_of rfl) rfl (giRng1 (f_range Γ) (gaC (gV 1) gaN)) (tgN (i := 2) nd) (gsC (gSetLc (own := [("j", 8)]) (i := 6) finP_ok (fin_noex (.inl rfl)) rfl nd (giRng2 (f_range Γ) (gaC (gV 5) (gaC (gB call_len k_len (f_len Γ) (by decide +kernel) (gaC (gV 3) gaN)) gaN))) (by first | rfl | kernel_rfl) (fun _ _ _ _ _ => (ttN (i := 8) nd)) (fun _ _ _ _ _ => (gts1 (gCmpT (op_neG hu) _root_.Ar.ok_ne (gIx hx hu1 (gIx hx hu1 (gIx hx hu1 (gV 3) (gV 8)) (gV 2)) gInt) gInt))) (fun _ _ _ _ _ => (gV 8)) (by decide))
  (gsC (gIfS (gCmpT (op_eqG hu) _root_.Ar.ok_eq (gV 6) (gLst gaN)) (gs1 gCont) gsN)
  (gsC (gTupTup rfl (gaC (gIx hx hu1 (gV 3) (gIx hx hu1 (gV 6) gInt)) (gaC (gIx hx hu1 (gV 3) (gV 5)) gaN)) (tgsC (tgSub hx hu1 (gV 3) (gV 5)) (tgsC (tgSub hx hu1 (gV 3) (gIx hx hu1 (gV 6) gInt)) tgsN)) (hal := (len_aC (len_aC len_aN))))
  (gsC (gSet (i := 7) nd (gIx hx hu1 (gIx hx hu1 (gV 3) (gV 5)) (gV 2)))
  (gsC (gAsg (gLc (own := [("one", 10)]) finP_ok (fin_noex (.inl rfl)) rfl nd (giSeq (gIx hx hu1 (gV 3) (gV 5))) (by first | rfl | kernel_rfl) (fun _ _ _ _ _ => (ttN (i := 10) nd)) (fun _ _ _ _ _ => gtsN) (fun _ _ _ _ _ => (gCallP ⟨(ok_over Γ).ex⟩ hr (gaC (gV 10) (gaC (gV 7) gaN)))) (by decide)) (tgSub hx hu1 (gV 3) (gV 5)))
  (gsC (gFor (passes_of rfl) rfl (giRng1 (f_range Γ) (gaC (gB call_len k_len (f_len Γ) (by decide +kernel) (gaC (gV 3) gaN)) gaN)) (tgN (i := 8) nd) (gs1 (gIfS (gWT (gw_and (gCmpT (op_neG hu) _root_.Ar.ok_ne (gV 8) (gV 5)) (gw_and1 (gCmpT (op_neG hu) _root_.Ar.ok_ne (gIx hx hu1 (gIx hx hu1 (gIx hx hu1 (gV 3) (gV 8)) (gV 2)) gInt) gInt)))) (gs1 (gAsg (gLc (own := [("a", 11), ("b", 12)]) finP_ok (fin_noex (.inl rfl)) rfl nd (giZip2 (f_zip Γ) (gaC (gIx hx hu1 (gV 3) (gV 8)) (gaC (gIx hx hu1 (gV 3) (gV 5)) gaN))) (by first | rfl | kernel_rfl) (fun _ _ _ _ _ => (ttT rfl (ttsC (ttN (i := 11) nd) (ttsC (ttN (i := 12) nd) ttsN)))) (fun _ _ _ _ _ => gtsN) (fun _ _ _ _ _ => (gCallP ⟨(ok_less Γ).ex⟩ hr (gaC (gV 11) (gaC (gCallP ⟨(ok_times Γ).ex⟩ hr (gaC (gIx hx hu1 (gIx hx hu1 (gV 3) (gV 8)) (gV 2)) (gaC (gV 12) gaN))) gaN)))) (by decide)) (tgSub hx hu1 (gV 3) (gV 8)))) gsN)))
  (gsC (gEx (gLM PySem.F.slot_list_append PySem.F.type_list_append mt_append k_append (gV 4) (gaC (gV 2) gaN)))
  (gs1 (gAug (i := 5) nd ip_addG _root_.Ar.ok_addI gInt))))))))))
  (gs1 (gRet (gTup (gaC (gTy call_tuple_of k_tuple (f_tuple Γ) (by decide +kernel) (gaC (gLc (own := [("row", 9)]) finP_ok (fin_noex (.inl rfl)) rfl nd (giSeq (gSl (gV 3) goN (goS (gV 5)))) (by first | rfl | kernel_rfl) (fun _ _ _ _ _ => (ttN (i := 9) nd)) (fun _ _ _ _ _ => gtsN) (fun _ _ _ _ _ => (gTy call_tuple_of k_tuple (f_tuple Γ) (by decide +kernel) (gaC (gV 9) gaN))) (by decide)) gaN)) (gaC (gTy call_tuple_of k_tuple (f_tuple Γ) (by decide +kernel) (gaC (gV 4) gaN)) gaN)))))))))
theorem sc_rank : FnScope ["rows"] ["rows"] (defScope (top 20)) := ⟨rfl, rfl, rfl, by decide +kernel, rfl, by decide +kernel, by decide +kernel⟩
theorem ok_rank (Γ : Gr w K mg base h) : Dn prg w K mg base (tx K) 5 "rank" 1 F_rank := dn_of Γ.S 9 (He.glo_ok Γ.X Γ.G (Γ.S.e.fact 109 rfl)) (He.keep_ok (Γ.S.e.fact 110 rfl)) sc_rank rfl (fun _ _ _ _ _ _ us hl => match us, hl with | [_], _ => rfl) (fun cdv A outer s H E hcd hr => by
  have hu := hr.units
  have hu1 : (A.deeper _).units + 1 < cLine := hu_of hr
  have hu2 : (A.deeper _).units + 65 < cLine := hr.units65
  have hx : (tx K).ex = false := rfl
  have nd := sc_rank.nd
  exact (gs1 (gRet (gB call_len k_len (f_len Γ) (by decide +kernel) (gaC (gIx hx hu1 (gCallP ⟨(ok_stepped Γ).ex⟩ hr (gaC (gV 0) gaN)) gInt) gaN)))))
theorem sc_Set_free_ways : FnScope ["self"] ["self"] (defScope (mth 22 6)) := ⟨rfl, rfl, rfl, by decide +kernel, rfl, by decide +kernel, by decide +kernel⟩
theorem ok_Set_free_ways (Γ : Gr w K mg base h) : Mn prg w K mg base (tx K) 6 8 "free_ways" 1 F_Set_free_ways := mn_of Γ.S 10 rfl (He.cls_ok (Γ.S.e.fact 22 rfl)) (He.meth_ok (Γ.S.e.fact 111 rfl)) sc_Set_free_ways rfl (fun _ _ _ _ _ _ us hl => match us, hl with | [_], _ => rfl) (fun cdv A outer s H E hcd hr => by
  have hu := hr.units
  have hu1 : (A.deeper _).units + 1 < cLine := hu_of hr
  have hu2 : (A.deeper _).units + 65 < cLine := hr.units65
  have hx : (tx K).ex = false := rfl
  have nd := sc_Set_free_ways.nd
  exact (gs1 (gRet (gOp op_sub _root_.Ar.ok_sub (gB call_len k_len (f_len Γ) (by decide +kernel) (gaC (gAttr (c_Set Γ) (na_Set_arbors Γ) (gV 0)) gaN)) (gCallP ⟨(ok_rank Γ).ex⟩ hr (gaC (gMeth0 ⟨(ok_Set_square Γ).cl, (ok_Set_square Γ).ex⟩ (hr.mono (by decide : 1 ≤ 5)) (gV 0)) gaN))))))
theorem sc_Set_check : FnScope ["self", "names", "name"] ["self", "names"] (defScope (mth 22 1)) := ⟨rfl, rfl, rfl, by decide +kernel, rfl, by decide +kernel, by decide +kernel⟩
theorem ok_Set_check (Γ : Gr w K mg base h) : Mn prg w K mg base (tx K) 2 8 "check" 2 F_Set_check := mn_of Γ.S 11 rfl (He.cls_ok (Γ.S.e.fact 22 rfl)) (He.meth_ok (Γ.S.e.fact 112 rfl)) sc_Set_check rfl (fun _ _ _ _ _ _ us hl => match us, hl with | [_, _], _ => rfl) (fun cdv A outer s H E hcd hr => by
  have hu := hr.units
  have hu1 : (A.deeper _).units + 1 < cLine := hu_of hr
  have hu2 : (A.deeper _).units + 65 < cLine := hr.units65
  have hx : (tx K).ex = false := rfl
  have nd := sc_Set_check.nd
  exact (gs1 (gIfS (gVT (gAny (own := [("name", 2)]) (k := 0) (tabG_of (at_ := ("Set", some "check")) hcd (Γ.TB _ (by decide +kernel)) (tx_mem (p := (("Set", some "check"), ("Set.check" : Str) ++ ".<locals>." ++ "<genexpr>")) (by decide +kernel)) (tx_uniq Γ.S (p := (("Set", some "check"), ("Set.check" : Str) ++ ".<locals>." ++ "<genexpr>")) (by decide +kernel))) hr (f_any Γ) rfl nd (giSeq (gV 1)) (by first | rfl | kernel_rfl) (fun _ _ _ _ _ _ _ => (ttN (i := 2) nd)) (fun _ _ _ _ _ _ _ hr => by
  have hu := hr.units
  have hu1 := hu_of hr
  have hu2 := hr.units65
  exact (gNotIn hx hu2 (gV 2) (gAttr (c_Set Γ) (na_Set_arbors Γ) (gV 0)))) (by decide))) (gs1 (gRaise rfl PySem.F.excBase_ValueError (x_BadTrain Γ).1 (g_BadTrain Γ) (x_BadTrain Γ).2.1 (raises_own (x_BadTrain Γ).2.2.1 (x_BadTrain Γ).2.2.2))) gsN)))
theorem sc_Set_turns : FnScope ["self", "told", "rows", "row", "name", "much", "steps", "spots", "k", "other"] ["self", "told"] (defScope (mth 22 7)) := ⟨rfl, rfl, rfl, by decide +kernel, rfl, by decide +kernel, by decide +kernel⟩
theorem ok_Set_turns (Γ : Gr w K mg base h) : Mn prg w K mg base (tx K) 5 8 "turns" 2 F_Set_turns := mn_of Γ.S 12 rfl (He.cls_ok (Γ.S.e.fact 22 rfl)) (He.meth_ok (Γ.S.e.fact 113 rfl)) sc_Set_turns rfl (fun _ _ _ _ _ _ us hl => match us, hl with | [_, _], _ => rfl) (fun cdv A outer s H E hcd hr => by
  have hu := hr.units
  have hu1 : (A.deeper _).units + 1 < cLine := hu_of hr
  have hu2 : (A.deeper _).units + 65 < cLine := hr.units65
  have hx : (tx K).ex = false := rfl
  have nd := sc_Set_turns.nd
  exact (gsC (gEx (gMeth ⟨(ok_Set_check Γ).cl, (ok_Set_check Γ).ex⟩ (hr.mono (by decide : 2 ≤ 4)) (gV 0) (gaC (gTy (cr_listA rfl) k_listA (f_list Γ) (by decide +kernel) (gaC (gV 1) gaN)) gaN)))
  (gsC (gSet (i := 2) nd (gLstN gaN))
  (gsC (gFor (passes_of rfl) rfl (giSeq (gAttr (c_Set Γ) (na_Set_rows Γ) (gV 0))) (tgN (i := 3) nd) (gs1 (gEx (gLM PySem.F.slot_list_append PySem.F.type_list_append mt_append k_append (gV 2) (gaC (gOp op_addG (_root_.Ar.ok_add hx) (gLc (own := [("name", 4)]) finP_ok (fin_noex (.inl rfl)) rfl nd (giSeq (gAttr (c_Set Γ) (na_Set_arbors Γ) (gV 0))) (by first | rfl | kernel_rfl) (fun _ _ _ _ _ => (ttN (i := 4) nd)) (fun _ _ _ _ _ => gtsN) (fun _ _ _ _ _ => (gGet2 hu1 (gV 3) (gV 4) (gCst (k_NOUGHT Γ) (tx_const (q := ("NOUGHT", [0, 1])) (by decide +kernel))))) (by decide)) (gLst (gaC (gCst (k_NOUGHT Γ) (tx_const (q := ("NOUGHT", [0, 1])) (by decide +kernel))) gaN))) gaN)))))
  (gsC (gFrz 1 (gFor (passes_of rfl) rfl (giItemsD (gV 1)) (tgT rfl (tgsC (tgN (i := 4) nd) (tgsC (tgN (i := 5) nd) tgsN))) (gs1 (gEx (gLM PySem.F.slot_list_append PySem.F.type_list_append mt_append k_append (gV 2) (gaC (gOp op_addG (_root_.Ar.ok_add hx) (gLc (own := [("other", 9)]) finP_ok (fin_noex (.inl rfl)) rfl nd (giSeq (gAttr (c_Set Γ) (na_Set_arbors Γ) (gV 0))) (by first | rfl | kernel_rfl) (fun _ _ _ _ _ => (ttN (i := 9) nd)) (fun _ _ _ _ _ => gtsN) (fun _ _ _ _ _ => (gIf (gCmpT (op_eqG hu) _root_.Ar.ok_eq (gV 9) (gV 4)) (gCst (k_ONE Γ) (tx_const (q := ("ONE", [1, 1])) (by decide +kernel))) (gCst (k_NOUGHT Γ) (tx_const (q := ("NOUGHT", [0, 1])) (by decide +kernel))))) (by decide)) (gLst (gaC (gV 5) gaN))) gaN))))))
  (gsC (gFzl 2 (gAsg (gCallP ⟨(ok_stepped Γ).ex⟩ hr (gaC (gV 2) gaN)) (tgT rfl (tgsC (tgN (i := 6) nd) (tgsC (tgN (i := 7) nd) tgsN)))))
  (gsC (gIfS (gInT hx hu2 (gB call_len k_len (f_len Γ) (by decide +kernel) (gaC (gAttr (c_Set Γ) (na_Set_arbors Γ) (gV 0)) gaN)) (gV 7)) (gs1 (gRaise1 rfl (by decide) (u_Locked Γ).1 (g_Locked Γ) (f_super Γ) hr (gB call_len k_len (f_len Γ) (by decide +kernel) (gaC (gAttr (c_Set Γ) (na_Set_rows Γ) (gV 0)) gaN)))) gsN)
  (gsC (gIfS (gCmpT op_lt _root_.Ar.ok_lt (gB call_len k_len (f_len Γ) (by decide +kernel) (gaC (gV 7) gaN)) (gB call_len k_len (f_len Γ) (by decide +kernel) (gaC (gAttr (c_Set Γ) (na_Set_arbors Γ) (gV 0)) gaN))) (gs1 (gRaise rfl PySem.F.excBase_ValueError (x_Free Γ).1 (g_Free Γ) (x_Free Γ).2.1 (raises_own (x_Free Γ).2.2.1 (x_Free Γ).2.2.2))) gsN)
  (gs1 (gRet (gDc (own := [("k", 8), ("row", 3)]) finDP_ok (dfin_noex (.inl rfl)) rfl nd (giZip2 (f_zip Γ) (gaC (gV 7) (gaC (gV 6) gaN))) (by first | rfl | kernel_rfl) (fun _ _ _ _ _ => (ttT rfl (ttsC (ttN (i := 8) nd) (ttsC (ttN (i := 3) nd) ttsN)))) (fun _ _ _ _ _ => gtsN) (fun _ _ _ _ _ => (gIx hx hu1 (gAttr (c_Set Γ) (na_Set_arbors Γ) (gV 0)) (gV 8))) (fun _ _ _ _ _ => (gIx hx hu1 (gV 3) (gNeg gInt))) (by decide))))))))))))
theorem sc_Set_ratio : FnScope ["self", "one", "other", "held", "told", "name"] ["self", "one", "other", "held"] (defScope (mth 22 8)) := ⟨rfl, rfl, rfl, by decide +kernel, rfl, by decide +kernel, by decide +kernel⟩
theorem ok_Set_ratio (Γ : Gr w K mg base h) : Mn prg w K mg base (tx K) 6 8 "ratio" 4 F_Set_ratio := mn_of Γ.S 13 rfl (He.cls_ok (Γ.S.e.fact 22 rfl)) (He.meth_ok (Γ.S.e.fact 114 rfl)) sc_Set_ratio rfl (fun _ _ _ _ _ _ us hl => match us, hl with | [_, _, _, _], _ => rfl) (fun cdv A outer s H E hcd hr => by
  have hu := hr.units
  have hu1 : (A.deeper _).units + 1 < cLine := hu_of hr
  have hu2 : (A.deeper _).units + 65 < cLine := hr.units65
  have hx : (tx K).ex = false := rfl
  have nd := sc_Set_ratio.nd
  exact (gsC (gSetDc (i := 4) (own := [("name", 5)]) finDN_ok (dfin_noex (.inr rfl)) rfl nd (giSeq (gV 3)) (by first | rfl | kernel_rfl) (fun _ _ _ _ _ => (ttN (i := 5) nd)) (fun _ _ _ _ _ => gtsN) (fun _ _ _ _ _ => (gV 5)) (fun _ _ _ _ _ => (gCst (k_NOUGHT Γ) (tx_const (q := ("NOUGHT", [0, 1])) (by decide +kernel)))) (by decide))
  (gsC (gAsg (gCst (k_ONE Γ) (tx_const (q := ("ONE", [1, 1])) (by decide +kernel))) (tgSub hx hu1 (gV 4) (gV 1)))
  (gs1 (gRet (gIx hx hu1 (gMeth ⟨(ok_Set_turns Γ).cl, (ok_Set_turns Γ).ex⟩ hr (gV 0) (gaC (gV 4) gaN)) (gV 2)))))))
theorem sc_law_roll : FnScope ["dice", "many", "found"] ["dice", "many"] (defScope (top 32)) := ⟨rfl, rfl, rfl, by decide +kernel, rfl, by decide +kernel, by decide +kernel⟩
theorem ok_law_roll (Γ : Gr w K mg base h) : Dn prg w K mg base (tx K) 1 "_law_roll" 2 F_law_roll := dn_of Γ.S 14 (He.glo_ok Γ.X Γ.G (Γ.S.e.fact 115 rfl)) (He.keep_ok (Γ.S.e.fact 116 rfl)) sc_law_roll rfl (fun _ _ _ _ _ _ us hl => match us, hl with | [_, _], _ => rfl) (fun cdv A outer s H E hcd hr => by
  have hu := hr.units
  have hu1 : (A.deeper _).units + 1 < cLine := hu_of hr
  have hu2 : (A.deeper _).units + 65 < cLine := hr.units65
  have hx : (tx K).ex = false := rfl
  have nd := sc_law_roll.nd
  exact (gsC (gIfS (gWT (gw_or (gCmpT (op_eqG hu) _root_.Ar.ok_eq (gIx hx hu1 (gV 0) gInt) gInt) (gw_or1 (gWT (gw_and (gCmpT (op_eqG hu) _root_.Ar.ok_eq (gIx hx hu1 (gV 0) gInt) gInt) (gw_and1 (gCmpT op_gt _root_.Ar.ok_gt (gIx hx hu1 (gV 0) gInt) gInt))))))) (gsC (gSet (i := 2) nd (gOp op_modG _root_.Ar.ok_mod (gTy call_int1 k_int (f_int Γ) (by decide +kernel) (gaC (gIx hx hu1 (gV 0) gInt) gaN)) (gV 1)))
  (gsC (gAsg (gOp op_divG _root_.Ar.ok_div (gIx hx hu1 (gV 0) gInt) (gV 1)) (tgSub hx hu1 (gV 0) gInt))
  (gs1 (gRet (gV 2))))) gsN)
  (gsC (gAsg gInt (tgSub hx hu1 (gV 0) gInt))
  (gsC (gAsg (gOp op_modG _root_.Ar.ok_mod (gTy call_int1 k_int (f_int Γ) (by decide +kernel) (gaC (gOp op_addG (_root_.Ar.ok_add hx) (gOp op_addG (_root_.Ar.ok_add hx) (gOp op_mulG (_root_.Ar.ok_mul hx) (gIx hx hu1 (gV 0) gInt) gInt) (gOp op_mulG (_root_.Ar.ok_mul hx) (gIx hx hu1 (gV 0) gInt) gInt)) gInt) gaN)) gInt) (tgSub hx hu1 (gV 0) gInt))
  (gsC (gAsg (gOp op_addG (_root_.Ar.ok_add hx) (gIx hx hu1 (gV 0) gInt) gInt) (tgSub hx hu1 (gV 0) gInt))
  (gs1 (gRet (gOp op_modG _root_.Ar.ok_mod (gTy call_int1 k_int (f_int Γ) (by decide +kernel) (gaC (gOp op_addG (_root_.Ar.ok_add hx) (gOp op_divG _root_.Ar.ok_div (gIx hx hu1 (gV 0) gInt) gInt) (gIx hx hu1 (gV 0) gInt)) gaN)) (gV 1)))))))))
theorem sc_law_part : FnScope ["dice"] ["dice"] (defScope (top 35)) := ⟨rfl, rfl, rfl, by decide +kernel, rfl, by decide +kernel, by decide +kernel⟩
theorem ok_law_part (Γ : Gr w K mg base h) : Dn prg w K mg base (tx K) 3 "_law_part" 1 F_law_part := dn_of Γ.S 15 (He.glo_ok Γ.X Γ.G (Γ.S.e.fact 117 rfl)) (He.keep_ok (Γ.S.e.fact 118 rfl)) sc_law_part rfl (fun _ _ _ _ _ _ us hl => match us, hl with | [_], _ => rfl) (fun cdv A outer s H E hcd hr => by
  have hu := hr.units
  have hu1 : (A.deeper _).units + 1 < cLine := hu_of hr
  have hu2 : (A.deeper _).units + 65 < cLine := hr.units65
  have hx : (tx K).ex = false := rfl
  have nd := sc_law_part.nd
  exact (gs1 (gRet (gCallP ⟨(ok_part Γ).ex⟩ hr (gaC (gOp op_mulG (_root_.Ar.ok_mul hx) (gOp op_addG (_root_.Ar.ok_add hx) gInt (gCall ⟨(ok_law_roll Γ).ex⟩ (hr.mono (by decide : 1 ≤ 2)) (gaC (gV 0) (gaC gInt gaN)))) (gOp op_sub _root_.Ar.ok_sub gInt (gOp op_mulG (_root_.Ar.ok_mul hx) gInt (gCall ⟨(ok_law_roll Γ).ex⟩ (hr.mono (by decide : 1 ≤ 2)) (gaC (gV 0) (gaC gInt gaN)))))) (gaC (gOp op_addG (_root_.Ar.ok_add hx) gInt (gCall ⟨(ok_law_roll Γ).ex⟩ (hr.mono (by decide : 1 ≤ 2)) (gaC (gV 0) (gaC gInt gaN)))) gaN))))))
theorem sc_brakes : FnScope ["planets", "one", "other", "found", "name"] ["planets", "one", "other"] (defScope (top 28)) := ⟨rfl, rfl, rfl, by decide +kernel, rfl, by decide +kernel, by decide +kernel⟩
theorem ok_brakes (Γ : Gr w K mg base h) : Dn prg w K mg base (tx K) 7 "brakes" 3 F_brakes := dn_of Γ.S 16 (He.glo_ok Γ.X Γ.G (Γ.S.e.fact 119 rfl)) (He.keep_ok (Γ.S.e.fact 120 rfl)) sc_brakes rfl (fun _ _ _ _ _ _ us hl => match us, hl with | [_, _, _], _ => rfl) (fun cdv A outer s H E hcd hr => by
  have hu := hr.units
  have hu1 : (A.deeper _).units + 1 < cLine := hu_of hr
  have hu2 : (A.deeper _).units + 65 < cLine := hr.units65
  have hx : (tx K).ex = false := rfl
  have nd := sc_brakes.nd
  exact (gsC (gSet (i := 3) nd (gDict0 finDN_ok))
  (gsC (gFor (passes_of rfl) rfl (giSeq (gAttr (c_Set Γ) (na_Set_arbors Γ) (gV 0))) (tgN (i := 4) nd) (gs1 (gIfS (gNotInT hx hu2 (gV 4) (gTup (gaC (gV 1) (gaC (gV 2) gaN)))) (gs1 (gTry (mt_T Γ) rfl rfl (fun _ _ _ => (gs1 (gAsg (gMethP ⟨(ok_Set_ratio Γ).cl, (ok_Set_ratio Γ).ex⟩ hr (gV 0) (gaC (gV 1) (gaC (gV 2) (gaC (gTup (gaC (gV 4) gaN)) gaN)))) (tgSub hx hu1 (gV 3) (gV 4))))) (.cons ⟨rfl, by decide, .inl (g_Locked Γ)⟩ (fun _ _ _ _ _ _ _ => (gs1 gCont)) (.cons ⟨rfl, by decide, .inl (g_Free Γ)⟩ (fun _ _ _ _ _ _ _ => (gs1 gCont)) .nil)))) gsN)))
  (gs1 (gRet (gV 3))))))
theorem sc_can_be_set : FnScope ["sun", "planet", "many", "ring", "chord"] ["sun", "planet", "many"] (defScope (top 25)) := ⟨rfl, rfl, rfl, by decide +kernel, rfl, by decide +kernel, by decide +kernel⟩
theorem ok_can_be_set (Γ : Gr w K mg base h) : Dn prg w K mg base (tx K) 1 "can_be_set" 3 F_can_be_set := dn_of Γ.S 17 (He.glo_ok Γ.X Γ.G (Γ.S.e.fact 121 rfl)) (He.keep_ok (Γ.S.e.fact 122 rfl)) sc_can_be_set rfl (fun _ _ _ _ _ _ us hl => match us, hl with | [_, _, _], _ => rfl) (fun cdv A outer s H E hcd hr => by
  have hu := hr.units
  have hu1 : (A.deeper _).units + 1 < cLine := hu_of hr
  have hu2 : (A.deeper _).units + 65 < cLine := hr.units65
  have hx : (tx K).ex = false := rfl
  have nd := sc_can_be_set.nd
  exact (gsC (gIfS (gNotInT hx hu2 (gV 2) (gTup (gaC gInt (gaC gInt (gaC gInt (gaC gInt gaN)))))) (gs1 (gRaise rfl PySem.F.excBase_ValueError (x_BadTrain Γ).1 (g_BadTrain Γ) (x_BadTrain Γ).2.1 (raises_own (x_BadTrain Γ).2.2.1 (x_BadTrain Γ).2.2.2))) gsN)
  (gsC (gSet (i := 3) nd (gOp op_addG (_root_.Ar.ok_add hx) (gV 0) (gOp op_mulG (_root_.Ar.ok_mul hx) gInt (gV 1))))
  (gsC (gIfS (gCmpT (op_neG hu) _root_.Ar.ok_ne (gOp op_modG _root_.Ar.ok_mod (gOp op_addG (_root_.Ar.ok_add hx) (gV 0) (gV 3)) (gV 2)) gInt) (gs1 (gRet gBl)) gsN)
  (gsC (gSet (i := 4) nd (gIx hx hu1 (gDisp finDP_ok (gppC gInt gInt (gppC gInt gInt (gppC gInt gInt (gppC gInt gInt gppN))))) (gV 2)))
  (gs1 (gRet (gCmp op_lt _root_.Ar.ok_lt (gOp op_mulG (_root_.Ar.ok_mul hx) (gOp op_mulG (_root_.Ar.ok_mul hx) gInt (gOp op_addG (_root_.Ar.ok_add hx) (gV 1) gInt)) (gOp op_addG (_root_.Ar.ok_add hx) (gV 1) gInt)) (gOp op_mulG (_root_.Ar.ok_mul hx) (gOp op_mulG (_root_.Ar.ok_mul hx) (gOp op_addG (_root_.Ar.ok_add hx) (gV 0) (gV 1)) (gOp op_addG (_root_.Ar.ok_add hx) (gV 0) (gV 1))) (gV 4))))))))))
theorem sc_Set__init : FnScope ["self", "arbors", "name"] ["self", "arbors"] (defScope (mth 22 0)) := ⟨rfl, rfl, rfl, by decide +kernel, rfl, by decide +kernel, by decide +kernel⟩
theorem ok_Set__init (Γ : Gr w K mg base h) : Kn prg w K mg base (tx K) 1 "Set" 8 2 F_Set__init := kn_of Γ.S 18 rfl (He.glo_ok Γ.X Γ.G (Γ.S.e.fact 21 rfl)) (He.mkr_ok (Γ.S.e.fact 124 rfl)) (He.meth_ok (Γ.S.e.fact 123 rfl)).kp sc_Set__init rfl (fun _ _ _ _ _ _ us hl => match us, hl with | [_, _], _ => rfl) (fun cdv A outer s H E hcd hr => by
  have hu := hr.units
  have hu1 : (A.deeper _).units + 1 < cLine := hu_of hr
  have hu2 : (A.deeper _).units + 65 < cLine := hr.units65
  have hx : (tx K).ex = false := rfl
  have nd := sc_Set__init.nd
  exact (gsC (gIfS (gWT (gw_or (gCmpT (op_eqG hu) _root_.Ar.ok_eq (gB call_len k_len (f_len Γ) (by decide +kernel) (gaC (gV 1) gaN)) gInt) (gw_or1 (gCmpT (op_neG hu) _root_.Ar.ok_ne (gB cr_lenA k_lenA (f_len Γ) (by decide +kernel) (gaC (gDc (own := [("name", 2)]) finDP_ok (dfin_noex (.inl rfl)) rfl nd (giSeq (gV 1)) (by first | rfl | kernel_rfl) (fun _ _ _ _ _ => (ttN (i := 2) nd)) (fun _ _ _ _ _ => gtsN) (fun _ _ _ _ _ => (gV 2)) (fun _ _ _ _ _ => gBl) (by decide)) gaN)) (gB call_len k_len (f_len Γ) (by decide +kernel) (gaC (gV 1) gaN)))))) (gs1 (gRaise rfl PySem.F.excBase_ValueError (x_BadTrain Γ).1 (g_BadTrain Γ) (x_BadTrain Γ).2.1 (raises_own (x_BadTrain Γ).2.2.1 (x_BadTrain Γ).2.2.2))) gsN)
  (gsC (gSAttr (c_Set Γ) (na_Set_arbors Γ) (gV 0) (gTy call_tuple_of k_tuple (f_tuple Γ) (by decide +kernel) (gaC (gV 1) gaN)))
  (gs1 (gSAttr (c_Set Γ) (na_Set_rows Γ) (gV 0) (gLstR gaN))))))
theorem sc_differential : FnScope ["weights", "found", "a", "b"] ["weights"] (defScope (top 26)) := ⟨rfl, rfl, rfl, by decide +kernel, rfl, by decide +kernel, by decide +kernel⟩
theorem ok_differential (Γ : Gr w K mg base h) : Dn prg w K mg base (tx K) 3 "differential" 1 F_differential := dn_of Γ.S 19 (He.glo_ok Γ.X Γ.G (Γ.S.e.fact 125 rfl)) (He.keep_ok (Γ.S.e.fact 126 rfl)) sc_differential rfl (fun _ _ _ _ _ _ us hl => match us, hl with | [_], _ => rfl) (fun cdv A outer s H E hcd hr => by
  have hu := hr.units
  have hu1 : (A.deeper _).units + 1 < cLine := hu_of hr
  have hu2 : (A.deeper _).units + 65 < cLine := hr.units65
  have hx : (tx K).ex = false := rfl
  have nd := sc_differential.nd
  exact (gsC (gAsg (gV 0) (tgT rfl (tgsC (tgN (i := 2) nd) (tgsC (tgN (i := 3) nd) tgsN))))
  (gsC (gIfS (gWT (gw_or (gCmpT op_lt _root_.Ar.ok_lt (gV 2) gInt) (gw_or1 (gCmpT op_lt _root_.Ar.ok_lt (gV 3) gInt)))) (gs1 (gRaise rfl PySem.F.excBase_ValueError (x_BadTrain Γ).1 (g_BadTrain Γ) (x_BadTrain Γ).2.1 (raises_own (x_BadTrain Γ).2.2.1 (x_BadTrain Γ).2.2.2))) gsN)
  (gsC (gSet (i := 1) nd (gMake ⟨(ok_Set__init Γ).gm, (ok_Set__init Γ).ex⟩ hr (gaC (gTup (gaC gStr (gaC gStr (gaC gStr gaN)))) gaN)))
  (gsC (gEx (gLM PySem.F.slot_list_append PySem.F.type_list_append mt_append k_append (gAttr (c_Set Γ) (na_Set_rows Γ) (gV 1)) (gaC (gDisp finDP_ok (gppC gStr (gTup (gaC (gOp op_addG (_root_.Ar.ok_add hx) (gV 2) (gV 3)) (gaC gInt gaN))) (gppC gStr (gTup (gaC (gNeg (gV 2)) (gaC gInt gaN))) (gppC gStr (gTup (gaC (gNeg (gV 3)) (gaC gInt gaN))) gppN)))) gaN)))
  (gs1 (gRet (gV 1))))))))
theorem sc_force_share : FnScope ["planets", "one", "other", "held", "much", "out"] ["planets", "one", "other", "held"] (defScope (top 29)) := ⟨rfl, rfl, rfl, by decide +kernel, rfl, by decide +kernel, by decide +kernel⟩
theorem ok_force_share (Γ : Gr w K mg base h) : Dn prg w K mg base (tx K) 7 "force_share" 4 F_force_share := dn_of Γ.S 20 (He.glo_ok Γ.X Γ.G (Γ.S.e.fact 127 rfl)) (He.keep_ok (Γ.S.e.fact 128 rfl)) sc_force_share rfl (fun _ _ _ _ _ _ us hl => match us, hl with | [_, _, _, _], _ => rfl) (fun cdv A outer s H E hcd hr => by
  have hu := hr.units
  have hu1 : (A.deeper _).units + 1 < cLine := hu_of hr
  have hu2 : (A.deeper _).units + 65 < cLine := hr.units65
  have hx : (tx K).ex = false := rfl
  have nd := sc_force_share.nd
  exact (gsC (gSet (i := 4) nd (gMethP ⟨(ok_Set_ratio Γ).cl, (ok_Set_ratio Γ).ex⟩ hr (gV 0) (gaC (gV 1) (gaC (gV 2) (gaC (gTup (gaC (gV 3) gaN)) gaN)))))
  (gsC (gIfS (gCmpT (op_eqG hu) _root_.Ar.ok_eq (gIx hx hu1 (gV 4) gInt) gInt) (gs1 (gRaise1 rfl (by decide) (u_Locked Γ).1 (g_Locked Γ) (f_super Γ) hr gInt)) gsN)
  (gsC (gSet (i := 5) nd (gCallP ⟨(ok_over Γ).ex⟩ (hr.mono (by decide : 3 ≤ 6)) (gaC (gTup (gaC (gNeg gInt) (gaC gInt gaN))) (gaC (gV 4) gaN))))
  (gs1 (gRet (gTup (gaC (gV 5) (gaC (gCallP ⟨(ok_less Γ).ex⟩ (hr.mono (by decide : 3 ≤ 6)) (gaC (gCst (k_NOUGHT Γ) (tx_const (q := ("NOUGHT", [0, 1])) (by decide +kernel))) (gaC (gCallP ⟨(ok_add Γ).ex⟩ (hr.mono (by decide : 3 ≤ 6)) (gaC (gCst (k_ONE Γ) (tx_const (q := ("ONE", [1, 1])) (by decide +kernel))) (gaC (gV 5) gaN))) gaN))) gaN)))))))))
theorem sc_joined : FnScope ["one", "other", "names", "arbors", "name", "found", "row", "new", "much"] ["one", "other", "names"] (defScope (top 27)) := ⟨rfl, rfl, rfl, by decide +kernel, rfl, by decide +kernel, by decide +kernel⟩
theorem ok_joined (Γ : Gr w K mg base h) : Dn prg w K mg base (tx K) 3 "joined" 3 F_joined := dn_of Γ.S 21 (He.glo_ok Γ.X Γ.G (Γ.S.e.fact 129 rfl)) (He.keep_ok (Γ.S.e.fact 130 rfl)) sc_joined rfl (fun _ _ _ _ _ _ us hl => match us, hl with | [_, _, _], _ => rfl) (fun cdv A outer s H E hcd hr => by
  have hu := hr.units
  have hu1 : (A.deeper _).units + 1 < cLine := hu_of hr
  have hu2 : (A.deeper _).units + 65 < cLine := hr.units65
  have hx : (tx K).ex = false := rfl
  have nd := sc_joined.nd
  exact (gsC (gSet (i := 3) nd (gTy call_list_of k_listN (f_list Γ) (by decide +kernel) (gaC (gAttr (c_Set Γ) (na_Set_arbors Γ) (gV 0)) gaN)))
  (gsC (gFor (passes_of rfl) rfl (giSeq (gAttr (c_Set Γ) (na_Set_arbors Γ) (gV 1))) (tgN (i := 4) nd) (gsC (gSet (i := 7) nd (gGet2 hu1 (gV 2) (gV 4) (gV 4)))
  (gs1 (gIfS (gNotInT hx hu2 (gV 7) (gV 3)) (gs1 (gEx (gLM PySem.F.slot_list_append PySem.F.type_list_append mt_append k_append (gV 3) (gaC (gV 7) gaN)))) gsN))))
  (gsC (gSet (i := 5) nd (gMake ⟨(ok_Set__init Γ).gm, (ok_Set__init Γ).ex⟩ hr (gaC (gV 3) gaN)))
  (gsC (gSAttr (c_Set Γ) (na_Set_rows Γ) (gV 5) (gTy call_list_of k_listN (f_list Γ) (by decide +kernel) (gaC (gAttr (c_Set Γ) (na_Set_rows Γ) (gV 0)) gaN)))
  (gsC (gFor (passes_of rfl) rfl (giSeq (gAttr (c_Set Γ) (na_Set_rows Γ) (gV 1))) (tgN (i := 6) nd) (gs1 (gEx (gLM PySem.F.slot_list_append PySem.F.type_list_append mt_append k_append (gAttr (c_Set Γ) (na_Set_rows Γ) (gV 5)) (gaC (gDc (own := [("name", 4), ("much", 8)]) finDP_ok (dfin_noex (.inl rfl)) rfl nd (giItemsD (gV 6)) (by first | rfl | kernel_rfl) (fun _ _ _ _ _ => (ttT rfl (ttsC (ttN (i := 4) nd) (ttsC (ttN (i := 8) nd) ttsN)))) (fun _ _ _ _ _ => gtsN) (fun _ _ _ _ _ => (gGet2 hu1 (gV 2) (gV 4) (gV 4))) (fun _ _ _ _ _ => (gV 8)) (by decide)) gaN)))))
  (gs1 (gRet (gV 5)))))))))
theorem sc_Set_mesh : FnScope ["self", "arm", "one", "other", "ratio", "row", "name", "much"] ["self", "arm", "one", "other", "ratio"] (defScope (mth 22 2)) := ⟨rfl, rfl, rfl, by decide +kernel, rfl, by decide +kernel, by decide +kernel⟩
theorem ok_Set_mesh (Γ : Gr w K mg base h) : Mn prg w K mg base (tx K) 4 8 "mesh" 5 F_Set_mesh := mn_of Γ.S 22 rfl (He.cls_ok (Γ.S.e.fact 22 rfl)) (He.meth_ok (Γ.S.e.fact 131 rfl)) sc_Set_mesh rfl (fun _ _ _ _ _ _ us hl => match us, hl with | [_, _, _, _, _], _ => rfl) (fun cdv A outer s H E hcd hr => by
  have hu := hr.units
  have hu1 : (A.deeper _).units + 1 < cLine := hu_of hr
  have hu2 : (A.deeper _).units + 65 < cLine := hr.units65
  have hx : (tx K).ex = false := rfl
  have nd := sc_Set_mesh.nd
  exact (gsC (gEx (gMeth ⟨(ok_Set_check Γ).cl, (ok_Set_check Γ).ex⟩ (hr.mono (by decide : 2 ≤ 3)) (gV 0) (gaC (gTup (gaC (gV 1) (gaC (gV 2) (gaC (gV 3) gaN)))) gaN)))
  (gsC (gIfS (gWT (gw_or (gCmpT (op_eqG hu) _root_.Ar.ok_eq (gIx hx hu1 (gV 4) gInt) gInt) (gw_or1 (gCmpT (op_eqG hu) _root_.Ar.ok_eq (gV 2) (gV 3))))) (gs1 (gRaise rfl PySem.F.excBase_ValueError (x_BadTrain Γ).1 (g_BadTrain Γ) (x_BadTrain Γ).2.1 (raises_own (x_BadTrain Γ).2.2.1 (x_BadTrain Γ).2.2.2))) gsN)
  (gsC (gSet (i := 5) nd (gDict0 finDN_ok))
  (gsC (gFor (passes_of rfl) rfl (giSeq (gTup (gaC (gTup (gaC (gV 3) (gaC (gCst (k_ONE Γ) (tx_const (q := ("ONE", [1, 1])) (by decide +kernel))) gaN))) (gaC (gTup (gaC (gV 2) (gaC (gCallP ⟨(ok_times Γ).ex⟩ hr (gaC (gTup (gaC (gNeg gInt) (gaC gInt gaN))) (gaC (gV 4) gaN))) gaN))) (gaC (gTup (gaC (gV 1) (gaC (gCallP ⟨(ok_less Γ).ex⟩ hr (gaC (gV 4) (gaC (gCst (k_ONE Γ) (tx_const (q := ("ONE", [1, 1])) (by decide +kernel))) gaN))) gaN))) gaN))))) (tgT rfl (tgsC (tgN (i := 6) nd) (tgsC (tgN (i := 7) nd) tgsN))) (gs1 (gAsg (gCallP ⟨(ok_add Γ).ex⟩ hr (gaC (gGet2 hu1 (gV 5) (gV 6) (gCst (k_NOUGHT Γ) (tx_const (q := ("NOUGHT", [0, 1])) (by decide +kernel)))) (gaC (gV 7) gaN))) (tgSub hx hu1 (gV 5) (gV 6)))))
  (gs1 (gEx (gLM PySem.F.slot_list_append PySem.F.type_list_append mt_append k_append (gAttr (c_Set Γ) (na_Set_rows Γ) (gV 0)) (gaC (gV 5) gaN)))))))))
theorem sc_simple : FnScope ["sun", "planet", "found"] ["sun", "planet"] (defScope (top 23)) := ⟨rfl, rfl, rfl, by decide +kernel, rfl, by decide +kernel, by decide +kernel⟩
theorem ok_simple (Γ : Gr w K mg base h) : Dn prg w K mg base (tx K) 5 "simple" 2 F_simple := dn_of Γ.S 23 (He.glo_ok Γ.X Γ.G (Γ.S.e.fact 132 rfl)) (He.keep_ok (Γ.S.e.fact 133 rfl)) sc_simple rfl (fun _ _ _ _ _ _ us hl => match us, hl with | [_, _], _ => rfl) (fun cdv A outer s H E hcd hr => by
  have hu := hr.units
  have hu1 : (A.deeper _).units + 1 < cLine := hu_of hr
  have hu2 : (A.deeper _).units + 65 < cLine := hr.units65
  have hx : (tx K).ex = false := rfl
  have nd := sc_simple.nd
  exact (gsC (gSet (i := 2) nd (gMake ⟨(ok_Set__init Γ).gm, (ok_Set__init Γ).ex⟩ (hr.mono (by decide : 2 ≤ 4)) (gaC (gTup (gaC gStr (gaC gStr (gaC gStr (gaC gStr gaN))))) gaN)))
  (gsC (gEx (gMeth ⟨(ok_Set_mesh Γ).cl, (ok_Set_mesh Γ).ex⟩ hr (gV 2) (gaC gStr (gaC gStr (gaC gStr (gaC (gCallP ⟨(ok_part Γ).ex⟩ (hr.mono (by decide : 2 ≤ 4)) (gaC (gNeg (gV 0)) (gaC (gV 1) gaN))) gaN))))))
  (gsC (gEx (gMeth ⟨(ok_Set_mesh Γ).cl, (ok_Set_mesh Γ).ex⟩ hr (gV 2) (gaC gStr (gaC gStr (gaC gStr (gaC (gCallP ⟨(ok_part Γ).ex⟩ (hr.mono (by decide : 2 ≤ 4)) (gaC (gV 1) (gaC (gOp op_addG (_root_.Ar.ok_add hx) (gV 0) (gOp op_mulG (_root_.Ar.ok_mul hx) gInt (gV 1))) gaN))) gaN))))))
  (gs1 (gRet (gV 2)))))))
theorem sc_ratios_of : FnScope ["sun", "planet", "held", "names", "found", "one", "other"] ["sun", "planet"] (defScope (top 24)) := ⟨rfl, rfl, rfl, by decide +kernel, rfl, by decide +kernel, by decide +kernel⟩
theorem ok_ratios_of (Γ : Gr w K mg base h) : Dn prg w K mg base (tx K) 7 "ratios_of" 2 F_ratios_of := dn_of Γ.S 24 (He.glo_ok Γ.X Γ.G (Γ.S.e.fact 134 rfl)) (He.keep_ok (Γ.S.e.fact 135 rfl)) sc_ratios_of rfl (fun _ _ _ _ _ _ us hl => match us, hl with | [_, _], _ => rfl) (fun cdv A outer s H E hcd hr => by
  have hu := hr.units
  have hu1 : (A.deeper _).units + 1 < cLine := hu_of hr
  have hu2 : (A.deeper _).units + 65 < cLine := hr.units65
  have hx : (tx K).ex = false := rfl
  have nd := sc_ratios_of.nd
  exact (gsC (gPar (i := 3) (j := 4) rfl nd (gaC (gTup (gaC gStr (gaC gStr (gaC gStr gaN)))) (gaC gDict0T gaN)))
  (gsC (gFor (passes_of rfl) rfl (giSeq (gV 3)) (tgN (i := 2) nd) (gs1 (gFor (passes_of rfl) rfl (giSeq (gV 3)) (tgN (i := 5) nd) (gs1 (gFor (passes_of rfl) rfl (giSeq (gV 3)) (tgN (i := 6) nd) (gs1 (gIfS (gCmpT (op_eqG hu) _root_.Ar.ok_eq (gB cr_lenA k_lenA (f_len Γ) (by decide +kernel) (gaC (gDisp finDP_ok (gppC (gV 5) gBl (gppC (gV 6) gBl (gppC (gV 2) gBl gppN)))) gaN)) gInt) (gs1 (gAsg (gMethP ⟨(ok_Set_ratio Γ).cl, (ok_Set_ratio Γ).ex⟩ hr (gCallP ⟨(ok_simple Γ).ex⟩ (hr.mono (by decide : 5 ≤ 6)) (gaC (gV 0) (gaC (gV 1) gaN))) (gaC (gV 5) (gaC (gV 6) (gaC (gTup (gaC (gV 2) gaN)) gaN)))) (tgSub hx hu1 (gV 4) (gTup (gaC (gV 5) (gaC (gV 6) (gaC (gV 2) gaN))))))) gsN)))))))
  (gs1 (gRet (gV 4))))))
theorem sc_law_planets : FnScope ["dice", "ring", "given_turns", "turns", "axle", "pair", "two_sets", "sun", "planet", "table", "one", "held", "into", "out"] ["dice"] (defScope (top 36)) := ⟨rfl, rfl, rfl, by decide +kernel, rfl, by decide +kernel, by decide +kernel⟩
theorem ok_law_planets (Γ : Gr w K mg base h) : Dn prg w K mg base (tx K) 10 "_law_planets" 1 F_law_planets := dn_of Γ.S 25 (He.glo_ok Γ.X Γ.G (Γ.S.e.fact 136 rfl)) (He.keep_ok (Γ.S.e.fact 137 rfl)) sc_law_planets rfl (fun _ _ _ _ _ _ us hl => match us, hl with | [_], _ => rfl) (fun cdv A outer s H E hcd hr => by
  have hu := hr.units
  have hu1 : (A.deeper _).units + 1 < cLine := hu_of hr
  have hu2 : (A.deeper _).units + 65 < cLine := hr.units65
  have hx : (tx K).ex = false := rfl
  have nd := sc_law_planets.nd
  exact (gsC (gPar (i := 7) (j := 8) rfl nd (gaC (gOp op_addG (_root_.Ar.ok_add hx) gInt (gCall ⟨(ok_law_roll Γ).ex⟩ (hr.mono (by decide : 1 ≤ 9)) (gaC (gV 0) (gaC gInt gaN)))) (gaC (gOp op_addG (_root_.Ar.ok_add hx) gInt (gCall ⟨(ok_law_roll Γ).ex⟩ (hr.mono (by decide : 1 ≤ 9)) (gaC (gV 0) (gaC gInt gaN)))) gaN)))
  (gsC (gSet (i := 1) nd (gOp op_addG (_root_.Ar.ok_add hx) (gV 7) (gOp op_mulG (_root_.Ar.ok_mul hx) gInt (gV 8))))
  (gsC (gTupTup rfl (gaC (gCallP ⟨(ok_ratios_of Γ).ex⟩ (hr.mono (by decide : 7 ≤ 9)) (gaC (gV 7) (gaC (gV 8) gaN))) (gaC (gCallP ⟨(ok_simple Γ).ex⟩ (hr.mono (by decide : 5 ≤ 9)) (gaC (gV 7) (gaC (gV 8) gaN))) gaN)) (tgsC (tgN (i := 9) nd) (tgsC (tgN (i := 10) nd) tgsN)) (hal := (len_aC (len_aC len_aN))))
  (gsC (gIfS (gCmpT (op_neG hu) _root_.Ar.ok_ne (gIx hx hu1 (gV 9) (gTup (gaC gStr (gaC gStr (gaC gStr gaN))))) (gCallP ⟨(ok_part Γ).ex⟩ (hr.mono (by decide : 2 ≤ 9)) (gaC (gV 7) (gaC (gOp op_addG (_root_.Ar.ok_add hx) (gV 7) (gV 1)) gaN)))) (gs1 (gRet gBl)) gsN)
  (gsC (gIfS (gCmpT (op_neG hu) _root_.Ar.ok_ne (gIx hx hu1 (gV 9) (gTup (gaC gStr (gaC gStr (gaC gStr gaN))))) (gCallP ⟨(ok_part Γ).ex⟩ (hr.mono (by decide : 2 ≤ 9)) (gaC (gOp op_sub _root_.Ar.ok_sub gInt (gV 7)) (gaC (gV 1) gaN)))) (gs1 (gRet gBl)) gsN)
  (gsC (gIfS (gCmpT (op_neG hu) _root_.Ar.ok_ne (gIx hx hu1 (gV 9) (gTup (gaC gStr (gaC gStr (gaC gStr gaN))))) (gCallP ⟨(ok_part Γ).ex⟩ (hr.mono (by decide : 2 ≤ 9)) (gaC (gV 1) (gaC (gOp op_addG (_root_.Ar.ok_add hx) (gV 7) (gV 1)) gaN)))) (gs1 (gRet gBl)) gsN)
  (gsC (gFor (passes_of rfl) rfl (giSeq (gLst (gaC (gTup (gaC gStr (gaC gStr (gaC gStr gaN)))) (gaC (gTup (gaC gStr (gaC gStr (gaC gStr gaN)))) (gaC (gTup (gaC gStr (gaC gStr (gaC gStr gaN)))) gaN))))) (tgT rfl (tgsC (tgN (i := 11) nd) (tgsC (tgN (i := 12) nd) (tgsC (tgN (i := 13) nd) tgsN)))) (gs1 (gIfS (gCmpT (op_neG hu) _root_.Ar.ok_ne (gCallP ⟨(ok_times Γ).ex⟩ (hr.mono (by decide : 3 ≤ 9)) (gaC (gIx hx hu1 (gV 9) (gTup (gaC (gV 12) (gaC (gV 13) (gaC (gV 11) gaN))))) (gaC (gIx hx hu1 (gV 9) (gTup (gaC (gV 13) (gaC (gV 12) (gaC (gV 11) gaN))))) gaN))) (gTup (gaC gInt (gaC gInt gaN)))) (gs1 (gRet gBl)) gsN)))
  (gsC (gSet (i := 2) nd (gDisp finDP_ok (gppC gStr (gTup (gaC (gOp op_sub _root_.Ar.ok_sub (gCall ⟨(ok_law_roll Γ).ex⟩ (hr.mono (by decide : 1 ≤ 9)) (gaC (gV 0) (gaC gInt gaN))) gInt) (gaC gInt gaN))) (gppC gStr (gCall ⟨(ok_law_part Γ).ex⟩ (hr.mono (by decide : 3 ≤ 9)) (gaC (gV 0) gaN)) gppN))))
  (gsC (gSet (i := 3) nd (gMethP ⟨(ok_Set_turns Γ).cl, (ok_Set_turns Γ).ex⟩ (hr.mono (by decide : 5 ≤ 9)) (gV 10) (gaC (gV 2) gaN)))
  (gsC (gIfS (gWT (gw_or (gCmpT op_notN _root_.Ar.ok_isnot (gMethP ⟨(ok_Set_fits Γ).cl, (ok_Set_fits Γ).ex⟩ (hr.mono (by decide : 4 ≤ 9)) (gV 10) (gaC (gV 3) gaN)) gNon) (gw_or1 (gCmpT (op_neG hu) _root_.Ar.ok_ne (gMethP0 ⟨(ok_Set_free_ways Γ).cl, (ok_Set_free_ways Γ).ex⟩ (hr.mono (by decide : 6 ≤ 9)) (gV 10)) gInt)))) (gs1 (gRet gBl)) gsN)
  (gsC (gIfS (gCmpT (op_neG hu) _root_.Ar.ok_ne (gCallP ⟨(ok_add Γ).ex⟩ (hr.mono (by decide : 3 ≤ 9)) (gaC (gCallP ⟨(ok_times Γ).ex⟩ (hr.mono (by decide : 3 ≤ 9)) (gaC (gTup (gaC (gV 7) (gaC gInt gaN))) (gaC (gIx hx hu1 (gV 3) gStr) gaN))) (gaC (gCallP ⟨(ok_times Γ).ex⟩ (hr.mono (by decide : 3 ≤ 9)) (gaC (gTup (gaC (gV 1) (gaC gInt gaN))) (gaC (gIx hx hu1 (gV 3) gStr) gaN))) gaN))) (gCallP ⟨(ok_times Γ).ex⟩ (hr.mono (by decide : 3 ≤ 9)) (gaC (gTup (gaC (gOp op_addG (_root_.Ar.ok_add hx) (gV 7) (gV 1)) (gaC gInt gaN))) (gaC (gIx hx hu1 (gV 3) gStr) gaN)))) (gs1 (gRet gBl)) gsN)
  (gsC (gAsg (gCallP ⟨(ok_force_share Γ).ex⟩ (hr.mono (by decide : 7 ≤ 9)) (gaC (gV 10) (gaC gStr (gaC gStr (gaC gStr gaN))))) (tgT rfl (tgsC (tgN (i := 13) nd) (tgsC (tgN (i := 11) nd) tgsN))))
  (gsC (gIfS (gCmpT (op_neG hu) _root_.Ar.ok_ne (gCallP ⟨(ok_add Γ).ex⟩ (hr.mono (by decide : 3 ≤ 9)) (gaC (gCallP ⟨(ok_add Γ).ex⟩ (hr.mono (by decide : 3 ≤ 9)) (gaC (gTup (gaC gInt (gaC gInt gaN))) (gaC (gV 13) gaN))) (gaC (gV 11) gaN))) (gTup (gaC gInt (gaC gInt gaN)))) (gs1 (gRet gBl)) gsN)
  (gsC (gIfS (gCmpT (op_neG hu) _root_.Ar.ok_ne (gCallP ⟨(ok_add Γ).ex⟩ (hr.mono (by decide : 3 ≤ 9)) (gaC (gTup (gaC gInt (gaC gInt gaN))) (gaC (gCallP ⟨(ok_times Γ).ex⟩ (hr.mono (by decide : 3 ≤ 9)) (gaC (gV 13) (gaC (gIx hx hu1 (gV 9) (gTup (gaC gStr (gaC gStr (gaC gStr gaN))))) gaN))) gaN))) (gTup (gaC gInt (gaC gInt gaN)))) (gs1 (gRet gBl)) gsN)
  (gsC (gIfS (gCmpT (op_neG hu) _root_.Ar.ok_ne (gIx hx hu1 (gCallP ⟨(ok_brakes Γ).ex⟩ (hr.mono (by decide : 7 ≤ 9)) (gaC (gV 10) (gaC gStr (gaC gStr gaN)))) gStr) (gIx hx hu1 (gV 9) (gTup (gaC gStr (gaC gStr (gaC gStr gaN)))))) (gs1 (gRet gBl)) gsN)
  (gsC (gSet (i := 4) nd (gCallP ⟨(ok_differential Γ).ex⟩ (hr.mono (by decide : 3 ≤ 9)) (gaC (gTup (gaC gInt (gaC gInt gaN))) gaN)))
  (gsC (gSet (i := 5) nd (gMethP ⟨(ok_Set_turns Γ).cl, (ok_Set_turns Γ).ex⟩ (hr.mono (by decide : 5 ≤ 9)) (gV 4) (gaC (gDisp finDP_ok (gppC gStr (gTup (gaC gInt (gaC gInt gaN))) (gppC gStr (gTup (gaC gInt (gaC gInt gaN))) gppN))) gaN)))
  (gsC (gSet (i := 6) nd (gCallP ⟨(ok_joined Γ).ex⟩ (hr.mono (by decide : 3 ≤ 9)) (gaC (gCallP ⟨(ok_simple Γ).ex⟩ (hr.mono (by decide : 5 ≤ 9)) (gaC gInt (gaC gInt gaN))) (gaC (gCallP ⟨(ok_differential Γ).ex⟩ (hr.mono (by decide : 3 ≤ 9)) (gaC (gTup (gaC gInt (gaC gInt gaN))) gaN)) (gaC (gDisp finDP_ok (gppC gStr gStr (gppC gStr gStr (gppC gStr gStr gppN)))) gaN)))))
  (gsC (gIfS (gWT (gw_or (gCmpT (op_neG hu) _root_.Ar.ok_ne (gIx hx hu1 (gV 5) gStr) (gTup (gaC gInt (gaC gInt gaN)))) (gw_or (gCmpT (op_neG hu) _root_.Ar.ok_ne (gMethP ⟨(ok_Set_ratio Γ).cl, (ok_Set_ratio Γ).ex⟩ (hr.mono (by decide : 6 ≤ 9)) (gV 4) (gaC gStr (gaC gStr (gaC (gTup (gaC gStr gaN)) gaN)))) (gTup (gaC gInt (gaC gInt gaN)))) (gw_or1 (gCmpT (op_neG hu) _root_.Ar.ok_ne (gMethP0 ⟨(ok_Set_free_ways Γ).cl, (ok_Set_free_ways Γ).ex⟩ (hr.mono (by decide : 6 ≤ 9)) (gV 6)) gInt))))) (gs1 (gRet gBl)) gsN)
  (gsC (gIfS (gWT (gw_or (gCmpT (op_neG hu) _root_.Ar.ok_ne (gCallP ⟨(ok_can_be_set Γ).ex⟩ (hr.mono (by decide : 1 ≤ 9)) (gaC gInt (gaC gInt (gaC gInt gaN)))) (gCmp (op_eqG hu) _root_.Ar.ok_eq (gOp op_modG _root_.Ar.ok_mod (gOp op_addG (_root_.Ar.ok_add hx) gInt gInt) gInt) gInt)) (gw_or (gVT (gCallP ⟨(ok_can_be_set Γ).ex⟩ (hr.mono (by decide : 1 ≤ 9)) (gaC gInt (gaC gInt (gaC gInt gaN))))) (gw_or1 (gNotT (gVT (gCallP ⟨(ok_can_be_set Γ).ex⟩ (hr.mono (by decide : 1 ≤ 9)) (gaC gInt (gaC gInt (gaC gInt gaN)))))))))) (gs1 (gRet gBl)) gsN)
  (gsC (gIfS (gCmpT (op_neG hu) _root_.Ar.ok_ne (gTold (k := 7) (t_law_told Γ rfl rfl rfl rfl) (mt_law_told Γ) (tabOk_of (at_ := ("_law_planets", none)) hcd (Γ.TB _ (by decide +kernel)) (tx_mem (p := (("_law_planets", none), ("_law_planets" : Str) ++ ".<locals>." ++ "<lambda>")) (by decide +kernel)) (tx_uniq Γ.S (p := (("_law_planets", none), ("_law_planets" : Str) ++ ".<locals>." ++ "<lambda>")) (by decide +kernel))) hr (hbody := fun A outer s H E f c' hr => (gMethP ⟨(ok_Set_turns Γ).cl, (ok_Set_turns Γ).ex⟩ (hr.mono (by decide : 5 ≤ 7)) (gV 10) (gaC (gDisp finDP_ok (gppC gStr (gTup (gaC gInt (gaC gInt gaN))) gppN)) gaN)))) gStr) (gs1 (gRet gBl)) gsN)
  (gsC (gIfS (gCmpT (op_neG hu) _root_.Ar.ok_ne (gTold (k := 7) (t_law_told Γ rfl rfl rfl rfl) (mt_law_told Γ) (tabOk_of (at_ := ("_law_planets", none)) hcd (Γ.TB _ (by decide +kernel)) (tx_mem (p := (("_law_planets", none), ("_law_planets" : Str) ++ ".<locals>." ++ "<lambda>")) (by decide +kernel)) (tx_uniq Γ.S (p := (("_law_planets", none), ("_law_planets" : Str) ++ ".<locals>." ++ "<lambda>")) (by decide +kernel))) hr (hbody := fun A outer s H E f c' hr => (gMethP ⟨(ok_Set_turns Γ).cl, (ok_Set_turns Γ).ex⟩ (hr.mono (by decide : 5 ≤ 7)) (gV 10) (gaC (gDisp finDP_ok (gppC gStr (gTup (gaC gInt (gaC gInt gaN))) (gppC gStr (gTup (gaC gInt (gaC gInt gaN))) (gppC gStr (gTup (gaC gInt (gaC gInt gaN))) gppN)))) gaN)))) gStr) (gs1 (gRet gBl)) gsN)
  (gs1 (gRet (gCmp (op_eqG hu) _root_.Ar.ok_eq (gTold (k := 7) (t_law_told Γ rfl rfl rfl rfl) (mt_law_told Γ) (tabOk_of (at_ := ("_law_planets", none)) hcd (Γ.TB _ (by decide +kernel)) (tx_mem (p := (("_law_planets", none), ("_law_planets" : Str) ++ ".<locals>." ++ "<lambda>")) (by decide +kernel)) (tx_uniq Γ.S (p := (("_law_planets", none), ("_law_planets" : Str) ++ ".<locals>." ++ "<lambda>")) (by decide +kernel))) hr (hbody := fun A outer s H E f c' hr => (gCallP ⟨(ok_can_be_set Γ).ex⟩ (hr.mono (by decide : 1 ≤ 7)) (gaC gInt (gaC gInt (gaC gInt gaN)))))) gStr))))))))))))))))))))))))))
theorem sc_law_dice : FnScope ["cell"] ["cell"] (defScope (top 31)) := ⟨rfl, rfl, rfl, by decide +kernel, rfl, by decide +kernel, by decide +kernel⟩
theorem ok_law_dice (Γ : Gr w K mg base h) : Dn prg w K mg base (tx K) 1 "_law_dice" 1 F_law_dice := dn_of Γ.S 26 (He.glo_ok Γ.X Γ.G (Γ.S.e.fact 138 rfl)) (He.keep_ok (Γ.S.e.fact 139 rfl)) sc_law_dice rfl (fun _ _ _ _ _ _ us hl => match us, hl with | [_], _ => rfl) (fun cdv A outer s H E hcd hr => by
  have hu := hr.units
  have hu1 : (A.deeper _).units + 1 < cLine := hu_of hr
  have hu2 : (A.deeper _).units + 65 < cLine := hr.units65
  have hx : (tx K).ex = false := rfl
  have nd := sc_law_dice.nd
  exact (gsC (gIfS (gChainT op_lt _root_.Ar.ok_lt op_lt _root_.Ar.ok_lt (gOp op_sub _root_.Ar.ok_sub gInt gInt) (gV 0) gInt) (gs1 (gRet (gLstN (gaC (gB call_abs k_abs (f_abs Γ) (by decide +kernel) (gaC (gV 0) gaN)) (gaC gInt (gaC gInt gaN)))))) gsN)
  (gs1 (gRet (gLstN (gaC (gV 0) (gaC (gOp op_addG (_root_.Ar.ok_add hx) gInt (gOp op_modG _root_.Ar.ok_mod (gTy call_int1 k_int (f_int Γ) (by decide +kernel) (gaC (gV 0) gaN)) gInt)) (gaC (gTy call_int1 k_int (f_int Γ) (by decide +kernel) (gaC (gCmp op_ge _root_.Ar.ok_ge (gV 0) (gOp op_pow _root_.Ar.ok_pow gInt gInt)) gaN)) gaN))))))))
theorem sc_law_rounds : FnScope ["script", "most", "cells", "cell"] ["script", "most"] (defScope (top 33)) := ⟨rfl, rfl, rfl, by decide +kernel, rfl, by decide +kernel, by decide +kernel⟩
theorem ok_law_rounds (Γ : Gr w K mg base h) : Dn prg w K mg base (tx K) 2 "_law_rounds" 2 F_law_rounds := dn_of Γ.S 27 (He.glo_ok Γ.X Γ.G (Γ.S.e.fact 140 rfl)) (He.keep_ok (Γ.S.e.fact 141 rfl)) sc_law_rounds rfl (fun _ _ _ _ _ _ us hl => match us, hl with | [_, _], _ => rfl) (fun cdv A outer s H E hcd hr => by
  have hu := hr.units
  have hu1 : (A.deeper _).units + 1 < cLine := hu_of hr
  have hu2 : (A.deeper _).units + 65 < cLine := hr.units65
  have hx : (tx K).ex = false := rfl
  have nd := sc_law_rounds.nd
  exact (gsC (gSet (i := 2) nd (gSl (gV 0) goN (goS (gV 1))))
  (gsC (gIfS (gCmpT (op_eqG hu) _root_.Ar.ok_eq (gV 2) (gLst gaN)) (gs1 (gSet (i := 2) nd (gLst (gaC gInt gaN)))) gsN)
  (gs1 (gRet (gLc (own := [("cell", 3)]) finR_ok (fin_noex (.inr (.inr rfl))) rfl nd (giSeq (gV 2)) (by first | rfl | kernel_rfl) (fun _ _ _ _ _ => (ttN (i := 3) nd)) (fun _ _ _ _ _ => gtsN) (fun _ _ _ _ _ => (gCall ⟨(ok_law_dice Γ).ex⟩ hr (gaC (gV 3) gaN))) (by decide)))))))
theorem sc_law : FnScope ["script", "dice"] ["script"] (defScope (top 37)) := ⟨rfl, rfl, rfl, by decide +kernel, rfl, by decide +kernel, by decide +kernel⟩
theorem lawEx {f : Addr} (X : K.In h) (G : h.Ns mainGlobals mg) (c : SaysB fa fn (tf.map (·.1)) cn sp prg h K) (hmg : mg "law" = some (.ref f)) : ∃ fd : FuncData, (∀ (s : Shared) (u : Value), BindsTo s fd ⟨[u], []⟩ [("script", u)]) ∧ ∀ base : Heap, K.In base → base.Ns mainGlobals mg → (∀ p ∈ tf.map (·.1), LamX.TabB base mg (He.cT K p).1 (He.cT K p).2) → FnOk prg w K mg base (L2.CX prg w) 11 f fd ["script"] (spF K (tx K) F_law 1) := law_ex c.toSaysA 28 hmg (He.glo_ok X G (c.e.fact 142 rfl)) (He.keep_ok (c.e.fact 143 rfl)) sc_law rfl (fun _ _ _ _ _ _ us hl => match us, hl with | [_], _ => rfl) (fun base kb nb TB cdv A outer s H E hcd hr => by
  have Γ : Gr w K mg base h := ⟨X, G, c.toSaysA, TB, c.u⟩
  have hu := hr.units
  have hu1 : (A.deeper _).units + 1 < cLine := hu_of hr
  have hu2 : (A.deeper _).units + 65 < cLine := hr.units65
  have hx : (tx K).ex = false := rfl
  have nd := sc_law.nd
  exact (gsC (gFor (passes_of rfl) rfl (giSeq (gCall ⟨(ok_law_rounds Γ).ex⟩ (hr.mono (by decide : 2 ≤ 10)) (gaC (gV 0) (gaC gInt gaN)))) (tgN (i := 1) nd) (gs1 (gIfS (gNotT (gVT (gCall ⟨(ok_law_planets Γ).ex⟩ hr (gaC (gV 1) gaN)))) (gs1 (gRet gBl)) gsN)))
  (gs1 (gRet gBl))))
end
def loose : List Str := ([("ArborFault" : Str), ("BadWheel" : Str), ("BadTrain" : Str), ("Locked" : Str), ("Free" : Str), ("NoTrain" : Str), ("TooLarge" : Str), ("BadText" : Str), ("Set" : Str), ("NOUGHT" : Str), ("ONE" : Str), ("_wall" : Str), ("part" : Str), ("shared" : Str), ("add" : Str), ("less" : Str), ("times" : Str), ("over" : Str), ("stepped" : Str), ("rank" : Str), ("simple" : Str), ("ratios_of" : Str), ("can_be_set" : Str), ("differential" : Str), ("joined" : Str), ("brakes" : Str), ("force_share" : Str), ("_law_dice" : Str), ("_law_roll" : Str), ("_law_rounds" : Str), ("_law_told" : Str), ("_law_part" : Str), ("_law_planets" : Str)] : List Str)
/-! ### the head -/
abbrev R : PySem.W.OpenRow := PySem.W.OpenLaw.row row
abbrev hk : PySem.W.Hook := hookB 6 fa fn (tf.map (·.1)) cn sp prg
def ob (s : PySem.W.SharedT) : He.Al × Bool := obsB 6 fa fn (tf.map (·.1)) cn sp prg (HandSHeadRun.getT s)
theorem ob_eq (s : PySem.W.SharedT) : ob s = hk.obs s.abs := obsB_eq (HandSHeadRun.getT_eq s)
set_option maxHeartbeats 0 in
theorem run (w : World) : HandSHeadRun.RunEq R (PySem.W.view R.prog [37]) hk ob 12000 loose w := by
  intro os
  kernel_rfl
end K07
namespace K07
open PySem Ar
theorem e_times : F_times = fTimes := rfl
theorem e_over : F_over = fOver := rfl
theorem e_part : F_part = fPart := rfl
theorem e_add : F_add = fAdd := rfl
theorem e_less : F_less = fLess := rfl
theorem e_roll : F_law_roll = fRoll := rfl
theorem e_stepped : F_stepped = fStepped := rfl
@[simp] theorem nq_sun_arm : (("sun" : Str) = "arm") = False := by simp only [eq_iff_iff, iff_false]; decide +kernel
@[simp] theorem nq_sun_planet : (("sun" : Str) = "planet") = False := by simp only [eq_iff_iff, iff_false]; decide +kernel
@[simp] theorem nq_sun_ring : (("sun" : Str) = "ring") = False := by simp only [eq_iff_iff, iff_false]; decide +kernel
@[simp] theorem nq_arm_sun : (("arm" : Str) = "sun") = False := by simp only [eq_iff_iff, iff_false]; decide +kernel
@[simp] theorem nq_arm_planet : (("arm" : Str) = "planet") = False := by simp only [eq_iff_iff, iff_false]; decide +kernel
@[simp] theorem nq_arm_ring : (("arm" : Str) = "ring") = False := by simp only [eq_iff_iff, iff_false]; decide +kernel
@[simp] theorem nq_planet_sun : (("planet" : Str) = "sun") = False := by simp only [eq_iff_iff, iff_false]; decide +kernel
@[simp] theorem nq_planet_arm : (("planet" : Str) = "arm") = False := by simp only [eq_iff_iff, iff_false]; decide +kernel
@[simp] theorem nq_planet_ring : (("planet" : Str) = "ring") = False := by simp only [eq_iff_iff, iff_false]; decide +kernel
@[simp] theorem nq_ring_sun : (("ring" : Str) = "sun") = False := by simp only [eq_iff_iff, iff_false]; decide +kernel
@[simp] theorem nq_ring_arm : (("ring" : Str) = "arm") = False := by simp only [eq_iff_iff, iff_false]; decide +kernel
@[simp] theorem nq_ring_planet : (("ring" : Str) = "planet") = False := by simp only [eq_iff_iff, iff_false]; decide +kernel
@[simp] theorem nq_arbors_rows : (("arbors" : Str) = "rows") = False := by simp only [eq_iff_iff, iff_false]; decide +kernel
@[simp] theorem nq_arbors_mesh : (("arbors" : Str) = "mesh") = False := by simp only [eq_iff_iff, iff_false]; decide +kernel
@[simp] theorem nq_arbors_check : (("arbors" : Str) = "check") = False := by simp only [eq_iff_iff, iff_false]; decide +kernel
@[simp] theorem nq_arbors_turns : (("arbors" : Str) = "turns") = False := by simp only [eq_iff_iff, iff_false]; decide +kernel
@[simp] theorem nq_arbors_ratio : (("arbors" : Str) = "ratio") = False := by simp only [eq_iff_iff, iff_false]; decide +kernel
@[simp] theorem nq_arbors_square : (("arbors" : Str) = "square") = False := by simp only [eq_iff_iff, iff_false]; decide +kernel
@[simp] theorem nq_arbors_fits : (("arbors" : Str) = "fits") = False := by simp only [eq_iff_iff, iff_false]; decide +kernel
@[simp] theorem nq_arbors_free_ways : (("arbors" : Str) = "free_ways") = False := by simp only [eq_iff_iff, iff_false]; decide +kernel
@[simp] theorem nq_arbors_hold : (("arbors" : Str) = "hold") = False := by simp only [eq_iff_iff, iff_false]; decide +kernel
@[simp] theorem nq_arbors_tie : (("arbors" : Str) = "tie") = False := by simp only [eq_iff_iff, iff_false]; decide +kernel
@[simp] theorem nq_rows_arbors : (("rows" : Str) = "arbors") = False := by simp only [eq_iff_iff, iff_false]; decide +kernel
@[simp] theorem nq_rows_mesh : (("rows" : Str) = "mesh") = False := by simp only [eq_iff_iff, iff_false]; decide +kernel
@[simp] theorem nq_rows_check : (("rows" : Str) = "check") = False := by simp only [eq_iff_iff, iff_false]; decide +kernel
@[simp] theorem nq_rows_turns : (("rows" : Str) = "turns") = False := by simp only [eq_iff_iff, iff_false]; decide +kernel
@[simp] theorem nq_rows_ratio : (("rows" : Str) = "ratio") = False := by simp only [eq_iff_iff, iff_false]; decide +kernel
@[simp] theorem nq_rows_square : (("rows" : Str) = "square") = False := by simp only [eq_iff_iff, iff_false]; decide +kernel
@[simp] theorem nq_rows_fits : (("rows" : Str) = "fits") = False := by simp only [eq_iff_iff, iff_false]; decide +kernel
@[simp] theorem nq_rows_free_ways : (("rows" : Str) = "free_ways") = False := by simp only [eq_iff_iff, iff_false]; decide +kernel
@[simp] theorem nq_rows_hold : (("rows" : Str) = "hold") = False := by simp only [eq_iff_iff, iff_false]; decide +kernel
@[simp] theorem nq_rows_tie : (("rows" : Str) = "tie") = False := by simp only [eq_iff_iff, iff_false]; decide +kernel
@[simp] theorem nq_mesh_arbors : (("mesh" : Str) = "arbors") = False := by simp only [eq_iff_iff, iff_false]; decide +kernel
@[simp] theorem nq_mesh_rows : (("mesh" : Str) = "rows") = False := by simp only [eq_iff_iff, iff_false]; decide +kernel
@[simp] theorem nq_mesh_check : (("mesh" : Str) = "check") = False := by simp only [eq_iff_iff, iff_false]; decide +kernel
@[simp] theorem nq_mesh_turns : (("mesh" : Str) = "turns") = False := by simp only [eq_iff_iff, iff_false]; decide +kernel
@[simp] theorem nq_mesh_ratio : (("mesh" : Str) = "ratio") = False := by simp only [eq_iff_iff, iff_false]; decide +kernel
@[simp] theorem nq_mesh_square : (("mesh" : Str) = "square") = False := by simp only [eq_iff_iff, iff_false]; decide +kernel
@[simp] theorem nq_mesh_fits : (("mesh" : Str) = "fits") = False := by simp only [eq_iff_iff, iff_false]; decide +kernel
@[simp] theorem nq_mesh_free_ways : (("mesh" : Str) = "free_ways") = False := by simp only [eq_iff_iff, iff_false]; decide +kernel
@[simp] theorem nq_mesh_hold : (("mesh" : Str) = "hold") = False := by simp only [eq_iff_iff, iff_false]; decide +kernel
@[simp] theorem nq_mesh_tie : (("mesh" : Str) = "tie") = False := by simp only [eq_iff_iff, iff_false]; decide +kernel
@[simp] theorem nq_check_arbors : (("check" : Str) = "arbors") = False := by simp only [eq_iff_iff, iff_false]; decide +kernel
@[simp] theorem nq_check_rows : (("check" : Str) = "rows") = False := by simp only [eq_iff_iff, iff_false]; decide +kernel
@[simp] theorem nq_check_mesh : (("check" : Str) = "mesh") = False := by simp only [eq_iff_iff, iff_false]; decide +kernel
@[simp] theorem nq_check_turns : (("check" : Str) = "turns") = False := by simp only [eq_iff_iff, iff_false]; decide +kernel
@[simp] theorem nq_check_ratio : (("check" : Str) = "ratio") = False := by simp only [eq_iff_iff, iff_false]; decide +kernel
@[simp] theorem nq_check_square : (("check" : Str) = "square") = False := by simp only [eq_iff_iff, iff_false]; decide +kernel
@[simp] theorem nq_check_fits : (("check" : Str) = "fits") = False := by simp only [eq_iff_iff, iff_false]; decide +kernel
@[simp] theorem nq_check_free_ways : (("check" : Str) = "free_ways") = False := by simp only [eq_iff_iff, iff_false]; decide +kernel
@[simp] theorem nq_check_hold : (("check" : Str) = "hold") = False := by simp only [eq_iff_iff, iff_false]; decide +kernel
@[simp] theorem nq_check_tie : (("check" : Str) = "tie") = False := by simp only [eq_iff_iff, iff_false]; decide +kernel
@[simp] theorem nq_turns_arbors : (("turns" : Str) = "arbors") = False := by simp only [eq_iff_iff, iff_false]; decide +kernel
@[simp] theorem nq_turns_rows : (("turns" : Str) = "rows") = False := by simp only [eq_iff_iff, iff_false]; decide +kernel
@[simp] theorem nq_turns_mesh : (("turns" : Str) = "mesh") = False := by simp only [eq_iff_iff, iff_false]; decide +kernel
@[simp] theorem nq_turns_check : (("turns" : Str) = "check") = False := by simp only [eq_iff_iff, iff_false]; decide +kernel
@[simp] theorem nq_turns_ratio : (("turns" : Str) = "ratio") = False := by simp only [eq_iff_iff, iff_false]; decide +kernel
@[simp] theorem nq_turns_square : (("turns" : Str) = "square") = False := by simp only [eq_iff_iff, iff_false]; decide +kernel
@[simp] theorem nq_turns_fits : (("turns" : Str) = "fits") = False := by simp only [eq_iff_iff, iff_false]; decide +kernel
@[simp] theorem nq_turns_free_ways : (("turns" : Str) = "free_ways") = False := by simp only [eq_iff_iff, iff_false]; decide +kernel
@[simp] theorem nq_turns_hold : (("turns" : Str) = "hold") = False := by simp only [eq_iff_iff, iff_false]; decide +kernel
@[simp] theorem nq_turns_tie : (("turns" : Str) = "tie") = False := by simp only [eq_iff_iff, iff_false]; decide +kernel
@[simp] theorem nq_ratio_arbors : (("ratio" : Str) = "arbors") = False := by simp only [eq_iff_iff, iff_false]; decide +kernel
@[simp] theorem nq_ratio_rows : (("ratio" : Str) = "rows") = False := by simp only [eq_iff_iff, iff_false]; decide +kernel
@[simp] theorem nq_ratio_mesh : (("ratio" : Str) = "mesh") = False := by simp only [eq_iff_iff, iff_false]; decide +kernel
@[simp] theorem nq_ratio_check : (("ratio" : Str) = "check") = False := by simp only [eq_iff_iff, iff_false]; decide +kernel
@[simp] theorem nq_ratio_turns : (("ratio" : Str) = "turns") = False := by simp only [eq_iff_iff, iff_false]; decide +kernel
@[simp] theorem nq_ratio_square : (("ratio" : Str) = "square") = False := by simp only [eq_iff_iff, iff_false]; decide +kernel
@[simp] theorem nq_ratio_fits : (("ratio" : Str) = "fits") = False := by simp only [eq_iff_iff, iff_false]; decide +kernel
@[simp] theorem nq_ratio_free_ways : (("ratio" : Str) = "free_ways") = False := by simp only [eq_iff_iff, iff_false]; decide +kernel
@[simp] theorem nq_ratio_hold : (("ratio" : Str) = "hold") = False := by simp only [eq_iff_iff, iff_false]; decide +kernel
@[simp] theorem nq_ratio_tie : (("ratio" : Str) = "tie") = False := by simp only [eq_iff_iff, iff_false]; decide +kernel
@[simp] theorem nq_square_arbors : (("square" : Str) = "arbors") = False := by simp only [eq_iff_iff, iff_false]; decide +kernel
@[simp] theorem nq_square_rows : (("square" : Str) = "rows") = False := by simp only [eq_iff_iff, iff_false]; decide +kernel
@[simp] theorem nq_square_mesh : (("square" : Str) = "mesh") = False := by simp only [eq_iff_iff, iff_false]; decide +kernel
@[simp] theorem nq_square_check : (("square" : Str) = "check") = False := by simp only [eq_iff_iff, iff_false]; decide +kernel
@[simp] theorem nq_square_turns : (("square" : Str) = "turns") = False := by simp only [eq_iff_iff, iff_false]; decide +kernel
@[simp] theorem nq_square_ratio : (("square" : Str) = "ratio") = False := by simp only [eq_iff_iff, iff_false]; decide +kernel
@[simp] theorem nq_square_fits : (("square" : Str) = "fits") = False := by simp only [eq_iff_iff, iff_false]; decide +kernel
@[simp] theorem nq_square_free_ways : (("square" : Str) = "free_ways") = False := by simp only [eq_iff_iff, iff_false]; decide +kernel
@[simp] theorem nq_square_hold : (("square" : Str) = "hold") = False := by simp only [eq_iff_iff, iff_false]; decide +kernel
@[simp] theorem nq_square_tie : (("square" : Str) = "tie") = False := by simp only [eq_iff_iff, iff_false]; decide +kernel
@[simp] theorem nq_fits_arbors : (("fits" : Str) = "arbors") = False := by simp only [eq_iff_iff, iff_false]; decide +kernel
@[simp] theorem nq_fits_rows : (("fits" : Str) = "rows") = False := by simp only [eq_iff_iff, iff_false]; decide +kernel
@[simp] theorem nq_fits_mesh : (("fits" : Str) = "mesh") = False := by simp only [eq_iff_iff, iff_false]; decide +kernel
@[simp] theorem nq_fits_check : (("fits" : Str) = "check") = False := by simp only [eq_iff_iff, iff_false]; decide +kernel
@[simp] theorem nq_fits_turns : (("fits" : Str) = "turns") = False := by simp only [eq_iff_iff, iff_false]; decide +kernel
@[simp] theorem nq_fits_ratio : (("fits" : Str) = "ratio") = False := by simp only [eq_iff_iff, iff_false]; decide +kernel
@[simp] theorem nq_fits_square : (("fits" : Str) = "square") = False := by simp only [eq_iff_iff, iff_false]; decide +kernel
@[simp] theorem nq_fits_free_ways : (("fits" : Str) = "free_ways") = False := by simp only [eq_iff_iff, iff_false]; decide +kernel
@[simp] theorem nq_fits_hold : (("fits" : Str) = "hold") = False := by simp only [eq_iff_iff, iff_false]; decide +kernel
@[simp] theorem nq_fits_tie : (("fits" : Str) = "tie") = False := by simp only [eq_iff_iff, iff_false]; decide +kernel
@[simp] theorem nq_free_ways_arbors : (("free_ways" : Str) = "arbors") = False := by simp only [eq_iff_iff, iff_false]; decide +kernel
@[simp] theorem nq_free_ways_rows : (("free_ways" : Str) = "rows") = False := by simp only [eq_iff_iff, iff_false]; decide +kernel
@[simp] theorem nq_free_ways_mesh : (("free_ways" : Str) = "mesh") = False := by simp only [eq_iff_iff, iff_false]; decide +kernel
@[simp] theorem nq_free_ways_check : (("free_ways" : Str) = "check") = False := by simp only [eq_iff_iff, iff_false]; decide +kernel
@[simp] theorem nq_free_ways_turns : (("free_ways" : Str) = "turns") = False := by simp only [eq_iff_iff, iff_false]; decide +kernel
@[simp] theorem nq_free_ways_ratio : (("free_ways" : Str) = "ratio") = False := by simp only [eq_iff_iff, iff_false]; decide +kernel
@[simp] theorem nq_free_ways_square : (("free_ways" : Str) = "square") = False := by simp only [eq_iff_iff, iff_false]; decide +kernel
@[simp] theorem nq_free_ways_fits : (("free_ways" : Str) = "fits") = False := by simp only [eq_iff_iff, iff_false]; decide +kernel
@[simp] theorem nq_free_ways_hold : (("free_ways" : Str) = "hold") = False := by simp only [eq_iff_iff, iff_false]; decide +kernel
@[simp] theorem nq_free_ways_tie : (("free_ways" : Str) = "tie") = False := by simp only [eq_iff_iff, iff_false]; decide +kernel
@[simp] theorem nq_hold_arbors : (("hold" : Str) = "arbors") = False := by simp only [eq_iff_iff, iff_false]; decide +kernel
@[simp] theorem nq_hold_rows : (("hold" : Str) = "rows") = False := by simp only [eq_iff_iff, iff_false]; decide +kernel
@[simp] theorem nq_hold_mesh : (("hold" : Str) = "mesh") = False := by simp only [eq_iff_iff, iff_false]; decide +kernel
@[simp] theorem nq_hold_check : (("hold" : Str) = "check") = False := by simp only [eq_iff_iff, iff_false]; decide +kernel
@[simp] theorem nq_hold_turns : (("hold" : Str) = "turns") = False := by simp only [eq_iff_iff, iff_false]; decide +kernel
@[simp] theorem nq_hold_ratio : (("hold" : Str) = "ratio") = False := by simp only [eq_iff_iff, iff_false]; decide +kernel
@[simp] theorem nq_hold_square : (("hold" : Str) = "square") = False := by simp only [eq_iff_iff, iff_false]; decide +kernel
@[simp] theorem nq_hold_fits : (("hold" : Str) = "fits") = False := by simp only [eq_iff_iff, iff_false]; decide +kernel
@[simp] theorem nq_hold_free_ways : (("hold" : Str) = "free_ways") = False := by simp only [eq_iff_iff, iff_false]; decide +kernel
@[simp] theorem nq_hold_tie : (("hold" : Str) = "tie") = False := by simp only [eq_iff_iff, iff_false]; decide +kernel
@[simp] theorem nq_tie_arbors : (("tie" : Str) = "arbors") = False := by simp only [eq_iff_iff, iff_false]; decide +kernel
@[simp] theorem nq_tie_rows : (("tie" : Str) = "rows") = False := by simp only [eq_iff_iff, iff_false]; decide +kernel
@[simp] theorem nq_tie_mesh : (("tie" : Str) = "mesh") = False := by simp only [eq_iff_iff, iff_false]; decide +kernel
@[simp] theorem nq_tie_check : (("tie" : Str) = "check") = False := by simp only [eq_iff_iff, iff_false]; decide +kernel
@[simp] theorem nq_tie_turns : (("tie" : Str) = "turns") = False := by simp only [eq_iff_iff, iff_false]; decide +kernel
@[simp] theorem nq_tie_ratio : (("tie" : Str) = "ratio") = False := by simp only [eq_iff_iff, iff_false]; decide +kernel
@[simp] theorem nq_tie_square : (("tie" : Str) = "square") = False := by simp only [eq_iff_iff, iff_false]; decide +kernel
@[simp] theorem nq_tie_fits : (("tie" : Str) = "fits") = False := by simp only [eq_iff_iff, iff_false]; decide +kernel
@[simp] theorem nq_tie_free_ways : (("tie" : Str) = "free_ways") = False := by simp only [eq_iff_iff, iff_false]; decide +kernel
@[simp] theorem nq_tie_hold : (("tie" : Str) = "hold") = False := by simp only [eq_iff_iff, iff_false]; decide +kernel
theorem p0 : (.tup [.int 0, .int 1] : P) = pr 0 := rfl
theorem p1 : (.tup [.int 1, .int 1] : P) = pr 1 := rfl
theorem pm1 : (.tup [.int (-1), .int 1] : P) = pr (-1) := rfl
/-- the set of a sun, a planet on an arm, a ring: a = sun / planet, b = planet / ring -/
def simP (a b : Rat) : P := .ins 8 ["arbors", "rows"] [.tup [.str "sun", .str "arm", .str "planet", .str "ring"], .lst [.dct [.str "planet", .str "sun", .str "arm"] [pr 1, pr a, pr (-a - 1)], .dct [.str "ring", .str "planet", .str "arm"] [pr 1, pr (-b), pr (b - 1)]]]
instance : BdQ (0 : Rat) 3 := ⟨by decide, by decide⟩
instance : BdQ (1 : Rat) 3 := ⟨by decide, by decide⟩
instance : BdQ (-1 : Rat) 3 := ⟨by decide, by decide⟩
theorem add0 (q : Rat) [BdQ q 100] (h : Hs) : callP fAdd [.p (pr 0), .p (pr q)] h = .ok (.p (pr q)) h := by
  have := add_ok (x := pr 0) (y := pr q) h (by decide)
  rw [toQ_pr, toQ_pr] at this
  have e : (0 : Rat) + q = q := by grind
  rwa [e] at this
theorem mesh_step (x0 x1 x2 x3 x4 : Option D) (i : Nat) (n : Str) (v : Rat) [BdQ v 100] (ks vs : List P) (h : Hs) (hi : h[i]? = some (.dct ks vs)) (hh : dGet ks vs (.str n) = none) (hh2 : dHas ks (.str n) = false) (hl : ks.length ≤ 10) :
    L_Set_mesh_1 [x0, x1, x2, x3, x4, some (.loc i), some (.p (.str n)), some (.p (pr v))] h = .nx [x0, x1, x2, x3, x4, some (.loc i), some (.p (.str n)), some (.p (pr v))] (h.set i (.dct (ks ++ [.str n]) (vs ++ [pr v]))) := by
  have z := add0 v
  have hl2 : ks.length ≤ 16777215 := by omega
  simp [L_Set_mesh_1, e_add, hi, hh, hh2, p0, z, hl2]
theorem mesh_ok (q : Rat) [bq : BdQ q 50] (hq : q ≠ 0) (arm one other : Str) (rs : List D) (A : List P) (t : Hs) (hl : rs.length ≤ 10)
    (ha : A.any (fun z => eqP z (.str arm)) = true) (hb : A.any (fun z => eqP z (.str one)) = true) (hc : A.any (fun z => eqP z (.str other)) = true) (hf : A.all flatP = true) (n1 : ¬ one = other) (n2 : ¬ other = one) (n3 : ¬ arm = one) (n4 : ¬ one = arm) (n5 : ¬ arm = other) (n6 : ¬ other = arm) :
    F_Set_mesh [.loc 0, .p (.str arm), .p (.str one), .p (.str other), .p (pr q)] (.ins 8 ["arbors", "rows"] [.p (.tup A), .loc 1] :: .rl rs :: t) = .ok (.p .non) (.ins 8 ["arbors", "rows"] [.p (.tup A), .loc 1] :: .rl (rs ++ [.loc (t.length + 2)]) :: (t ++ [.dct [.str other, .str one, .str arm] [pr 1, pr (-q), pr (q - 1)]])) := by
  haveI : BdQ (-1 * q) 100 := (inferInstance : BdQ (-1 * q) _).mono (by decide)
  haveI : BdQ (q - 1) 100 := (inferInstance : BdQ (q - 1) _).mono (by decide)
  haveI : BdQ (-q) 100 := (inferInstance : BdQ (-q) _).mono (by decide)
  haveI : BdQ (1 : Rat) 100 := (inferInstance : BdQ (1 : Rat) _).mono (by decide)
  have t1 := fun h => times_ok (x := pr (-1)) (y := pr q) h (by decide)
  have l := fun h => less_ok (x := pr q) (y := pr 1) h (by decide)
  simp only [toQ_pr] at t1 l
  have em : -1 * q = -q := by grind
  rw [em] at t1
  have q0 : ¬ q.num = 0 := fun z => hq (num_ne.mp z)
  obtain ⟨o0, ho0⟩ : ∃ o : O, o = .ins 8 ["arbors", "rows"] [.p (.tup A), .loc 1] := ⟨_, rfl⟩
  have s1 := fun (x0 x1 x2 x3 x4 : Option D) => mesh_step x0 x1 x2 x3 x4 (t.length + 1 + 1) other 1 [] [] (o0 :: .rl rs :: (t ++ [O.dct [] []])) (by simp) rfl rfl (by simp)
  have s2 := fun (x0 x1 x2 x3 x4 : Option D) => mesh_step x0 x1 x2 x3 x4 (t.length + 1 + 1) one (-q) [.str other] [pr 1] (o0 :: .rl rs :: (t ++ [O.dct [.str other] [pr 1]])) (by simp) (by simp [n2]) (by simp [n2]) (by simp)
  have s3 := fun (x0 x1 x2 x3 x4 : Option D) => mesh_step x0 x1 x2 x3 x4 (t.length + 1 + 1) arm (q - 1) [.str other, .str one] [pr 1, pr (-q)] (o0 :: .rl rs :: (t ++ [O.dct [.str other, .str one] [pr 1, pr (-q)]])) (by simp) (by simp [n4, n6]) (by simp [n4, n6]) (by simp)
  simp [ho0] at s1 s2 s3
  have hl2 : rs.length ≤ 16777215 := by omega
  simp [F_Set_mesh, F_Set_check, anyL, ha, hb, hc, hf, e_times, e_less, e_add, p0, p1, pm1, t1, l, q0, n1, n2, n3, n4, n5, n6, forL, s1, s2, s3, hl2]
/-- a simple set -/
theorem simple_ok {s p : Int} (h1 : 10 ≤ s) (h2 : s ≤ 40) (h3 : 10 ≤ p) (h4 : p ≤ 40) (h : Hs) : callP F_simple [.p (.int s), .p (.int p)] h = .ok (.p (simP ((s : Rat) / p) ((p : Rat) / ((s + 2 * p : Int) : Rat)))) h := by
  have d1 := fun h => part_ok (-s) p (by omega) (by omega) h
  have d2 := fun h => part_ok p (s + 2 * p) (by omega) (by omega) h
  obtain ⟨q1, e1⟩ : ∃ q : Rat, q = ((-s : Int) : Rat) / p := ⟨_, rfl⟩
  obtain ⟨q2, e2⟩ : ∃ q : Rat, q = (p : Rat) / ((s + 2 * p : Int) : Rat) := ⟨_, rfl⟩
  haveI b1 : BdQ q1 50 := by rw [e1]; exact bdQ_div (by omega) (by omega) (by omega)
  haveI b2 : BdQ q2 50 := by rw [e2]; exact bdQ_div (by omega) (by omega) (by omega)
  have hs := cast_ne (show s ≠ 0 by omega)
  have hp := cast_ne (show p ≠ 0 by omega)
  have hr := cast_ne (show s + 2 * p ≠ 0 by omega)
  have z1 : q1 ≠ 0 := by rw [e1, Rat.intCast_neg]; grind
  have z2 : q2 ≠ 0 := by rw [e2]; grind
  have ea : (s : Rat) / p = -q1 := by rw [e1, Rat.intCast_neg]; grind
  have m1 := mesh_ok q1 z1 "arm" "sun" "planet" [] [.str "sun", .str "arm", .str "planet", .str "ring"] [] (by simp) (by decide) (by decide) (by decide) (by decide) (by simp) (by simp) (by simp) (by simp) (by simp) (by simp)
  have m2 := mesh_ok q2 z2 "arm" "planet" "ring" [.loc 2] [.str "sun", .str "arm", .str "planet", .str "ring"] [.dct [.str "planet", .str "sun", .str "arm"] [pr 1, pr (-q1), pr (q1 - 1)]] (by simp) (by decide) (by decide) (by decide) (by decide) (by simp) (by simp) (by simp) (by simp) (by simp) (by simp)
  rw [← e1] at d1
  rw [← e2] at d2
  rw [ea, ← e2]
  have e3 : - -q1 - 1 = q1 - 1 := by grind
  simp at m1 m2
  have e : F_simple [.p (.int s), .p (.int p)] [] = .ok (.loc 0) [.ins 8 ["arbors", "rows"] [.p (.tup [.str "sun", .str "arm", .str "planet", .str "ring"]), .loc 1], .rl [.loc 2, .loc 3], .dct [.str "planet", .str "sun", .str "arm"] [pr 1, pr (-q1), pr (q1 - 1)], .dct [.str "ring", .str "planet", .str "arm"] [pr 1, pr (-q2), pr (q2 - 1)]] := by
    have hi : F_Set__init [.loc 0, .p (.tup [.str "sun", .str "arm", .str "planet", .str "ring"])] [.ins 8 [] []] = .ok (.p .non) [.ins 8 ["arbors", "rows"] [.p (.tup [.str "sun", .str "arm", .str "planet", .str "ring"]), .loc 1], .rl []] := by kernel_rfl
    simp [F_simple, e_part, d1, d2, hi, m1, m2, oMul_smallL 2 p (by decide)]
  rw [callP_of h rfl e]
  simp only [simP, e3]
  rfl
end K07
namespace K07
open PySem Ar
def un (n : Str) : List Rat := if n = "sun" then [1, 0, 0, 0] else if n = "arm" then [0, 1, 0, 0] else if n = "planet" then [0, 0, 1, 0] else [0, 0, 0, 1]
def isAr (n : Str) : Prop := n = "sun" ∨ n = "arm" ∨ n = "planet" ∨ n = "ring"
def mat (a b : Rat) (told : List (Str × Rat)) : Mq := [a, -a - 1, 1, 0, 0] :: [0, b - 1, -b, 1, 0] :: told.map fun q => un q.1 ++ [q.2]
theorem pu1 : (.tup [.int 1, .int 1] : P) = pr 1 := rfl
theorem tstep (a b : Rat) (x1 x3 x6 x7 x8 x9 : Option D) (n : Str) (v : Rat) (hn : isAr n) (rows : List P) (h : Hs) (hl : rows.length ≤ 100) :
    L_Set_turns_2 [some (.p (simP a b)), x1, some (.loc 0), x3, some (.p (.str n)), some (.p (pr v)), x6, x7, x8, x9] (.lst rows :: h) = .nx [some (.p (simP a b)), x1, some (.loc 0), x3, some (.p (.str n)), some (.p (pr v)), x6, x7, x8, x9] (.lst (rows ++ [rwP (un n ++ [v])]) :: h) := by
  have hl2 : rows.length ≤ 16777215 := by omega
  rcases hn with e | e | e | e <;> subst e <;> simp [L_Set_turns_2, simP, p0, p1, un, rwP, hl2, lcL]
def tks (told : List (Str × Rat)) : List P := told.map fun q => .str q.1
def tvs (told : List (Str × Rat)) : List P := told.map fun q => pr q.2
def tits (told : List (Str × Rat)) : List D := told.map fun q => .p (.tup [.str q.1, pr q.2])
theorem tloop (a b : Rat) (x1 x3 x6 x7 x8 x9 : Option D) (h : Hs) : ∀ (told : List (Str × Rat)) (x4 x5 : Option D) (rows : List P), (∀ q ∈ told, isAr q.1) → rows.length + told.length ≤ 100 → ∃ x4' x5',
    forL (tT2 2 (tsC (tN 4) (tsC (tN 5) tsN))) L_Set_turns_2 (fun _ => true) (tits told) [some (.p (simP a b)), x1, some (.loc 0), x3, x4, x5, x6, x7, x8, x9] (.lst rows :: h) = .nx [some (.p (simP a b)), x1, some (.loc 0), x3, x4', x5', x6, x7, x8, x9] (.lst (rows ++ told.map fun q => rwP (un q.1 ++ [q.2])) :: h)
  | [], x4, x5, rows, _, _ => ⟨x4, x5, by simp [forL, tits]⟩
  | q :: r, x4, x5, rows, hq, hl => by
    have hl' : rows.length + (r.length + 1) ≤ 100 := hl
    obtain ⟨y4, y5, e⟩ := tloop a b x1 x3 x6 x7 x8 x9 h r (some (.p (.str q.1))) (some (.p (pr q.2))) (rows ++ [rwP (un q.1 ++ [q.2])]) (fun z hz => hq z (List.mem_cons_of_mem _ hz)) (by simp; omega)
    refine ⟨y4, y5, ?_⟩
    have s := tstep a b x1 x3 x6 x7 x8 x9 q.1 q.2 (hq q List.mem_cons_self) rows h (by omega)
    rw [show tits (q :: r) = .p (.tup [.str q.1, pr q.2]) :: tits r from rfl]
    rw [forL_nx rfl s, e]
    simp
@[simp] theorem simIns (a b : Rat) (m : Str) (h : Hs) : isIns 8 m (.p (simP a b)) h = !(["arbors", "rows"] : List Str).contains m := rfl
@[simp] theorem simArb (a b : Rat) (h : Hs) : attr 8 "arbors" (.p (simP a b)) h = .ok (.p (.tup [.str "sun", .str "arm", .str "planet", .str "ring"])) h := rfl
@[simp] theorem simRow (a b : Rat) (h : Hs) : attr 8 "rows" (.p (simP a b)) h = .ok (.p (.lst [.dct [.str "planet", .str "sun", .str "arm"] [pr 1, pr a, pr (-a - 1)], .dct [.str "ring", .str "planet", .str "arm"] [pr 1, pr (-b), pr (b - 1)]])) h := rfl
theorem chk (told : List (Str × Rat)) (hq : ∀ q ∈ told, isAr q.1) (hl : told.length ≤ 10) (h : Hs) (a b : Rat) :
    F_Set_check [.p (simP a b), .p (.lst (tks told))] h = .ok (.p .non) h := by
  have t := any_to (t := .nm 2) (fe := (cIn true (cV 2) (cAttr 8 "arbors" (cV 0)))) (h := h) (env := [some (.p (simP a b)), some (.p (.lst (tks told))), none]) (fun q : Str × Rat => P.str q.1) (fun _ => false) told (fun q hm => ⟨_, rfl, by
    rcases hq q hm with e | e | e | e <;> simp [simP, e, eqP]⟩)
  have l : told.length ≤ 16777216 := by omega
  have t2 : told.any (fun _ => false) = false := by simp
  rw [t2] at t
  have t3 : List.map (D.p ∘ fun q : Str × Rat => P.str q.1) told = (told.map fun q => P.str q.1).map D.p := by simp
  simp [F_Set_check, tks, l, t3, -List.map_map]
  simp only [tks] at t
  simp [-List.map_map, t]
theorem tks_len (told : List (Str × Rat)) : (tks told).length = told.length := by simp [tks]
theorem mat_rows (a b : Rat) (told : List (Str × Rat)) : (mat a b told).map rwP = rwP [a, -a - 1, 1, 0, 0] :: rwP [0, b - 1, -b, 1, 0] :: told.map fun q => rwP (un q.1 ++ [q.2]) := by
  simp [mat]
theorem prs_told : ∀ told : List (Str × Rat), prs (tks told) (tvs told) = tits told
  | [] => rfl
  | q :: r => by
    have := prs_told r
    show _ :: prs (tks r) (tvs r) = _
    rw [this]; rfl
theorem rloop (a b : Rat) (x1 : Option D) : forL (tN 3) L_Set_turns_1 (fun _ => true) [D.p (.dct [.str "planet", .str "sun", .str "arm"] [pr 1, pr a, pr (-a - 1)]), D.p (.dct [.str "ring", .str "planet", .str "arm"] [pr 1, pr (-b), pr (b - 1)])] [some (.p (simP a b)), x1, some (.loc 0), none, none, none, none, none, none, none] [.lst []] = .nx [some (.p (simP a b)), x1, some (.loc 0), some (.p (.dct [.str "ring", .str "planet", .str "arm"] [pr 1, pr (-b), pr (b - 1)])), none, none, none, none, none, none] [.lst [rwP [a, -a - 1, 1, 0, 0], rwP [0, b - 1, -b, 1, 0]]] := by
  simp [forL, L_Set_turns_1, p0, rwP, lcL]
theorem turns_locked (a b : Rat) (told : List (Str × Rat)) (hq : ∀ q ∈ told, isAr q.1) (hl : told.length ≤ 10) (R : P) (sp : List P) (h4 : sp.any (fun z => eqP z (.int 4)) = true) (hf : sp.all flatP = true) (hst : ∀ h, callP fStepped [.p (.lst ((mat a b told).map rwP))] h = .ok (.p (.tup [R, .tup sp])) h) (h : Hs) :
    callP F_Set_turns [.p (simP a b), .p (.dct (tks told) (tvs told))] h = .ex 3 [("number", .int 2)] h := by
  have c := fun h => chk told hq hl h a b
  have lk := tks_len told
  have l2 : told.length ≤ 16777216 := by omega
  have r := rloop a b (some (.p (.dct (tks told) (tvs told))))
  obtain ⟨x4, x5, t⟩ := tloop a b (some (.p (.dct (tks told) (tvs told)))) (some (.p (.dct [.str "ring", .str "planet", .str "arm"] [pr 1, pr (-b), pr (b - 1)]))) none none none none [] told none none [rwP [a, -a - 1, 1, 0, 0], rwP [0, b - 1, -b, 1, 0]] hq (by simp; omega)
  rw [mat_rows] at hst
  refine (callP_of h rfl (r := .ex 3 [("number", .int 2)] [O.dead]) ?_).trans rfl
  simp [F_Set_turns, c, lk, l2, r, -List.map_map, e_stepped, prs_told, t, hst, h4, hf]
theorem turns_free (a b : Rat) (told : List (Str × Rat)) (hq : ∀ q ∈ told, isAr q.1) (hl : told.length ≤ 10) (R : P) (sp : List P) (h4 : sp.any (fun z => eqP z (.int 4)) = false) (hf : sp.all flatP = true) (hl4 : sp.length < 4) (hst : ∀ h, callP fStepped [.p (.lst ((mat a b told).map rwP))] h = .ok (.p (.tup [R, .tup sp])) h) (h : Hs) :
    callP F_Set_turns [.p (simP a b), .p (.dct (tks told) (tvs told))] h = .ex 4 [] h := by
  have c := fun h => chk told hq hl h a b
  have lk := tks_len told
  have l2 : told.length ≤ 16777216 := by omega
  have r := rloop a b (some (.p (.dct (tks told) (tvs told))))
  obtain ⟨x4, x5, t⟩ := tloop a b (some (.p (.dct (tks told) (tvs told)))) (some (.p (.dct [.str "ring", .str "planet", .str "arm"] [pr 1, pr (-b), pr (b - 1)]))) none none none none [] told none none [rwP [a, -a - 1, 1, 0, 0], rwP [0, b - 1, -b, 1, 0]] hq (by simp; omega)
  rw [mat_rows] at hst
  refine (callP_of h rfl (r := .ex 4 [] [O.dead]) ?_).trans rfl
  simp [F_Set_turns, c, lk, l2, r, -List.map_map, e_stepped, prs_told, t, hst, h4, hf, (show (sp.length : Int) < 4 by omega)]
theorem turns_sol (a b : Rat) (told : List (Str × Rat)) (hq : ∀ q ∈ told, isAr q.1) (hl : told.length ≤ 10) (y00 y01 y02 y03 y10 y11 y12 y13 y20 y21 y22 y23 y30 y31 y32 y33 : P) (z0 z1 z2 z3 : Rat) (hst : ∀ h, callP fStepped [.p (.lst ((mat a b told).map rwP))] h = .ok (.p (.tup [.tup [.tup [y00, y01, y02, y03, pr z0], .tup [y10, y11, y12, y13, pr z1], .tup [y20, y21, y22, y23, pr z2], .tup [y30, y31, y32, y33, pr z3]], .tup [.int 0, .int 1, .int 2, .int 3]])) h) (h : Hs) :
    callP F_Set_turns [.p (simP a b), .p (.dct (tks told) (tvs told))] h = .ok (.p (.dct [.str "sun", .str "arm", .str "planet", .str "ring"] [pr z0, pr z1, pr z2, pr z3])) h := by
  have c := fun h => chk told hq hl h a b
  have lk := tks_len told
  have l2 : told.length ≤ 16777216 := by omega
  have r := rloop a b (some (.p (.dct (tks told) (tvs told))))
  obtain ⟨x4, x5, t⟩ := tloop a b (some (.p (.dct (tks told) (tvs told)))) (some (.p (.dct [.str "ring", .str "planet", .str "arm"] [pr 1, pr (-b), pr (b - 1)]))) none none none none [] told none none [rwP [a, -a - 1, 1, 0, 0], rwP [0, b - 1, -b, 1, 0]] hq (by simp; omega)
  rw [mat_rows] at hst
  refine (callP_of h rfl (r := .ok (.p (.dct [.str "sun", .str "arm", .str "planet", .str "ring"] [pr z0, pr z1, pr z2, pr z3])) [O.dead]) ?_).trans rfl
  simp [F_Set_turns, c, lk, l2, r, -List.map_map, e_stepped, prs_told, t, hst, eqP, flatP, dcL, lcL, zipPP]
theorem tstepL (g : O) (a b : Rat) (x1 x3 x6 x7 x8 x9 : Option D) (n : Str) (v : Rat) (hn : isAr n) (rows : List P) (h : Hs) (hl : rows.length ≤ 100) :
    L_Set_turns_2 [some (.p (simP a b)), x1, some (.loc 1), x3, some (.p (.str n)), some (.p (pr v)), x6, x7, x8, x9] (g :: .lst rows :: h) = .nx [some (.p (simP a b)), x1, some (.loc 1), x3, some (.p (.str n)), some (.p (pr v)), x6, x7, x8, x9] (g :: .lst (rows ++ [rwP (un n ++ [v])]) :: h) := by
  have hl2 : rows.length ≤ 16777215 := by omega
  rcases hn with e | e | e | e <;> subst e <;> simp [L_Set_turns_2, simP, p0, p1, un, rwP, hl2, lcL]
theorem tloopL (g : O) (a b : Rat) (x1 x3 x6 x7 x8 x9 : Option D) (h : Hs) : ∀ (told : List (Str × Rat)) (x4 x5 : Option D) (rows : List P), (∀ q ∈ told, isAr q.1) → rows.length + told.length ≤ 100 → ∃ x4' x5',
    forL (tT2 2 (tsC (tN 4) (tsC (tN 5) tsN))) L_Set_turns_2 (fun _ => true) (tits told) [some (.p (simP a b)), x1, some (.loc 1), x3, x4, x5, x6, x7, x8, x9] (g :: .lst rows :: h) = .nx [some (.p (simP a b)), x1, some (.loc 1), x3, x4', x5', x6, x7, x8, x9] (g :: .lst (rows ++ told.map fun q => rwP (un q.1 ++ [q.2])) :: h)
  | [], x4, x5, rows, _, _ => ⟨x4, x5, by simp [forL, tits]⟩
  | q :: r, x4, x5, rows, hq, hl => by
    have hl' : rows.length + (r.length + 1) ≤ 100 := hl
    obtain ⟨y4, y5, e⟩ := tloopL g a b x1 x3 x6 x7 x8 x9 h r (some (.p (.str q.1))) (some (.p (pr q.2))) (rows ++ [rwP (un q.1 ++ [q.2])]) (fun z hz => hq z (List.mem_cons_of_mem _ hz)) (by simp; omega)
    refine ⟨y4, y5, ?_⟩
    have s := tstepL g a b x1 x3 x6 x7 x8 x9 q.1 q.2 (hq q List.mem_cons_self) rows h (by omega)
    rw [show tits (q :: r) = .p (.tup [.str q.1, pr q.2]) :: tits r from rfl]
    rw [forL_nx rfl s, e]
    simp
theorem rloopL (g : O) (a b : Rat) (x1 : Option D) : forL (tN 3) L_Set_turns_1 (fun _ => true) [D.p (.dct [.str "planet", .str "sun", .str "arm"] [pr 1, pr a, pr (-a - 1)]), D.p (.dct [.str "ring", .str "planet", .str "arm"] [pr 1, pr (-b), pr (b - 1)])] [some (.p (simP a b)), x1, some (.loc 1), none, none, none, none, none, none, none] [g, .lst []] = .nx [some (.p (simP a b)), x1, some (.loc 1), some (.p (.dct [.str "ring", .str "planet", .str "arm"] [pr 1, pr (-b), pr (b - 1)])), none, none, none, none, none, none] [g, .lst [rwP [a, -a - 1, 1, 0, 0], rwP [0, b - 1, -b, 1, 0]]] := by
  simp [forL, L_Set_turns_1, p0, rwP, lcL]
theorem turns_solL (a b : Rat) (told : List (Str × Rat)) (hq : ∀ q ∈ told, isAr q.1) (hl : told.length ≤ 10) (y00 y01 y02 y03 y10 y11 y12 y13 y20 y21 y22 y23 y30 y31 y32 y33 : P) (z0 z1 z2 z3 : Rat) (hst : ∀ h, callP fStepped [.p (.lst ((mat a b told).map rwP))] h = .ok (.p (.tup [.tup [.tup [y00, y01, y02, y03, pr z0], .tup [y10, y11, y12, y13, pr z1], .tup [y20, y21, y22, y23, pr z2], .tup [y30, y31, y32, y33, pr z3]], .tup [.int 0, .int 1, .int 2, .int 3]])) h) :
    F_Set_turns [.p (simP a b), .loc 0] [.dct (tks told) (tvs told)] = .ok (.p (.dct [.str "sun", .str "arm", .str "planet", .str "ring"] [pr z0, pr z1, pr z2, pr z3])) [.dead, .dead] := by
  have c := fun h => chk told hq hl h a b
  have lk := tks_len told
  have l2 : told.length ≤ 16777216 := by omega
  have r := rloopL (.dct (tks told) (tvs told)) a b (some (.loc 0))
  obtain ⟨x4, x5, t⟩ := tloopL .dead a b (some (.p (.dct (tks told) (tvs told)))) (some (.p (.dct [.str "ring", .str "planet", .str "arm"] [pr 1, pr (-b), pr (b - 1)]))) none none none none [] told none none [rwP [a, -a - 1, 1, 0, 0], rwP [0, b - 1, -b, 1, 0]] hq (by simp; omega)
  rw [mat_rows] at hst
  have fz := fun (x0 x2 x3 x4 x5 x6 x7 x8 x9 : Option D) (r : O) => frzV_e 1 [x0, some (.loc 0), x2, x3, x4, x5, x6, x7, x8, x9] [.dct (tks told) (tvs told), r] (tks told) (tvs told) 0 rfl rfl
  simp [F_Set_turns, fz, c, lk, l2, r, -List.map_map, e_stepped, prs_told, t, hst, eqP, flatP, dcL, lcL, zipPP]
end K07
namespace K07
open PySem Ar
/-! ### sizes -/
def denP : List Rat → Nat
  | [] => 1
  | x :: r => x.den * denP r
theorem den_pos : ∀ xs : List Rat, 0 < denP xs
  | [] => by decide
  | x :: r => Nat.mul_pos x.den_pos (den_pos r)
theorem den_dvd {x : Rat} : ∀ {xs : List Rat}, x ∈ xs → ∃ k, denP xs = x.den * k
  | y :: r, h => by
    rcases List.mem_cons.mp h with e | h
    · subst e; exact ⟨_, rfl⟩
    · obtain ⟨k, e⟩ := den_dvd h
      exact ⟨y.den * k, by show y.den * denP r = _; rw [e]; simp [Nat.mul_left_comm]⟩
theorem den_app : ∀ xs ys : List Rat, denP (xs ++ ys) = denP xs * denP ys
  | [], ys => by simp [denP]
  | x :: r, ys => by show x.den * denP (r ++ ys) = x.den * denP r * denP ys; rw [den_app r ys, Nat.mul_assoc]
theorem cd_den {M : Mq} {n k : Nat} (hn : ∀ x ∈ M.flatten, x.num.natAbs < 2 ^ n) (hd : denP M.flatten < 2 ^ k) : Cd (denP M.flatten : Nat) (2 ^ (n + k)) M := by
  have hp := den_pos M.flatten
  have hpow : 2 ^ k ≤ 2 ^ (n + k) := Nat.pow_le_pow_right (by decide) (by omega)
  refine ⟨by omega, by omega, fun i hi c hc => ?_⟩
  have hm : en M i c ∈ M.flatten := List.mem_flatten.mpr ⟨row' M i, row_mem hi, at_mem hc⟩
  obtain ⟨j, e⟩ := den_dvd hm
  have j0 : 0 < j := by
    rcases Nat.eq_zero_or_pos j with z | z
    · rw [z] at e; omega
    · exact z
  have ad := as_div (en M i c)
  generalize en M i c = q at *
  refine ⟨q.num * j, ?_, ?_⟩
  · rw [e]
    have d0 : ((q.den : Nat) : Rat) ≠ 0 := by
      have := q.den_pos
      exact fun z => by have := (Rat.natCast_eq_zero_iff).mp z; omega
    have j1 : ((j : Nat) : Rat) ≠ 0 := fun z => by have := (Rat.natCast_eq_zero_iff).mp z; omega
    rw [ad]
    rw [Rat.intCast_mul]
    simp only [Rat.intCast_natCast, Rat.natCast_mul] at *
    grind
  · rw [Int.natAbs_mul, Nat.pow_add, Int.natAbs_natCast]
    have : j ≤ denP M.flatten := by rw [e]; exact Nat.le_mul_of_pos_left _ q.den_pos
    exact Nat.mul_le_mul (by have := hn q hm; omega) (by omega)
theorem den_lt {x : Rat} {n m : Nat} [h : BdQ x n] {r : List Rat} (k : denP r < 2 ^ m) : denP (x :: r) < 2 ^ (n + m) := by
  show x.den * denP r < _
  rw [Nat.pow_add]
  have := h.den
  have := x.den_pos
  exact Nat.lt_of_le_of_lt (Nat.mul_le_mul_right _ (by omega : x.den ≤ 2 ^ n)) (Nat.mul_lt_mul_of_pos_left k (Nat.pow_pos (by decide)))
theorem den_int {r : List Rat} {x : Rat} (h : x.den = 1) : denP (x :: r) = denP r := by show x.den * denP r = _; rw [h, Nat.one_mul]
theorem un_int (n : Str) : ∀ x ∈ un n, x = 0 ∨ x = 1 := by
  unfold un; intro x hx
  split at hx
  · simp at hx; rcases hx with h | h <;> simp [h]
  · split at hx
    · simp at hx; rcases hx with h | h | h <;> simp [h]
    · split at hx
      · simp at hx; rcases hx with h | h | h <;> simp [h]
      · simp at hx; rcases hx with h | h <;> simp [h]
theorem un_den (n : Str) : denP (un n) = 1 := by
  unfold un; split
  · decide
  · split
    · decide
    · split <;> decide
theorem told_den : ∀ told : List (Str × Rat), (∀ q ∈ told, BdQ q.2 7) → denP (told.map fun q => un q.1 ++ [q.2]).flatten < 2 ^ (7 * told.length + 1)
  | [], _ => by decide
  | q :: r, h => by
    have ih := told_den r fun z hz => h z (List.mem_cons_of_mem _ hz)
    haveI := h q List.mem_cons_self
    show denP ((un q.1 ++ [q.2]) ++ _) < _
    rw [List.append_assoc, den_app, un_den, Nat.one_mul]
    have := den_lt (x := q.2) (n := 7) ih
    rw [show 7 * (q :: r).length + 1 = 7 + (7 * r.length + 1) by simp; omega]
    exact this
theorem mat_cd {a b : Rat} [ba : BdQ a 7] [bb : BdQ b 7] {told : List (Str × Rat)} (hl : told.length ≤ 3) (hv : ∀ q ∈ told, BdQ q.2 7) : ∃ D, Cd D (2 ^ 70) (mat a b told) := by
  haveI b1 : BdQ (-a - 1) 11 := (inferInstance : BdQ (-a - 1) _).mono (by decide)
  haveI b2 : BdQ (b - 1) 11 := (inferInstance : BdQ (b - 1) _).mono (by decide)
  have td := told_den told hv
  have d : denP (mat a b told).flatten < 2 ^ (7 + (11 + (11 + (7 + (7 * told.length + 1))))) := by
    show denP ([a, -a - 1, 1, 0, 0] ++ ([0, b - 1, -b, 1, 0] ++ _)) < _
    simp only [List.cons_append, List.nil_append]
    refine den_lt (den_lt ?_)
    rw [den_int (x := 1) rfl, den_int (x := 0) rfl, den_int (x := 0) rfl, den_int (x := 0) rfl]
    refine den_lt (den_lt ?_)
    rw [den_int (x := 1) rfl, den_int (x := 0) rfl]
    exact td
  have n : ∀ x ∈ (mat a b told).flatten, x.num.natAbs < 2 ^ 11 := by
    intro x hx
    have hx : x ∈ [a, -a - 1, 1, 0, 0] ++ ([0, b - 1, -b, 1, 0] ++ (told.map fun q => un q.1 ++ [q.2]).flatten) := hx
    have l7 : ∀ {z : Rat}, BdQ z 7 → z.num.natAbs < 2 ^ 11 := fun h => Nat.lt_trans h.num (by decide)
    simp only [List.mem_append, List.mem_cons, List.not_mem_nil, or_false, List.mem_flatten, List.mem_map] at hx
    rcases hx with (h | h | h | h | h) | (h | h | h | h | h) | ⟨l, ⟨q, hq, e⟩, hx⟩
    · rw [h]; exact l7 ba
    · rw [h]; exact b1.num
    · rw [h]; decide
    · rw [h]; decide
    · rw [h]; decide
    · rw [h]; decide
    · rw [h]; exact b2.num
    · rw [h]; exact l7 inferInstance
    · rw [h]; decide
    · rw [h]; decide
    · rw [← e] at hx
      rcases List.mem_append.mp hx with hx | hx
      · rcases un_int _ _ hx with e | e <;> rw [e] <;> decide
      · rw [List.mem_singleton.mp hx]; exact l7 (hv q hq)
  have c := cd_den n d
  exact ⟨_, c.mono (Nat.pow_le_pow_right (by decide) (by omega))⟩
theorem mat_wd (a b : Rat) (told : List (Str × Rat)) : Wd 5 (mat a b told) := by
  intro r hr
  unfold mat at hr
  rcases List.mem_cons.mp hr with h | hr
  · rw [h]; rfl
  · rcases List.mem_cons.mp hr with h | hr
    · rw [h]; rfl
    · obtain ⟨q, _, e⟩ := List.mem_map.mp hr
      rw [← e]
      unfold un
      split
      · rfl
      · split
        · rfl
        · split <;> rfl
theorem mat_len (a b : Rat) (told : List (Str × Rat)) : (mat a b told).length = told.length + 2 := by simp [mat]
theorem mat_stepped {a b : Rat} [ba : BdQ a 7] [bb : BdQ b 7] {told : List (Str × Rat)} (hl : told.length ≤ 3) (hv : ∀ q ∈ told, BdQ q.2 7) (h : Hs) : callP fStepped [.p (.lst ((mat a b told).map rwP))] h = .ok (.p (outP (stAt (mat a b told) 5))) h := by
  obtain ⟨D, c⟩ := mat_cd (a := a) (b := b) hl hv
  have ml := mat_len a b told
  have bt : bitsT 70 (mat a b told).length < 2272 := Nat.lt_of_le_of_lt (bits_mono 70 (show (mat a b told).length ≤ 5 by omega)) (by decide)
  exact stepped_ok (mat_wd a b told) (n := 2272) (by decide) (by omega) (by decide) (by simp [mat]) (bm_at (mat_wd a b told) c bt) h
/-! ### what the rows say -/
def vl (n : Str) (x : Nat → Rat) : Rat := if n = "sun" then x 0 else if n = "arm" then x 1 else if n = "planet" then x 2 else x 3
theorem un_dot (n : Str) (v : Rat) (x : Nat → Rat) : dot (at' (un n ++ [v])) x 5 = vl n x + v * x 4 := by
  unfold un vl
  split
  · simp [dot, at']; grind
  · split
    · simp [dot, at']; grind
    · split <;> simp [dot, at'] <;> grind
theorem sol_iff (a b : Rat) (told : List (Str × Rat)) (x : Nat → Rat) : (∀ i, i < (mat a b told).length → dot (en (mat a b told) i) x 5 = 0) ↔ (a * x 0 + (-a - 1) * x 1 + x 2 = 0 ∧ (b - 1) * x 1 - b * x 2 + x 3 = 0 ∧ ∀ q ∈ told, vl q.1 x + q.2 * x 4 = 0) := by
  have r0 : dot (en (mat a b told) 0) x 5 = a * x 0 + (-a - 1) * x 1 + x 2 := by
    show dot (at' [a, -a - 1, 1, 0, 0]) x 5 = _
    simp [dot, at']; grind
  have r1 : dot (en (mat a b told) 1) x 5 = (b - 1) * x 1 - b * x 2 + x 3 := by
    show dot (at' [0, b - 1, -b, 1, 0]) x 5 = _
    simp [dot, at']; grind
  have r2 : ∀ i (hi : i < told.length), dot (en (mat a b told) (i + 2)) x 5 = vl told[i].1 x + told[i].2 * x 4 := fun i hi => by
    rw [← un_dot]
    have : row' (mat a b told) (i + 2) = un told[i].1 ++ [told[i].2] := by
      unfold row' mat
      simp [hi]
    show dot (at' (row' (mat a b told) (i + 2))) x 5 = _
    rw [this]
  rw [mat_len]
  constructor
  · intro h
    refine ⟨by rw [← r0]; exact h 0 (by omega), by rw [← r1]; exact h 1 (by omega), fun q hq => ?_⟩
    obtain ⟨i, hi, e⟩ := List.mem_iff_getElem.mp hq
    rw [← e, ← r2 i hi]
    exact h (i + 2) (by omega)
  · rintro ⟨h0, h1, h2⟩ i hi
    match i, hi with
    | 0, _ => rw [r0]; exact h0
    | 1, _ => rw [r1]; exact h1
    | i + 2, hi => rw [r2 i (by omega)]; exact h2 _ (List.getElem_mem _)
def xs (a b su ar : Rat) : Nat → Rat
  | 0 => su
  | 1 => ar
  | 2 => (a + 1) * ar - a * su
  | 3 => ar + b * a * (ar - su)
  | _ => -1
theorem turns2_st {a b : Rat} [ba : BdQ a 7] [bb : BdQ b 7] (n1 n2 : Str) (v1 v2 su ar : Rat) [w1 : BdQ v1 7] [w2 : BdQ v2 7] (i1 : isAr n1) (i2 : isAr n2) (e1 : vl n1 (xs a b su ar) = v1) (e2 : vl n2 (xs a b su ar) = v2) (hu : ∀ s' a', vl n1 (xs a b s' a') = 0 → vl n2 (xs a b s' a') = 0 → s' = 0 ∧ a' = 0)  :
    ∃ y00 y01 y02 y03 y10 y11 y12 y13 y20 y21 y22 y23 y30 y31 y32 y33 : P, ∀ h, callP fStepped [.p (.lst ((mat a b [(n1, v1), (n2, v2)]).map rwP))] h = .ok (.p (.tup [.tup [.tup [y00, y01, y02, y03, pr su], .tup [y10, y11, y12, y13, pr ar], .tup [y20, y21, y22, y23, pr ((a + 1) * ar - a * su)], .tup [y30, y31, y32, y33, pr (ar + b * a * (ar - su))]], .tup [.int 0, .int 1, .int 2, .int 3]])) h := by
  have hv : ∀ q ∈ [(n1, v1), (n2, v2)], BdQ q.2 7 := fun q hq => by
    rcases List.mem_cons.mp hq with e | hq
    · subst e; exact w1
    · rw [List.mem_singleton.mp hq]; exact w2
  have hq : ∀ q ∈ [(n1, v1), (n2, v2)], isAr q.1 := fun q hq => by
    rcases List.mem_cons.mp hq with e | hq
    · subst e; exact i1
    · rw [List.mem_singleton.mp hq]; exact i2
  have st := fun h => mat_stepped (a := a) (b := b) (told := [(n1, v1), (n2, v2)]) (by simp) hv h
  obtain ⟨M, hM⟩ : ∃ M, M = mat a b [(n1, v1), (n2, v2)] := ⟨_, rfl⟩
  have hw : Wd 5 M := by rw [hM]; exact mat_wd _ _ _
  have ml : M.length = 4 := by rw [hM]; rfl
  have L := lin_at M hw 5 (Nat.le_refl _)
  have sf := sol_iff a b [(n1, v1), (n2, v2)]
  rw [← hM] at st sf
  obtain ⟨k1, k2, k3⟩ := L.solved (n := 4) (x := xs a b su ar) rfl ((sf _).mpr ⟨by simp only [xs]; grind, by simp only [xs]; grind, fun q hq => by
    have x4 : xs a b su ar 4 = -1 := rfl
    rcases List.mem_cons.mp hq with e | hq
    · subst e; show vl n1 _ + v1 * _ = 0; rw [e1, x4]; grind
    · rw [List.mem_singleton.mp hq]; show vl n2 _ + v2 * _ = 0; rw [e2, x4]; grind⟩) (fun v v4 hs => by
    obtain ⟨g1, g2, g3⟩ := (sf v).mp hs
    have ev : ∀ c, c < 4 → v c = xs a b (v 0) (v 1) c := fun c hc => by
      match c, hc with
      | 0, _ => rfl
      | 1, _ => rfl
      | 2, _ => simp only [xs]; grind
      | 3, _ => simp only [xs]; grind
    have vle : ∀ n, vl n v = vl n (xs a b (v 0) (v 1)) := fun n => by
      unfold vl
      rw [ev 2 (by omega), ev 3 (by omega)]
      rfl
    have t1 := g3 (n1, v1) (by simp)
    have t2 := g3 (n2, v2) (by simp)
    rw [v4] at t1 t2
    have t1 : vl n1 v = 0 := by grind
    have t2 : vl n2 v = 0 := by grind
    obtain ⟨z0, z1⟩ := hu (v 0) (v 1) (by rw [← vle]; exact t1) (by rw [← vle]; exact t2)
    intro c hc
    rw [ev c hc, z0, z1]
    match c, hc with
    | 0, _ => rfl
    | 1, _ => rfl
    | 2, _ => simp only [xs]; grind
    | 3, _ => simp only [xs]; grind)
  obtain ⟨S, hS⟩ : ∃ S, S = stAt M 5 := ⟨_, rfl⟩
  rw [← hS] at st k1 k2 k3 L
  have sl : S.M.length = 4 := by rw [L.len, ml]
  have row : ∀ i, i < 4 → ∃ y0 y1 y2 y3, row' S.M i = [y0, y1, y2, y3, xs a b su ar i] := fun i hi => by
    have l5 := L.wd _ (row_mem (M := S.M) (j := i) (by omega))
    have k := k3 i hi
    have k : at' (row' S.M i) 4 = xs a b su ar i := k
    match row' S.M i, l5, k with
    | [y0, y1, y2, y3, y4], _, k => exact ⟨y0, y1, y2, y3, by rw [← k]; rfl⟩
  obtain ⟨a0, a1, a2, a3, ea⟩ := row 0 (by omega)
  obtain ⟨c0, c1, c2, c3, ec⟩ := row 1 (by omega)
  obtain ⟨d0, d1, d2, d3, ed⟩ := row 2 (by omega)
  obtain ⟨f0, f1, f2, f3, ef⟩ := row 3 (by omega)
  have sM : S.M = [row' S.M 0, row' S.M 1, row' S.M 2, row' S.M 3] := by
    match S.M, sl with
    | [_, _, _, _], _ => rfl
  rw [ea, ec, ed, ef] at sM
  have ho : outP S = .tup [.tup [.tup [pr a0, pr a1, pr a2, pr a3, pr su], .tup [pr c0, pr c1, pr c2, pr c3, pr ar], .tup [pr d0, pr d1, pr d2, pr d3, pr ((a + 1) * ar - a * su)], .tup [pr f0, pr f1, pr f2, pr f3, pr (ar + b * a * (ar - su))]], .tup [.int 0, .int 1, .int 2, .int 3]] := by
    unfold outP
    rw [k1, k2, sM]
    rfl
  rw [ho, hM] at st
  exact ⟨_, _, _, _, _, _, _, _, _, _, _, _, _, _, _, _, st⟩
theorem turns2 {a b : Rat} [ba : BdQ a 7] [bb : BdQ b 7] (n1 n2 : Str) (v1 v2 su ar : Rat) [w1 : BdQ v1 7] [w2 : BdQ v2 7] (i1 : isAr n1) (i2 : isAr n2) (e1 : vl n1 (xs a b su ar) = v1) (e2 : vl n2 (xs a b su ar) = v2) (hu : ∀ s' a', vl n1 (xs a b s' a') = 0 → vl n2 (xs a b s' a') = 0 → s' = 0 ∧ a' = 0) (h : Hs) :
    callP F_Set_turns [.p (simP a b), .p (.dct [.str n1, .str n2] [pr v1, pr v2])] h = .ok (.p (.dct [.str "sun", .str "arm", .str "planet", .str "ring"] [pr su, pr ar, pr ((a + 1) * ar - a * su), pr (ar + b * a * (ar - su))])) h := by
  have hq : ∀ q ∈ [(n1, v1), (n2, v2)], isAr q.1 := fun q hq => by
    rcases List.mem_cons.mp hq with e | hq
    · subst e; exact i1
    · rw [List.mem_singleton.mp hq]; exact i2
  obtain ⟨y00, y01, y02, y03, y10, y11, y12, y13, y20, y21, y22, y23, y30, y31, y32, y33, st⟩ := turns2_st n1 n2 v1 v2 su ar i1 i2 e1 e2 hu
  exact turns_sol a b [(n1, v1), (n2, v2)] hq (by simp) _ _ _ _ _ _ _ _ _ _ _ _ _ _ _ _ _ _ _ _ st h
theorem turns2L {a b : Rat} [ba : BdQ a 7] [bb : BdQ b 7] (n1 n2 : Str) (v1 v2 su ar : Rat) [w1 : BdQ v1 7] [w2 : BdQ v2 7] (i1 : isAr n1) (i2 : isAr n2) (e1 : vl n1 (xs a b su ar) = v1) (e2 : vl n2 (xs a b su ar) = v2) (hu : ∀ s' a', vl n1 (xs a b s' a') = 0 → vl n2 (xs a b s' a') = 0 → s' = 0 ∧ a' = 0) :
    F_Set_turns [.p (simP a b), .loc 0] [.dct [.str n1, .str n2] [pr v1, pr v2]] = .ok (.p (.dct [.str "sun", .str "arm", .str "planet", .str "ring"] [pr su, pr ar, pr ((a + 1) * ar - a * su), pr (ar + b * a * (ar - su))])) [.dead, .dead] := by
  have hq : ∀ q ∈ [(n1, v1), (n2, v2)], isAr q.1 := fun q hq => by
    rcases List.mem_cons.mp hq with e | hq
    · subst e; exact i1
    · rw [List.mem_singleton.mp hq]; exact i2
  obtain ⟨y00, y01, y02, y03, y10, y11, y12, y13, y20, y21, y22, y23, y30, y31, y32, y33, st⟩ := turns2_st n1 n2 v1 v2 su ar i1 i2 e1 e2 hu
  exact turns_solL a b [(n1, v1), (n2, v2)] hq (by simp) _ _ _ _ _ _ _ _ _ _ _ _ _ _ _ _ _ _ _ _ st
end K07
namespace K07
open PySem Ar
def vd (n : Str) (a b su ar : Rat) : Rat := vl n (xs a b su ar)
theorem ratio_ok {a b : Rat} [ba : BdQ a 7] [bb : BdQ b 7] (held into out : Str) (su ar : Rat) (i1 : isAr held) (i2 : isAr into) (i3 : isAr out) (ne : ¬ held = into) (e1 : vl held (xs a b su ar) = 0) (e2 : vl into (xs a b su ar) = 1) (hu : ∀ s' a', vl held (xs a b s' a') = 0 → vl into (xs a b s' a') = 0 → s' = 0 ∧ a' = 0) (h : Hs) :
    callP F_Set_ratio [.p (simP a b), .p (.str into), .p (.str out), .p (.tup [.str held])] h = .ok (.p (pr (vl out (xs a b su ar)))) h := by
  haveI : BdQ (0 : Rat) 7 := (inferInstance : BdQ (0 : Rat) 3).mono (by decide)
  haveI : BdQ (1 : Rat) 7 := (inferInstance : BdQ (1 : Rat) 3).mono (by decide)
  have t := turns2L held into 0 1 su ar i1 i2 e1 e2 hu
  refine (callP_of h rfl (r := .ok (.p (pr (vl out (xs a b su ar)))) [.dead, .dead]) ?_).trans rfl
  rcases i3 with e | e | e | e <;> subst e <;> simp [F_Set_ratio, dcL, p0, pu1, ne, t, vl, xs]
theorem locked_ok {a b : Rat} [ba : BdQ a 7] [bb : BdQ b 7] (ab : ¬ a * b = -1) (h : Hs) :
    callP F_Set_turns [.p (simP a b), .p (.dct [.str "sun", .str "arm", .str "ring"] [pr 1, pr 0, pr 1])] h = .ex 3 [("number", .int 2)] h := by
  have hv : ∀ q ∈ [(("sun" : Str), (1 : Rat)), ("arm", 0), ("ring", 1)], BdQ q.2 7 := fun q hq => by
    simp only [List.mem_cons, List.not_mem_nil, or_false] at hq
    rcases hq with e | e | e <;> subst e
    · exact (inferInstance : BdQ (1 : Rat) 3).mono (by decide)
    · exact (inferInstance : BdQ (0 : Rat) 3).mono (by decide)
    · exact (inferInstance : BdQ (1 : Rat) 3).mono (by decide)
  have hq : ∀ q ∈ [(("sun" : Str), (1 : Rat)), ("arm", 0), ("ring", 1)], isAr q.1 := fun q hq => by
    simp only [List.mem_cons, List.not_mem_nil, or_false] at hq
    rcases hq with e | e | e <;> subst e
    · exact .inl rfl
    · exact .inr (.inl rfl)
    · exact .inr (.inr (.inr rfl))
  have st := fun h => mat_stepped (a := a) (b := b) (told := [(("sun" : Str), (1 : Rat)), ("arm", 0), ("ring", 1)]) (by decide) hv h
  obtain ⟨M, hM⟩ : ∃ M, M = mat a b [("sun", 1), ("arm", 0), ("ring", 1)] := ⟨_, rfl⟩
  have hw : Wd 5 M := by rw [hM]; exact mat_wd _ _ _
  have L := lin_at M hw 5 (Nat.le_refl _)
  have sf := sol_iff a b [("sun", 1), ("arm", 0), ("ring", 1)]
  rw [← hM] at st sf
  have F := L.locked (n := 4) (fun ⟨x, x4, hx⟩ => by
    obtain ⟨g1, g2, g3⟩ := (sf x).mp hx
    have t1 := g3 ("sun", 1) (by simp)
    have t2 := g3 ("arm", 0) (by simp)
    have t3 := g3 ("ring", 1) (by simp)
    rw [x4] at t1 t2 t3
    simp [vl] at t1 t2 t3
    have u1 : x 0 = 1 := by grind
    have u2 : x 1 = 0 := by grind
    have u3 : x 3 = 1 := by grind
    rw [u1, u2] at g1
    rw [u2, u3] at g2
    have u4 : x 2 = -a := by grind
    rw [u4] at g2
    exact ab (by grind))
  have n4 : ∀ l : List Nat, 4 ∈ l → (spP l).any (fun z => eqP z (.int 4)) = true := fun l hl => by
    simp [spP, eqP]
    exact ⟨4, hl, rfl⟩
  have fl : ∀ l : List Nat, (spP l).all flatP = true := fun l => by simp [spP, flatP]
  rw [hM] at st
  exact turns_locked a b _ hq (by decide) _ _ (n4 _ (by rw [hM] at F; exact F)) (fl _) st h
/-- two free ways -/
theorem ways_ok {a b : Rat} [ba : BdQ a 7] [bb : BdQ b 7] (a0 : ¬ a = 0) (b1 : ¬ b = 1) (h : Hs) : callP F_Set_free_ways [.p (simP a b)] h = .ok (.p (.int 2)) h := by
  obtain ⟨M, hM⟩ : ∃ M : Mq, M = [[a, -a - 1, 1, 0], [0, b - 1, -b, 1]] := ⟨_, rfl⟩
  have hw : Wd 4 M := by rw [hM]; intro r hr; simp at hr; rcases hr with e | e <;> rw [e] <;> rfl
  have L := lin_at M hw 4 (Nat.le_refl _)
  haveI i1 : BdQ (-a - 1) 11 := (inferInstance : BdQ (-a - 1) _).mono (by decide)
  haveI i2 : BdQ (b - 1) 11 := (inferInstance : BdQ (b - 1) _).mono (by decide)
  have l7 : ∀ {z : Rat}, BdQ z 7 → z.num.natAbs < 2 ^ 11 := fun h => Nat.lt_trans h.num (by decide)
  have d : denP M.flatten < 2 ^ (7 + (11 + (11 + (7 + 1)))) := by
    rw [hM]
    show denP ([a, -a - 1, 1, 0] ++ ([0, b - 1, -b, 1] ++ [])) < _
    simp only [List.cons_append, List.nil_append]
    refine den_lt (den_lt ?_)
    rw [den_int (x := 1) rfl, den_int (x := 0) rfl, den_int (x := 0) rfl]
    refine den_lt (den_lt ?_)
    rw [den_int (x := 1) rfl]
    decide
  have n : ∀ x ∈ M.flatten, x.num.natAbs < 2 ^ 11 := by
    intro x hx
    rw [hM] at hx
    simp only [List.flatten_cons, List.flatten_nil, List.mem_append, List.mem_cons, List.not_mem_nil, or_false] at hx
    rcases hx with (h | h | h | h) | (h | h | h | h)
    · rw [h]; exact l7 ba
    · rw [h]; exact i1.num
    · rw [h]; decide
    · rw [h]; decide
    · rw [h]; decide
    · rw [h]; exact i2.num
    · rw [h]; exact l7 inferInstance
    · rw [h]; decide
  have c := cd_den n d
  have ml : M.length = 2 := by rw [hM]; rfl
  have bt : bitsT (11 + (7 + (11 + (11 + (7 + 1))))) M.length < 2272 := by rw [ml]; decide
  have st := fun h => stepped_ok hw (n := 2272) (by decide) (by omega) (by decide) (by rw [hM]; simp) (bm_at hw c bt) h
  have two : (stAt M 4).sp.length = 2 := by
    have le : (stAt M 4).sp.length ≤ 2 := by rw [L.spl]; have := L.le; omega
    by_cases q : (stAt M 4).sp.length = 2
    · exact q
    · exfalso
      have hh : (stAt M 4).here ≤ 1 := by rw [← L.spl]; omega
      have bel := L.below 1 hh (by omega)
      have sol := L.sol
      have e0 : ∀ x : Nat → Rat, dot (en M 0) x 4 = a * x 0 + (-a - 1) * x 1 + x 2 := fun x => by
        rw [hM]
        show dot (at' [a, -a - 1, 1, 0]) x 4 = _
        simp [dot, at']; grind
      have e1 : ∀ x : Nat → Rat, dot (en M 1) x 4 = (b - 1) * x 1 - b * x 2 + x 3 := fun x => by
        rw [hM]
        show dot (at' [0, b - 1, -b, 1]) x 4 = _
        simp [dot, at']; grind
      have ker : ∀ x : Nat → Rat, dot (en (stAt M 4).M 0) x 4 = 0 → dot (en M 0) x 4 = 0 ∧ dot (en M 1) x 4 = 0 := fun x hx => by
        have k := (sol x).mp (fun i hi => by
          match i, hi with
          | 0, _ => exact hx
          | 1, _ => exact dot_zero fun c hc => by rw [bel c hc]; grind
          | i + 2, hi => omega)
        exact ⟨k 0 (by omega), k 1 (by omega)⟩
      obtain ⟨f, hf⟩ : ∃ f, f = en (stAt M 4).M 0 := ⟨_, rfl⟩
      rw [← hf] at ker
      obtain ⟨k0, k1⟩ := ker (fun c => if c = 0 then f 1 else if c = 1 then -(f 0) else 0) (by simp [dot]; grind)
      rw [e0] at k0
      rw [e1] at k1
      simp at k0 k1
      have z0 : f 0 = 0 := by grind
      have z1 : f 1 = 0 := by grind
      obtain ⟨m0, m1⟩ := ker (fun c => if c = 0 then 1 else 0) (by simp [dot]; grind)
      rw [e0] at m0
      simp at m0
      exact a0 (by grind)
  have ho : outP (stAt M 4) = .tup [.tup (((stAt M 4).M.take (stAt M 4).here).map rwT), .tup (spP (stAt M 4).sp)] := rfl
  have lsp : (spP (stAt M 4).sp).length = 2 := by rw [← two]; simp [spP]
  generalize spP (stAt M 4).sp = sp at ho lsp
  generalize List.map rwT _ = R at ho
  rw [ho, hM] at st
  simp [rwP] at st
  have rk : ∀ h, callP F_rank [.p (.lst [.lst [pr a, pr (-a - 1), pr 1, pr 0], .lst [pr 0, pr (b - 1), pr (-b), pr 1]])] h = .ok (.p (.int 2)) h := fun h => by
    refine (callP_of h rfl (r := .ok (.p (.int 2)) []) ?_).trans rfl
    simp [F_rank, e_stepped, st, lsp]
  refine (callP_of h rfl (r := .ok (.p (.int 2)) []) ?_).trans rfl
  simp [F_Set_free_ways, F_Set_square, lcL, p0, rk]
theorem free_ok {a b : Rat} [ba : BdQ a 7] [bb : BdQ b 7] (h : Hs) :
    callP F_Set_turns [.p (simP a b), .p (.dct [.str "sun"] [pr 1])] h = .ex 4 [] h := by
  have hv : ∀ q ∈ [(("sun" : Str), (1 : Rat))], BdQ q.2 7 := fun q hq => by rw [List.mem_singleton.mp hq]; exact (inferInstance : BdQ (1 : Rat) 3).mono (by decide)
  have hq : ∀ q ∈ [(("sun" : Str), (1 : Rat))], isAr q.1 := fun q hq => by rw [List.mem_singleton.mp hq]; exact .inl rfl
  have st := fun h => mat_stepped (a := a) (b := b) (told := [(("sun" : Str), (1 : Rat))]) (by decide) hv h
  obtain ⟨M, hM⟩ : ∃ M, M = mat a b [("sun", 1)] := ⟨_, rfl⟩
  have hw : Wd 5 M := by rw [hM]; exact mat_wd _ _ _
  have L := lin_at M hw 5 (Nat.le_refl _)
  have sf := sol_iff a b [("sun", 1)]
  rw [← hM] at st sf
  have F := L.free (n := 4) (x := xs a b 1 0) (v := fun c => if c = 4 then 0 else xs a b 0 1 c) rfl ((sf _).mpr ⟨by simp only [xs]; grind, by simp only [xs]; grind, fun q hq => by
    rw [List.mem_singleton.mp hq]; simp [vl, xs]; grind⟩) rfl ((sf _).mpr ⟨by simp [xs]; grind, by simp [xs]; grind, fun q hq => by
    rw [List.mem_singleton.mp hq]; simp [vl, xs]; grind⟩) (c := 1) (by omega) (by simp [xs])
  obtain ⟨f1, f2⟩ := F
  have n4 : ∀ l : List Nat, 4 ∉ l → (spP l).any (fun z => eqP z (.int 4)) = false := fun l hl => by
    simp [spP, eqP]
    intro x hx e
    exact hl (by have : x = 4 := by omega
                 rw [← this]; exact hx)
  have fl : ∀ l : List Nat, (spP l).all flatP = true := fun l => by simp [spP, flatP]
  have ll : ∀ l : List Nat, (spP l).length = l.length := fun l => by simp [spP]
  rw [hM] at st
  exact turns_free a b [("sun", 1)] hq (by decide) _ _ (n4 _ (by rw [hM] at f1; exact f1)) (fl _) (by rw [ll]; rw [hM] at f2; exact f2) st h
end K07
namespace K07
open PySem Ar
theorem fits_ok {a b su ar pl ri : Rat} [ba : BdQ a 7] [bb : BdQ b 7] [b1 : BdQ su 7] [b2 : BdQ ar 7] [b3 : BdQ pl 100] [b4 : BdQ ri 200] (e1 : pl = (a + 1) * ar - a * su) (e2 : ri = (1 - b) * ar + b * pl) (h : Hs) :
    callP F_Set_fits [.p (simP a b), .p (.dct [.str "sun", .str "arm", .str "planet", .str "ring"] [pr su, pr ar, pr pl, pr ri])] h = .ok (.p .non) h := by
  refine (callP_of h rfl (r := .ok (.p .non) []) ?_).trans rfl
  have z1 : 0 + 1 * pl + a * su + (-a - 1) * ar = 0 := by grind
  have z2 : 0 + 1 * ri + -b * pl + (b - 1) * ar = 0 := by grind
  have t1 := fun h => times_ok (x := pr 1) (y := pr pl) h (by decide)
  have t2 := fun h => times_ok (x := pr a) (y := pr su) h (by decide)
  have t3 := fun h => times_ok (x := pr (-a - 1)) (y := pr ar) h (by decide)
  have s1 := fun h => add_ok (x := pr 0) (y := pr (1 * pl)) h (by decide)
  have s2 := fun h => add_ok (x := pr (0 + 1 * pl)) (y := pr (a * su)) h (by decide)
  have s3 := fun h => add_ok (x := pr (0 + 1 * pl + a * su)) (y := pr ((-a - 1) * ar)) h (by decide)
  have t4 := fun h => times_ok (x := pr 1) (y := pr ri) h (by decide)
  have t5 := fun h => times_ok (x := pr (-b)) (y := pr pl) h (by decide)
  have t6 := fun h => times_ok (x := pr (b - 1)) (y := pr ar) h (by decide)
  have s4 := fun h => add_ok (x := pr 0) (y := pr (1 * ri)) h (by decide)
  have s5 := fun h => add_ok (x := pr (0 + 1 * ri)) (y := pr (-b * pl)) h (by decide)
  have s6 := fun h => add_ok (x := pr (0 + 1 * ri + -b * pl)) (y := pr ((b - 1) * ar)) h (by decide)
  simp only [toQ_pr] at t1 t2 t3 t4 t5 t6 s1 s2 s3 s4 s5 s6
  rw [z1] at s3
  rw [z2] at s6
  simp at t1 t2 t3 t4 t5 t6 s1 s2 s3 s4 s5 s6
  simp [F_Set_fits, L_Set_fits_1, L_Set_fits_2, e_times, e_add, p0, forL, t1, t2, t3, t4, t5, t6, s1, s2, s3, s4, s5, s6, oNe_pr, prs, enumPP]
theorem r_ars {a b : Rat} [ba : BdQ a 7] [bb : BdQ b 7]  (h : Hs) :
    callP F_Set_ratio [.p (simP a b), .p (.str "arm"), .p (.str "ring"), .p (.tup [.str "sun"])] h = .ok (.p (pr (1 + b * a))) h := by
  have e := ratio_ok (a := a) (b := b) "sun" "arm" "ring" (0) (1) (by simp [isAr]) (by simp [isAr]) (by simp [isAr]) (by simp) (by simp [vl, xs] <;> grind) (by simp [vl, xs] <;> grind) (fun s' a' q1 q2 => by simp [vl, xs] at q1 q2; constructor <;> grind) h
  have v : vl "ring" (xs a b (0) (1)) = 1 + b * a := by simp [vl, xs] <;> grind
  rw [e, v]
theorem r_ras {a b : Rat} [ba : BdQ a 7] [bb : BdQ b 7] (z2 : ¬ 1 + b * a = 0) (h : Hs) :
    callP F_Set_ratio [.p (simP a b), .p (.str "ring"), .p (.str "arm"), .p (.tup [.str "sun"])] h = .ok (.p (pr (1 / (1 + b * a)))) h := by
  have e := ratio_ok (a := a) (b := b) "sun" "ring" "arm" (0) (1 / (1 + b * a)) (by simp [isAr]) (by simp [isAr]) (by simp [isAr]) (by simp) (by simp [vl, xs] <;> grind) (by simp [vl, xs] <;> grind) (fun s' a' q1 q2 => by simp [vl, xs] at q1 q2; constructor <;> grind) h
  have v : vl "arm" (xs a b (0) (1 / (1 + b * a))) = 1 / (1 + b * a) := by simp [vl, xs] <;> grind
  rw [e, v]
theorem r_sra {a b : Rat} [ba : BdQ a 7] [bb : BdQ b 7]  (h : Hs) :
    callP F_Set_ratio [.p (simP a b), .p (.str "sun"), .p (.str "ring"), .p (.tup [.str "arm"])] h = .ok (.p (pr (-(b * a)))) h := by
  have e := ratio_ok (a := a) (b := b) "arm" "sun" "ring" (1) (0) (by simp [isAr]) (by simp [isAr]) (by simp [isAr]) (by simp) (by simp [vl, xs] <;> grind) (by simp [vl, xs] <;> grind) (fun s' a' q1 q2 => by simp [vl, xs] at q1 q2; constructor <;> grind) h
  have v : vl "ring" (xs a b (1) (0)) = -(b * a) := by simp [vl, xs] <;> grind
  rw [e, v]
theorem r_rsa {a b : Rat} [ba : BdQ a 7] [bb : BdQ b 7] (z1 : ¬ b * a = 0) (h : Hs) :
    callP F_Set_ratio [.p (simP a b), .p (.str "ring"), .p (.str "sun"), .p (.tup [.str "arm"])] h = .ok (.p (pr (-1 / (b * a)))) h := by
  have e := ratio_ok (a := a) (b := b) "arm" "ring" "sun" (-1 / (b * a)) (0) (by simp [isAr]) (by simp [isAr]) (by simp [isAr]) (by simp) (by simp [vl, xs] <;> grind) (by simp [vl, xs] <;> grind) (fun s' a' q1 q2 => by simp [vl, xs] at q1 q2; constructor <;> grind) h
  have v : vl "sun" (xs a b (-1 / (b * a)) (0)) = -1 / (b * a) := by simp [vl, xs] <;> grind
  rw [e, v]
theorem r_sar {a b : Rat} [ba : BdQ a 7] [bb : BdQ b 7] (z2 : ¬ 1 + b * a = 0) (h : Hs) :
    callP F_Set_ratio [.p (simP a b), .p (.str "sun"), .p (.str "arm"), .p (.tup [.str "ring"])] h = .ok (.p (pr (b * a / (1 + b * a)))) h := by
  have e := ratio_ok (a := a) (b := b) "ring" "sun" "arm" (1) (b * a / (1 + b * a)) (by simp [isAr]) (by simp [isAr]) (by simp [isAr]) (by simp) (by simp [vl, xs] <;> grind) (by simp [vl, xs] <;> grind) (fun s' a' q1 q2 => by simp [vl, xs] at q1 q2; constructor <;> grind) h
  have v : vl "arm" (xs a b (1) (b * a / (1 + b * a))) = b * a / (1 + b * a) := by simp [vl, xs] <;> grind
  rw [e, v]
theorem r_asr {a b : Rat} [ba : BdQ a 7] [bb : BdQ b 7] (z1 : ¬ b * a = 0) (h : Hs) :
    callP F_Set_ratio [.p (simP a b), .p (.str "arm"), .p (.str "sun"), .p (.tup [.str "ring"])] h = .ok (.p (pr ((1 + b * a) / (b * a)))) h := by
  have e := ratio_ok (a := a) (b := b) "ring" "arm" "sun" ((1 + b * a) / (b * a)) (1) (by simp [isAr]) (by simp [isAr]) (by simp [isAr]) (by simp) (by simp [vl, xs] <;> grind) (by simp [vl, xs] <;> grind) (fun s' a' q1 q2 => by simp [vl, xs] at q1 q2; constructor <;> grind) h
  have v : vl "sun" (xs a b ((1 + b * a) / (b * a)) (1)) = (1 + b * a) / (b * a) := by simp [vl, xs] <;> grind
  rw [e, v]
theorem r_sap {a b : Rat} [ba : BdQ a 7] [bb : BdQ b 7] (z3 : ¬ a + 1 = 0) (h : Hs) :
    callP F_Set_ratio [.p (simP a b), .p (.str "sun"), .p (.str "arm"), .p (.tup [.str "planet"])] h = .ok (.p (pr (a / (a + 1)))) h := by
  have e := ratio_ok (a := a) (b := b) "planet" "sun" "arm" (1) (a / (a + 1)) (by simp [isAr]) (by simp [isAr]) (by simp [isAr]) (by simp) (by simp [vl, xs] <;> grind) (by simp [vl, xs] <;> grind) (fun s' a' q1 q2 => by simp [vl, xs] at q1 q2; constructor <;> grind) h
  have v : vl "arm" (xs a b (1) (a / (a + 1))) = a / (a + 1) := by simp [vl, xs] <;> grind
  rw [e, v]
end K07
namespace K07
open PySem Ar
theorem brakes_ok {a b : Rat} [ba : BdQ a 7] [bb : BdQ b 7] (z2 : ¬ 1 + b * a = 0) (z3 : ¬ a + 1 = 0) (h : Hs) :
    callP F_brakes [.p (simP a b), .p (.str "sun"), .p (.str "arm")] h = .ok (.p (.dct [.str "planet", .str "ring"] [pr (a / (a + 1)), pr (b * a / (1 + b * a))])) h := by
  have q1 := r_sap (a := a) (b := b) z3
  have q2 := r_sar (a := a) (b := b) z2
  obtain ⟨x, hx⟩ : ∃ x, x = a / (a + 1) := ⟨_, rfl⟩
  obtain ⟨y, hy⟩ : ∃ y, y = b * a / (1 + b * a) := ⟨_, rfl⟩
  rw [← hx] at q1
  rw [← hy] at q2
  rw [← hx, ← hy]
  refine (callP_of h rfl (r := .ok (.loc 0) [.dct [.str "planet", .str "ring"] [pr x, pr y]]) ?_).trans rfl
  simp [F_brakes, L_brakes_3, forL, q1, q2, eqP]
theorem force_ok {a b : Rat} [ba : BdQ a 7] [bb : BdQ b 7] (z2 : ¬ 1 + b * a = 0) (z1 : ¬ b * a = 0) (h : Hs) :
    callP F_force_share [.p (simP a b), .p (.str "sun"), .p (.str "arm"), .p (.str "ring")] h = .ok (.p (.tup [pr (-1 / (b * a / (1 + b * a))), pr (0 - (1 + -1 / (b * a / (1 + b * a))))])) h := by
  have q2 := r_sar (a := a) (b := b) z2
  haveI : BdQ (b * a / (1 + b * a)) 100 := (inferInstance : BdQ (b * a / (1 + b * a)) _).mono (by decide)
  have y0 : ¬ b * a / (1 + b * a) = 0 := by grind
  obtain ⟨y, hy⟩ : ∃ y, y = b * a / (1 + b * a) := ⟨_, rfl⟩
  rw [← hy] at q2 this y0
  rw [← hy]
  have n0 : ¬ y.num = 0 := fun z => y0 (num_ne.mp z)
  haveI : BdQ (-1 / y) 200 := (inferInstance : BdQ (-1 / y) _).mono (by decide)
  have o := fun h => over_ok (x := pr (-1)) (y := pr y) h (by decide) (by rw [toQ_pr]; exact y0)
  have s1 := fun h => add_ok (x := pr 1) (y := pr (-1 / y)) h (by decide)
  have s2 := fun h => less_ok (x := pr 0) (y := pr (1 + -1 / y)) h (by decide)
  simp only [toQ_pr] at o s1 s2
  obtain ⟨u, hu⟩ : ∃ u, u = -1 / y := ⟨_, rfl⟩
  rw [← hu] at o s1 s2
  rw [← hu]
  obtain ⟨w, hw⟩ : ∃ w, w = 1 + u := ⟨_, rfl⟩
  rw [← hw] at s1 s2
  rw [← hw]
  obtain ⟨v, hv⟩ : ∃ v, v = 0 - w := ⟨_, rfl⟩
  rw [← hv] at s2
  rw [← hv]
  refine (callP_of h rfl (r := .ok (.p (.tup [pr u, pr v])) []) ?_).trans rfl
  simp [F_force_share, q2, n0, e_over, e_add, e_less, p0, pu1, pm1, o, s1, s2]
def tab (x1 x2 x3 x4 x5 x6 : Rat) : P := .dtt [.tup [.str "arm", .str "ring", .str "sun"], .tup [.str "ring", .str "arm", .str "sun"], .tup [.str "sun", .str "ring", .str "arm"], .tup [.str "ring", .str "sun", .str "arm"], .tup [.str "sun", .str "arm", .str "ring"], .tup [.str "arm", .str "sun", .str "ring"]] [pr x1, pr x2, pr x3, pr x4, pr x5, pr x6]
theorem tab_ok {s p : Int} {a b : Rat} [ba : BdQ a 7] [bb : BdQ b 7] (z1 : ¬ b * a = 0) (z2 : ¬ 1 + b * a = 0) (hs : ∀ h, callP F_simple [.p (.int s), .p (.int p)] h = .ok (.p (simP a b)) h) (h : Hs) :
    callP F_ratios_of [.p (.int s), .p (.int p)] h = .ok (.p (tab (1 + b * a) (1 / (1 + b * a)) (-(b * a)) (-1 / (b * a)) (b * a / (1 + b * a)) ((1 + b * a) / (b * a)))) h := by
  have q1 := r_ars (a := a) (b := b)
  have q2 := r_ras (a := a) (b := b) z2
  have q3 := r_sra (a := a) (b := b)
  have q4 := r_rsa (a := a) (b := b) z1
  have q5 := r_sar (a := a) (b := b) z2
  have q6 := r_asr (a := a) (b := b) z1
  generalize 1 / (1 + b * a) = x2 at *
  generalize -1 / (b * a) = x4 at *
  generalize b * a / (1 + b * a) = x5 at *
  generalize (1 + b * a) / (b * a) = x6 at *
  generalize 1 + b * a = x1 at *
  generalize -(b * a) = x3 at *
  refine (callP_of h rfl (r := .ok (.loc 0) [.dtt [.tup [.str "arm", .str "ring", .str "sun"], .tup [.str "ring", .str "arm", .str "sun"], .tup [.str "sun", .str "ring", .str "arm"], .tup [.str "ring", .str "sun", .str "arm"], .tup [.str "sun", .str "arm", .str "ring"], .tup [.str "arm", .str "sun", .str "ring"]] [pr x1, pr x2, pr x3, pr x4, pr x5, pr x6]]) ?_).trans rfl
  simp [F_ratios_of, L_ratios_of_1, L_ratios_of_2, L_ratios_of_3, forL, hs, q1, q2, q3, q4, q5, q6, eqP]
end K07
namespace K07
open PySem Ar
def diffP : P := .ins 8 ["arbors", "rows"] [.tup [.str "left", .str "right", .str "arm"], .lst [.dct [.str "arm", .str "left", .str "right"] [.tup [.int 2, .int 1], .tup [.int (-1), .int 1], .tup [.int (-1), .int 1]]]]
def pairP : P := .dct [.str "left", .str "right", .str "arm"] [.tup [.int 3, .int 1], .tup [.int 5, .int 1], .tup [.int 4, .int 1]]
def valP (r : Ar.R D) : P := match r with | .ok (.p x) _ => x | _ => .non
def s20 : P := valP (callP F_simple [.p (.int 20), .p (.int 20)] [])
def twoP : P := valP (callP F_joined [.p s20, .p diffP, .p (.dct [.str "arm", .str "left", .str "right"] [.str "cage", .str "sun", .str "ring"])] [])
theorem f_diff (h : Hs) : callP F_differential [.p (.tup [.int 1, .int 1])] h = .ok (.p diffP) h := by kernel_rfl
theorem f_pair (h : Hs) : callP F_Set_turns [.p diffP, .p (.dct [.str "left", .str "right"] [.tup [.int 3, .int 1], .tup [.int 5, .int 1]])] h = .ok (.p pairP) h := by kernel_rfl
theorem f_s20 (h : Hs) : callP F_simple [.p (.int 20), .p (.int 20)] h = .ok (.p s20) h := by kernel_rfl
theorem f_two (h : Hs) : callP F_joined [.p s20, .p diffP, .p (.dct [.str "arm", .str "left", .str "right"] [.str "cage", .str "sun", .str "ring"])] h = .ok (.p twoP) h := by kernel_rfl
theorem f_ways2 (h : Hs) : callP F_Set_free_ways [.p twoP] h = .ok (.p (.int 2)) h := by kernel_rfl
theorem f_lar (h : Hs) : callP F_Set_ratio [.p diffP, .p (.str "left"), .p (.str "arm"), .p (.tup [.str "right"])] h = .ok (.p (.tup [.int 1, .int 2])) h := by kernel_rfl
theorem f_set3 (h : Hs) : callP F_can_be_set [.p (.int 20), .p (.int 20), .p (.int 3)] h = .ok (.p (.bl false)) h := by kernel_rfl
theorem f_set6 (h : Hs) : callP F_can_be_set [.p (.int 12), .p (.int 12), .p (.int 6)] h = .ok (.p (.bl false)) h := by kernel_rfl
theorem f_set4 (h : Hs) : callP F_can_be_set [.p (.int 20), .p (.int 20), .p (.int 4)] h = .ok (.p (.bl true)) h := by kernel_rfl
theorem f_set5 (h : Hs) : callP F_can_be_set [.p (.int 20), .p (.int 20), .p (.int 5)] h = .ex 2 [] h := by kernel_rfl
theorem ins2 (m : Str) (h : Hs) : isIns 8 m (.p twoP) h = !(["arbors", "rows"] : List Str).contains m := by
  have : twoP = .ins 8 ["arbors", "rows"] (match twoP with | .ins _ _ vs => vs | _ => []) := by kernel_rfl
  rw [this]; rfl
theorem insD (m : Str) (h : Hs) : isIns 8 m (.p diffP) h = !(["arbors", "rows"] : List Str).contains m := rfl
/-- a drawn part -/
theorem lpart_ok {h : Hs} {i : Nat} (d : Dice h i) : ∃ (x y : Int) (h' : Hs), F_law_part [.loc i] h = .ok (.p (pr ((x : Rat) / (y : Rat)))) h' ∧ -9 ≤ x ∧ x ≤ 9 ∧ 1 ≤ y ∧ y ≤ 9 ∧ Dice h' i ∧ Same i h h' := by
  obtain ⟨u, H1, r1, u0, u9, d1, s1, l1, n1⟩ := roll_get d 9
  obtain ⟨v, H2, r2, v0, v9, d2, s2, l2, n2⟩ := roll_get d1 2
  obtain ⟨w, H3, r3, w0, w9, d3, s3, l3, n3⟩ := roll_get d2 9
  have m1 : oMul (.int 2) (.int v) = some (.int (2 * v)) := oMul_smallL 2 v (by decide)
  have m2 : oMul (.int (1 + u)) (.int (1 - 2 * v)) = some (.int ((1 + u) * (1 - 2 * v))) := oMul_smallL _ _ (by omega)
  have p := fun h => part_ok ((1 + u) * (1 - 2 * v)) (1 + w) (by omega) (by omega) h
  have hv : v = 0 ∨ v = 1 := by omega
  refine ⟨(1 + u) * (1 - 2 * v), 1 + w, H3, ?_, ?_, ?_, by omega, by omega, d3, (s1.trans s2).trans s3⟩
  · simp [F_law_part, e_roll, e_part, r1, r2, r3, m1, m2, p]
  · rcases hv with e | e <;> rw [e] <;> omega
  · rcases hv with e | e <;> rw [e] <;> omega
end K07
namespace K07
open PySem Ar
section
@[simp] theorem nq_left_right : (("left" : Str) = "right") = False := by simp only [eq_iff_iff, iff_false]; decide +kernel
@[simp] theorem nq_left_arm : (("left" : Str) = "arm") = False := by simp only [eq_iff_iff, iff_false]; decide +kernel
@[simp] theorem nq_right_left : (("right" : Str) = "left") = False := by simp only [eq_iff_iff, iff_false]; decide +kernel
@[simp] theorem nq_right_arm : (("right" : Str) = "arm") = False := by simp only [eq_iff_iff, iff_false]; decide +kernel
@[simp] theorem nq_arm_left : (("arm" : Str) = "left") = False := by simp only [eq_iff_iff, iff_false]; decide +kernel
@[simp] theorem nq_arm_right : (("arm" : Str) = "right") = False := by simp only [eq_iff_iff, iff_false]; decide +kernel
end
def U23 : FS := (sRet (cOp oEq (cTold l_law_told (cCallP 3 F_can_be_set (aC (cK (.int 20)) (aC (cK (.int 20)) (aC (cK (.int 5)) aN))))) (cK (.str "train"))))
def U22 : FS := sSeq (sIf (cT (cOp oNe (cTold l_law_told (cMethP 8 "turns" 2 F_Set_turns (cV 10) (aC (cDisp finDP [ ((cK (.str "sun")) , (cTup (aC (cK (.int 1)) (aC (cK (.int 1)) aN)))) , ((cK (.str "arm")) , (cTup (aC (cK (.int 0)) (aC (cK (.int 1)) aN)))) , ((cK (.str "ring")) , (cTup (aC (cK (.int 1)) (aC (cK (.int 1)) aN)))) ]) aN))) (cK (.str "locked")))) (sRet (cK (.bl false))) sNx) U23
def U21 : FS := sSeq (sIf (cT (cOp oNe (cTold l_law_told (cMethP 8 "turns" 2 F_Set_turns (cV 10) (aC (cDisp finDP [ ((cK (.str "sun")) , (cTup (aC (cK (.int 1)) (aC (cK (.int 1)) aN)))) ]) aN))) (cK (.str "free")))) (sRet (cK (.bl false))) sNx) U22
def U20 : FS := sSeq (sIf (cOrT (cT (cOp oNe (cCallP 3 F_can_be_set (aC (cK (.int 20)) (aC (cK (.int 20)) (aC (cK (.int 3)) aN)))) (cOp oEq (cOp oMod (cOp oAdd (cK (.int 20)) (cK (.int 60))) (cK (.int 3))) (cK (.int 0))))) (cOrT (cT (cCallP 3 F_can_be_set (aC (cK (.int 12)) (aC (cK (.int 12)) (aC (cK (.int 6)) aN))))) (cNotT (cT (cCallP 3 F_can_be_set (aC (cK (.int 20)) (aC (cK (.int 20)) (aC (cK (.int 4)) aN)))))))) (sRet (cK (.bl false))) sNx) U21
def U19 : FS := sSeq (sIf (cOrT (cT (cOp oNe (cIx (cV 5) (cK (.str "arm"))) (cTup (aC (cK (.int 4)) (aC (cK (.int 1)) aN))))) (cOrT (cT (cOp oNe (cMethP 8 "ratio" 4 F_Set_ratio (cV 4) (aC (cK (.str "left")) (aC (cK (.str "arm")) (aC (cTup (aC (cK (.str "right")) aN)) aN)))) (cTup (aC (cK (.int 1)) (aC (cK (.int 2)) aN))))) (cT (cOp oNe (cMethP 8 "free_ways" 1 F_Set_free_ways (cV 6) aN) (cK (.int 2)))))) (sRet (cK (.bl false))) sNx) U20
def U18 : FS := sSeq (sSet 6 (cCallP 3 F_joined (aC (cCallP 2 F_simple (aC (cK (.int 20)) (aC (cK (.int 20)) aN))) (aC (cCallP 1 F_differential (aC (cTup (aC (cK (.int 1)) (aC (cK (.int 1)) aN))) aN)) (aC (cDisp finDP [ ((cK (.str "arm")) , (cK (.str "cage"))) , ((cK (.str "left")) , (cK (.str "sun"))) , ((cK (.str "right")) , (cK (.str "ring"))) ]) aN))))) U19
def U17 : FS := sSeq (sSet 5 (cMethP 8 "turns" 2 F_Set_turns (cV 4) (aC (cDisp finDP [ ((cK (.str "left")) , (cTup (aC (cK (.int 3)) (aC (cK (.int 1)) aN)))) , ((cK (.str "right")) , (cTup (aC (cK (.int 5)) (aC (cK (.int 1)) aN)))) ]) aN))) U18
def U16 : FS := sSeq (sSet 4 (cCallP 1 F_differential (aC (cTup (aC (cK (.int 1)) (aC (cK (.int 1)) aN))) aN))) U17
def U15 : FS := sSeq (sIf (cT (cOp oNe (cIx (cCallP 3 F_brakes (aC (cV 10) (aC (cK (.str "sun")) (aC (cK (.str "arm")) aN)))) (cK (.str "ring"))) (cIx (cV 9) (cTup (aC (cK (.str "sun")) (aC (cK (.str "arm")) (aC (cK (.str "ring")) aN))))))) (sRet (cK (.bl false))) sNx) U16
def U14 : FS := sSeq (sIf (cT (cOp oNe (cCallP 2 F_add (aC (cTup (aC (cK (.int 1)) (aC (cK (.int 1)) aN))) (aC (cCallP 2 F_times (aC (cV 13) (aC (cIx (cV 9) (cTup (aC (cK (.str "sun")) (aC (cK (.str "arm")) (aC (cK (.str "ring")) aN))))) aN))) aN))) (cTup (aC (cK (.int 0)) (aC (cK (.int 1)) aN))))) (sRet (cK (.bl false))) sNx) U15
def U13 : FS := sSeq (sIf (cT (cOp oNe (cCallP 2 F_add (aC (cCallP 2 F_add (aC (cTup (aC (cK (.int 1)) (aC (cK (.int 1)) aN))) (aC (cV 13) aN))) (aC (cV 11) aN))) (cTup (aC (cK (.int 0)) (aC (cK (.int 1)) aN))))) (sRet (cK (.bl false))) sNx) U14
def U12 : FS := sSeq (sAsg (cCallP 4 F_force_share (aC (cV 10) (aC (cK (.str "sun")) (aC (cK (.str "arm")) (aC (cK (.str "ring")) aN))))) (tT2 2 (tsC (tN 13) (tsC (tN 11) tsN)))) U13
def U11 : FS := sSeq (sIf (cT (cOp oNe (cCallP 2 F_add (aC (cCallP 2 F_times (aC (cTup (aC (cV 7) (aC (cK (.int 1)) aN))) (aC (cIx (cV 3) (cK (.str "sun"))) aN))) (aC (cCallP 2 F_times (aC (cTup (aC (cV 1) (aC (cK (.int 1)) aN))) (aC (cIx (cV 3) (cK (.str "ring"))) aN))) aN))) (cCallP 2 F_times (aC (cTup (aC (cOp oAdd (cV 7) (cV 1)) (aC (cK (.int 1)) aN))) (aC (cIx (cV 3) (cK (.str "arm"))) aN))))) (sRet (cK (.bl false))) sNx) U12
def U10 : FS := sSeq (sIf (cOrT (cT (cOp oIsNot (cMethP 8 "fits" 2 F_Set_fits (cV 10) (aC (cV 3) aN)) (cK .non))) (cT (cOp oNe (cMethP 8 "free_ways" 1 F_Set_free_ways (cV 10) aN) (cK (.int 2))))) (sRet (cK (.bl false))) sNx) U11
def U9 : FS := sSeq (sSet 3 (cMethP 8 "turns" 2 F_Set_turns (cV 10) (aC (cV 2) aN))) U10
def U8 : FS := sSeq (sSet 2 (cDisp finDP [ ((cK (.str "sun")) , (cTup (aC (cOp oSub (cCall 2 F_law_roll (aC (cV 0) (aC (cK (.int 19)) aN))) (cK (.int 9))) (aC (cK (.int 1)) aN)))) , ((cK (.str "arm")) , (cCall 1 F_law_part (aC (cV 0) aN))) ])) U9
def U7 : FS := sSeq (sFor (iSeq (cLst (aC (cTup (aC (cK (.str "sun")) (aC (cK (.str "ring")) (aC (cK (.str "arm")) aN)))) (aC (cTup (aC (cK (.str "ring")) (aC (cK (.str "sun")) (aC (cK (.str "arm")) aN)))) (aC (cTup (aC (cK (.str "arm")) (aC (cK (.str "sun")) (aC (cK (.str "ring")) aN)))) aN))))) (tT2 3 (tsC (tN 11) (tsC (tN 12) (tsC (tN 13) tsN)))) L_law_planets_1) U8
def U6 : FS := sSeq (sIf (cT (cOp oNe (cIx (cV 9) (cTup (aC (cK (.str "ring")) (aC (cK (.str "arm")) (aC (cK (.str "sun")) aN))))) (cCallP 2 F_part (aC (cV 1) (aC (cOp oAdd (cV 7) (cV 1)) aN))))) (sRet (cK (.bl false))) sNx) U7
def U5 : FS := sSeq (sIf (cT (cOp oNe (cIx (cV 9) (cTup (aC (cK (.str "sun")) (aC (cK (.str "ring")) (aC (cK (.str "arm")) aN))))) (cCallP 2 F_part (aC (cOp oSub (cK (.int 0)) (cV 7)) (aC (cV 1) aN))))) (sRet (cK (.bl false))) sNx) U6
def U4 : FS := sSeq (sIf (cT (cOp oNe (cIx (cV 9) (cTup (aC (cK (.str "sun")) (aC (cK (.str "arm")) (aC (cK (.str "ring")) aN))))) (cCallP 2 F_part (aC (cV 7) (aC (cOp oAdd (cV 7) (cV 1)) aN))))) (sRet (cK (.bl false))) sNx) U5
def U3 : FS := sSeq (sTupTup (aC (cCallP 2 F_ratios_of (aC (cV 7) (aC (cV 8) aN))) (aC (cCallP 2 F_simple (aC (cV 7) (aC (cV 8) aN))) aN)) (tsC (tN 9) (tsC (tN 10) tsN))) U4
def U2 : FS := sSeq (sSet 1 (cOp oAdd (cV 7) (cOp oMul (cK (.int 2)) (cV 8)))) U3
def U1 : FS := sSeq (sPar 7 8 (aC (cOp oAdd (cK (.int 10)) (cCall 2 F_law_roll (aC (cV 0) (aC (cK (.int 31)) aN)))) (aC (cOp oAdd (cK (.int 10)) (cCall 2 F_law_roll (aC (cV 0) (aC (cK (.int 31)) aN)))) aN))) U2
theorem U_eq : F_law_planets = cFn 14 U1 := rfl
theorem prI (x : Int) : (.tup [.int x, .int 1] : P) = pr ((x : Int) : Rat) := by simp [pr]
theorem planets_ok (h : Hs) (i : Nat) (d0 : Dice h i) : EndT (CaseP i h) (F_law_planets [.loc i] h) := by
  obtain ⟨v1, H1, r1, v1a, v1b, d1, s1, l1, n1⟩ := roll_get d0 31
  obtain ⟨v2, H2, r2, v2a, v2b, d2, s2, l2, n2⟩ := roll_get d1 31
  obtain ⟨v3, H3, r3, v3a, v3b, d3, s3, l3, n3⟩ := roll_get d2 19
  obtain ⟨x, y, H4, r4, xa, xb, ya, yb, d4, s4⟩ := lpart_ok d3
  obtain ⟨s, hs⟩ : ∃ s, s = 10 + v1 := ⟨_, rfl⟩
  obtain ⟨p, hp⟩ : ∃ p, p = 10 + v2 := ⟨_, rfl⟩
  have sr : ∀ h, callP F_simple [.p (.int s), .p (.int p)] h = _ := fun h => simple_ok (s := s) (p := p) (by omega) (by omega) (by omega) (by omega) h
  obtain ⟨r, hr⟩ : ∃ r, r = s + 2 * p := ⟨_, rfl⟩
  rw [← hr] at sr
  haveI ba : BdQ ((s : Rat) / p) 7 := bdQ_div (by omega) (by omega) (by omega)
  haveI bb : BdQ ((p : Rat) / (r : Int)) 7 := bdQ_div (by omega) (by omega) (by omega)
  have sq := cast_ne (show s ≠ 0 by omega)
  have pq := cast_ne (show p ≠ 0 by omega)
  have rq := cast_ne (show r ≠ 0 by omega)
  have srq := cast_ne (show s + r ≠ 0 by omega)
  have spq := cast_ne (show s + p ≠ 0 by omega)
  have npr : ¬ ((p : Rat) / (r : Int) = 1) := fun z => by
    have : ((p : Int) : Rat) = ((r : Int) : Rat) := by grind
    have := Rat.intCast_inj.mp this
    omega
  rw [Rat.intCast_add] at srq spq
  obtain ⟨a, ha⟩ : ∃ a, a = (s : Rat) / p := ⟨_, rfl⟩
  obtain ⟨b, hb⟩ : ∃ b, b = (p : Rat) / (r : Int) := ⟨_, rfl⟩
  rw [← ha] at sr ba
  rw [← hb] at sr bb npr
  have ba_eq : b * a * r = s := by rw [ha, hb]; grind
  have ap : a * p = s := by rw [ha]; grind
  have z1 : ¬ b * a = 0 := fun z => sq (by grind)
  have z2 : ¬ 1 + b * a = 0 := fun z => srq (by grind)
  have z3 : ¬ a + 1 = 0 := fun z => spq (by grind)
  have z4 : ¬ a = 0 := fun z => sq (by grind)
  have z5 : ¬ a * b = -1 := fun z => z2 (by grind)
  have tb := fun h => tab_ok z1 z2 sr h
  have p1 := fun h => part_ok s (s + r) (by omega) (by omega) h
  have p2 := fun h => part_ok (-s) r (by omega) (by omega) h
  have p3 := fun h => part_ok r (s + r) (by omega) (by omega) h
  rw [Rat.intCast_add] at p1 p3
  rw [Rat.intCast_neg] at p2
  have w1 : (s : Rat) / (s + r) = b * a / (1 + b * a) := by grind
  have w2 : -(s : Rat) / r = -(b * a) := by grind
  have w3 : (r : Rat) / (s + r) = 1 / (1 + b * a) := by grind
  rw [w1] at p1
  rw [w2] at p2
  rw [w3] at p3
  haveI c1 : BdQ (1 + b * a) 100 := (inferInstance : BdQ (1 + b * a) _).mono (by decide)
  haveI c2 : BdQ (1 / (1 + b * a)) 300 := (inferInstance : BdQ (1 / (1 + b * a)) _).mono (by decide)
  haveI c3 : BdQ (-(b * a)) 100 := (inferInstance : BdQ (-(b * a)) _).mono (by decide)
  haveI c4 : BdQ (-1 / (b * a)) 300 := (inferInstance : BdQ (-1 / (b * a)) _).mono (by decide)
  haveI c5 : BdQ (b * a / (1 + b * a)) 300 := (inferInstance : BdQ (b * a / (1 + b * a)) _).mono (by decide)
  haveI c6 : BdQ ((1 + b * a) / (b * a)) 300 := (inferInstance : BdQ ((1 + b * a) / (b * a)) _).mono (by decide)
  have m1 : (1 / (1 + b * a)) * (1 + b * a) = 1 := by grind
  have m2 : (b * a / (1 + b * a)) * ((1 + b * a) / (b * a)) = 1 := by grind
  have m3 : -(b * a) * (-1 / (b * a)) = 1 := by grind
  have br := brakes_ok (a := a) (b := b) z2 z3
  have fo := force_ok (a := a) (b := b) z2 z1
  have wy := ways_ok (a := a) (b := b) z4 npr
  have lk := locked_ok (a := a) (b := b) z5
  have fr := free_ok (a := a) (b := b)
  generalize hx1 : 1 + b * a = x1 at *
  generalize hx2 : 1 / x1 = x2 at *
  generalize hx3 : -(b * a) = x3 at *
  generalize hx4 : -1 / (b * a) = x4 at *
  generalize hx5 : b * a / x1 = x5 at *
  generalize hx6 : x1 / (b * a) = x6 at *
  have x50 : ¬ x5 = 0 := fun z => by rw [z] at m2; grind
  have t1 := fun h => times_ok (x := pr x2) (y := pr x1) h (by decide)
  have t2 := fun h => times_ok (x := pr x5) (y := pr x6) h (by decide)
  have t3 := fun h => times_ok (x := pr x3) (y := pr x4) h (by decide)
  simp only [toQ_pr, m1, m2, m3] at t1 t2 t3
  have hq : F_law_planets [.loc i] h = retOf (U1 [some (.loc i), none, none, none, none, none, none, none, none, none, none, none, none, none] h) := rfl
  rw [hq]
  unfold U1
  simp [e_roll, r1, r2, ← hs, ← hp]
  unfold U2
  simp [oMul_smallL 2 p (by decide), ← hr]
  unfold U3
  simp [tb, sr]
  unfold U4
  simp [tab, e_part, p1, oNe_pr]
  unfold U5
  simp [e_part, p2, oNe_pr]
  unfold U6
  simp [e_part, p3, oNe_pr]
  unfold U7
  simp [forL, L_law_planets_1, e_times, t1, t2, t3, pu1, oNe_pr]
  obtain ⟨su, hsu⟩ : ∃ q : Rat, q = ((v3 - 9 : Int) : Rat) := ⟨_, rfl⟩
  obtain ⟨ar, har⟩ : ∃ q : Rat, q = (x : Rat) / (y : Int) := ⟨_, rfl⟩
  have esu : (.tup [.int (v3 - 9), .int 1] : P) = pr su := by rw [hsu]; exact prI _
  rw [← har] at r4
  haveI g1 : BdQ su 7 := by
    rw [hsu]
    exact ⟨by rw [Rat.num_intCast]; omega, by rw [Rat.den_intCast]; decide⟩
  haveI g2 : BdQ ar 7 := by rw [har]; exact bdQ_div (by omega) (by omega) (by omega)
  have tu := turns2 (a := a) (b := b) "sun" "arm" su ar su ar (.inl rfl) (.inr (.inl rfl)) (by simp [vl, xs]) (by simp [vl, xs]) (fun s' a' q1 q2 => by simp [vl, xs] at q1 q2; exact ⟨q1, q2⟩)
  haveI g3 : BdQ ((a + 1) * ar - a * su) 100 := (inferInstance : BdQ ((a + 1) * ar - a * su) _).mono (by decide)
  haveI g4 : BdQ (ar + b * a * (ar - su)) 200 := (inferInstance : BdQ (ar + b * a * (ar - su)) _).mono (by decide)
  have fi := fits_ok (a := a) (b := b) (su := su) (ar := ar) (pl := (a + 1) * ar - a * su) (ri := ar + b * a * (ar - su)) rfl (by grind)
  have sum : (s : Rat) * su + (r : Rat) * (ar + b * a * (ar - su)) = ((s : Rat) + r) * ar := by grind
  generalize (a + 1) * ar - a * su = pl at *
  generalize ar + b * a * (ar - su) = ri at *
  obtain ⟨ss, hss⟩ : ∃ q : Rat, q = (s : Rat) := ⟨_, rfl⟩
  obtain ⟨rr, hrr⟩ : ∃ q : Rat, q = (r : Rat) := ⟨_, rfl⟩
  obtain ⟨tt, htt⟩ : ∃ q : Rat, q = ss + rr := ⟨_, rfl⟩
  have ess : (.tup [.int s, .int 1] : P) = pr ss := by rw [hss]; exact prI _
  have err : (.tup [.int r, .int 1] : P) = pr rr := by rw [hrr]; exact prI _
  have ett : (.tup [.int (s + r), .int 1] : P) = pr tt := by rw [htt, hss, hrr, prI, Rat.intCast_add]
  haveI g5 : BdQ ss 10 := by
    rw [hss]
    exact ⟨by rw [Rat.num_intCast]; omega, by rw [Rat.den_intCast]; decide⟩
  haveI g6 : BdQ rr 10 := by
    rw [hrr]
    exact ⟨by rw [Rat.num_intCast]; omega, by rw [Rat.den_intCast]; decide⟩
  haveI g7 : BdQ tt 30 := by rw [htt]; exact (inferInstance : BdQ (ss + rr) _).mono (by decide)
  rw [← hss, ← hrr, ← htt] at sum
  have t4 := fun h => times_ok (x := pr ss) (y := pr su) h (by decide)
  have t5 := fun h => times_ok (x := pr rr) (y := pr ri) h (by decide)
  have t6 := fun h => times_ok (x := pr tt) (y := pr ar) h (by decide)
  have s5 := fun h => add_ok (x := pr (ss * su)) (y := pr (rr * ri)) h (by decide)
  simp only [toQ_pr] at t4 t5 t6 s5
  rw [sum] at s5
  have o1 : (1 : Rat) + -1 / x5 + (0 - (1 + -1 / x5)) = 0 := by grind
  have o2 : (1 : Rat) + -1 / x5 * x5 = 0 := by grind
  haveI g8 : BdQ (-1 / x5) 400 := (inferInstance : BdQ (-1 / x5) _).mono (by decide)
  haveI g9 : BdQ (0 - (1 + -1 / x5)) 500 := (inferInstance : BdQ (0 - (1 + -1 / x5)) _).mono (by decide)
  obtain ⟨fa', hfa⟩ : ∃ q : Rat, q = -1 / x5 := ⟨_, rfl⟩
  rw [← hfa] at o1 o2 g8 g9 fo
  obtain ⟨fb', hfb⟩ : ∃ q : Rat, q = 0 - (1 + fa') := ⟨_, rfl⟩
  rw [← hfb] at o1 g9 fo
  have s6 := fun h => add_ok (x := pr 1) (y := pr fa') h (by decide)
  have s7 := fun h => add_ok (x := pr (1 + fa')) (y := pr fb') h (by decide)
  have t8 := fun h => times_ok (x := pr fa') (y := pr x5) h (by decide)
  have s8 := fun h => add_ok (x := pr 1) (y := pr (fa' * x5)) h (by decide)
  simp only [toQ_pr] at s6 s7 t8 s8
  rw [o1] at s7
  rw [o2] at s8
  unfold U8
  simp [e_roll, r3, r4, esu]
  unfold U9
  simp [tu]
  unfold U10
  simp [fi, wy]
  unfold U11
  simp [e_times, e_add, ess, err, ett, t4, t5, t6, s5, oNe_pr]
  unfold U12
  simp [fo]
  unfold U13
  simp [e_add, pu1, p0, s6, s7, oNe_pr]
  unfold U14
  simp [e_add, e_times, pu1, p0, t8, s8, oNe_pr]
  unfold U15
  simp [br, oNe_pr]
  unfold U16
  simp [f_diff]
  unfold U17
  simp [insD, f_pair]
  unfold U18
  simp [f_s20, f_diff, f_two]
  have e41 : oNe (.tup [.int 4, .int 1]) (.tup [.int 4, .int 1]) = some (.bl false) := rfl
  have e12 : oNe (.tup [.int 1, .int 2]) (.tup [.int 1, .int 2]) = some (.bl false) := rfl
  unfold U19
  simp [e41, e12, pairP, insD, ins2, f_lar, f_ways2]
  have e83 : oMod (.int 80) (.int 3) = some (.int 2) := rfl
  unfold U20
  simp [e83, f_set3, f_set4, f_set6]
  have w4 : List.lookup 4 l_law_told = some "free" := rfl
  have w3 : List.lookup 3 l_law_told = some "locked" := rfl
  have w2 : List.lookup 2 l_law_told = some "train" := rfl
  unfold U21
  simp [w4, pu1, fr]
  unfold U22
  simp [w3, pu1, p0, lk]
  unfold U23
  simp [w2, f_set5]
  exact endT_ok ⟨rfl, ((s1.trans s2).trans s3).trans s4, d4⟩
theorem body_ok : BodyOk 2 L_law_1 := fun env h i hN he d => by
  obtain ⟨dd, H, q, rfl, s, d'⟩ := planets_ok h i d
  refine ⟨env, H, ?_, hN, s, d'⟩
  simp [L_law_1, he, q]
theorem law_holds (ns : List Int) (hl : ns.length ≤ 63) : ∃ h', F_law [.p (.scr ns)] [] = .ok (.p (.bl true)) h' := law_ok (caseOk_of planets_ok) 1 ns hl
end K07
namespace K07
open PySem PySem.Spec PyProof.Rows L2 Ar
theorem lawAt {w : World} {K : PySem.W.Frag} {mg : Str → Option Value} {h : Heap} {f : Addr} (X : K.In h) (G : h.Ns mainGlobals mg) (c : SaysB fa fn (tf.map (·.1)) cn sp prg h K) (hmg : mg "law" = some (.ref f)) : LawAt row w K (tx K) (tf.map fun p => He.cT K p.1) 11 63 "script" mg f h F_law :=
  lawAt_of X c.toSaysA (by decide) (fun ns hl _ => law_holds ns hl) (lawEx X G c hmg)
end K07
open PySem PySem.W PySem.Calls PyProof.Rows in
theorem PySem.Challenge.cw_arborhall_k07_planets_holds : PySem.Challenge.rw_arborhall_k07_planets.Holds := by
  w_on; o_law
  refine HandSHeadRun.head_any (r := OpenLaw.row PySem.Challenge.rw_arborhall_k07_planets) (q := view (OpenLaw.row PySem.Challenge.rw_arborhall_k07_planets).prog [37]) (H := K07.hk) (ob := K07.ob) (M := 12000) (loose := K07.loose) (d := HandSHeadRun.topDef (OpenLaw.row PySem.Challenge.rw_arborhall_k07_planets).prog 37) (kwd := []) K07.ob_eq
    (by kernel_rfl) (fun s => by kernel_rfl) K07.run (by kernel_rfl) (by kernel_rfl) (by kernel_rfl) (by rfl) (by first | assumption | decide +kernel) (by decide +kernel) ⟨rfl, rfl, rfl, rfl, rfl, by decide +kernel⟩ ?hw ?hc
  case hw => w_witness2
  case hc =>
    refine Ar.walk_A (l := PySem.Challenge.rw_arborhall_k07_planets) (n := 63) (k := 11) (x := "script") (F := K07.F_law) rfl (by decide) (by kernel_rfl) ⟨rfl, by decide, by decide⟩ ?Y
    intro w mg fa h Y G hmg0
    obtain ⟨K, KX, c⟩ := Y
    have hmg : mg ("law" : PySem.Str) = some (.ref fa) := by
      have e : (HandSHeadRun.topDef (OpenLaw.row PySem.Challenge.rw_arborhall_k07_planets).prog 37).name = ("law" : PySem.Str) := by kernel_rfl
      rw [← e]
      exact hmg0
    exact ⟨K, K07.tx K, _, KX, K07.lawAt KX G c hmg⟩
