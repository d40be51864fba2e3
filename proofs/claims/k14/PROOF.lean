import PyProof.Rows.All
import Wide.All
import OpenK.AllK
import Wide.FinOn
import HandS.ForMost
import HandS.ForExc
import HandS.TupAny
import HandS.Flow
import HandS.Deep
import HandS.Wide
import HandS.IsInst
import HandS.SortInts
import HandS.SortRule
import HandS.Conv
import HandS.Style
import HandS.TupMul
import HandS.Zip
import HandS.DictComp
import HandS.DictTup
import KE.GoesMore
import PyProof.EnumMake
import PyProof.Draws
import KE.GoesEnum
import HandS.CallLocal
import PyProof.ListIndex
import KE.KStar
import PyProof.TupleOfSeq
import KE.KDictSum
import HandS.More
import HandS.Iter
import HandS.Sort
import PyProof.MaxThree
import HandS.SetFor
import KE.KDictCopyH
import KE.KDictZip
import KE.KItemsList
import HandS.Ends
import HandS.Words
import PySem.Challenge.RW_stafftree_k14_worlds_drawn_by_a_seed
set_option Elab.async false
set_option linter.all false
set_option maxRecDepth 100000
set_option autoImplicit false
set_option maxHeartbeats 4000000
/-! PD: values without the heap; what the slots hold; the configuration. -/
namespace PD
open PySem PySem.Spec PyProof.Rows L2

/-- built-in types -/
inductive Ty where
  | none | bool | int | str | tuple | list | dict
  deriving DecidableEq
def Ty.name : Ty → String
  | .none => "NoneType"
  | .bool => "bool"
  | .int => "int"
  | .str => "str"
  | .tuple => "tuple"
  | .list => "list"
  | .dict => "dict"
/-- a value with all that is in it -/
inductive D where
  | non | bl (b : Bool) | int (i : Int) | str (x : Str)
  | tup (xs : List D) | lst (xs : List D) | lk (xs : List D) | kt (xs : List D) | dct (t : Bool) (kvs : List (D × D)) | ins (c : Str) (fs : List (Str × D)) | fn (c : Str) | ty (t : Ty)
  deriving Inhabited

/-- what a slot holds: nothing known, a value that is not changed any more, an object that is this slot's own -/
inductive SV where
  | no | fz (d : D) | own (d : D)
  deriving Inhabited
/-- what an expression gives: as above, or the own object of slot i -/
inductive RV where
  | fz (d : D) | own (d : D) | bor (i : Nat)
  deriving Inhabited
def RV.stk : RV → SV
  | .fz d => .fz d
  | .own d => .own d
  | .bor _ => .no

def kD : Key → D
  | .inl i => .int i
  | .inr x => .str x
def tkD (ks : List Key) : D := .tup (ks.map kD)

section
variable (K : PySem.W.Frag) (mg : Str → Option Value)
mutual
/-- v stands for d, by the objects of F -/
inductive DV (F : Hp) : D → V → Prop where
  | non : DV F .non .non
  | bl {b : Bool} : DV F (.bl b) (.bl b)
  | int {i : Int} : DV F (.int i) (.int i)
  | str {x : Str} : DV F (.str x) (.str x)
  | ty {t : Ty} : DV F (.ty t) (.ty t.name)
  | tup {a : Addr} {xs : List D} {vs : List V} : F a = some (.tup vs) → DVs F xs vs → DV F (.tup xs) (.ref a)
  | kt {a : Addr} {xs : List D} {vs : List V} : SqT K F a vs → DVs F xs vs → DV F (.kt xs) (.ref a)
  | lst {a : Addr} {xs : List D} {vs : List V} : F a = some (.lst vs) → DVs F xs vs → DV F (.lst xs) (.ref a)
  | lk {a : Addr} {xs : List D} {vs : List V} : SqL K F a vs → DVs F xs vs → DV F (.lk xs) (.ref a)
  | dK {a : Addr} {kvs : List (D × D)} {ks : List (Key × V)} : F a = some (.dK ks) → DKs F kvs ks → DV F (.dct false kvs) (.ref a)
  | dT {a : Addr} {kvs : List (D × D)} {ks : List (List Key × V)} : F a = some (.dT ks) → DTs F kvs ks → DV F (.dct true kvs) (.ref a)
  | ins {a C dx : Addr} {c : Str} {fs : List (Str × D)} {gs : List (Str × V)} : F a = some (.ins C dx gs) → mg c = some (.ref C) → DFs F fs gs → DV F (.ins c fs) (.ref a)
  | fn {c : Str} {f : Addr} : mg c = some (.ref f) → PySem.W.keepIn K (.ref f) = true → DV F (.fn c) (.ref f)
inductive DVs (F : Hp) : List D → List V → Prop where
  | nil : DVs F [] []
  | cons {d : D} {v : V} {ds : List D} {vs : List V} : DV F d v → DVs F ds vs → DVs F (d :: ds) (v :: vs)
inductive DKs (F : Hp) : List (D × D) → List (Key × V) → Prop where
  | nil : DKs F [] []
  | cons {k : Key} {d : D} {v : V} {ds : List (D × D)} {vs : List (Key × V)} : DV F d v → DKs F ds vs → DKs F ((kD k, d) :: ds) ((k, v) :: vs)
inductive DTs (F : Hp) : List (D × D) → List (List Key × V) → Prop where
  | nil : DTs F [] []
  | cons {k : List Key} {d : D} {v : V} {ds : List (D × D)} {vs : List (List Key × V)} : DV F d v → DTs F ds vs → DTs F ((tkD k, d) :: ds) ((k, v) :: vs)
inductive DFs (F : Hp) : List (Str × D) → List (Str × V) → Prop where
  | nil : DFs F [] []
  | cons {k : Str} {d : D} {v : V} {ds : List (Str × D)} {vs : List (Str × V)} : DV F d v → DFs F ds vs → DFs F ((k, d) :: ds) ((k, v) :: vs)
end
end

section
variable {K : PySem.W.Frag} {mg : Str → Option Value} {F F' : Hp}
theorem sqT_mono {a : Addr} {vs : List V} (m : ∀ a o, F a = some o → F' a = some o) (h : SqT K F a vs) : SqT K F' a vs := by
  rcases h with (h | ⟨o, h⟩) | h
  · exact .inl (.inl (m _ _ h))
  · exact .inl (.inr ⟨o, m _ _ h⟩)
  · exact .inr h
theorem sqL_mono {a : Addr} {vs : List V} (m : ∀ a o, F a = some o → F' a = some o) (h : SqL K F a vs) : SqL K F' a vs := by
  rcases h with (h | ⟨o, h⟩) | h
  · exact .inl (.inl (m _ _ h))
  · exact .inl (.inr ⟨o, m _ _ h⟩)
  · exact .inr h
mutual
theorem DV.mono (m : ∀ a o, F a = some o → F' a = some o) : ∀ {d : D} {v : V}, DV K mg F d v → DV K mg F' d v
  | _, _, .non => .non
  | _, _, .bl => .bl
  | _, _, .int => .int
  | _, _, .str => .str
  | _, _, .ty => .ty
  | _, _, .tup s r => .tup (m _ _ s) (DVs.mono m r)
  | _, _, .kt s r => .kt (sqT_mono m s) (DVs.mono m r)
  | _, _, .lst s r => .lst (m _ _ s) (DVs.mono m r)
  | _, _, .lk s r => .lk (sqL_mono m s) (DVs.mono m r)
  | _, _, .dK s r => .dK (m _ _ s) (DKs.mono m r)
  | _, _, .dT s r => .dT (m _ _ s) (DTs.mono m r)
  | _, _, .ins s c r => .ins (m _ _ s) c (DFs.mono m r)
  | _, _, .fn h k => .fn h k
theorem DVs.mono (m : ∀ a o, F a = some o → F' a = some o) : ∀ {d : List D} {v : List V}, DVs K mg F d v → DVs K mg F' d v
  | _, _, .nil => .nil
  | _, _, .cons s r => .cons (DV.mono m s) (DVs.mono m r)
theorem DKs.mono (m : ∀ a o, F a = some o → F' a = some o) : ∀ {d : List (D × D)} {v : List (Key × V)}, DKs K mg F d v → DKs K mg F' d v
  | _, _, .nil => .nil
  | _, _, .cons s r => .cons (DV.mono m s) (DKs.mono m r)
theorem DTs.mono (m : ∀ a o, F a = some o → F' a = some o) : ∀ {d : List (D × D)} {v : List (List Key × V)}, DTs K mg F d v → DTs K mg F' d v
  | _, _, .nil => .nil
  | _, _, .cons s r => .cons (DV.mono m s) (DTs.mono m r)
theorem DFs.mono (m : ∀ a o, F a = some o → F' a = some o) : ∀ {d : List (Str × D)} {v : List (Str × V)}, DFs K mg F d v → DFs K mg F' d v
  | _, _, .nil => .nil
  | _, _, .cons s r => .cons (DV.mono m s) (DFs.mono m r)
end

theorem DVs.length {xs : List D} {vs : List V} (h : DVs K mg F xs vs) : xs.length = vs.length := by
  induction xs generalizing vs with
  | nil => cases h; rfl
  | cons d ds ih => cases h with | cons _ r => simp [ih r]
theorem DVs.get {xs : List D} {vs : List V} (h : DVs K mg F xs vs) {i : Nat} {d : D} (e : xs[i]? = some d) : ∃ v, vs[i]? = some v ∧ DV K mg F d v := by
  induction xs generalizing vs i with
  | nil => simp at e
  | cons x ds ih =>
    cases h with
    | cons hd r =>
      cases i with
      | zero => simp at e; subst e; exact ⟨_, rfl, hd⟩
      | succ i => simpa using ih r (by simpa using e)
theorem DVs.get' {xs : List D} {vs : List V} (h : DVs K mg F xs vs) {i : Nat} {v : V} (e : vs[i]? = some v) : ∃ d, xs[i]? = some d ∧ DV K mg F d v := by
  induction xs generalizing vs i with
  | nil => cases h; simp at e
  | cons x ds ih =>
    cases h with
    | cons hd r =>
      cases i with
      | zero => simp at e; subst e; exact ⟨_, rfl, hd⟩
      | succ i => simpa using ih r (by simpa using e)
theorem DVs.append {xs ys : List D} {vs ws : List V} (h : DVs K mg F xs vs) (h' : DVs K mg F ys ws) : DVs K mg F (xs ++ ys) (vs ++ ws) := by
  induction xs generalizing vs with
  | nil => cases h; exact h'
  | cons d ds ih => cases h with | cons a r => exact .cons a (ih r)
theorem DVs.take {xs : List D} {vs : List V} (n : Nat) (h : DVs K mg F xs vs) : DVs K mg F (xs.take n) (vs.take n) := by
  induction xs generalizing vs n with
  | nil => cases h; simp; exact .nil
  | cons d ds ih =>
    cases h with
    | cons a r =>
      cases n with
      | zero => simp; exact .nil
      | succ n => simp; exact .cons a (ih n r)
theorem DVs.drop {xs : List D} {vs : List V} (n : Nat) (h : DVs K mg F xs vs) : DVs K mg F (xs.drop n) (vs.drop n) := by
  induction xs generalizing vs n with
  | nil => cases h; simp; exact .nil
  | cons d ds ih =>
    cases h with
    | cons a r =>
      cases n with
      | zero => simp; exact .cons a r
      | succ n => simp; exact ih n r
theorem DVs.reverse {xs : List D} {vs : List V} (h : DVs K mg F xs vs) : DVs K mg F xs.reverse vs.reverse := by
  induction xs generalizing vs with
  | nil => cases h; exact .nil
  | cons d ds ih =>
    cases h with
    | cons a r => rw [List.reverse_cons, List.reverse_cons]; exact (ih r).append (.cons a .nil)
theorem DVs.set {xs : List D} {vs : List V} (h : DVs K mg F xs vs) (i : Nat) {d : D} {v : V} (hd : DV K mg F d v) : DVs K mg F (xs.set i d) (vs.set i v) := by
  induction xs generalizing vs i with
  | nil => cases h; simp; exact .nil
  | cons x ds ih =>
    cases h with
    | cons a r =>
      cases i with
      | zero => exact .cons hd r
      | succ i => exact .cons a (ih r i)
theorem DVs.eraseIdx {xs : List D} {vs : List V} (h : DVs K mg F xs vs) (i : Nat) : DVs K mg F (xs.eraseIdx i) (vs.eraseIdx i) := by
  induction xs generalizing vs i with
  | nil => cases h; simp; exact .nil
  | cons x ds ih =>
    cases h with
    | cons a r =>
      cases i with
      | zero => exact r
      | succ i => exact .cons a (ih r i)
end

/-- an own object's content -/
inductive HV (K : PySem.W.Frag) (mg : Str → Option Value) (F : Hp) : D → HO → Prop where
  | lst {xs : List D} {vs : List V} : DVs K mg F xs vs → HV K mg F (.lst xs) (.lst vs)
  | dK {kvs : List (D × D)} {ks : List (Key × V)} : DKs K mg F kvs ks → HV K mg F (.dct false kvs) (.dK ks)
  | dT {kvs : List (D × D)} {ks : List (List Key × V)} : DTs K mg F kvs ks → HV K mg F (.dct true kvs) (.dT ks)
  | ins {C dx : Addr} {c : Str} {fs : List (Str × D)} {gs : List (Str × V)} : mg c = some (.ref C) → DFs K mg F fs gs → HV K mg F (.ins c fs) (.ins C dx gs)
theorem HV.mono {K : PySem.W.Frag} {mg : Str → Option Value} {F F' : Hp} (m : ∀ a o, F a = some o → F' a = some o) {d : D} {o : HO} (h : HV K mg F d o) : HV K mg F' d o := by
  cases h with
  | lst r => exact .lst (r.mono m)
  | dK r => exact .dK (r.mono m)
  | dT r => exact .dT (r.mono m)
  | ins c r => exact .ins c (r.mono m)
theorem HV.not_tup {K : PySem.W.Frag} {mg : Str → Option Value} {F : Hp} {d : D} {o : HO} (h : HV K mg F d o) : ∀ xs, o ≠ .tup xs := by
  intro xs e
  subst e
  cases h
/-- an object whose content is known stands for the value -/
theorem HV.dv {K : PySem.W.Frag} {mg : Str → Option Value} {F F' : Hp} (m : ∀ a o, F a = some o → F' a = some o) {d : D} {o : HO} {p : Addr} (h : HV K mg F d o) (e : F' p = some o) : DV K mg F' d (.ref p) := by
  cases h with
  | lst r => exact .lst e (r.mono m)
  | dK r => exact .dK e (r.mono m)
  | dT r => exact .dT e (r.mono m)
  | ins c r => exact .ins e c (r.mono m)

/-- how it was at the entry: what was frozen, the heap, the own objects handed over, their slots -/
structure Bs where
  F0 : Hp
  H0 : Hp
  A0 : Addr → Prop
  pr : List (Nat × Addr)

def Gd (K : PySem.W.Frag) (mg : Str → Option Value) (F H : Hp) : SV → Option V → Prop
  | .no, _ => True
  | .fz d, o => ∃ v, o = some v ∧ DV K mg F d v
  | .own d, o => ∃ p ho, o = some (.ref p) ∧ F p = none ∧ H p = some ho ∧ HV K mg F d ho
def ownS (ρ : List SV) (σ : L2.St) (i : Nat) (p : Addr) : Prop := ∃ d, ρ[i]? = some (.own d) ∧ σ[i]? = some (some (.ref p))
def ownT (τ : List (SV × V)) (p : Addr) : Prop := ∃ d, (SV.own d, V.ref p) ∈ τ

structure Cfg (K : PySem.W.Frag) (mg : Str → Option Value) (B : Bs) (F : Hp) (ρ : List SV) (σ : L2.St) (τ : List (SV × V)) (H : Hp) : Prop where
  len : ρ.length = σ.length
  sub : ∀ a o, F a = some o → H a = some o
  gs : ∀ (i : Nat) (sv : SV), ρ[i]? = some sv → Gd K mg F H sv (σ[i]?.join)
  gt : ∀ x ∈ τ, Gd K mg F H x.1 (some x.2)
  s1 : ∀ i j p, ownS ρ σ i p → ownS ρ σ j p → i = j
  s2 : ∀ i p, ownS ρ σ i p → ¬ ownT τ p
  s3 : τ.Pairwise (fun x y => ∀ p d d', x = (SV.own d, V.ref p) → y ≠ (SV.own d', V.ref p))
  b1 : ∀ a o, F a = some o → B.F0 a = some o ∨ B.H0 a = none ∨ B.A0 a ∨ ∃ xs, o = .tup xs
  b2 : ∀ b o, B.H0 b = some o → ¬ B.A0 b → H b = some o
  b3 : ∀ p, (∃ i, ownS ρ σ i p) ∨ ownT τ p → B.H0 p = none ∨ B.A0 p
  b4 : ∀ a o, B.F0 a = some o → F a = some o
  pr : ∀ x ∈ B.pr, σ[x.1]? = some (some (.ref x.2))
  prH : ∀ x ∈ B.pr, ∃ o, B.H0 x.2 = some o

section
variable {K : PySem.W.Frag} {mg : Str → Option Value} {B : Bs} {F F' H H' : Hp} {ρ : List SV} {σ : L2.St} {τ : List (SV × V)}

theorem Gd.mono (mF : ∀ a o, F a = some o → F' a = some o) (h : ∀ p ho d, H p = some ho → F p = none → HV K mg F d ho → F' p = none ∧ H' p = some ho) {sv : SV} {ov : Option V} (g : Gd K mg F H sv ov) : Gd K mg F' H' sv ov := by
  cases sv with
  | no => trivial
  | fz d => obtain ⟨v, e, r⟩ := g; exact ⟨v, e, r.mono mF⟩
  | own d => obtain ⟨p, ho, e, n, q, r⟩ := g; obtain ⟨n', q'⟩ := h p ho d q n r; exact ⟨p, ho, e, n', q', r.mono mF⟩
theorem Cfg.pop {x : SV × V} (c : Cfg K mg B F ρ σ (x :: τ) H) : Cfg K mg B F ρ σ τ H :=
  { c with
    gt := fun y hy => c.gt y (List.mem_cons_of_mem _ hy)
    s2 := fun i p h ⟨d, t⟩ => c.s2 i p h ⟨d, List.mem_cons_of_mem _ t⟩
    s3 := (List.pairwise_cons.mp c.s3).2
    b3 := fun p h => c.b3 p (h.imp id fun ⟨d, t⟩ => ⟨d, List.mem_cons_of_mem _ t⟩) }
theorem Cfg.pushN (c : Cfg K mg B F ρ σ τ H) (v : V) : Cfg K mg B F ρ σ ((.no, v) :: τ) H :=
  { c with
    gt := fun y hy => by
      rcases List.mem_cons.mp hy with rfl | hy
      · trivial
      · exact c.gt y hy
    s2 := fun i p h ⟨d, t⟩ => by
      rcases List.mem_cons.mp t with e | t
      · cases e
      · exact c.s2 i p h ⟨d, t⟩
    s3 := List.pairwise_cons.mpr ⟨fun y hy p d d' e => (by cases e), c.s3⟩
    b3 := fun p h => c.b3 p (h.imp id fun ⟨d, t⟩ => by
      rcases List.mem_cons.mp t with e | t
      · cases e
      · exact ⟨d, t⟩) }
theorem Cfg.push {d : D} {v : V} (c : Cfg K mg B F ρ σ τ H) (r : DV K mg F d v) : Cfg K mg B F ρ σ ((.fz d, v) :: τ) H :=
  { c with
    gt := fun y hy => by
      rcases List.mem_cons.mp hy with rfl | hy
      · exact ⟨v, rfl, r⟩
      · exact c.gt y hy
    s2 := fun i p h ⟨d, t⟩ => by
      rcases List.mem_cons.mp t with e | t
      · cases e
      · exact c.s2 i p h ⟨d, t⟩
    s3 := List.pairwise_cons.mpr ⟨fun y hy p d d' e => (by cases e), c.s3⟩
    b3 := fun p h => c.b3 p (h.imp id fun ⟨d, t⟩ => by
      rcases List.mem_cons.mp t with e | t
      · cases e
      · exact ⟨d, t⟩) }
theorem Cfg.top {d : D} {v : V} (c : Cfg K mg B F ρ σ ((.fz d, v) :: τ) H) : DV K mg F d v := by
  obtain ⟨v', e, r⟩ := c.gt _ List.mem_cons_self
  cases e; exact r

/-- at what is own -/
theorem Cfg.ownS_at (c : Cfg K mg B F ρ σ τ H) {i : Nat} {p : Addr} (h : ownS ρ σ i p) : F p = none ∧ ∃ d ho, H p = some ho ∧ ρ[i]? = some (.own d) ∧ HV K mg F d ho := by
  obtain ⟨d, e1, e2⟩ := h
  obtain ⟨q, ho, e, n, hh, r⟩ := c.gs i _ e1
  rw [e2] at e
  cases e
  exact ⟨n, d, ho, hh, e1, r⟩
theorem Cfg.ownT_at (c : Cfg K mg B F ρ σ τ H) {p : Addr} (h : ownT τ p) : F p = none ∧ ∃ d ho, H p = some ho ∧ HV K mg F d ho := by
  obtain ⟨d, hm⟩ := h
  obtain ⟨q, ho, e, n, hh, r⟩ := c.gt _ hm
  cases e
  exact ⟨n, d, ho, hh, r⟩

/-- a new object that is frozen at once -/
theorem Cfg.allocF {o : HO} {p : Addr} (c : Cfg K mg B F ρ σ τ H) (hp : H p = none) : Cfg K mg B (upd F p o) ρ σ τ (upd H p o) ∧ (∀ a u, F a = some u → upd F p o a = some u) := by
  have mF : ∀ a u, F a = some u → upd F p o a = some u := fun a u e => by
    rw [upd_ne (ne_of_none (c.sub _ _ e) hp)]; exact e
  have keep : ∀ q ho, H q = some ho → upd H p o q = some ho := fun q ho e => by rw [upd_ne (ne_of_none e hp)]; exact e
  have gk : ∀ q ho d, H q = some ho → F q = none → HV K mg F d ho → upd F p o q = none ∧ upd H p o q = some ho := fun q ho d e n r =>
    ⟨by rw [upd_ne (ne_of_none e hp)]; exact n, keep q ho e⟩
  refine ⟨{ c with
    sub := fun a u e => ?_
    gs := fun i sv e => (c.gs i sv e).mono mF gk
    gt := fun x hx => (c.gt x hx).mono mF gk
    b1 := fun a u e => ?_
    b2 := fun b u e n => keep _ _ (c.b2 b u e n)
    b4 := fun a u e => mF _ _ (c.b4 a u e) }, mF⟩
  · by_cases h : a = p
    · subst h; rw [upd_same] at e ⊢; exact e
    · rw [upd_ne h] at e ⊢; exact c.sub a u e
  · by_cases h : a = p
    · subst h
      cases q : B.H0 a with
      | none => exact .inr (.inl rfl)
      | some w =>
        by_cases hA : B.A0 a
        · exact .inr (.inr (.inl hA))
        · rw [c.b2 a w q hA] at hp; cases hp
    · rw [upd_ne h] at e; exact c.b1 a u e
/-- a new object that is the stack's own -/
theorem Cfg.allocO {o : HO} {d : D} {p : Addr} (c : Cfg K mg B F ρ σ τ H) (hp : H p = none) (r : HV K mg F d o) : Cfg K mg B F ρ σ ((.own d, .ref p) :: τ) (upd H p o) := by
  have keep : ∀ q ho, H q = some ho → upd H p o q = some ho := fun q ho e => by rw [upd_ne (ne_of_none e hp)]; exact e
  have gk : ∀ q ho d, H q = some ho → F q = none → HV K mg F d ho → F q = none ∧ upd H p o q = some ho := fun q ho d e n r => ⟨n, keep q ho e⟩
  have fp : F p = none := by
    cases q : F p with
    | none => rfl
    | some u => rw [c.sub p u q] at hp; cases hp
  have nS : ∀ i, ¬ ownS ρ σ i p := fun i h => by
    obtain ⟨_, _, ho, hh, _⟩ := c.ownS_at h
    rw [hp] at hh; cases hh
  have nT : ¬ ownT τ p := fun h => by
    obtain ⟨_, _, ho, hh, _⟩ := c.ownT_at h
    rw [hp] at hh; cases hh
  refine { c with
    sub := fun a u e => keep _ _ (c.sub a u e)
    gs := fun i sv e => (c.gs i sv e).mono (fun _ _ e => e) gk
    gt := fun x hx => ?_
    s2 := fun i q h ⟨d', t⟩ => ?_
    s3 := List.pairwise_cons.mpr ⟨fun y hy q d1 d2 e e2 => ?_, c.s3⟩
    b2 := fun b u e n => keep _ _ (c.b2 b u e n)
    b3 := fun q h => ?_ }
  · rcases List.mem_cons.mp hx with rfl | hx
    · exact ⟨p, o, rfl, fp, upd_same, r⟩
    · exact (c.gt x hx).mono (fun _ _ e => e) gk
  · rcases List.mem_cons.mp t with e | t
    · cases e; exact nS i h
    · exact c.s2 i q h ⟨d', t⟩
  · cases e; subst e2; exact nT ⟨d2, hy⟩
  · rcases h with h | ⟨d', t⟩
    · exact c.b3 q (.inl h)
    · rcases List.mem_cons.mp t with e | t
      · cases e
        cases z : B.H0 p with
        | none => exact .inl rfl
        | some w =>
          by_cases hA : B.A0 p
          · exact .inr hA
          · rw [c.b2 p w z hA] at hp; cases hp
      · exact c.b3 q (.inr ⟨d', t⟩)
/-- the stack's own object is frozen -/
theorem Cfg.freezeT {d : D} {v : V} (c : Cfg K mg B F ρ σ ((.own d, v) :: τ) H) : ∃ F', Cfg K mg B F' ρ σ ((.fz d, v) :: τ) H ∧ ∀ a o, F a = some o → F' a = some o := by
  obtain ⟨p, o, e, n, hh, r⟩ := c.gt _ List.mem_cons_self
  cases e
  have mF : ∀ a u, F a = some u → upd F p o a = some u := fun a u e => by
    rw [upd_ne (fun z => by rw [z, n] at e; cases e)]; exact e
  have nS : ∀ i, ¬ ownS ρ σ i p := fun i h => c.s2 i p h ⟨d, List.mem_cons_self⟩
  have nT : ¬ ownT τ p := fun ⟨d', h⟩ => (List.pairwise_cons.mp c.s3).1 _ h p d d' rfl rfl
  refine ⟨upd F p o, ?_, mF⟩
  have c0 := c.pop
  refine { c0 with
    sub := fun a u e => ?_
    gs := fun i sv e => ?_
    gt := fun x hx => ?_
    s2 := fun i q h ⟨d', t⟩ => ?_
    s3 := List.pairwise_cons.mpr ⟨fun y hy q d1 d2 e => (by cases e), c0.s3⟩
    b1 := fun a u e => ?_
    b3 := fun q h => c0.b3 q (h.imp id fun ⟨d', t⟩ => ?_)
    b4 := fun a u e => mF _ _ (c.b4 a u e) }
  · by_cases h : a = p
    · subst h; rw [upd_same] at e; cases e; exact hh
    · rw [upd_ne h] at e; exact c.sub a u e
  · have g := c.gs i sv e
    cases sv with
    | no => trivial
    | fz d' => obtain ⟨v, e, r⟩ := g; exact ⟨v, e, r.mono mF⟩
    | own d' =>
      obtain ⟨q, ho, e', n', h', r'⟩ := g
      have hq : q ≠ p := fun z => nS i ⟨d', e, by rw [← z]; cases z2 : σ[i]? with | none => rw [z2] at e'; cases e' | some w => rw [z2] at e'; simp at e'; rw [e']⟩
      exact ⟨q, ho, e', by rw [upd_ne hq]; exact n', h', r'.mono mF⟩
  · rcases List.mem_cons.mp hx with rfl | hx
    · exact ⟨_, rfl, r.dv mF upd_same⟩
    · have g := c0.gt x hx
      obtain ⟨sv, v⟩ := x
      cases sv with
      | no => trivial
      | fz d' => obtain ⟨v, e, r⟩ := g; exact ⟨v, e, r.mono mF⟩
      | own d' =>
        obtain ⟨q, ho, e', n', h', r'⟩ := g
        cases e'
        have hq : q ≠ p := fun z => nT ⟨d', by rw [← z]; exact hx⟩
        exact ⟨q, ho, rfl, by rw [upd_ne hq]; exact n', h', r'.mono mF⟩
  · rcases List.mem_cons.mp t with e | t
    · cases e
    · exact c0.s2 i q h ⟨d', t⟩
  · by_cases h : a = p
    · subst h
      rcases c.b3 a (.inr ⟨d, List.mem_cons_self⟩) with z | z
      · exact .inr (.inl z)
      · exact .inr (.inr (.inl z))
    · rw [upd_ne h] at e; exact c.b1 a u e
  · rcases List.mem_cons.mp t with e | t
    · cases e
    · exact ⟨d', t⟩

theorem Gd.own_of {sv : SV} {ov : Option V} (g : Gd K mg F H sv ov) {d : D} (e : sv = .own d) : ∃ p ho, ov = some (.ref p) ∧ F p = none ∧ H p = some ho ∧ HV K mg F d ho := by subst e; exact g
theorem join_some {i : Nat} {v : V} (e : σ[i]?.join = some v) : σ[i]? = some (some v) := by
  cases z : σ[i]? with
  | none => rw [z] at e; cases e
  | some w => rw [z] at e; cases w with
    | none => cases e
    | some w => have e' : w = v := by simpa using e
                rw [e']
theorem Cfg.own_slot (c : Cfg K mg B F ρ σ τ H) {i : Nat} {d : D} (e : ρ[i]? = some (.own d)) : ∃ p ho, σ[i]? = some (some (.ref p)) ∧ F p = none ∧ H p = some ho ∧ HV K mg F d ho := by
  obtain ⟨p, ho, e1, r⟩ := c.gs i _ e
  exact ⟨p, ho, join_some e1, r⟩
theorem Cfg.fz_slot (c : Cfg K mg B F ρ σ τ H) {i : Nat} {d : D} (e : ρ[i]? = some (.fz d)) : ∃ v, σ[i]? = some (some v) ∧ DV K mg F d v := by
  obtain ⟨v, e1, r⟩ := c.gs i _ e
  exact ⟨v, join_some e1, r⟩
/-- an own slot's object is frozen -/
theorem Cfg.freezeS {i : Nat} {d : D} (c : Cfg K mg B F ρ σ τ H) (e : ρ[i]? = some (.own d)) : ∃ F', Cfg K mg B F' (ρ.set i (.fz d)) σ τ H ∧ (∀ a o, F a = some o → F' a = some o) ∧ ∃ v, σ[i]? = some (some v) ∧ DV K mg F' d v := by
  obtain ⟨p, o, es, n, hh, r⟩ := c.own_slot e
  have mF : ∀ a u, F a = some u → upd F p o a = some u := fun a u e => by
    rw [upd_ne (fun z => by rw [z, n] at e; cases e)]; exact e
  have hi : i < ρ.length := (List.getElem?_eq_some_iff.mp e).1
  have oi : ownS ρ σ i p := ⟨d, e, es⟩
  have nS : ∀ j, j ≠ i → ¬ ownS ρ σ j p := fun j hj h => hj (c.s1 j i p h oi)
  have nT : ¬ ownT τ p := c.s2 i p oi
  have sub' : ∀ j q, ownS (ρ.set i (.fz d)) σ j q → ownS ρ σ j q ∧ j ≠ i := fun j q ⟨d', h1, h2⟩ => by
    by_cases hj : j = i
    · subst hj; rw [List.getElem?_set_self hi] at h1; cases h1
    · rw [List.getElem?_set_ne (Ne.symm hj)] at h1; exact ⟨⟨d', h1, h2⟩, hj⟩
  have rd : DV K mg (upd F p o) d (.ref p) := r.dv mF upd_same
  refine ⟨upd F p o, ?_, mF, _, es, rd⟩
  refine { c with
    len := by rw [List.length_set]; exact c.len
    sub := fun a u e => ?_
    gs := fun j sv e' => ?_
    gt := fun x hx => ?_
    s1 := fun j k q h1 h2 => c.s1 j k q (sub' j q h1).1 (sub' k q h2).1
    s2 := fun j q h1 => c.s2 j q (sub' j q h1).1
    b1 := fun a u e => ?_
    b3 := fun q h => c.b3 q (h.imp (fun ⟨j, h⟩ => ⟨j, (sub' j q h).1⟩) id)
    b4 := fun a u e => mF _ _ (c.b4 a u e) }
  · by_cases h : a = p
    · subst h; rw [upd_same] at e; cases e; exact hh
    · rw [upd_ne h] at e; exact c.sub a u e
  · by_cases hj : j = i
    · subst hj; rw [List.getElem?_set_self hi] at e'; cases e'
      exact ⟨.ref p, by rw [es]; rfl, rd⟩
    · rw [List.getElem?_set_ne (Ne.symm hj)] at e'
      have g := c.gs j sv e'
      cases sv with
      | no => trivial
      | fz d' => obtain ⟨v, e, r⟩ := g; exact ⟨v, e, r.mono mF⟩
      | own d' =>
        obtain ⟨q, ho, e2, n', h', r'⟩ := g
        have hq : q ≠ p := fun z => nS j hj ⟨d', e', by rw [← z]; exact join_some e2⟩
        exact ⟨q, ho, e2, by rw [upd_ne hq]; exact n', h', r'.mono mF⟩
  · have g := c.gt x hx
    obtain ⟨sv, v⟩ := x
    cases sv with
    | no => trivial
    | fz d' => obtain ⟨v, e, r⟩ := g; exact ⟨v, e, r.mono mF⟩
    | own d' =>
      obtain ⟨q, ho, e', n', h', r'⟩ := g
      cases e'
      have hq : q ≠ p := fun z => nT ⟨d', by rw [← z]; exact hx⟩
      exact ⟨q, ho, rfl, by rw [upd_ne hq]; exact n', h', r'.mono mF⟩
  · by_cases h : a = p
    · subst h
      rcases c.b3 a (.inl ⟨i, oi⟩) with z | z
      · exact .inr (.inl z)
      · exact .inr (.inr (.inl z))
    · rw [upd_ne h] at e; exact c.b1 a u e
/-- an own slot's object is changed -/
theorem Cfg.mutS {i : Nat} {d d' : D} {p : Addr} {o : HO} (c : Cfg K mg B F ρ σ τ H) (e : ρ[i]? = some (.own d)) (es : σ[i]? = some (some (.ref p))) (r : HV K mg F d' o) : Cfg K mg B F (ρ.set i (.own d')) σ τ (upd H p o) := by
  obtain ⟨p', o', es', n, hh, r'⟩ := c.own_slot e
  rw [es] at es'; cases es'
  have hi : i < ρ.length := (List.getElem?_eq_some_iff.mp e).1
  have oi : ownS ρ σ i p := ⟨d, e, es⟩
  have nT : ¬ ownT τ p := c.s2 i p oi
  have sub' : ∀ j q, ownS (ρ.set i (.own d')) σ j q → ownS ρ σ j q := fun j q ⟨d2, h1, h2⟩ => by
    by_cases hj : j = i
    · subst hj; exact ⟨d, e, h2⟩
    · rw [List.getElem?_set_ne (Ne.symm hj)] at h1; exact ⟨d2, h1, h2⟩
  refine { c with
    len := by rw [List.length_set]; exact c.len
    sub := fun a u e => by rw [upd_ne (fun z => by rw [z, n] at e; cases e)]; exact c.sub a u e
    gs := fun j sv e' => ?_
    gt := fun x hx => ?_
    s1 := fun j k q h1 h2 => c.s1 j k q (sub' j q h1) (sub' k q h2)
    s2 := fun j q h1 => c.s2 j q (sub' j q h1)
    b2 := fun b u e hA => ?_
    b3 := fun q h => c.b3 q (h.imp (fun ⟨j, h⟩ => ⟨j, sub' j q h⟩) id) }
  · by_cases hj : j = i
    · subst hj; rw [List.getElem?_set_self hi] at e'; cases e'
      exact ⟨p, o, by rw [es]; rfl, n, upd_same, r⟩
    · rw [List.getElem?_set_ne (Ne.symm hj)] at e'
      have g := c.gs j sv e'
      cases sv with
      | no => trivial
      | fz d' => exact g
      | own d2 =>
        obtain ⟨q, ho, e2, n', h', r2⟩ := g
        have hq : q ≠ p := fun z => hj (c.s1 j i p ⟨d2, e', by rw [← z]; exact join_some e2⟩ oi)
        exact ⟨q, ho, e2, n', by rw [upd_ne hq]; exact h', r2⟩
  · have g := c.gt x hx
    obtain ⟨sv, v⟩ := x
    cases sv with
    | no => trivial
    | fz d' => exact g
    | own d2 =>
      obtain ⟨q, ho, e', n', h', r2⟩ := g
      cases e'
      have hq : q ≠ p := fun z => nT ⟨d2, by rw [← z]; exact hx⟩
      exact ⟨q, ho, rfl, n', by rw [upd_ne hq]; exact h', r2⟩
  · have hb : b ≠ p := fun z => by
      subst z
      rcases c.b3 b (.inl ⟨i, oi⟩) with z | z
      · rw [z] at e; cases e
      · exact hA z
    rw [upd_ne hb]; exact c.b2 b u e hA
/-- the top of the stack goes into slot i -/
theorem Cfg.assign {i : Nat} {sv : SV} {v : V} (c : Cfg K mg B F ρ σ ((sv, v) :: τ) H) (hp : ∀ x ∈ B.pr, x.1 ≠ i) : Cfg K mg B F (ρ.set i sv) (σ.set i (some v)) τ H := by
  have g := c.gt _ List.mem_cons_self
  have c0 := c.pop
  have sub' : ∀ j q, ownS (ρ.set i sv) (σ.set i (some v)) j q → (j = i ∧ ∃ d, sv = .own d ∧ v = .ref q) ∨ (j ≠ i ∧ ownS ρ σ j q) := fun j q ⟨d2, h1, h2⟩ => by
    by_cases hj : j = i
    · subst hj
      have hi : j < ρ.length := by
        have := (List.getElem?_eq_some_iff.mp h1).1
        simpa using this
      rw [List.getElem?_set_self hi] at h1
      rw [List.getElem?_set_self (by rw [← c.len]; exact hi)] at h2
      refine .inl ⟨rfl, d2, Option.some.inj h1, ?_⟩
      have := Option.some.inj h2
      exact Option.some.inj this
    · rw [List.getElem?_set_ne (Ne.symm hj)] at h1 h2; exact .inr ⟨hj, d2, h1, h2⟩
  refine { c0 with
    len := by rw [List.length_set, List.length_set]; exact c.len
    gs := fun j sv' e' => ?_
    s1 := fun j k q h1 h2 => ?_
    s2 := fun j q h1 => ?_
    b3 := fun q h => ?_
    pr := fun x hx => by rw [List.getElem?_set_ne (Ne.symm (hp x hx))]; exact c.pr x hx }
  · by_cases hj : j = i
    · subst hj
      have hi : j < ρ.length := by
        have := (List.getElem?_eq_some_iff.mp e').1
        simpa using this
      rw [List.getElem?_set_self hi] at e'; cases e'
      rw [List.getElem?_set_self (by rw [← c.len]; exact hi)]
      exact g
    · rw [List.getElem?_set_ne (Ne.symm hj)] at e' ⊢; exact c.gs j sv' e'
  · rcases sub' j q h1 with ⟨hj, d, e1, e2⟩ | ⟨hj, o1⟩
    · rcases sub' k q h2 with ⟨hk, _⟩ | ⟨hk, o2⟩
      · rw [hj, hk]
      · exact absurd ⟨d, by rw [e1, e2]; exact List.mem_cons_self⟩ (c.s2 k q o2)
    · rcases sub' k q h2 with ⟨hk, d, e1, e2⟩ | ⟨hk, o2⟩
      · exact absurd ⟨d, by rw [e1, e2]; exact List.mem_cons_self⟩ (c.s2 j q o1)
      · exact c.s1 j k q o1 o2
  · rcases sub' j q h1 with ⟨hj, d, e1, e2⟩ | ⟨hj, o1⟩
    · rintro ⟨d', hm⟩
      subst e1 e2
      exact (List.pairwise_cons.mp c.s3).1 _ hm q d d' rfl rfl
    · exact c0.s2 j q o1
  · rcases h with ⟨j, h⟩ | h
    · rcases sub' j q h with ⟨hj, d, e1, e2⟩ | ⟨hj, o1⟩
      · exact c.b3 q (.inr ⟨d, by rw [e1, e2]; exact List.mem_cons_self⟩)
      · exact c.b3 q (.inl ⟨j, o1⟩)
    · exact c0.b3 q (.inr h)
/-- a slot goes onto the stack, and is forgotten there -/
theorem Cfg.hide {i : Nat} {sv : SV} {v : V} (c : Cfg K mg B F ρ σ τ H) (e : ρ[i]? = some sv) (es : σ[i]? = some (some v)) (hp : ∀ x ∈ B.pr, x.1 ≠ i) : Cfg K mg B F (ρ.set i .no) (σ.set i none) ((sv, v) :: τ) H := by
  have hi : i < ρ.length := (List.getElem?_eq_some_iff.mp e).1
  have sub' : ∀ j q, ownS (ρ.set i .no) (σ.set i none) j q → j ≠ i ∧ ownS ρ σ j q := fun j q ⟨d2, h1, h2⟩ => by
    by_cases hj : j = i
    · subst hj; rw [List.getElem?_set_self hi] at h1; cases h1
    · rw [List.getElem?_set_ne (Ne.symm hj)] at h1 h2; exact ⟨hj, d2, h1, h2⟩
  have oi : ∀ q d, sv = .own d → v = .ref q → ownS ρ σ i q := fun q d e1 e2 => ⟨d, by rw [e, e1], by rw [es, e2]⟩
  refine { c with
    len := by rw [List.length_set, List.length_set]; exact c.len
    gs := fun j sv' e' => ?_
    gt := fun x hx => ?_
    s1 := fun j k q h1 h2 => c.s1 j k q (sub' j q h1).2 (sub' k q h2).2
    s2 := fun j q h1 ⟨d', hm⟩ => ?_
    s3 := List.pairwise_cons.mpr ⟨fun y hy q d1 d2 e1 e2 => ?_, c.s3⟩
    b3 := fun q h => ?_
    pr := fun x hx => by rw [List.getElem?_set_ne (Ne.symm (hp x hx))]; exact c.pr x hx }
  · by_cases hj : j = i
    · subst hj; rw [List.getElem?_set_self hi] at e'; cases e'; trivial
    · rw [List.getElem?_set_ne (Ne.symm hj)] at e' ⊢; exact c.gs j sv' e'
  · rcases List.mem_cons.mp hx with rfl | hx
    · have g := c.gs i sv e
      rw [es] at g
      exact g
    · exact c.gt x hx
  · obtain ⟨hj, o1⟩ := sub' j q h1
    rcases List.mem_cons.mp hm with e1 | hm
    · cases e1; exact hj (c.s1 j i q o1 (oi q d' rfl rfl))
    · exact c.s2 j q o1 ⟨d', hm⟩
  · cases e1; subst e2
    exact c.s2 i q (oi q d1 rfl rfl) ⟨d2, hy⟩
  · rcases h with ⟨j, h⟩ | ⟨d', hm⟩
    · exact c.b3 q (.inl ⟨j, (sub' j q h).2⟩)
    · rcases List.mem_cons.mp hm with e1 | hm
      · cases e1; exact c.b3 q (.inl ⟨i, oi q d' rfl rfl⟩)
      · exact c.b3 q (.inr ⟨d', hm⟩)
/-- a slot is forgotten -/
theorem Cfg.forget {i : Nat} (c : Cfg K mg B F ρ σ τ H) (hp : ∀ x ∈ B.pr, x.1 ≠ i) : Cfg K mg B F (ρ.set i .no) (σ.set i none) τ H := by
  have sub' : ∀ j q, ownS (ρ.set i .no) (σ.set i none) j q → ownS ρ σ j q := fun j q ⟨d2, h1, h2⟩ => by
    by_cases hj : j = i
    · subst hj
      have hi : j < ρ.length := by simpa using (List.getElem?_eq_some_iff.mp h1).1
      rw [List.getElem?_set_self hi] at h1; cases h1
    · rw [List.getElem?_set_ne (Ne.symm hj)] at h1 h2; exact ⟨d2, h1, h2⟩
  refine { c with
    len := by rw [List.length_set, List.length_set]; exact c.len
    gs := fun j sv' e' => ?_
    s1 := fun j k q h1 h2 => c.s1 j k q (sub' j q h1) (sub' k q h2)
    s2 := fun j q h1 => c.s2 j q (sub' j q h1)
    b3 := fun q h => c.b3 q (h.imp (fun ⟨j, h⟩ => ⟨j, sub' j q h⟩) id)
    pr := fun x hx => by rw [List.getElem?_set_ne (Ne.symm (hp x hx))]; exact c.pr x hx }
  by_cases hj : j = i
  · subst hj
    have hi : j < ρ.length := by simpa using (List.getElem?_eq_some_iff.mp e').1
    rw [List.getElem?_set_self hi] at e'; cases e'; trivial
  · rw [List.getElem?_set_ne (Ne.symm hj)] at e' ⊢; exact c.gs j sv' e'
/-- only what is known of a slot is forgotten -/
theorem Cfg.lose {i : Nat} (c : Cfg K mg B F ρ σ τ H) : Cfg K mg B F (ρ.set i .no) σ τ H := by
  have sub' : ∀ j q, ownS (ρ.set i .no) σ j q → ownS ρ σ j q := fun j q ⟨d2, h1, h2⟩ => by
    by_cases hj : j = i
    · subst hj
      have hi : j < ρ.length := by simpa using (List.getElem?_eq_some_iff.mp h1).1
      rw [List.getElem?_set_self hi] at h1; cases h1
    · rw [List.getElem?_set_ne (Ne.symm hj)] at h1; exact ⟨d2, h1, h2⟩
  refine { c with
    len := by rw [List.length_set]; exact c.len
    gs := fun j sv' e' => ?_
    s1 := fun j k q h1 h2 => c.s1 j k q (sub' j q h1) (sub' k q h2)
    s2 := fun j q h1 => c.s2 j q (sub' j q h1)
    b3 := fun q h => c.b3 q (h.imp (fun ⟨j, h⟩ => ⟨j, sub' j q h⟩) id) }
  by_cases hj : j = i
  · subst hj
    have hi : j < ρ.length := by simpa using (List.getElem?_eq_some_iff.mp e').1
    rw [List.getElem?_set_self hi] at e'; cases e'; trivial
  · rw [List.getElem?_set_ne (Ne.symm hj)] at e'; exact c.gs j sv' e'
/-- .. moved out onto the stack, the name still there -/
theorem Cfg.moveS {i : Nat} {d : D} {v : V} (c : Cfg K mg B F ρ σ τ H) (e : ρ[i]? = some (.own d)) (es : σ[i]? = some (some v)) : Cfg K mg B F (ρ.set i .no) σ ((.own d, v) :: τ) H := by
  have hi : i < ρ.length := (List.getElem?_eq_some_iff.mp e).1
  have sub' : ∀ j q, ownS (ρ.set i .no) σ j q → j ≠ i ∧ ownS ρ σ j q := fun j q ⟨d2, h1, h2⟩ => by
    by_cases hj : j = i
    · subst hj; rw [List.getElem?_set_self hi] at h1; cases h1
    · rw [List.getElem?_set_ne (Ne.symm hj)] at h1; exact ⟨hj, d2, h1, h2⟩
  have oi : ∀ q, v = .ref q → ownS ρ σ i q := fun q e2 => ⟨d, e, by rw [es, e2]⟩
  refine { c with
    len := by rw [List.length_set]; exact c.len
    gs := fun j sv' e' => ?_
    gt := fun x hx => ?_
    s1 := fun j k q h1 h2 => c.s1 j k q (sub' j q h1).2 (sub' k q h2).2
    s2 := fun j q h1 ⟨d', hm⟩ => ?_
    s3 := List.pairwise_cons.mpr ⟨fun y hy q d1 d2 e1 e2 => ?_, c.s3⟩
    b3 := fun q h => ?_ }
  · by_cases hj : j = i
    · subst hj; rw [List.getElem?_set_self hi] at e'; cases e'; trivial
    · rw [List.getElem?_set_ne (Ne.symm hj)] at e'; exact c.gs j sv' e'
  · rcases List.mem_cons.mp hx with rfl | hx
    · have g := c.gs i _ e
      rw [es] at g
      exact g
    · exact c.gt x hx
  · obtain ⟨hj, o1⟩ := sub' j q h1
    rcases List.mem_cons.mp hm with e1 | hm
    · cases e1; exact hj (c.s1 j i q o1 (oi q rfl))
    · exact c.s2 j q o1 ⟨d', hm⟩
  · cases e1; subst e2
    exact c.s2 i q (oi q rfl) ⟨d2, hy⟩
  · rcases h with ⟨j, h⟩ | ⟨d', hm⟩
    · exact c.b3 q (.inl ⟨j, (sub' j q h).2⟩)
    · rcases List.mem_cons.mp hm with e1 | hm
      · cases e1; exact c.b3 q (.inl ⟨i, oi q rfl⟩)
      · exact c.b3 q (.inr ⟨d', hm⟩)
/-- the stack's own object is changed -/
theorem Cfg.mutT {d d' : D} {p : Addr} {o : HO} (c : Cfg K mg B F ρ σ ((.own d, .ref p) :: τ) H) (r : HV K mg F d' o) : Cfg K mg B F ρ σ ((.own d', .ref p) :: τ) (upd H p o) := by
  obtain ⟨p', o', e, n, hh, r'⟩ := c.gt _ List.mem_cons_self
  cases e
  have c0 := c.pop
  have nS : ∀ i, ¬ ownS ρ σ i p := fun i h => c.s2 i p h ⟨d, List.mem_cons_self⟩
  have nT : ¬ ownT τ p := fun ⟨d', h⟩ => (List.pairwise_cons.mp c.s3).1 _ h p d d' rfl rfl
  refine { c0 with
    sub := fun a u e => by rw [upd_ne (fun z => by rw [z, n] at e; cases e)]; exact c.sub a u e
    gs := fun j sv e' => ?_
    gt := fun x hx => ?_
    s2 := fun j q h1 ⟨d2, hm⟩ => ?_
    s3 := List.pairwise_cons.mpr ⟨fun y hy q d1 d2 e1 e2 => ?_, c0.s3⟩
    b2 := fun b u e hA => ?_
    b3 := fun q h => ?_ }
  · have g := c.gs j sv e'
    cases sv with
    | no => trivial
    | fz d' => exact g
    | own d2 =>
      obtain ⟨q, ho, e2, n', h', r2⟩ := g
      have hq : q ≠ p := fun z => nS j ⟨d2, e', by rw [← z]; exact join_some e2⟩
      exact ⟨q, ho, e2, n', by rw [upd_ne hq]; exact h', r2⟩
  · rcases List.mem_cons.mp hx with rfl | hx
    · exact ⟨p, o, rfl, n, upd_same, r⟩
    · have g := c0.gt x hx
      obtain ⟨sv, v⟩ := x
      cases sv with
      | no => trivial
      | fz d' => exact g
      | own d2 =>
        obtain ⟨q, ho, e', n', h', r2⟩ := g
        cases e'
        have hq : q ≠ p := fun z => nT ⟨d2, by rw [← z]; exact hx⟩
        exact ⟨q, ho, rfl, n', by rw [upd_ne hq]; exact h', r2⟩
  · rcases List.mem_cons.mp hm with e1 | hm
    · cases e1; exact nS j h1
    · exact c0.s2 j q h1 ⟨d2, hm⟩
  · cases e1; subst e2; exact nT ⟨d2, hy⟩
  · have hb : b ≠ p := fun z => by
      subst z
      rcases c.b3 b (.inr ⟨d, List.mem_cons_self⟩) with z | z
      · rw [z] at e; cases e
      · exact hA z
    rw [upd_ne hb]; exact c.b2 b u e hA
  · rcases h with ⟨j, h⟩ | ⟨d2, hm⟩
    · exact c.b3 q (.inl ⟨j, h⟩)
    · rcases List.mem_cons.mp hm with e1 | hm
      · cases e1; exact c.b3 _ (.inr ⟨d, List.mem_cons_self⟩)
      · exact c.b3 q (.inr ⟨d2, List.mem_cons_of_mem _ hm⟩)
/-- the stack's two upper places change places -/
theorem Cfg.swap {x y : SV × V} (c : Cfg K mg B F ρ σ (x :: y :: τ) H) : Cfg K mg B F ρ σ (y :: x :: τ) H := by
  have m : ∀ z, z ∈ y :: x :: τ → z ∈ x :: y :: τ := fun z h => by
    simp only [List.mem_cons] at h ⊢
    rcases h with h | h | h
    · exact .inr (.inl h)
    · exact .inl h
    · exact .inr (.inr h)
  have h3 := c.s3
  obtain ⟨h4, h5⟩ := List.pairwise_cons.mp h3
  obtain ⟨h6, h7⟩ := List.pairwise_cons.mp h5
  exact { c with
    gt := fun z hz => c.gt z (m z hz)
    s2 := fun i p h ⟨d, t⟩ => c.s2 i p h ⟨d, m _ t⟩
    s3 := List.pairwise_cons.mpr ⟨fun z hz p d d' e1 e2 => (by
      rcases List.mem_cons.mp hz with rfl | hz
      · exact h4 y List.mem_cons_self p d' d e2 e1
      · exact h6 z hz p d d' e1 e2), List.pairwise_cons.mpr ⟨fun z hz => h4 z (List.mem_cons_of_mem _ hz), h7⟩⟩
    b3 := fun p h => c.b3 p (h.imp id fun ⟨d, t⟩ => ⟨d, m _ t⟩) }
end
section
variable {K : PySem.W.Frag} {mg : Str → Option Value} {B : Bs} {F H : Hp} {ρ : List SV} {σ : L2.St} {τ : List (SV × V)}
/-- a tuple that stands counts as frozen -/
theorem Cfg.adopt {q : Addr} {vs : List V} (c : Cfg K mg B F ρ σ τ H) (hq : H q = some (.tup vs)) : ∃ F', Cfg K mg B F' ρ σ τ H ∧ (∀ a o, F a = some o → F' a = some o) ∧ F' q = some (.tup vs) := by
  cases e : F q with
  | some o =>
    have := c.sub q o e
    rw [hq] at this
    cases this
    exact ⟨F, c, fun _ _ h => h, e⟩
  | none =>
    have mF : ∀ a o, F a = some o → upd F q (.tup vs) a = some o := fun a o h => by rw [upd_ne (fun z => by rw [z, e] at h; cases h)]; exact h
    have ap : ∀ (p : Addr) (d : D) (ho : HO), H p = some ho → HV K mg F d ho → p ≠ q := fun p d ho hh r z => by
      rw [z, hq] at hh
      cases hh
      exact r.not_tup vs rfl
    have gd : ∀ (sv : SV) (ov : Option V), Gd K mg F H sv ov → Gd K mg (upd F q (.tup vs)) H sv ov := fun sv ov g => by
      cases sv with
      | no => trivial
      | fz d => obtain ⟨v, e1, r⟩ := g; exact ⟨v, e1, r.mono mF⟩
      | own d =>
        obtain ⟨p, ho, e1, n, hh, r⟩ := g
        exact ⟨p, ho, e1, by rw [upd_ne (ap p d ho hh r)]; exact n, hh, r.mono mF⟩
    refine ⟨upd F q (.tup vs), { c with
      sub := fun a o h => ?_
      gs := fun i sv h => gd _ _ (c.gs i sv h)
      gt := fun x hx => gd _ _ (c.gt x hx)
      b1 := fun a o h => ?_
      b4 := fun a o h => mF a o (c.b4 a o h) }, mF, upd_same⟩
    · by_cases z : a = q
      · subst z
        rw [upd_same] at h
        cases h
        exact hq
      · rw [upd_ne z] at h; exact c.sub a o h
    · by_cases z : a = q
      · subst z
        rw [upd_same] at h
        cases h
        exact .inr (.inr (.inr ⟨vs, rfl⟩))
      · rw [upd_ne z] at h; exact c.b1 a o h
end
end PD
set_option Elab.async false
set_option linter.all false
set_option maxRecDepth 100000
set_option autoImplicit false
set_option maxHeartbeats 4000000
/-! PD: readings and denotations; expressions. -/
namespace PD
open PySem PySem.Spec PyProof.Rows L2

/-- what an expression's denotation gives -/
inductive R (α : Type) where
  | ok (a : α) (ρ : List SV) | ex (c : Str) (fs : List (Str × D)) (ρ : List SV) | no
def R.bind {α β : Type} (r : R α) (f : α → List SV → R β) : R β := match r with
  | .ok a ρ => f a ρ
  | .ex c fs ρ => .ex c fs ρ
  | .no => .no
abbrev DE := List SV → R RV
abbrev DT := List SV → R Bool
abbrev DA := List SV → R (List RV)

/-- the data that stand behind a result -/
def rd (ρ : List SV) : RV → Option D
  | .fz d => some d
  | .own d => some d
  | .bor i => match ρ[i]? with
    | some (.fz d) => some d
    | some (.own d) => some d
    | _ => none
def rdL (ρ : List SV) : List RV → Option (List D)
  | [] => some []
  | r :: rs => match rd ρ r, rdL ρ rs with
    | some d, some ds => some (d :: ds)
    | _, _ => none

section
variable (K : PySem.W.Frag) (mg : Str → Option Value)
/-- v stands for d: the top by H, what is in it by F -/
inductive TV (F H : Hp) : D → V → Prop where
  | non : TV F H .non .non
  | bl {b : Bool} : TV F H (.bl b) (.bl b)
  | int {i : Int} : TV F H (.int i) (.int i)
  | str {x : Str} : TV F H (.str x) (.str x)
  | ty {t : Ty} : TV F H (.ty t) (.ty t.name)
  | tup {a : Addr} {xs : List D} {vs : List V} : F a = some (.tup vs) → DVs K mg F xs vs → TV F H (.tup xs) (.ref a)
  | kt {a : Addr} {xs : List D} {vs : List V} : SqT K F a vs → DVs K mg F xs vs → TV F H (.kt xs) (.ref a)
  | lst {a : Addr} {xs : List D} {vs : List V} : H a = some (.lst vs) → DVs K mg F xs vs → TV F H (.lst xs) (.ref a)
  | lk {a : Addr} {xs : List D} {vs : List V} : SqL K H a vs → DVs K mg F xs vs → TV F H (.lk xs) (.ref a)
  | dK {a : Addr} {kvs : List (D × D)} {ks : List (Key × V)} : H a = some (.dK ks) → DKs K mg F kvs ks → TV F H (.dct false kvs) (.ref a)
  | dT {a : Addr} {kvs : List (D × D)} {ks : List (List Key × V)} : H a = some (.dT ks) → DTs K mg F kvs ks → TV F H (.dct true kvs) (.ref a)
  | ins {a C dx : Addr} {c : Str} {fs : List (Str × D)} {gs : List (Str × V)} : H a = some (.ins C dx gs) → mg c = some (.ref C) → DFs K mg F fs gs → TV F H (.ins c fs) (.ref a)
  | fn {c : Str} {f : Addr} : mg c = some (.ref f) → PySem.W.keepIn K (.ref f) = true → TV F H (.fn c) (.ref f)
/-- the result is the slot's own -/
def RVb (σ : L2.St) : RV → V → Prop
  | .bor i, v => σ[i]? = some (some v)
  | _, _ => True
/-- an exception: its class, its fields -/
def EV (F : Hp) (c : Str) (fs : List (Str × D)) (cls : Value) (dd : Option Addr) : Prop :=
  ∃ C, mg c = some (.ref C) ∧ cls = .ref C ∧ ((fs = [] ∧ dd = none) ∨ ∃ d gs, dd = some d ∧ F d = some (.xd gs) ∧ DFs K mg F fs gs)
def PostE (W : WX) (B : Bs) (σ : L2.St) (τ : List (SV × V)) (Q : VK) : R RV → Prop
  | .ok rv ρ => ∀ F H v, Cfg K mg B F ρ σ ((rv.stk, v) :: τ) H → RVb σ rv v → Q v H
  | .ex c fs ρ => ∀ F H cls dd, Cfg K mg B F ρ σ τ H → EV K mg F c fs cls dd → W cls dd σ H
  | .no => False
def PostT (W : WX) (B : Bs) (σ : L2.St) (τ : List (SV × V)) (Q : Bool → Hp → Prop) : R Bool → Prop
  | .ok b ρ => ∀ F H, Cfg K mg B F ρ σ τ H → Q b H
  | .ex c fs ρ => ∀ F H cls dd, Cfg K mg B F ρ σ τ H → EV K mg F c fs cls dd → W cls dd σ H
  | .no => False
def stkL : List RV → List V → List (SV × V) → List (SV × V)
  | r :: rs, v :: vs, τ => stkL rs vs ((r.stk, v) :: τ)
  | _, _, τ => τ
inductive RBs (σ : L2.St) : List RV → List V → Prop where
  | nil : RBs σ [] []
  | cons {r : RV} {v : V} {rs : List RV} {vs : List V} : RVb σ r v → RBs σ rs vs → RBs σ (r :: rs) (v :: vs)
def PostA (W : WX) (B : Bs) (σ : L2.St) (τ : List (SV × V)) (Q : List V → Hp → Prop) : R (List RV) → Prop
  | .ok rs ρ => ∀ F H vs, Cfg K mg B F ρ σ (stkL rs vs τ) H → RBs σ rs vs → Q vs H
  | .ex c fs ρ => ∀ F H cls dd, Cfg K mg B F ρ σ τ H → EV K mg F c fs cls dd → W cls dd σ H
  | .no => False
/-- only the slots of P are kept for their own -/
def PrOk (B : Bs) (P : List Nat) : Prop := ∀ x ∈ B.pr, x.1 ∈ P
structure SE (P : List Nat) (W : WX) (t : TE) (e : DE) : Prop where
  run : ∀ (B : Bs) (F : Hp) (ρ : List SV) (σ : L2.St) (τ : List (SV × V)) (H : Hp) (Q : VK), PrOk B P → Cfg K mg B F ρ σ τ H → PostE K mg W B σ τ Q (e ρ) → t σ H Q
structure ST (P : List Nat) (W : WX) (t : TT) (e : DT) : Prop where
  run : ∀ (B : Bs) (F : Hp) (ρ : List SV) (σ : L2.St) (τ : List (SV × V)) (H : Hp) (Q : Bool → Hp → Prop), PrOk B P → Cfg K mg B F ρ σ τ H → PostT K mg W B σ τ Q (e ρ) → t σ H Q
structure SA (P : List Nat) (W : WX) (t : TA) (e : DA) : Prop where
  run : ∀ (B : Bs) (F : Hp) (ρ : List SV) (σ : L2.St) (τ : List (SV × V)) (H : Hp) (Q : List V → Hp → Prop), PrOk B P → Cfg K mg B F ρ σ τ H → PostA K mg W B σ τ Q (e ρ) → t σ H Q
end

/-- e stands for what τ says -/
def PD (X : Cx) (P : List Nat) (W : WX) (e : Expr) (τ : DE) : Prop := ∃ t, PE X e t ∧ SE X.K X.mg P W t τ
def PDT (X : Cx) (P : List Nat) (W : WX) (e : Expr) (τ : DT) : Prop := ∃ t, PT X e t ∧ ST X.K X.mg P W t τ
def PDW (X : Cx) (P : List Nat) (W : WX) (e : Expr) (τ : DT) : Prop := ∃ t, PW X e t ∧ ST X.K X.mg P W t τ
def PDA (X : Cx) (P : List Nat) (W : WX) (es : List Expr) (τ : DA) : Prop := ∃ t, PA X es t ∧ SA X.K X.mg P W t τ

section
variable {K : PySem.W.Frag} {mg : Str → Option Value} {P : List Nat} {W : WX} {B : Bs} {F F' H H' : Hp} {ρ : List SV} {σ : L2.St} {τ : List (SV × V)}

theorem TV.dv (m : ∀ a o, F a = some o → H a = some o) {d : D} {v : V} (h : TV K mg F H d v) : DV K mg H d v := by
  cases h with
  | non => exact .non
  | bl => exact .bl
  | int => exact .int
  | str => exact .str
  | ty => exact .ty
  | tup s r => exact .tup (m _ _ s) (r.mono m)
  | kt s r => exact .kt (sqT_mono m s) (r.mono m)
  | lst s r => exact .lst s (r.mono m)
  | lk s r => exact .lk s (r.mono m)
  | dK s r => exact .dK s (r.mono m)
  | dT s r => exact .dT s (r.mono m)
  | ins s c r => exact .ins s c (r.mono m)
  | fn c k => exact .fn c k
theorem DV.tv (m : ∀ a o, F a = some o → H a = some o) {d : D} {v : V} (h : DV K mg F d v) : TV K mg F H d v := by
  cases h with
  | non => exact .non
  | bl => exact .bl
  | int => exact .int
  | str => exact .str
  | ty => exact .ty
  | tup s r => exact .tup s r
  | kt s r => exact .kt s r
  | lst s r => exact .lst (m _ _ s) r
  | lk s r => exact .lk (sqL_mono m s) r
  | dK s r => exact .dK (m _ _ s) r
  | dT s r => exact .dT (m _ _ s) r
  | ins s c r => exact .ins (m _ _ s) c r
  | fn c k => exact .fn c k
theorem HV.tv {d : D} {o : HO} {p : Addr} (h : HV K mg F d o) (e : H p = some o) : TV K mg F H d (.ref p) := by
  cases h with
  | lst r => exact .lst e r
  | dK r => exact .dK e r
  | dT r => exact .dT e r
  | ins c r => exact .ins e c r
/-- a result on the stack is read -/
theorem Cfg.read {rv : RV} {v : V} {d : D} (c : Cfg K mg B F ρ σ τ H) (hm : (rv.stk, v) ∈ τ) (hb : RVb σ rv v) (hr : rd ρ rv = some d) : TV K mg F H d v := by
  cases rv with
  | fz d' =>
    cases hr
    obtain ⟨v', e, r⟩ := c.gt _ hm
    cases e; exact r.tv c.sub
  | own d' =>
    cases hr
    obtain ⟨p, ho, e, n, hh, r⟩ := c.gt _ hm
    cases e; exact r.tv hh
  | bor i =>
    have hb : σ[i]? = some (some v) := hb
    have hr : (match ρ[i]? with | some (SV.fz d) => some d | some (SV.own d) => some d | _ => none) = some d := hr
    cases e : ρ[i]? with
    | none => rw [e] at hr; cases hr
    | some sv =>
      rw [e] at hr
      cases sv with
      | no => cases hr
      | fz d' =>
        cases hr
        obtain ⟨v', e1, r⟩ := c.fz_slot e
        rw [hb] at e1; cases e1; exact r.tv c.sub
      | own d' =>
        cases hr
        obtain ⟨p, ho, e1, n, hh, r⟩ := c.own_slot e
        rw [hb] at e1; cases e1; exact r.tv hh
theorem PostE.mono {Q Q' : VK} {r : R RV} (h : PostE K mg W B σ τ Q r) (hq : ∀ v H, Q v H → Q' v H) : PostE K mg W B σ τ Q' r := by
  cases r with
  | ok rv ρ => exact fun F H v c b => hq _ _ (h F H v c b)
  | ex c fs ρ => exact h
  | no => exact h
/-- one after another -/
theorem SE.bind {α : Type} {t : TE} {a : DE} (ha : SE K mg P W t a) (pr : PrOk B P) (c : Cfg K mg B F ρ σ τ H) {f : RV → List SV → R α} {Post : R α → Prop} {Q : VK}
    (hp : Post ((a ρ).bind f)) (hex : ∀ c fs ρ', Post (.ex c fs ρ') → ∀ F' H' cls dd, Cfg K mg B F' ρ' σ τ H' → EV K mg F' c fs cls dd → W cls dd σ H') (hno : ¬ Post .no)
    (hok : ∀ rv ρ' F' H' v, Cfg K mg B F' ρ' σ ((rv.stk, v) :: τ) H' → RVb σ rv v → Post (f rv ρ') → Q v H') : t σ H Q := by
  refine ha.run B F ρ σ τ H Q pr c ?_
  cases e : a ρ with
  | ok rv ρ' => rw [e] at hp; exact fun F' H' v c' b => hok rv ρ' F' H' v c' b hp
  | ex cc fs ρ' => rw [e] at hp; exact hex cc fs ρ' hp
  | no => rw [e] at hp; exact (hno hp).elim
theorem ST.bind {α : Type} {t : TT} {a : DT} (ha : ST K mg P W t a) (pr : PrOk B P) (c : Cfg K mg B F ρ σ τ H) {f : Bool → List SV → R α} {Post : R α → Prop} {Q : Bool → Hp → Prop}
    (hp : Post ((a ρ).bind f)) (hex : ∀ c fs ρ', Post (.ex c fs ρ') → ∀ F' H' cls dd, Cfg K mg B F' ρ' σ τ H' → EV K mg F' c fs cls dd → W cls dd σ H') (hno : ¬ Post .no)
    (hok : ∀ b ρ' F' H', Cfg K mg B F' ρ' σ τ H' → Post (f b ρ') → Q b H') : t σ H Q := by
  refine ha.run B F ρ σ τ H Q pr c ?_
  cases e : a ρ with
  | ok rv ρ' => rw [e] at hp; exact fun F' H' c' => hok rv ρ' F' H' c' hp
  | ex cc fs ρ' => rw [e] at hp; exact hex cc fs ρ' hp
  | no => rw [e] at hp; exact (hno hp).elim
theorem SA.bind {α : Type} {t : TA} {a : DA} (ha : SA K mg P W t a) (pr : PrOk B P) (c : Cfg K mg B F ρ σ τ H) {f : List RV → List SV → R α} {Post : R α → Prop} {Q : List V → Hp → Prop}
    (hp : Post ((a ρ).bind f)) (hex : ∀ c fs ρ', Post (.ex c fs ρ') → ∀ F' H' cls dd, Cfg K mg B F' ρ' σ τ H' → EV K mg F' c fs cls dd → W cls dd σ H') (hno : ¬ Post .no)
    (hok : ∀ rs ρ' F' H' vs, Cfg K mg B F' ρ' σ (stkL rs vs τ) H' → RBs σ rs vs → Post (f rs ρ') → Q vs H') : t σ H Q := by
  refine ha.run B F ρ σ τ H Q pr c ?_
  cases e : a ρ with
  | ok rv ρ' => rw [e] at hp; exact fun F' H' vs c' b => hok rv ρ' F' H' vs c' b hp
  | ex cc fs ρ' => rw [e] at hp; exact hex cc fs ρ' hp
  | no => rw [e] at hp; exact (hno hp).elim
theorem exE {Q : VK} (x : SV × V) : ∀ c fs ρ', PostE K mg W B σ (x :: τ) Q (.ex c fs ρ') → True := fun _ _ _ _ => trivial
end

/-! ### names, constants -/
def dVar (i : Nat) : DE := fun ρ => match ρ[i]? with
  | some (.fz d) => .ok (.fz d) ρ
  | some (.own _) => .ok (.bor i) ρ
  | _ => .no
def dC (d : D) : DE := fun ρ => .ok (.fz d) ρ
section
variable {X : Cx} {P : List Nat} {W : WX} {pos : Pos}
theorem se_var {K : PySem.W.Frag} {mg : Str → Option Value} (i : Nat) : SE K mg P W (tVar i) (dVar i) := by
  refine ⟨fun B F ρ σ τ H Q pr c hp => ?_⟩
  unfold dVar at hp
  cases e : ρ[i]? with
  | none => rw [e] at hp; exact hp.elim
  | some sv =>
    rw [e] at hp
    cases sv with
    | no => exact hp.elim
    | fz d =>
      obtain ⟨v, es, r⟩ := c.fz_slot e
      exact ⟨v, es, hp F H v (c.push r) trivial⟩
    | own d =>
      obtain ⟨p, ho, es, _⟩ := c.own_slot e
      exact ⟨_, es, hp F H (.ref p) (c.pushN _) es⟩
theorem se_c {K : PySem.W.Frag} {mg : Str → Option Value} {d : D} {v : V} (r : ∀ F, DV K mg F d v) : SE K mg P W (tC v) (dC d) :=
  ⟨fun B F ρ σ τ H Q pr c hp => hp F H v (c.push (r F)) trivial⟩
theorem d_var (i : Nat) {x : Str} (hN : X.N[i]? = some x := by rfl) (hv : Vis X.env.scope x := by first | exact Or.inl rfl | exact Or.inr (Or.inl rfl) | exact Or.inr (Or.inr rfl)) (hd : (x == ("__debug__" : Str)) = false := by decide)
    (hcd : (x == ("__classdict__" : Str)) = false := by decide) : PD X P W (.Name x pos) (dVar i) := ⟨_, pe_var hN hv hd hcd, se_var i⟩
theorem d_int {i : Int} {j : Nat} : PD X P W (.Constant (.int i) j pos) (dC (.int i)) := ⟨_, pe_int, se_c fun _ => .int⟩
theorem d_bl {b : Bool} {j : Nat} : PD X P W (.Constant (.bool b) j pos) (dC (.bl b)) := ⟨_, pe_bl, se_c fun _ => .bl⟩
theorem d_non {j : Nat} : PD X P W (.Constant .none j pos) (dC .non) := ⟨_, pe_non, se_c fun _ => .non⟩
theorem d_str {x : Str} {j : Nat} : PD X P W (.Constant (.str x) j pos) (dC (.str x)) := ⟨_, pe_str, se_c fun _ => .str⟩
/-- a module's constant -/
theorem d_glob {x : Str} {d : D} {v : V} {u : Value} (hg : Gl X x) (hm : X.mg x = some u) (r : RelV v u) (rd : ∀ F, DV X.K X.mg F d v) (hd : (x == ("__debug__" : Str)) = false := by decide) : PD X P W (.Name x pos) (dC d) :=
  ⟨_, pe_glob hg hm r hd, se_c rd⟩
/-- a def of the module as a value -/
theorem d_fn {x : Str} {f : Addr} (hg : Gl X x) (hm : X.mg x = some (.ref f)) (hk : PySem.W.keepIn X.K (.ref f) = true) (hd : (x == ("__debug__" : Str)) = false := by decide) : PD X P W (.Name x pos) (dC (.fn x)) :=
  d_glob (v := .ref f) hg hm rfl (fun _ => .fn hm hk) hd
end

/-! ### operations by values -/
section
variable (K : PySem.W.Frag) (mg : Str → Option Value)
/-- what is wanted behind an operation that gives rv -/
abbrev Got (B : Bs) (ρ : List SV) (σ : L2.St) (τ : List (SV × V)) (rv : RV) (Q : VK) : Prop := ∀ F' H' v, Cfg K mg B F' ρ σ ((rv.stk, v) :: τ) H' → Q v H'
def isBor : RV → Bool
  | .bor _ => true
  | _ => false
structure OK2 (r : R2) (f : D → D → Option RV) : Prop where
  run : ∀ (B : Bs) (F : Hp) (ρ : List SV) (σ : L2.St) (τ : List (SV × V)) (H : Hp) (x y : V) (a b : D) (rv : RV) (Q : VK), Cfg K mg B F ρ σ τ H → TV K mg F H a x → TV K mg F H b y → f a b = some rv → Got K mg B ρ σ τ rv Q → r x y H Q
  nb : ∀ a b rv, f a b = some rv → isBor rv = false
structure OK1 (r : V → Hp → VK → Prop) (f : D → Option RV) : Prop where
  run : ∀ (B : Bs) (F : Hp) (ρ : List SV) (σ : L2.St) (τ : List (SV × V)) (H : Hp) (x : V) (a : D) (rv : RV) (Q : VK), Cfg K mg B F ρ σ τ H → TV K mg F H a x → f a = some rv → Got K mg B ρ σ τ rv Q → r x H Q
  nb : ∀ a rv, f a = some rv → isBor rv = false
inductive TVs (F H : Hp) : List D → List V → Prop where
  | nil : TVs F H [] []
  | cons {d : D} {v : V} {ds : List D} {vs : List V} : TV K mg F H d v → TVs F H ds vs → TVs F H (d :: ds) (v :: vs)
structure OKn (r : List V → Hp → VK → Prop) (f : List D → Option RV) : Prop where
  run : ∀ (B : Bs) (F : Hp) (ρ : List SV) (σ : L2.St) (τ : List (SV × V)) (H : Hp) (xs : List V) (as : List D) (rv : RV) (Q : VK), Cfg K mg B F ρ σ τ H → TVs K mg F H as xs → f as = some rv → Got K mg B ρ σ τ rv Q → r xs H Q
  nb : ∀ as rv, f as = some rv → isBor rv = false
end
theorem rvb_nb {σ : L2.St} {rv : RV} (h : isBor rv = false) (v : V) : RVb σ rv v := by
  cases rv with
  | bor i => cases h
  | _ => trivial
def dOp2 (f : D → D → Option RV) (a b : DE) : DE := fun ρ => (a ρ).bind fun x ρ1 => (b ρ1).bind fun y ρ2 => match rd ρ2 x, rd ρ2 y with
  | some dx, some dy => match f dx dy with
    | some rv => .ok rv ρ2
    | none => .no
  | _, _ => .no
def dOp1 (f : D → Option RV) (a : DE) : DE := fun ρ => (a ρ).bind fun x ρ1 => match rd ρ1 x with
  | some dx => match f dx with
    | some rv => .ok rv ρ1
    | none => .no
  | none => .no
def dOpN (f : List D → Option RV) (a : DA) : DE := fun ρ => (a ρ).bind fun xs ρ1 => match rdL ρ1 xs with
  | some ds => match f ds with
    | some rv => .ok rv ρ1
    | none => .no
  | none => .no
section
variable {K : PySem.W.Frag} {mg : Str → Option Value} {P : List Nat} {W : WX} {B : Bs} {F F' H H' : Hp} {ρ : List SV} {σ : L2.St} {τ : List (SV × V)}
theorem Cfg.popL : ∀ {rs : List RV} {vs : List V} {τ : List (SV × V)}, Cfg K mg B F ρ σ (stkL rs vs τ) H → Cfg K mg B F ρ σ τ H
  | [], _, _, c => c
  | r :: rs, [], _, c => c
  | r :: rs, v :: vs, τ, c => (Cfg.popL (rs := rs) (vs := vs) c).pop
theorem mem_stkL : ∀ {rs : List RV} {vs : List V} {τ : List (SV × V)} {x : SV × V}, x ∈ τ → x ∈ stkL rs vs τ
  | [], _, _, _, h => h
  | r :: rs, [], _, _, h => h
  | r :: rs, v :: vs, τ, x, h => mem_stkL (rs := rs) (vs := vs) (List.mem_cons_of_mem _ h)
theorem Cfg.readL {τ' : List (SV × V)} (c : Cfg K mg B F ρ σ τ' H) : ∀ {rs : List RV} {vs : List V} {τ : List (SV × V)} {ds : List D}, (∀ x ∈ stkL rs vs τ, x ∈ τ') → RBs σ rs vs → rdL ρ rs = some ds → TVs K mg F H ds vs
  | [], _, _, _, _, .nil, e => by cases e; exact .nil
  | r :: rs, v :: vs, τ, ds, hm, .cons hb hbs, e => by
    unfold rdL at e
    cases e1 : rd ρ r with
    | none => rw [e1] at e; cases e
    | some d =>
      cases e2 : rdL ρ rs with
      | none => rw [e1, e2] at e; cases e
      | some ds' =>
        rw [e1, e2] at e
        cases e
        refine .cons (c.read (hm _ (mem_stkL (rs := rs) (vs := vs) List.mem_cons_self)) hb e1) (Cfg.readL c (rs := rs) (vs := vs) (τ := (r.stk, v) :: τ) (fun x hx => hm x hx) hbs e2)
theorem se_op2 {r : R2} {f : D → D → Option RV} {ta tb : TE} {a b : DE} (ok : OK2 K mg r f) (ha : SE K mg P W ta a) (hb : SE K mg P W tb b) : SE K mg P W (tOp r ta tb) (dOp2 f a b) := by
  refine ⟨fun B F ρ σ τ H Q pr c hp => ?_⟩
  refine ha.bind pr c hp (fun _ _ _ h => h) id fun x ρ1 F1 H1 vx c1 b1 hp1 => ?_
  refine hb.bind pr c1 (Post := PostE K mg W B σ τ Q) hp1 (fun cc fs ρ' h F' H' cls dd c' ev => h F' H' cls dd c'.pop ev) id fun y ρ2 F2 H2 vy c2 b2 hp2 => ?_
  cases e1 : rd ρ2 x with
  | none => rw [e1] at hp2; exact hp2.elim
  | some dx =>
    cases e2 : rd ρ2 y with
    | none => rw [e1, e2] at hp2; exact hp2.elim
    | some dy =>
      rw [e1, e2] at hp2
      cases e3 : f dx dy with
      | none => simp only [e3] at hp2; exact hp2.elim
      | some rv =>
        simp only [e3] at hp2
        refine ok.run B F2 ρ2 σ τ H2 vx vy dx dy rv Q c2.pop.pop (c2.read (List.mem_cons_of_mem _ List.mem_cons_self) b1 e1) (c2.read List.mem_cons_self b2 e2) e3 fun F' H' v c' => hp2 F' H' v c' (rvb_nb (ok.nb _ _ _ e3) v)
theorem se_op1 {r : V → Hp → VK → Prop} {f : D → Option RV} {ta : TE} {a : DE} (ok : OK1 K mg r f) (ha : SE K mg P W ta a) : SE K mg P W (tUn r ta) (dOp1 f a) := by
  refine ⟨fun B F ρ σ τ H Q pr c hp => ?_⟩
  refine ha.bind pr c hp (fun _ _ _ h => h) id fun x ρ1 F1 H1 vx c1 b1 hp1 => ?_
  cases e1 : rd ρ1 x with
  | none => rw [e1] at hp1; exact hp1.elim
  | some dx =>
    rw [e1] at hp1
    cases e3 : f dx with
    | none => simp only [e3] at hp1; exact hp1.elim
    | some rv =>
      simp only [e3] at hp1
      exact ok.run B F1 ρ1 σ τ H1 vx dx rv Q c1.pop (c1.read List.mem_cons_self b1 e1) e3 fun F' H' v c' => hp1 F' H' v c' (rvb_nb (ok.nb _ _ e3) v)
theorem se_opN {r : List V → Hp → VK → Prop} {f : List D → Option RV} {ta : TA} {a : DA} (ok : OKn K mg r f) (ha : SA K mg P W ta a) : SE K mg P W (tCB r ta) (dOpN f a) := by
  refine ⟨fun B F ρ σ τ H Q pr c hp => ?_⟩
  refine ha.bind pr c hp (fun _ _ _ h => h) id fun x ρ1 F1 H1 vx c1 b1 hp1 => ?_
  cases e1 : rdL ρ1 x with
  | none => rw [e1] at hp1; exact hp1.elim
  | some dx =>
    rw [e1] at hp1
    cases e3 : f dx with
    | none => simp only [e3] at hp1; exact hp1.elim
    | some rv =>
      simp only [e3] at hp1
      exact ok.run B F1 ρ1 σ τ H1 vx dx rv Q c1.popL (c1.readL (fun _ h => h) b1 e1) e3 fun F' H' v c' => hp1 F' H' v c' (rvb_nb (ok.nb _ _ e3) v)

/-! ### arguments, displays -/
def dNil : DA := fun ρ => .ok [] ρ
def dCons (a : DE) (r : DA) : DA := fun ρ => (a ρ).bind fun x ρ1 => (r ρ1).bind fun xs ρ2 => .ok (x :: xs) ρ2
theorem sa_nil : SA K mg P W tNil dNil := ⟨fun B F ρ σ τ H Q pr c hp => hp F H [] c .nil⟩
theorem sa_cons {te : TE} {t : TA} {a : DE} {r : DA} (ha : SE K mg P W te a) (hr : SA K mg P W t r) : SA K mg P W (tCons te t) (dCons a r) := by
  refine ⟨fun B F ρ σ τ H Q pr c hp => ?_⟩
  refine ha.bind pr c hp (fun _ _ _ h => h) id fun x ρ1 F1 H1 vx c1 b1 hp1 => ?_
  refine hr.bind pr c1 (Post := PostA K mg W B σ τ Q) hp1 (fun cc fs ρ' h F' H' cls dd c' ev => h F' H' cls dd c'.pop ev) id fun xs ρ2 F2 H2 vs c2 b2 hp2 => ?_
  exact hp2 F2 H2 (vx :: vs) c2 (.cons b1 b2)
/-- all of them frozen -/
def fzL : List RV → List SV → Option (List D × List SV)
  | [], ρ => some ([], ρ)
  | r :: rs, ρ => match r with
    | .fz d => (fzL rs ρ).map fun p => (d :: p.1, p.2)
    | .own d => (fzL rs ρ).map fun p => (d :: p.1, p.2)
    | .bor i => match ρ[i]? with
      | some (.own d) => (fzL rs (ρ.set i (.fz d))).map fun p => (d :: p.1, p.2)
      | some (.fz d) => (fzL rs ρ).map fun p => (d :: p.1, p.2)
      | _ => none
/-- the stack in another order -/
theorem Cfg.perm {τ' : List (SV × V)} (h : τ.Perm τ') (c : Cfg K mg B F ρ σ τ H) : Cfg K mg B F ρ σ τ' H :=
  { c with
    gt := fun x hx => c.gt x (h.mem_iff.mpr hx)
    s2 := fun i p hi ⟨d, t⟩ => c.s2 i p hi ⟨d, h.mem_iff.mpr t⟩
    s3 := (h.pairwise_iff (fun {x y} r p d d' e1 e2 => r p d' d e2 e1)).mp c.s3
    b3 := fun p hp => c.b3 p (hp.imp id fun ⟨d, t⟩ => ⟨d, h.mem_iff.mpr t⟩) }
theorem stkL_perm : ∀ {rs : List RV} {vs : List V} {τ : List (SV × V)}, rs.length = vs.length → (stkL rs vs τ).Perm ((rs.map RV.stk).zip vs ++ τ)
  | [], [], _, _ => .refl _
  | r :: rs, v :: vs, τ, h => by
    have ih := stkL_perm (rs := rs) (vs := vs) (τ := (r.stk, v) :: τ) (by simpa using h)
    show (stkL rs vs ((r.stk, v) :: τ)).Perm ((r.stk, v) :: ((rs.map RV.stk).zip vs ++ τ))
    exact ih.trans List.perm_middle
theorem RBs.length {rs : List RV} {vs : List V} (h : RBs σ rs vs) : rs.length = vs.length := by
  induction h with
  | nil => rfl
  | cons _ _ ih => simp [ih]
/-- a result becomes a frozen value -/
def fz1 : RV → List SV → Option (D × List SV)
  | .fz d, ρ => some (d, ρ)
  | .own d, ρ => some (d, ρ)
  | .bor i, ρ => match ρ[i]? with
    | some (.own d) => some (d, ρ.set i (.fz d))
    | some (.fz d) => some (d, ρ)
    | _ => none
theorem Cfg.fz1 {rv : RV} {v : V} {d : D} {ρ' : List SV} (c : Cfg K mg B F ρ σ ((rv.stk, v) :: τ) H) (hb : RVb σ rv v) (e : fz1 rv ρ = some (d, ρ')) : ∃ F', Cfg K mg B F' ρ' σ τ H ∧ (∀ a o, F a = some o → F' a = some o) ∧ DV K mg F' d v := by
  cases rv with
  | fz d' =>
    cases e
    exact ⟨F, c.pop, fun _ _ e => e, c.top⟩
  | own d' =>
    cases e
    obtain ⟨F', c', m⟩ := c.freezeT
    exact ⟨F', c'.pop, m, c'.top⟩
  | bor i =>
    have hb : σ[i]? = some (some v) := hb
    have e : (match ρ[i]? with | some (.own d) => some (d, ρ.set i (.fz d)) | some (.fz d) => some (d, ρ) | _ => none) = some (d, ρ') := e
    cases q : ρ[i]? with
    | none => rw [q] at e; cases e
    | some sv =>
      rw [q] at e
      cases sv with
      | no => cases e
      | fz d' =>
        cases e
        obtain ⟨v', e1, r⟩ := c.fz_slot q
        rw [hb] at e1; cases e1
        exact ⟨F, c.pop, fun _ _ e => e, r⟩
      | own d' =>
        cases e
        obtain ⟨F', c', m, v', e1, r⟩ := c.pop.freezeS q
        rw [hb] at e1; cases e1
        exact ⟨F', c', m, r⟩
theorem Cfg.fzL : ∀ {rs : List RV} {vs : List V} {ds : List D} {ρ ρ' : List SV} {F : Hp}, Cfg K mg B F ρ σ ((rs.map RV.stk).zip vs ++ τ) H → RBs σ rs vs → fzL rs ρ = some (ds, ρ') → ∃ F', Cfg K mg B F' ρ' σ τ H ∧ (∀ a o, F a = some o → F' a = some o) ∧ DVs K mg F' ds vs
  | [], _, ds, ρ, ρ', F, c, .nil, e => by
    cases e
    exact ⟨F, c, fun _ _ e => e, .nil⟩
  | r :: rs, v :: vs, ds, ρ, ρ', F, c, .cons hb hbs, e => by
    have e' : ∃ d ρ1 ds1, PD.fz1 r ρ = some (d, ρ1) ∧ PD.fzL rs ρ1 = some (ds1, ρ') ∧ ds = d :: ds1 := by
      unfold PD.fzL at e
      cases r with
      | fz d =>
        simp only [Option.map_eq_some_iff] at e
        obtain ⟨⟨ds1, ρ1⟩, e1, e2⟩ := e
        cases e2
        exact ⟨d, ρ, ds1, rfl, e1, rfl⟩
      | own d =>
        simp only [Option.map_eq_some_iff] at e
        obtain ⟨⟨ds1, ρ1⟩, e1, e2⟩ := e
        cases e2
        exact ⟨d, ρ, ds1, rfl, e1, rfl⟩
      | bor i =>
        simp only at e
        unfold PD.fz1
        simp only
        split at e
        · rename_i d q
          simp only [Option.map_eq_some_iff] at e
          obtain ⟨⟨ds1, ρ1⟩, e1, e2⟩ := e
          cases e2
          exact ⟨d, _, ds1, rfl, e1, rfl⟩
        · rename_i d q
          simp only [Option.map_eq_some_iff] at e
          obtain ⟨⟨ds1, ρ1⟩, e1, e2⟩ := e
          cases e2
          exact ⟨d, _, ds1, rfl, e1, rfl⟩
        · cases e
    obtain ⟨d, ρ1, ds1, e1, e2, rfl⟩ := e'
    have c1 : Cfg K mg B F ρ σ ((r.stk, v) :: ((rs.map RV.stk).zip vs ++ τ)) H := c
    obtain ⟨F1, c2, m1, r1⟩ := c1.fz1 hb e1
    obtain ⟨F2, c3, m2, r2⟩ := Cfg.fzL c2 hbs e2
    exact ⟨F2, c3, fun a o e => m2 a o (m1 a o e), .cons (r1.mono m2) r2⟩
theorem Cfg.fzA {rs : List RV} {vs : List V} {ds : List D} {ρ' : List SV} (c : Cfg K mg B F ρ σ (stkL rs vs τ) H) (hb : RBs σ rs vs) (e : PD.fzL rs ρ = some (ds, ρ')) : ∃ F', Cfg K mg B F' ρ' σ τ H ∧ (∀ a o, F a = some o → F' a = some o) ∧ DVs K mg F' ds vs :=
  Cfg.fzL (c.perm (stkL_perm hb.length)) hb e
/-- (a, b, ..) -/
def dTup (a : DA) : DE := fun ρ => (a ρ).bind fun xs ρ1 => match fzL xs ρ1 with
  | some (ds, ρ2) => if ds.length ≤ 1000000 then .ok (.fz (.tup ds)) ρ2 else .no
  | none => .no
def dLst (a : DA) : DE := fun ρ => (a ρ).bind fun xs ρ1 => match fzL xs ρ1 with
  | some (ds, ρ2) => if ds.length ≤ 1000000 then .ok (.own (.lst ds)) ρ2 else .no
  | none => .no
theorem line_of {n : Nat} (h : n ≤ 1000000) : n ≤ sizeLine := Nat.le_trans h (by rw [sizeLine_eq]; decide)
theorem se_tup {t : TA} {a : DA} (ha : SA K mg P W t a) : SE K mg P W (tTup t) (dTup a) := by
  refine ⟨fun B F ρ σ τ H Q pr c hp => ?_⟩
  refine ha.bind pr c hp (fun _ _ _ h => h) id fun xs ρ1 F1 H1 vs c1 b1 hp1 => ?_
  cases e : fzL xs ρ1 with
  | none => rw [e] at hp1; exact hp1.elim
  | some p =>
    obtain ⟨ds, ρ2⟩ := p
    rw [e] at hp1
    simp only at hp1
    by_cases hl : ds.length ≤ 1000000
    · rw [if_pos hl] at hp1
      obtain ⟨F2, c2, m, r⟩ := c1.fzA b1 e
      refine ⟨by rw [← r.length]; exact line_of hl, fun p hpn => ?_⟩
      obtain ⟨c3, m3⟩ := c2.allocF (o := .tup vs) hpn
      exact hp1 _ _ _ (c3.push (.tup upd_same (r.mono m3))) trivial
    · rw [if_neg hl] at hp1; exact hp1.elim
theorem se_lst {t : TA} {a : DA} (ha : SA K mg P W t a) : SE K mg P W (tLst t) (dLst a) := by
  refine ⟨fun B F ρ σ τ H Q pr c hp => ?_⟩
  refine ha.bind pr c hp (fun _ _ _ h => h) id fun xs ρ1 F1 H1 vs c1 b1 hp1 => ?_
  cases e : fzL xs ρ1 with
  | none => rw [e] at hp1; exact hp1.elim
  | some p =>
    obtain ⟨ds, ρ2⟩ := p
    rw [e] at hp1
    simp only at hp1
    by_cases hl : ds.length ≤ 1000000
    · rw [if_pos hl] at hp1
      obtain ⟨F2, c2, m, r⟩ := c1.fzA b1 e
      refine ⟨by rw [← r.length]; exact line_of hl, fun p hpn => ?_⟩
      exact hp1 _ _ _ (c2.allocO hpn (.lst r)) trivial
    · rw [if_neg hl] at hp1; exact hp1.elim
end

section
variable {X : Cx} {P : List Nat} {W : WX} {pos : Pos} {a b : Expr} {da db : DE} {es : List Expr} {d : DA}
theorem d_nil : PDA X P W [] dNil := ⟨_, pa_nil, sa_nil⟩
theorem d_cons {e : Expr} (h : PD X P W e da) (r : PDA X P W es d) (hs : starEach (e :: es) X.env = (false, eval e X.env) :: starEach es X.env := by rfl) : PDA X P W (e :: es) (dCons da d) := by
  obtain ⟨t, h1, h2⟩ := h
  obtain ⟨u, r1, r2⟩ := r
  exact ⟨_, pa_cons h1 r1 hs, sa_cons h2 r2⟩
theorem d_tup {k : Nat} (h : PDA X P W es d) : PD X P W (.Tuple es k pos) (dTup d) := by
  obtain ⟨t, h1, h2⟩ := h
  exact ⟨_, pe_tup h1, se_tup h2⟩
theorem d_lst (h : PDA X P W es d) : PD X P W (.List es pos) (dLst d) := by
  obtain ⟨t, h1, h2⟩ := h
  exact ⟨_, pe_lst h1, se_lst h2⟩
theorem d_op {op : Operator} {r : R2} {f : D → D → Option RV} (ok : OK2 X.K X.mg r f) (ho : OpR X (binaryOp op) r) (h : PD X P W a da) (h' : PD X P W b db) : PD X P W (.BinOp a op b pos) (dOp2 f da db) := by
  obtain ⟨t, h1, h2⟩ := h
  obtain ⟨u, r1, r2⟩ := h'
  exact ⟨_, pe_op ho h1 r1, se_op2 ok h2 r2⟩
theorem d_un {op : UnaryOp} {r : V → Hp → VK → Prop} {f : D → Option RV} (ok : OK1 X.K X.mg r f) (ho : UnR X (unaryOp op) r) (h : PD X P W a da) : PD X P W (.UnaryOp op a pos) (dOp1 f da) := by
  obtain ⟨t, h1, h2⟩ := h
  exact ⟨_, pe_un ho h1, se_op1 ok h2⟩
theorem d_cmp {op : CmpOp} {r : R2} {f : D → D → Option RV} (ok : OK2 X.K X.mg r f) (ho : OpR X (compareOp op) r) (h : PD X P W a da) (h' : PD X P W b db) (hm : behindInMarks op b = false) : PD X P W (.Compare a [op] [b] pos) (dOp2 f da db) := by
  obtain ⟨t, h1, h2⟩ := h
  obtain ⟨u, r1, r2⟩ := h'
  exact ⟨_, pe_cmpR ho h1 r1 hm, se_op2 ok h2 r2⟩
theorem d_ix {r : R2} {f : D → D → Option RV} (ok : OK2 X.K X.mg r f) (ho : IxR X r) (h : PD X P W a da) (h' : PD X P W b db) (hs : PlainIx b) : PD X P W (.Subscript a b pos) (dOp2 f da db) := by
  obtain ⟨t, h1, h2⟩ := h
  obtain ⟨u, r1, r2⟩ := h'
  exact ⟨_, pe_ix ho h1 r1 hs, se_op2 ok h2 r2⟩
/-- a built-in function, a built-in class by its name -/
theorem d_callB {x : Str} {id : String} {r : List V → Hp → VK → Prop} {f : List D → Option RV} {e : Expr} {p : Pos} (ok : OKn X.K X.mg r f) (hc : CallR X (.builtin id) r) (hg : Gl X x) (hm : X.mg x = none) (hv : bootBuiltins x = some (.builtin id)) (h : PDA X P W (e :: es) d)
    (hn : x ≠ "__name__" := by decide) (hdb : (x == ("__debug__" : Str)) = false := by decide)
    (he : starEach (e :: es) X.env = (false, eval e X.env) :: starEach es X.env := by rfl) (hpl : (backTo pos (starEach es X.env)).any (·.1) = false := by rfl) : PD X P W (.Call (.Name x p) (e :: es) [] pos) (dOpN f d) := by
  obtain ⟨t, h1, h2⟩ := h
  exact ⟨_, pe_callB hc hg hm hv h1 hn hdb he hpl, se_opN ok h2⟩
theorem d_callTy {x : Str} {T : String} {r : List V → Hp → VK → Prop} {f : List D → Option RV} {e : Expr} {p : Pos} (ok : OKn X.K X.mg r f) (hc : CallR X (.type T) r) (hg : Gl X x) (hm : X.mg x = none) (hv : bootBuiltins x = some (.type T)) (h : PDA X P W (e :: es) d)
    (hn : x ≠ "__name__" := by decide) (hdb : (x == ("__debug__" : Str)) = false := by decide)
    (he : starEach (e :: es) X.env = (false, eval e X.env) :: starEach es X.env := by rfl) (hpl : (backTo pos (starEach es X.env)).any (·.1) = false := by rfl) : PD X P W (.Call (.Name x p) (e :: es) [] pos) (dOpN f d) := by
  obtain ⟨t, h1, h2⟩ := h
  exact ⟨_, pe_callTy hc hg hm hv h1 hn hdb he hpl, se_opN ok h2⟩
end
end PD
set_option Elab.async false
set_option linter.all false
set_option maxRecDepth 100000
set_option autoImplicit false
set_option maxHeartbeats 4000000
/-! PD: tests, statements, loops. -/
namespace PD
open PySem PySem.Spec PyProof.Rows L2

/-! ### tests -/
def dB (e : DE) : DT := fun ρ => (e ρ).bind fun x ρ1 => match x with
  | .fz (.bl b) => .ok b ρ1
  | _ => .no
/-- a value's truth -/
def truD : D → Option Bool
  | .non => some false
  | .bl b => some b
  | .int i => some (i != 0)
  | .str x => if x.length ≤ 1000000 then some ((x.length : Int) != 0) else none
  | .tup xs => some (!xs.isEmpty)
  | .lst xs => some (!xs.isEmpty)
  | .dct false kvs => some (!kvs.isEmpty)
  | _ => none
def dTru (e : DE) : DT := fun ρ => (e ρ).bind fun x ρ1 => match rd ρ1 x with
  | some d => match truD d with
    | some b => .ok b ρ1
    | none => .no
  | none => .no
def dNot (t : DT) : DT := fun ρ => (t ρ).bind fun b ρ1 => .ok (!b) ρ1
def dAnd (t u : DT) : DT := fun ρ => (t ρ).bind fun b ρ1 => if b then u ρ1 else .ok false ρ1
def dOr (t u : DT) : DT := fun ρ => (t ρ).bind fun b ρ1 => if b then .ok true ρ1 else u ρ1
/-- a test as a value -/
def dNotV (e : DE) : DE := fun ρ => (e ρ).bind fun x ρ1 => match x with
  | .fz (.bl b) => .ok (.fz (.bl (!b))) ρ1
  | _ => .no
def dAndV (a b : DE) : DE := fun ρ => (a ρ).bind fun x ρ1 => match x with
  | .fz (.bl true) => b ρ1
  | .fz (.bl false) => .ok (.fz (.bl false)) ρ1
  | _ => .no
def dOrV (a b : DE) : DE := fun ρ => (a ρ).bind fun x ρ1 => match x with
  | .fz (.bl true) => .ok (.fz (.bl true)) ρ1
  | .fz (.bl false) => b ρ1
  | _ => .no
def dIf (t : DT) (a b : DE) : DE := fun ρ => (t ρ).bind fun c ρ1 => if c then a ρ1 else b ρ1
section
variable {K : PySem.W.Frag} {mg : Str → Option Value} {P : List Nat} {W : WX} {B : Bs} {F F' H H' : Hp} {ρ : List SV} {σ : L2.St} {τ : List (SV × V)}
theorem st_b {t : TE} {e : DE} (h : SE K mg P W t e) : ST K mg P W (tB t) (dB e) := by
  refine ⟨fun B F ρ σ τ H Q pr c hp => ?_⟩
  refine h.bind pr c hp (fun _ _ _ h => h) id fun x ρ1 F1 H1 vx c1 b1 hp1 => ?_
  cases x with
  | fz d =>
    cases d with
    | bl b =>
      have r := c1.top
      cases r
      exact ⟨b, rfl, hp1 _ _ c1.pop⟩
    | _ => exact hp1.elim
  | _ => exact hp1.elim
theorem st_test {t : TE} {e : DE} (h : SE K mg P W t e) : ST K mg P W (tTest t) (dB e) := st_b h
theorem st_not {t : TT} {e : DT} (h : ST K mg P W t e) : ST K mg P W (tNot t) (dNot e) := by
  refine ⟨fun B F ρ σ τ H Q pr c hp => ?_⟩
  refine h.bind (Post := PostT K mg W B σ τ Q) pr c hp (fun _ _ _ h => h) id fun x ρ1 F1 H1 c1 hp1 => ?_
  exact hp1 _ _ c1
theorem st_and {t u : TT} {a b : DT} (h : ST K mg P W t a) (h' : ST K mg P W u b) : ST K mg P W (tAnd t u) (dAnd a b) := by
  refine ⟨fun B F ρ σ τ H Q pr c hp => ?_⟩
  refine h.bind (Post := PostT K mg W B σ τ Q) pr c hp (fun _ _ _ h => h) id fun x ρ1 F1 H1 c1 hp1 => ?_
  cases x with
  | true => exact iteT (h'.run B F1 ρ1 σ τ H1 Q pr c1 hp1)
  | false => exact iteF (hp1 _ _ c1)
theorem st_or {t u : TT} {a b : DT} (h : ST K mg P W t a) (h' : ST K mg P W u b) : ST K mg P W (tOr t u) (dOr a b) := by
  refine ⟨fun B F ρ σ τ H Q pr c hp => ?_⟩
  refine h.bind (Post := PostT K mg W B σ τ Q) pr c hp (fun _ _ _ h => h) id fun x ρ1 F1 H1 c1 hp1 => ?_
  cases x with
  | false => exact iteF (h'.run B F1 ρ1 σ τ H1 Q pr c1 hp1)
  | true => exact iteT (hp1 _ _ c1)
theorem se_notV {t : TE} {e : DE} (h : SE K mg P W t e) : SE K mg P W (tNotV t) (dNotV e) := by
  refine ⟨fun B F ρ σ τ H Q pr c hp => ?_⟩
  refine h.bind pr c hp (fun _ _ _ h => h) id fun x ρ1 F1 H1 vx c1 b1 hp1 => ?_
  cases x with
  | fz d =>
    cases d with
    | bl b =>
      have r := c1.top
      cases r
      exact ⟨b, rfl, hp1 _ _ _ (c1.pop.push .bl) trivial⟩
    | _ => exact hp1.elim
  | _ => exact hp1.elim
theorem se_andV {t u : TE} {a b : DE} (h : SE K mg P W t a) (h' : SE K mg P W u b) : SE K mg P W (tAndV t u) (dAndV a b) := by
  refine ⟨fun B F ρ σ τ H Q pr c hp => ?_⟩
  refine h.bind pr c hp (fun _ _ _ h => h) id fun x ρ1 F1 H1 vx c1 b1 hp1 => ?_
  cases x with
  | fz d =>
    cases d with
    | bl b =>
      have r := c1.top
      cases r
      cases b with
      | true => exact ⟨true, rfl, iteT (h'.run B F1 ρ1 σ τ H1 Q pr c1.pop hp1)⟩
      | false => exact ⟨false, rfl, iteF (hp1 _ _ _ (c1.pop.push .bl) trivial)⟩
    | _ => exact hp1.elim
  | _ => exact hp1.elim
theorem se_orV {t u : TE} {a b : DE} (h : SE K mg P W t a) (h' : SE K mg P W u b) : SE K mg P W (tOrV t u) (dOrV a b) := by
  refine ⟨fun B F ρ σ τ H Q pr c hp => ?_⟩
  refine h.bind pr c hp (fun _ _ _ h => h) id fun x ρ1 F1 H1 vx c1 b1 hp1 => ?_
  cases x with
  | fz d =>
    cases d with
    | bl b =>
      have r := c1.top
      cases r
      cases b with
      | false => exact ⟨false, rfl, iteF (h'.run B F1 ρ1 σ τ H1 Q pr c1.pop hp1)⟩
      | true => exact ⟨true, rfl, iteT (hp1 _ _ _ (c1.pop.push .bl) trivial)⟩
    | _ => exact hp1.elim
  | _ => exact hp1.elim
theorem se_if {t : TT} {ta tb : TE} {c : DT} {a b : DE} (hc : ST K mg P W t c) (ha : SE K mg P W ta a) (hb : SE K mg P W tb b) : SE K mg P W (tIf t ta tb) (dIf c a b) := by
  refine ⟨fun B F ρ σ τ H Q pr c hp => ?_⟩
  refine hc.bind (Post := PostE K mg W B σ τ Q) pr c hp (fun _ _ _ h => h) id fun x ρ1 F1 H1 c1 hp1 => ?_
  cases x with
  | true => exact iteT (ha.run B F1 ρ1 σ τ H1 Q pr c1 hp1)
  | false => exact iteF (hb.run B F1 ρ1 σ τ H1 Q pr c1 hp1)
theorem DVs.isEmpty {xs : List D} {vs : List V} (h : DVs K mg F xs vs) : xs.isEmpty = vs.isEmpty := by cases h <;> rfl
theorem DKs.isEmpty {xs : List (D × D)} {vs : List (Key × V)} (h : DKs K mg F xs vs) : xs.isEmpty = vs.isEmpty := by cases h <;> rfl
theorem DTs.isEmpty {xs : List (D × D)} {vs : List (List Key × V)} (h : DTs K mg F xs vs) : xs.isEmpty = vs.isEmpty := by cases h <;> rfl
end
/-! ### the tests' rules -/
section
variable {X : Cx} {P : List Nat} {W : WX} {pos : Pos} {a b c : Expr} {da db : DE} {ta tb : DT} {rest : List Expr}
theorem st_tru {t : TE} {e : DE} (h : SE X.K X.mg P W t e) : ST X.K X.mg P W (fun σ H Q => t σ H fun x H' => ∃ k, TruV X.K x H' k ∧ Q k H') (dTru e) := by
  refine ⟨fun B F ρ σ τ H Q pr c hp => ?_⟩
  refine h.bind pr c hp (fun _ _ _ h => h) id fun x ρ1 F1 H1 vx c1 b1 hp1 => ?_
  cases e1 : rd ρ1 x with
  | none => rw [e1] at hp1; exact hp1.elim
  | some d =>
    rw [e1] at hp1
    have r := c1.read List.mem_cons_self b1 e1
    cases e2 : truD d with
    | none => simp only [e2] at hp1; exact hp1.elim
    | some b =>
      simp only [e2] at hp1
      refine ⟨b, ?_, hp1 _ _ c1.pop⟩
      cases r with
      | non => cases e2; rfl
      | bl => cases e2; rfl
      | int => cases e2; rfl
      | str =>
        rename_i x
        have e2 : (if x.length ≤ 1000000 then some ((x.length : Int) != 0) else none) = some b := e2
        by_cases hl : x.length ≤ 1000000
        · rw [if_pos hl] at e2; cases e2; exact ⟨line_of hl, rfl⟩
        · rw [if_neg hl] at e2; cases e2
      | tup s r => cases e2; rw [r.isEmpty]; exact .inr (.inl ⟨_, .of (c1.sub _ _ s), rfl⟩)
      | kt s r => cases e2
      | lst s r => cases e2; rw [r.isEmpty]; exact .inl ⟨_, .of s, rfl⟩
      | lk s r => cases e2
      | dK s r => cases e2; rw [r.isEmpty]; exact .inr (.inr ⟨_, s, rfl⟩)
      | dT s r => cases e2
      | ins s c r => cases e2
      | ty => cases e2
      | fn c k => cases e2
theorem d_cmpT {op : CmpOp} {r : R2} {f : D → D → Option RV} (ok : OK2 X.K X.mg r f) (ho : OpR X (compareOp op) r) (h : PD X P W a da) (h' : PD X P W b db) (hm : behindInMarks op b = false) : PDT X P W (.Compare a [op] [b] pos) (dB (dOp2 f da db)) := by
  obtain ⟨t, h1, h2⟩ := h
  obtain ⟨u, r1, r2⟩ := h'
  exact ⟨_, pt_cmpR ho h1 r1 hm, st_test (se_op2 ok h2 r2)⟩
theorem d_val (h : PD X P W a da) (he : ∀ whole, isTrue a X.env whole = (do let v ← whole; standAt a.pos; holding [v] (truthy v)) := by intro _; rfl) : PDT X P W a (dB da) := by
  obtain ⟨t, h1, h2⟩ := h
  exact ⟨_, pt_val h1 he, st_b h2⟩
theorem d_tru (h : PD X P W a da) (he : ∀ whole, isTrue a X.env whole = (do let v ← whole; standAt a.pos; holding [v] (truthy v)) := by intro _; rfl) : PDT X P W a (dTru da) := by
  obtain ⟨t, h1, h2⟩ := h
  exact ⟨_, pt_truth h1 he, st_tru h2⟩
theorem d_not (h : PDT X P W a ta) : PDT X P W (.UnaryOp .Not a pos) (dNot ta) := by
  obtain ⟨t, h1, h2⟩ := h
  exact ⟨_, pt_not h1, st_not h2⟩
theorem d_and1 (h : PDT X P W a ta) : PDW X P W (.BoolOp .And [a] pos) ta := by
  obtain ⟨t, h1, h2⟩ := h
  exact ⟨_, pw_and1 h1, h2⟩
theorem d_or1 (h : PDT X P W a ta) : PDW X P W (.BoolOp .Or [a] pos) ta := by
  obtain ⟨t, h1, h2⟩ := h
  exact ⟨_, pw_or1 h1, h2⟩
theorem d_and (h : PDT X P W a ta) (h' : PDW X P W (.BoolOp .And (b :: rest) pos) tb) : PDW X P W (.BoolOp .And (a :: b :: rest) pos) (dAnd ta tb) := by
  obtain ⟨t, h1, h2⟩ := h
  obtain ⟨u, r1, r2⟩ := h'
  exact ⟨_, pw_and h1 r1, st_and h2 r2⟩
theorem d_or (h : PDT X P W a ta) (h' : PDW X P W (.BoolOp .Or (b :: rest) pos) tb) : PDW X P W (.BoolOp .Or (a :: b :: rest) pos) (dOr ta tb) := by
  obtain ⟨t, h1, h2⟩ := h
  obtain ⟨u, r1, r2⟩ := h'
  exact ⟨_, pw_or h1 r1, st_or h2 r2⟩
theorem d_pt {e : Expr} (h : PDW X P W e ta) : PDT X P W e ta := by
  obtain ⟨t, h1, h2⟩ := h
  exact ⟨_, h1.pt, h2⟩
theorem d_notV (h : PD X P W a da) : PD X P W (.UnaryOp .Not a pos) (dNotV da) := by
  obtain ⟨t, h1, h2⟩ := h
  exact ⟨_, pe_not h1, se_notV h2⟩
theorem d_one {op : BoolOp} (h : PD X P W a da) : PD X P W (.BoolOp op [a] pos) da := by
  obtain ⟨t, h1, h2⟩ := h
  exact ⟨_, pe_one h1, h2⟩
theorem d_andV (h : PD X P W a da) (h' : PD X P W (.BoolOp .And (b :: rest) pos) db) : PD X P W (.BoolOp .And (a :: b :: rest) pos) (dAndV da db) := by
  obtain ⟨t, h1, h2⟩ := h
  obtain ⟨u, r1, r2⟩ := h'
  exact ⟨_, pe_and h1 r1, se_andV h2 r2⟩
theorem d_orV (h : PD X P W a da) (h' : PD X P W (.BoolOp .Or (b :: rest) pos) db) : PD X P W (.BoolOp .Or (a :: b :: rest) pos) (dOrV da db) := by
  obtain ⟨t, h1, h2⟩ := h
  obtain ⟨u, r1, r2⟩ := h'
  exact ⟨_, pe_or h1 r1, se_orV h2 r2⟩
theorem d_ifE (h : PDT X P W c ta) (h1 : PD X P W a da) (h2 : PD X P W b db) : PD X P W (.IfExp c a b pos) (dIf ta da db) := by
  obtain ⟨t, p1, p2⟩ := h
  obtain ⟨u, q1, q2⟩ := h1
  obtain ⟨v, r1, r2⟩ := h2
  exact ⟨_, pe_ifExp p1 q1 r1, se_if p2 q2 r2⟩
end
/-- a op1 b op2 c -/
def dChain (f g : D → D → Option RV) (a b c : DE) : DE := fun ρ => (a ρ).bind fun x ρ1 => (b ρ1).bind fun y ρ2 => match rd ρ2 x, rd ρ2 y with
  | some dx, some dy => match f dx dy with
    | some (.fz (.bl true)) => (c ρ2).bind fun z ρ3 => match rd ρ3 y, rd ρ3 z with
      | some dy', some dz => match g dy' dz with
        | some rv => .ok rv ρ3
        | none => .no
      | _, _ => .no
    | some (.fz (.bl false)) => .ok (.fz (.bl false)) ρ2
    | _ => .no
  | _, _ => .no
section
variable {K : PySem.W.Frag} {mg : Str → Option Value} {P : List Nat} {W : WX} {B : Bs} {F F' H H' : Hp} {ρ : List SV} {σ : L2.St} {τ : List (SV × V)}
theorem se_chain {r r' : R2} {f g : D → D → Option RV} {ta tb tc : TE} {a b c : DE} (ok : OK2 K mg r f) (ok' : OK2 K mg r' g) (ha : SE K mg P W ta a) (hb : SE K mg P W tb b) (hc : SE K mg P W tc c) : SE K mg P W (tChain r r' ta tb tc) (dChain f g a b c) := by
  refine ⟨fun B F ρ σ τ H Q pr c hp => ?_⟩
  refine ha.bind pr c hp (fun _ _ _ h => h) id fun x ρ1 F1 H1 vx c1 b1 hp1 => ?_
  refine hb.bind pr c1 (Post := PostE K mg W B σ τ Q) hp1 (fun cc fs ρ' h F' H' cls dd c' ev => h F' H' cls dd c'.pop ev) id fun y ρ2 F2 H2 vy c2 b2 hp2 => ?_
  cases e1 : rd ρ2 x with
  | none => rw [e1] at hp2; exact hp2.elim
  | some dx =>
    cases e2 : rd ρ2 y with
    | none => rw [e1, e2] at hp2; exact hp2.elim
    | some dy =>
      rw [e1, e2] at hp2
      cases e3 : f dx dy with
      | none => simp only [e3] at hp2; exact hp2.elim
      | some rv =>
        simp only [e3] at hp2
        refine ok.run B F2 ρ2 σ _ H2 vx vy dx dy rv _ c2 (c2.read (List.mem_cons_of_mem _ List.mem_cons_self) b1 e1) (c2.read List.mem_cons_self b2 e2) e3 fun F3 H3 v c3 => ?_
        cases rv with
        | fz d =>
          cases d with
          | bl k =>
            have r := c3.top
            cases r
            cases k with
            | false => exact ⟨false, rfl, iteF (hp2 _ _ _ (c3.pop.pop.pop.push .bl) trivial)⟩
            | true =>
              refine ⟨true, rfl, iteT ?_⟩
              refine hc.bind pr c3.pop (Post := PostE K mg W B σ τ Q) hp2 (fun cc fs ρ' h F' H' cls dd c' ev => h F' H' cls dd c'.pop.pop ev) id fun z ρ4 F4 H4 vz c4 b4 hp4 => ?_
              cases e5 : rd ρ4 y with
              | none => rw [e5] at hp4; exact hp4.elim
              | some dy' =>
                cases e6 : rd ρ4 z with
                | none => rw [e5, e6] at hp4; exact hp4.elim
                | some dz =>
                  rw [e5, e6] at hp4
                  cases e7 : g dy' dz with
                  | none => simp only [e7] at hp4; exact hp4.elim
                  | some rv' =>
                    simp only [e7] at hp4
                    exact ok'.run B F4 ρ4 σ τ H4 vy vz dy' dz rv' Q c4.pop.pop.pop (c4.read (List.mem_cons_of_mem _ List.mem_cons_self) b2 e5) (c4.read List.mem_cons_self b4 e6) e7 fun F' H' v c' => hp4 F' H' v c' (rvb_nb (ok'.nb _ _ _ e7) v)
          | _ => exact hp2.elim
        | _ => exact hp2.elim
end
section
variable {X : Cx} {P : List Nat} {W : WX} {pos : Pos} {a b c : Expr} {da db dc : DE}
theorem d_chain {op op' : CmpOp} {r r' : R2} {f g : D → D → Option RV} (ok : OK2 X.K X.mg r f) (ok' : OK2 X.K X.mg r' g) (ho : OpR X (compareOp op) r) (ho' : OpR X (compareOp op') r') (h : PD X P W a da) (h1 : PD X P W b db) (h2 : PD X P W c dc)
    (hm : lastMarks [op, op'] [b, c] = false := by with_unfolding_all rfl) : PD X P W (.Compare a [op, op'] [b, c] pos) (dChain f g da db dc) := by
  obtain ⟨t, p1, p2⟩ := h
  obtain ⟨u, q1, q2⟩ := h1
  obtain ⟨v, r1, r2⟩ := h2
  exact ⟨_, pe_chain ho ho' p1 q1 r1 hm, se_chain ok ok' p2 q2 r2⟩
theorem d_chainT {op op' : CmpOp} {r r' : R2} {f g : D → D → Option RV} (ok : OK2 X.K X.mg r f) (ok' : OK2 X.K X.mg r' g) (ho : OpR X (compareOp op) r) (ho' : OpR X (compareOp op') r') (h : PD X P W a da) (h1 : PD X P W b db) (h2 : PD X P W c dc)
    (hm : lastMarks [op, op'] [b, c] = false := by with_unfolding_all rfl) : PDT X P W (.Compare a [op, op'] [b, c] pos) (dB (dChain f g da db dc)) := by
  obtain ⟨t, p1, p2⟩ := h
  obtain ⟨u, q1, q2⟩ := h1
  obtain ⟨v, r1, r2⟩ := h2
  exact ⟨_, pt_chain ho ho' p1 q1 r1 hm, st_test (se_chain ok ok' p2 q2 r2)⟩
end

/-! ### statements -/
inductive RS where
  | nx (ρ : List SV) | bk (ρ : List SV) | ct (ρ : List SV) | rt (sv : SV) (ρ : List SV) | ex (c : Str) (fs : List (Str × D)) (ρ : List SV) | no
abbrev DS := List SV → RS
def R.bindS {α : Type} (r : R α) (f : α → List SV → RS) : RS := match r with
  | .ok a ρ => f a ρ
  | .ex c fs ρ => .ex c fs ρ
  | .no => .no
section
variable (K : PySem.W.Frag) (mg : Str → Option Value)
def PostS (W : WX) (B : Bs) (τ : List (SV × V)) (D : Ends) : RS → Prop
  | .nx ρ => ∀ F σ H, Cfg K mg B F ρ σ τ H → D.nx σ H
  | .bk ρ => ∀ F σ H, Cfg K mg B F ρ σ τ H → D.bk σ H
  | .ct ρ => ∀ F σ H, Cfg K mg B F ρ σ τ H → D.ct σ H
  | .rt sv ρ => ∀ F σ H v, Cfg K mg B F ρ σ ((sv, v) :: τ) H → D.rt v H
  | .ex c fs ρ => ∀ F σ H cls dd, Cfg K mg B F ρ σ τ H → EV K mg F c fs cls dd → W cls dd σ H
  | .no => False
structure SS (P : List Nat) (W : WX) (t : TS) (s : DS) : Prop where
  run : ∀ (B : Bs) (F : Hp) (ρ : List SV) (σ : L2.St) (τ : List (SV × V)) (H : Hp) (D : Ends), PrOk B P → Cfg K mg B F ρ σ τ H → PostS K mg W B τ D (s ρ) → t D σ H
end
def PDS (X : Cx) (P : List Nat) (W : WX) (st : Stmt) (τ : DS) : Prop := ∃ t, PS X st t ∧ SS X.K X.mg P W t τ
def PDSs (X : Cx) (P : List Nat) (W : WX) (st : List Stmt) (τ : DS) : Prop := ∃ t, PSs X st t ∧ SS X.K X.mg P W t τ
def dNext : DS := fun ρ => .nx ρ
def dNever : DS := fun _ => .no
def dBreak : DS := fun ρ => .bk ρ
def dCont : DS := fun ρ => .ct ρ
def dSeq (s u : DS) : DS := fun ρ => match s ρ with
  | .nx ρ1 => u ρ1
  | r => r
def dIfS (t : DT) (s u : DS) : DS := fun ρ => (t ρ).bindS fun b ρ1 => if b then s ρ1 else u ρ1
def dDrop (e : DE) : DS := fun ρ => (e ρ).bindS fun _ ρ1 => .nx ρ1
/-- a result leaves the frame -/
def outR : RV → List SV → Option (SV × List SV)
  | .fz d, ρ => some (.fz d, ρ)
  | .own d, ρ => some (.own d, ρ)
  | .bor i, ρ => match ρ[i]? with
    | some (.own d) => some (.own d, ρ.set i .no)
    | some (.fz d) => some (.fz d, ρ)
    | _ => none
def dRet (e : DE) : DS := fun ρ => (e ρ).bindS fun x ρ1 => match outR x ρ1 with
  | some (sv, ρ2) => .rt sv ρ2
  | none => .no
def dRetN : DS := fun ρ => .rt (.fz .non) ρ
/-- a result goes into slot i: an own object of another slot is frozen ahead -/
def inR : RV → List SV → Option (SV × List SV)
  | .fz d, ρ => some (.fz d, ρ)
  | .own d, ρ => some (.own d, ρ)
  | .bor i, ρ => match ρ[i]? with
    | some (.own d) => some (.fz d, ρ.set i (.fz d))
    | some (.fz d) => some (.fz d, ρ)
    | _ => none
def dSet (i : Nat) (e : DE) : DS := fun ρ => (e ρ).bindS fun x ρ1 => match inR x ρ1 with
  | some (sv, ρ2) => .nx (ρ2.set i sv)
  | none => .no
section
variable {K : PySem.W.Frag} {mg : Str → Option Value} {P : List Nat} {W : WX} {B : Bs} {F F' H H' : Hp} {ρ : List SV} {σ : L2.St} {τ : List (SV × V)}
theorem SE.bindS {t : TE} {a : DE} (ha : SE K mg P W t a) (pr : PrOk B P) (c : Cfg K mg B F ρ σ τ H) {f : RV → List SV → RS} {τ' : List (SV × V)} {D : Ends} {Q : VK}
    (hp : PostS K mg W B τ' D ((a ρ).bindS f)) (hτ : ∀ F' ρ' σ' H', Cfg K mg B F' ρ' σ' τ H' → Cfg K mg B F' ρ' σ' τ' H')
    (hok : ∀ rv ρ' F' H' v, Cfg K mg B F' ρ' σ ((rv.stk, v) :: τ) H' → RVb σ rv v → PostS K mg W B τ' D (f rv ρ') → Q v H') : t σ H Q := by
  refine ha.run B F ρ σ τ H Q pr c ?_
  cases e : a ρ with
  | ok rv ρ' => rw [e] at hp; exact fun F' H' v c' b => hok rv ρ' F' H' v c' b hp
  | ex cc fs ρ' => rw [e] at hp; exact fun F' H' cls dd c' ev => hp F' σ H' cls dd (hτ _ _ _ _ c') ev
  | no => rw [e] at hp; exact hp.elim
theorem ST.bindS {t : TT} {a : DT} (ha : ST K mg P W t a) (pr : PrOk B P) (c : Cfg K mg B F ρ σ τ H) {f : Bool → List SV → RS} {τ' : List (SV × V)} {D : Ends} {Q : Bool → Hp → Prop}
    (hp : PostS K mg W B τ' D ((a ρ).bindS f)) (hτ : ∀ F' ρ' σ' H', Cfg K mg B F' ρ' σ' τ H' → Cfg K mg B F' ρ' σ' τ' H')
    (hok : ∀ b ρ' F' H', Cfg K mg B F' ρ' σ τ H' → PostS K mg W B τ' D (f b ρ') → Q b H') : t σ H Q := by
  refine ha.run B F ρ σ τ H Q pr c ?_
  cases e : a ρ with
  | ok rv ρ' => rw [e] at hp; exact fun F' H' c' => hok rv ρ' F' H' c' hp
  | ex cc fs ρ' => rw [e] at hp; exact fun F' H' cls dd c' ev => hp F' σ H' cls dd (hτ _ _ _ _ c') ev
  | no => rw [e] at hp; exact hp.elim
theorem ss_next : SS K mg P W tNext dNext := ⟨fun B F ρ σ τ H D pr c hp => hp F σ H c⟩
theorem ss_never {t : TS} : SS K mg P W t dNever := ⟨fun B F ρ σ τ H D pr c hp => hp.elim⟩
theorem ss_break : SS K mg P W tBreak dBreak := ⟨fun B F ρ σ τ H D pr c hp => hp F σ H c⟩
theorem ss_cont : SS K mg P W tCont dCont := ⟨fun B F ρ σ τ H D pr c hp => hp F σ H c⟩
theorem ss_seq {t u : TS} {a b : DS} (h : SS K mg P W t a) (h' : SS K mg P W u b) : SS K mg P W (tSeq t u) (dSeq a b) := by
  refine ⟨fun B F ρ σ τ H D pr c hp => ?_⟩
  refine h.run B F ρ σ τ H { D with nx := u D } pr c ?_
  unfold dSeq at hp
  cases e : a ρ with
  | nx ρ1 => rw [e] at hp; exact fun F' σ' H' c' => h'.run B F' ρ1 σ' τ H' D pr c' hp
  | bk ρ1 => rw [e] at hp; exact hp
  | ct ρ1 => rw [e] at hp; exact hp
  | rt sv ρ1 => rw [e] at hp; exact hp
  | ex cc fs ρ1 => rw [e] at hp; exact hp
  | no => rw [e] at hp; exact hp
theorem ss_if {c : TT} {t u : TS} {d : DT} {a b : DS} (hc : ST K mg P W c d) (h : SS K mg P W t a) (h' : SS K mg P W u b) : SS K mg P W (tIfS c t u) (dIfS d a b) := by
  refine ⟨fun B F ρ σ τ H D pr c hp => ?_⟩
  refine hc.bindS pr c hp (fun _ _ _ _ h => h) fun x ρ1 F1 H1 c1 hp1 => ?_
  cases x with
  | true => exact iteT (h.run B F1 ρ1 σ τ H1 D pr c1 hp1)
  | false => exact iteF (h'.run B F1 ρ1 σ τ H1 D pr c1 hp1)
theorem ss_drop {t : TE} {e : DE} (h : SE K mg P W t e) : SS K mg P W (tDrop t) (dDrop e) := by
  refine ⟨fun B F ρ σ τ H D pr c hp => ?_⟩
  refine h.bindS pr c hp (fun _ _ _ _ h => h) fun x ρ1 F1 H1 vx c1 b1 hp1 => hp1 _ _ _ c1.pop
theorem Cfg.outR {rv : RV} {v : V} {sv : SV} {ρ' : List SV} (c : Cfg K mg B F ρ σ ((rv.stk, v) :: τ) H) (hb : RVb σ rv v) (e : outR rv ρ = some (sv, ρ')) : Cfg K mg B F ρ' σ ((sv, v) :: τ) H := by
  cases rv with
  | fz d => cases e; exact c
  | own d => cases e; exact c
  | bor i =>
    have hb : σ[i]? = some (some v) := hb
    have e : (match ρ[i]? with | some (.own d) => some (SV.own d, ρ.set i .no) | some (.fz d) => some (SV.fz d, ρ) | _ => none) = some (sv, ρ') := e
    cases q : ρ[i]? with
    | none => rw [q] at e; cases e
    | some s =>
      rw [q] at e
      cases s with
      | no => cases e
      | fz d =>
        cases e
        obtain ⟨v', e1, r⟩ := c.fz_slot q
        rw [hb] at e1; cases e1
        exact c.pop.push r
      | own d => cases e; exact c.pop.moveS q hb
theorem Cfg.inR {rv : RV} {v : V} {sv : SV} {ρ' : List SV} (c : Cfg K mg B F ρ σ ((rv.stk, v) :: τ) H) (hb : RVb σ rv v) (e : inR rv ρ = some (sv, ρ')) : ∃ F', Cfg K mg B F' ρ' σ ((sv, v) :: τ) H := by
  cases rv with
  | fz d => cases e; exact ⟨F, c⟩
  | own d => cases e; exact ⟨F, c⟩
  | bor i =>
    have hb : σ[i]? = some (some v) := hb
    have e : (match ρ[i]? with | some (.own d) => some (SV.fz d, ρ.set i (.fz d)) | some (.fz d) => some (SV.fz d, ρ) | _ => none) = some (sv, ρ') := e
    cases q : ρ[i]? with
    | none => rw [q] at e; cases e
    | some s =>
      rw [q] at e
      cases s with
      | no => cases e
      | fz d =>
        cases e
        obtain ⟨v', e1, r⟩ := c.fz_slot q
        rw [hb] at e1; cases e1
        exact ⟨F, c.pop.push r⟩
      | own d =>
        cases e
        obtain ⟨F', c', m, v', e1, r⟩ := c.pop.freezeS q
        rw [hb] at e1; cases e1
        exact ⟨F', c'.push r⟩
theorem ss_ret {t : TE} {e : DE} (h : SE K mg P W t e) : SS K mg P W (tRet t) (dRet e) := by
  refine ⟨fun B F ρ σ τ H D pr c hp => ?_⟩
  refine h.bindS pr c hp (fun _ _ _ _ h => h) fun x ρ1 F1 H1 vx c1 b1 hp1 => ?_
  cases q : PD.outR x ρ1 with
  | none => rw [q] at hp1; exact hp1.elim
  | some p =>
    obtain ⟨sv, ρ2⟩ := p
    rw [q] at hp1
    exact hp1 _ _ _ _ (c1.outR b1 q)
theorem ss_retN : SS K mg P W tRetN dRetN := ⟨fun B F ρ σ τ H D pr c hp => hp F σ H .non (c.push .non)⟩
theorem notP (pr : PrOk B P) {i : Nat} (hi : i ∉ P) : ∀ x ∈ B.pr, x.1 ≠ i := fun x hx z => hi (by rw [← z]; exact pr x hx)
theorem ss_set {i : Nat} {t : TE} {e : DE} (h : SE K mg P W t e) (hi : i ∉ P) : SS K mg P W (tAsg t (gName i)) (dSet i e) := by
  refine ⟨fun B F ρ σ τ H D pr c hp => ?_⟩
  refine h.bindS pr c hp (fun _ _ _ _ h => h) fun x ρ1 F1 H1 vx c1 b1 hp1 => ?_
  cases q : PD.inR x ρ1 with
  | none => rw [q] at hp1; exact hp1.elim
  | some p =>
    obtain ⟨sv, ρ2⟩ := p
    rw [q] at hp1
    obtain ⟨F2, c2⟩ := c1.inR b1 q
    exact hp1 _ _ _ (c2.assign (notP pr hi))
end
section
variable {X : Cx} {P : List Nat} {W : WX} {pos : Pos} {a b c : Expr} {da db : DE} {st : Stmt} {rest : List Stmt} {s u : DS}
theorem d_sNil : PDSs X P W [] dNext := ⟨_, pss_nil, ss_next⟩
theorem d_sCons (h : PDS X P W st s) (h' : PDSs X P W rest u) : PDSs X P W (st :: rest) (dSeq s u) := by
  obtain ⟨t, h1, h2⟩ := h
  obtain ⟨u, r1, r2⟩ := h'
  exact ⟨_, pss_cons h1 r1, ss_seq h2 r2⟩
theorem d_sOne (h : PDS X P W st s) : PDSs X P W [st] s := by
  obtain ⟨t, h1, h2⟩ := h
  exact ⟨_, pss_one h1, h2⟩
theorem d_never : PDS X P W st dNever := ⟨_, ps_never, ss_never⟩
theorem d_nevers {sts : List Stmt} : PDSs X P W sts dNever := ⟨_, pss_never, ss_never⟩
theorem d_pass : PDS X P W (.Pass pos) dNext := ⟨_, ps_pass, ss_next⟩
theorem d_break : PDS X P W (.Break pos) dBreak := ⟨_, ps_break, ss_break⟩
theorem d_cont : PDS X P W (.Continue pos) dCont := ⟨_, ps_continue, ss_cont⟩
theorem d_expr (h : PD X P W a da) (hs : swapsWith a none pos.line X.env = pure false := by rfl) : PDS X P W (.Expr a pos) (dDrop da) := by
  obtain ⟨t, h1, h2⟩ := h
  exact ⟨_, ps_expr h1 hs, ss_drop h2⟩
theorem d_ret (h : PD X P W a da) : PDS X P W (.Return (some a) pos) (dRet da) := by
  obtain ⟨t, h1, h2⟩ := h
  exact ⟨_, ps_ret h1, ss_ret h2⟩
theorem d_retN : PDS X P W (.Return none pos) dRetN := ⟨_, ps_retN, ss_retN⟩
theorem d_if {t : DT} {as bs : List Stmt} (h : PDT X P W c t) (h1 : PDSs X P W as s) (h2 : PDSs X P W bs u) : PDS X P W (.If c as bs pos) (dIfS t s u) := by
  obtain ⟨t, p1, p2⟩ := h
  obtain ⟨u, q1, q2⟩ := h1
  obtain ⟨v, r1, r2⟩ := h2
  exact ⟨_, ps_if p1 q1 r1, ss_if p2 q2 r2⟩
theorem d_set {i : Nat} {x : Str} {pos' : Pos} (hN : X.N.Nodup) (hi : X.N[i]? = some x) (hx : Loc X.env.scope x) (hP : i ∉ P) (h : PD X P W a da) (hs : swapsWith a (some (.Name x pos')) pos.line X.env = pure false := by rfl)
    (hf : X.fn x = true ∨ X.env.scope.names.lookup x = some .local := by first | exact .inl rfl | exact .inr rfl | assumption) : PDS X P W (.Assign [.Name x pos'] a pos) (dSet i da) := by
  obtain ⟨t, h1, h2⟩ := h
  exact ⟨_, ps_set hN hi hx h1 hs hf, ss_set h2 hP⟩
end

/-! ### while -/
def dWhile (c : DT) (b : DS) : Nat → DS
  | 0, _ => .no
  | n + 1, ρ => (c ρ).bindS fun k ρ1 => if k then (match b ρ1 with
      | .nx ρ2 => dWhile c b n ρ2
      | .ct ρ2 => dWhile c b n ρ2
      | .bk ρ2 => .nx ρ2
      | r => r) else .nx ρ1
section
variable {K : PySem.W.Frag} {mg : Str → Option Value} {P : List Nat} {W : WX} {B : Bs} {F F' H H' : Hp} {ρ : List SV} {σ : L2.St} {τ : List (SV × V)}
theorem ss_while {c : TT} {t : TS} {d : DT} {b : DS} (n : Nat) (hc : ST K mg P W c d) (hb : SS K mg P W t b) : SS K mg P W (tWhile c t) (dWhile d b n) := by
  refine ⟨fun B F ρ σ τ H D pr c hp => ?_⟩
  refine ⟨fun m σ H => ∃ F ρ, Cfg K mg B F ρ σ τ H ∧ PostS K mg W B τ D (dWhile d b m ρ), ⟨n, F, ρ, c, hp⟩, ?_⟩
  rintro m σ H ⟨F, ρ, c, hp⟩
  cases m with
  | zero => exact hp.elim
  | succ m =>
    refine hc.bindS pr c (D := D) hp (fun _ _ _ _ h => h) fun x ρ1 F1 H1 c1 hp1 => ?_
    cases x with
    | false => exact iteF (hp1 _ _ _ c1)
    | true =>
      refine iteT ⟨fun σ' H' => ∃ F ρ, Cfg K mg B F ρ σ' τ H' ∧ PostS K mg W B τ D (dWhile d b m ρ), fun σ' H' w => ⟨m, Nat.lt_succ_self m, w⟩, ?_⟩
      refine hb.run B F1 ρ1 σ τ H1 _ pr c1 ?_
      simp only [if_true] at hp1
      cases e : b ρ1 with
      | nx ρ2 => rw [e] at hp1; exact fun F' σ' H' c' => ⟨F', ρ2, c', hp1⟩
      | ct ρ2 => rw [e] at hp1; exact fun F' σ' H' c' => ⟨F', ρ2, c', hp1⟩
      | bk ρ2 => rw [e] at hp1; exact hp1
      | rt sv ρ2 => rw [e] at hp1; exact hp1
      | ex cc fs ρ2 => rw [e] at hp1; exact hp1
      | no => rw [e] at hp1; exact hp1
end
section
variable {X : Cx} {P : List Nat} {W : WX} {pos : Pos} {c : Expr} {body : List Stmt} {t : DT} {s : DS}
theorem d_while (n : Nat) (hp : PassesOwn (model X.prog X.w) X.A X.env X.xe) (h : PDT X P W c t) (h1 : PDSs X P W body s) : PDS X P W (.While c body [] pos) (dWhile t s n) := by
  obtain ⟨t, p1, p2⟩ := h
  obtain ⟨u, q1, q2⟩ := h1
  exact ⟨_, ps_while hp p1 q1, ss_while n p2 q2⟩
end
end PD
set_option Elab.async false
set_option linter.all false
set_option maxRecDepth 100000
set_option autoImplicit false
set_option maxHeartbeats 4000000
/-! PD: targets, loops over items, comprehensions. -/
namespace PD
open PySem PySem.Spec PyProof.Rows L2

section
variable {K : PySem.W.Frag} {mg : Str → Option Value} {P : List Nat} {W : WX} {B : Bs} {F F' H H' : Hp} {ρ : List SV} {σ : L2.St} {τ τ' : List (SV × V)}
theorem Cfg.sub' (h : τ'.Sublist τ) (c : Cfg K mg B F ρ σ τ H) : Cfg K mg B F ρ σ τ' H :=
  { c with
    gt := fun x hx => c.gt x (h.subset hx)
    s2 := fun i p hi ⟨d, t⟩ => c.s2 i p hi ⟨d, h.subset t⟩
    s3 := c.s3.sublist h
    b3 := fun p hp => c.b3 p (hp.imp id fun ⟨d, t⟩ => ⟨d, h.subset t⟩) }
theorem PostS.weak {D : Ends} {r : RS} (h : τ'.Sublist τ) (p : PostS K mg W B τ' D r) : PostS K mg W B τ D r := by
  cases r with
  | nx ρ => exact fun F σ H c => p F σ H (c.sub' h)
  | bk ρ => exact fun F σ H c => p F σ H (c.sub' h)
  | ct ρ => exact fun F σ H c => p F σ H (c.sub' h)
  | rt sv ρ => exact fun F σ H v c => p F σ H v (c.sub' (h.cons_cons _))
  | ex cc fs ρ => exact fun F σ H cls dd c => p F σ H cls dd (c.sub' h)
  | no => exact p
/-- canonical readings -/
def tE (K : PySem.W.Frag) (mg : Str → Option Value) (P : List Nat) (W : WX) (e : DE) : TE := fun σ H Q => ∃ B F ρ τ, PrOk B P ∧ Cfg K mg B F ρ σ τ H ∧ PostE K mg W B σ τ Q (e ρ)
def tT (K : PySem.W.Frag) (mg : Str → Option Value) (P : List Nat) (W : WX) (e : DT) : TT := fun σ H Q => ∃ B F ρ τ, PrOk B P ∧ Cfg K mg B F ρ σ τ H ∧ PostT K mg W B σ τ Q (e ρ)
theorem se_canon {e : DE} : SE K mg P W (tE K mg P W e) e := ⟨fun B F ρ σ τ H Q pr c hp => ⟨B, F, ρ, τ, pr, c, hp⟩⟩
theorem st_canon {e : DT} : ST K mg P W (tT K mg P W e) e := ⟨fun B F ρ σ τ H Q pr c hp => ⟨B, F, ρ, τ, pr, c, hp⟩⟩
end
theorem PD.canon {X : Cx} {P : List Nat} {W : WX} {e : Expr} {d : DE} (h : PD X P W e d) : PE X e (tE X.K X.mg P W d) := by
  obtain ⟨t, h1, h2⟩ := h
  exact ⟨fun pins s σ H Q I ⟨B, F, ρ, τ, pr, c, hp⟩ => h1.run pins s σ H Q I (h2.run B F ρ σ τ H Q pr c hp)⟩
theorem PDT.canon {X : Cx} {P : List Nat} {W : WX} {e : Expr} {d : DT} (h : PDT X P W e d) : PT X e (tT X.K X.mg P W d) := by
  obtain ⟨t, h1, h2⟩ := h
  exact ⟨fun pins s σ H Q I ⟨B, F, ρ, τ, pr, c, hp⟩ => h1.run pins s σ H Q I (h2.run B F ρ σ τ H Q pr c hp)⟩

/-! ### targets -/
abbrev DG := D → List SV → Option (List SV)
section
variable (K : PySem.W.Frag) (mg : Str → Option Value)
structure SG (P : List Nat) (vs : List Nat) (g : TG) (b : DG) : Prop where
  run : ∀ (B : Bs) (F : Hp) (ρ : List SV) (σ : L2.St) (τ : List (SV × V)) (H : Hp) (v : V) (d : D) (ρ' : List SV) (Q : L2.St → Hp → Prop), PrOk B P → Cfg K mg B F ρ σ τ H → DV K mg F d v → b d ρ = some ρ' →
    (∀ σ', Cfg K mg B F ρ' σ' τ H → (∀ j, j ∉ vs → σ'[j]? = σ[j]?) → σ'.length = σ.length → Q σ' H) → g v σ H Q
structure SGs (P : List Nat) (vs : List Nat) (g : TGs) (b : List D → List SV → Option (List SV)) : Prop where
  run : ∀ (B : Bs) (F : Hp) (ρ : List SV) (σ : L2.St) (τ : List (SV × V)) (H : Hp) (us : List V) (ds : List D) (ρ' : List SV) (Q : L2.St → Hp → Prop), PrOk B P → Cfg K mg B F ρ σ τ H → DVs K mg F ds us → b ds ρ = some ρ' →
    (∀ σ', Cfg K mg B F ρ' σ' τ H → (∀ j, j ∉ vs → σ'[j]? = σ[j]?) → σ'.length = σ.length → Q σ' H) → g us σ H Q
def gE (P : List Nat) (vs : List Nat) (b : DG) : TG := fun v σ H Q => ∃ B F ρ τ d ρ', PrOk B P ∧ Cfg K mg B F ρ σ τ H ∧ DV K mg F d v ∧ b d ρ = some ρ' ∧
  ∀ σ', Cfg K mg B F ρ' σ' τ H → (∀ j, j ∉ vs → σ'[j]? = σ[j]?) → σ'.length = σ.length → Q σ' H
end
def PDG (X : Cx) (P vs : List Nat) (tg : Expr) (b : DG) : Prop := ∃ g, PG X tg g ∧ SG X.K X.mg P vs g b
def PDGs (X : Cx) (P vs : List Nat) (tg : List Expr) (b : List D → List SV → Option (List SV)) : Prop := ∃ g, PGs X tg g ∧ SGs X.K X.mg P vs g b
theorem PDG.canon {X : Cx} {P vs : List Nat} {tg : Expr} {b : DG} (h : PDG X P vs tg b) : PG X tg (gE X.K X.mg P vs b) := by
  obtain ⟨g, h1, h2⟩ := h
  exact ⟨fun pins s σ H v u Q I r ⟨B, F, ρ, τ, d, ρ', pr, c, hd, e, hq⟩ => h1.run pins s σ H v u Q I r (h2.run B F ρ σ τ H v d ρ' Q pr c hd e hq)⟩
theorem sg_canon {K : PySem.W.Frag} {mg : Str → Option Value} {P vs : List Nat} {b : DG} : SG K mg P vs (gE K mg P vs b) b :=
  ⟨fun B F ρ σ τ H v d ρ' Q pr c hd e hq => ⟨B, F, ρ, τ, d, ρ', pr, c, hd, e, hq⟩⟩
def bName (i : Nat) : DG := fun d ρ => some (ρ.set i (.fz d))
def bNil : List D → List SV → Option (List SV)
  | [], ρ => some ρ
  | _ :: _, _ => none
def bCons (b : DG) (r : List D → List SV → Option (List SV)) : List D → List SV → Option (List SV)
  | [], _ => none
  | d :: ds, ρ => match b d ρ with
    | some ρ1 => r ds ρ1
    | none => none
def bTup (n : Nat) (r : List D → List SV → Option (List SV)) : DG := fun d ρ => match d with
  | .tup ds => if ds.length = n then r ds ρ else none
  | _ => none
section
variable {K : PySem.W.Frag} {mg : Str → Option Value} {P vs vs' : List Nat}
theorem sg_name {i : Nat} (hi : i ∉ P) : SG K mg P [i] (gName i) (bName i) := by
  refine ⟨fun B F ρ σ τ H v d ρ' Q pr c hd e hq => ?_⟩
  cases e
  refine hq _ ((c.push hd).assign (notP pr hi)) (fun j hj => ?_) (by rw [List.length_set])
  rw [List.getElem?_set_ne (fun z => hj (by simp [z]))]
theorem sgs_nil : SGs K mg P [] gNil bNil := by
  refine ⟨fun B F ρ σ τ H us ds ρ' Q pr c hd e hq => ?_⟩
  cases hd with
  | nil => cases e; exact ⟨rfl, hq σ c (fun _ _ => rfl) rfl⟩
  | cons => cases e
theorem sgs_cons {g : TG} {t : TGs} {b : DG} {r : List D → List SV → Option (List SV)} (h : SG K mg P vs g b) (h' : SGs K mg P vs' t r) : SGs K mg P (vs ++ vs') (gCons g t) (bCons b r) := by
  refine ⟨fun B F ρ σ τ H us ds ρ' Q pr c hd e hq => ?_⟩
  cases hd with
  | nil => cases e
  | cons a as =>
    rename_i d v ds us
    have e : (match b d ρ with | some ρ1 => r ds ρ1 | none => none) = some ρ' := e
    cases e1 : b d ρ with
    | none => rw [e1] at e; cases e
    | some ρ1 =>
      rw [e1] at e
      refine ⟨_, _, rfl, h.run B F ρ σ τ H v d ρ1 _ pr c a e1 fun σ1 c1 f1 l1 => ?_⟩
      refine h'.run B F ρ1 σ1 τ H us ds ρ' Q pr c1 as e fun σ2 c2 f2 l2 => ?_
      refine hq σ2 c2 (fun j hj => ?_) (l2.trans l1)
      rw [List.mem_append, not_or] at hj
      rw [f2 j hj.2, f1 j hj.1]
theorem sg_tup {n : Nat} {t : TGs} {r : List D → List SV → Option (List SV)} (h : SGs K mg P vs t r) : SG K mg P vs (gTup K n t) (bTup n r) := by
  refine ⟨fun B F ρ σ τ H v d ρ' Q pr c hd e hq => ?_⟩
  cases hd with
  | tup s as =>
    rename_i a xs us
    have e : (if xs.length = n then r xs ρ else none) = some ρ' := e
    by_cases hl : xs.length = n
    · rw [if_pos hl] at e
      exact ⟨_, _, rfl, .of (c.sub _ _ s), by rw [← as.length]; exact hl, h.run B F ρ σ τ H _ xs ρ' Q pr c as e hq⟩
    · rw [if_neg hl] at e; cases e
  | _ => cases e
end
section
variable {X : Cx} {P vs vs' : List Nat} {pos : Pos} {e : Expr} {es : List Expr} {b : DG} {r : List D → List SV → Option (List SV)}
theorem d_gname {i : Nat} {x : Str} (hN : X.N.Nodup) (hi : X.N[i]? = some x) (hx : Loc X.env.scope x) (hP : i ∉ P) (hf : X.fn x = true ∨ X.env.scope.names.lookup x = some .local := by first | exact .inl rfl | exact .inr rfl | assumption) : PDG X P [i] (.Name x pos) (bName i) :=
  ⟨_, pg_name hN hi hx hf, sg_name hP⟩
theorem d_gnil : PDGs X P [] [] bNil := ⟨_, pgs_nil, sgs_nil⟩
theorem d_gcons (h : PDG X P vs e b) (h' : PDGs X P vs' es r) (hs : (assignEach (e :: es) X.env).map (·.2) = assign e X.env :: (assignEach es X.env).map (·.2) := by rfl) : PDGs X P (vs ++ vs') (e :: es) (bCons b r) := by
  obtain ⟨t, h1, h2⟩ := h
  obtain ⟨u, r1, r2⟩ := h'
  exact ⟨_, pgs_cons h1 r1 hs, sgs_cons h2 r2⟩
theorem d_gtup {k n : Nat} (hc : X.calm = true) (h : PDGs X P vs es r) (hn : (assignEach es X.env).length = n := by rfl) (hst : (assignEach es X.env).findIdx? (·.1) = none := by rfl) : PDG X P vs (.Tuple es k pos) (bTup n r) := by
  obtain ⟨t, h1, h2⟩ := h
  exact ⟨_, pg_tup hc h1 hn hst, sg_tup h2⟩
/-- target = value -/
def dAsg (b : DG) (e : DE) : DS := fun ρ => (e ρ).bindS fun x ρ1 => match fz1 x ρ1 with
  | some (d, ρ2) => match b d ρ2 with
    | some ρ3 => .nx ρ3
    | none => .no
  | none => .no
theorem d_asg {a tg : Expr} {da : DE} {W : WX} (h : PD X P W a da) (h' : PDG X P vs tg b) (hs : swapsWithSole [tg] a pos.line X.env = pure false := by rfl) (hw : swappedStores [tg] a X.env = pure none := by rfl)
    (h1 : (assignEach [tg] X.env).map (·.2) = [assign tg X.env] := by rfl) : PDS X P W (.Assign [tg] a pos) (dAsg b da) := by
  obtain ⟨t, p1, p2⟩ := h
  obtain ⟨g, q1, q2⟩ := h'
  refine ⟨_, ps_asg p1 q1 hs hw h1, ⟨fun B F ρ σ τ H D pr c hp => ?_⟩⟩
  refine p2.bindS pr c hp (fun _ _ _ _ h => h) fun x ρ1 F1 H1 vx c1 b1 hp1 => ?_
  cases q : fz1 x ρ1 with
  | none => rw [q] at hp1; exact hp1.elim
  | some p =>
    obtain ⟨d, ρ2⟩ := p
    rw [q] at hp1
    simp only at hp1
    obtain ⟨F2, c2, m, r⟩ := c1.fz1 b1 q
    cases e : b d ρ2 with
    | none => rw [e] at hp1; exact hp1.elim
    | some ρ3 =>
      rw [e] at hp1
      exact q2.run B F2 ρ2 σ τ H1 vx d ρ3 _ pr c2 r e fun σ' c3 _ _ => hp1 _ _ _ c3
end

/-! ### what is walked -/
section
variable (K : PySem.W.Frag) (mg : Str → Option Value)
/-- J gives the items ds while src stands on the stack -/
def ItOk (J : It) (ds : List D) (src : List (SV × V)) : Prop :=
  ∀ (B : Bs) (F : Hp) (ρ : List SV) (σ : L2.St) (τ : List (SV × V)) (H : Hp), Cfg K mg B F ρ σ (src ++ τ) H →
    (∀ i, i < ds.length → J.go i H) ∧ (∀ i, ds.length ≤ i → i ≤ ds.length → J.stop i H) ∧
      ∀ i x H' d, J.yld i H x H' → ds[i]? = some d → ∃ F', Cfg K mg B F' ρ σ (src ++ τ) H' ∧ DV K mg F' d x ∧ ∀ b o, H b = some o → H' b = some o
abbrev DI := List SV → R (List D)
def PostI (W : WX) (B : Bs) (σ : L2.St) (τ : List (SV × V)) (Rr : It → Hp → Prop) : R (List D) → Prop
  | .ok ds ρ => ∀ F H J src, Cfg K mg B F ρ σ (src ++ τ) H → ItOk K mg J ds src → Rr J H
  | .ex c fs ρ => ∀ F H cls dd, Cfg K mg B F ρ σ τ H → EV K mg F c fs cls dd → W cls dd σ H
  | .no => False
structure SI (P : List Nat) (W : WX) (t : TI) (e : DI) : Prop where
  run : ∀ (B : Bs) (F : Hp) (ρ : List SV) (σ : L2.St) (τ : List (SV × V)) (H : Hp) (Rr : It → Hp → Prop), PrOk B P → Cfg K mg B F ρ σ τ H → PostI K mg W B σ τ Rr (e ρ) → t σ H Rr
def tI (P : List Nat) (W : WX) (e : DI) : TI := fun σ H Rr => ∃ B F ρ τ, PrOk B P ∧ Cfg K mg B F ρ σ τ H ∧ PostI K mg W B σ τ Rr (e ρ)
end
def PDI (X : Cx) (P : List Nat) (W : WX) (tg e : Expr) (τ : DI) : Prop := ∃ t, PI X tg e t ∧ SI X.K X.mg P W t τ
theorem si_canon {K : PySem.W.Frag} {mg : Str → Option Value} {P : List Nat} {W : WX} {e : DI} : SI K mg P W (tI K mg P W e) e := ⟨fun B F ρ σ τ H Q pr c hp => ⟨B, F, ρ, τ, pr, c, hp⟩⟩
theorem PDI.canon {X : Cx} {P : List Nat} {W : WX} {tg e : Expr} {d : DI} (h : PDI X P W tg e d) : PI X tg e (tI X.K X.mg P W d) := by
  obtain ⟨t, h1, h2⟩ := h
  exact ⟨fun pins s σ H Q I ⟨B, F, ρ, τ, pr, c, hp⟩ => h1.run pins s σ H Q I (h2.run B F ρ σ τ H Q pr c hp)⟩

/-! ### for -/
def dForL (g : DG) (b : DS) : List D → DS
  | [], ρ => .nx ρ
  | d :: ds, ρ => match g d ρ with
    | none => .no
    | some ρ1 => match b ρ1 with
      | .nx ρ2 => dForL g b ds ρ2
      | .ct ρ2 => dForL g b ds ρ2
      | .bk ρ2 => .nx ρ2
      | r => r
def dFor (it : DI) (g : DG) (b : DS) : DS := fun ρ => (it ρ).bindS fun ds ρ1 => dForL g b ds ρ1
section
variable {K : PySem.W.Frag} {mg : Str → Option Value} {P vs : List Nat} {W : WX}
theorem ss_for {wi : TI} {g : TG} {tb : TS} {it : DI} {dg : DG} {b : DS} (hi : SI K mg P W wi it) (hg : SG K mg P vs g dg) (hb : SS K mg P W tb b) : SS K mg P W (tFor wi g tb) (dFor it dg b) := by
  refine ⟨fun B F ρ σ τ H D pr c hp => ?_⟩
  refine hi.run B F ρ σ τ H _ pr c ?_
  unfold dFor at hp
  cases e : it ρ with
  | no => rw [e] at hp; exact hp.elim
  | ex cc fs ρ' => rw [e] at hp; exact fun F' H' cls dd c' ev => hp F' σ H' cls dd c' ev
  | ok ds ρ1 =>
    rw [e] at hp
    intro F1 H1 J src c1 ok
    have hp1 : PostS K mg W B τ D (dForL dg b ds ρ1) := hp
    refine ⟨fun i m σ H => m = ds.length - i ∧ i ≤ ds.length ∧ ∃ F ρ, Cfg K mg B F ρ σ (src ++ τ) H ∧ PostS K mg W B τ D (dForL dg b (ds.drop i) ρ), ⟨_, rfl, Nat.zero_le _, F1, ρ1, c1, hp1⟩, ?_⟩
    rintro i m σ2 H2 ⟨rfl, hi2, F2, ρ2, c2, hp2⟩
    obtain ⟨o1, o2, o3⟩ := ok B F2 ρ2 σ2 τ H2 c2
    by_cases hlt : i < ds.length
    · refine .inr ⟨o1 i hlt, fun σ' H' => ∃ F ρ, Cfg K mg B F ρ σ' (src ++ τ) H' ∧ PostS K mg W B τ D (dForL dg b (ds.drop (i + 1)) ρ), fun σ' H' w => ⟨_, by omega, rfl, hlt, w⟩, fun x H3 y => ?_⟩
      have hd : ds[i]? = some ds[i] := by simp [hlt]
      obtain ⟨F3, c3, r3, _⟩ := o3 i x H3 ds[i] y hd
      have hdrop : ds.drop i = ds[i] :: ds.drop (i + 1) := by rw [List.drop_eq_getElem_cons hlt]
      rw [hdrop] at hp2
      have hp2 : PostS K mg W B τ D (match dg ds[i] ρ2 with
        | none => .no
        | some ρ1 => match b ρ1 with
          | .nx ρ2 => dForL dg b (ds.drop (i + 1)) ρ2
          | .ct ρ2 => dForL dg b (ds.drop (i + 1)) ρ2
          | .bk ρ2 => .nx ρ2
          | r => r) := hp2
      cases eg : dg ds[i] ρ2 with
      | none => rw [eg] at hp2; exact hp2.elim
      | some ρ3 =>
        rw [eg] at hp2
        simp only at hp2
        refine hg.run B F3 ρ2 σ2 (src ++ τ) H3 x ds[i] ρ3 _ pr c3 r3 eg fun σ4 c4 _ _ => ?_
        refine hb.run B F3 ρ3 σ4 (src ++ τ) H3 _ pr c4 ?_
        have sl : τ.Sublist (src ++ τ) := List.sublist_append_right src τ
        cases eb : b ρ3 with
        | nx ρ5 => rw [eb] at hp2; exact fun F' σ' H' c' => ⟨F', ρ5, c', hp2⟩
        | ct ρ5 => rw [eb] at hp2; exact fun F' σ' H' c' => ⟨F', ρ5, c', hp2⟩
        | bk ρ5 => rw [eb] at hp2; exact fun F' σ' H' c' => hp2 F' σ' H' (c'.sub' sl)
        | rt sv ρ5 => rw [eb] at hp2; exact PostS.weak (D := D) (r := .rt sv ρ5) sl hp2
        | ex cc fs ρ5 => rw [eb] at hp2; exact PostS.weak (D := D) (r := .ex cc fs ρ5) sl hp2
        | no => rw [eb] at hp2; exact hp2.elim
    · have e : i = ds.length := by omega
      subst e
      rw [List.drop_length] at hp2
      exact .inl ⟨o2 _ (Nat.le_refl _) (Nat.le_refl _), hp2 _ _ _ (c2.sub' (List.sublist_append_right src τ))⟩
end
section
variable {X : Cx} {P vs : List Nat} {W : WX} {pos : Pos} {tg iter : Expr} {body : List Stmt} {it : DI} {b : DG} {s : DS}
theorem d_for (hp : PassesOwn (model X.prog X.w) X.A X.env X.xe) (hc : X.calm = true) (hi : PDI X P W tg iter it) (hg : PDG X P vs tg b) (hb : PDSs X P W body s) (hs : ∀ x, foldedSetIterable iter X.env x = pure x := by intro _; rfl) :
    PDS X P W (.For tg iter body [] pos) (dFor it b s) := by
  obtain ⟨t, h1, h2⟩ := hi
  obtain ⟨g, q1, q2⟩ := hg
  obtain ⟨u, r1, r2⟩ := hb
  exact ⟨_, ps_for hp hc h1 q1 r1 hs, ss_for h2 q2 r2⟩
end

/-! ### iterables -/
/-- the items of a list or a tuple; an own slot's list is frozen -/
def itemsD : D → Option (List D)
  | .lst xs => some xs
  | .tup xs => some xs
  | _ => none
def dItL (e : DE) : DI := fun ρ => (e ρ).bind fun x ρ1 => match fz1 x ρ1 with
  | some (.lst xs, ρ2) => .ok xs ρ2
  | _ => .no
def dItT (e : DE) : DI := fun ρ => (e ρ).bind fun x ρ1 => match fz1 x ρ1 with
  | some (.tup xs, ρ2) => .ok xs ρ2
  | _ => .no
section
variable {K : PySem.W.Frag} {mg : Str → Option Value} {P vs : List Nat} {W : WX} {B : Bs} {F F' H H' : Hp} {ρ : List SV} {σ : L2.St} {τ τ' : List (SV × V)}
theorem itok_list {a : Addr} {xs : List D} : ItOk K mg (Itl K a) xs [(.fz (.lst xs), .ref a)] := by
  intro B F ρ σ τ H c
  have r := c.top
  cases r with
  | lst s r =>
    have s' : SqL K H a _ := .of (c.sub _ _ s)
    refine ⟨fun i hi => ?_, fun i hi _ => ⟨_, s', by rw [← r.length]; exact hi⟩, fun i x H' d hy hd => ?_⟩
    · have hd : xs[i]? = some xs[i] := by simp [hi]
      obtain ⟨v, hv, _⟩ := r.get hd
      exact ⟨_, v, s', hv⟩
    · obtain ⟨e, y⟩ := hy
      subst e
      obtain ⟨v, hv, hr⟩ := r.get hd
      have e2 := y _ s'
      rw [hv] at e2
      cases e2
      exact ⟨F, c, hr, fun _ _ e => e⟩
theorem itok_tup {a : Addr} {xs : List D} : ItOk K mg (Itt K a) xs [(.fz (.tup xs), .ref a)] := by
  intro B F ρ σ τ H c
  have r := c.top
  cases r with
  | tup s r =>
    have s' : SqT K H a _ := .of (c.sub _ _ s)
    refine ⟨fun i hi => ?_, fun i hi _ => ⟨_, s', by rw [← r.length]; exact hi⟩, fun i x H' d hy hd => ?_⟩
    · have hd : xs[i]? = some xs[i] := by simp [hi]
      obtain ⟨v, hv, _⟩ := r.get hd
      exact ⟨_, v, s', hv⟩
    · obtain ⟨e, y⟩ := hy
      subst e
      obtain ⟨v, hv, hr⟩ := r.get hd
      have e2 := y _ s'
      rw [hv] at e2
      cases e2
      exact ⟨F, c, hr, fun _ _ e => e⟩
/-- the post of a walk, seen from what it is bound to -/
theorem SE.bindI {t : TE} {a : DE} (ha : SE K mg P W t a) (pr : PrOk B P) (c : Cfg K mg B F ρ σ τ H) {f : RV → List SV → R (List D)} {Rr : It → Hp → Prop} {Q : VK}
    (hp : PostI K mg W B σ τ Rr ((a ρ).bind f))
    (hok : ∀ rv ρ' F' H' v, Cfg K mg B F' ρ' σ ((rv.stk, v) :: τ) H' → RVb σ rv v → PostI K mg W B σ τ Rr (f rv ρ') → Q v H') : t σ H Q :=
  ha.bind pr c (Post := PostI K mg W B σ τ Rr) hp (fun _ _ _ h => h) id hok
theorem si_list {t : TE} {e : DE} (h : SE K mg P W t e) : SI K mg P W (iList K t) (dItL e) := by
  refine ⟨fun B F ρ σ τ H Rr pr c hp => ?_⟩
  refine h.bindI pr c hp fun x ρ1 F1 H1 vx c1 b1 hp1 => ?_
  cases q : fz1 x ρ1 with
  | none => rw [q] at hp1; exact hp1.elim
  | some p =>
    obtain ⟨d, ρ2⟩ := p
    rw [q] at hp1
    obtain ⟨F2, c2, m, r⟩ := c1.fz1 b1 q
    cases r with
    | lst s r =>
      exact ⟨_, rfl, ⟨_, .of (c2.sub _ _ s)⟩, hp1 F2 H1 _ [(.fz (.lst _), .ref _)] (c2.push (.lst s r)) itok_list⟩
    | _ => exact hp1.elim
theorem si_tup {t : TE} {e : DE} (h : SE K mg P W t e) : SI K mg P W (iTup K t) (dItT e) := by
  refine ⟨fun B F ρ σ τ H Rr pr c hp => ?_⟩
  refine h.bindI pr c hp fun x ρ1 F1 H1 vx c1 b1 hp1 => ?_
  cases q : fz1 x ρ1 with
  | none => rw [q] at hp1; exact hp1.elim
  | some p =>
    obtain ⟨d, ρ2⟩ := p
    rw [q] at hp1
    obtain ⟨F2, c2, m, r⟩ := c1.fz1 b1 q
    cases r with
    | tup s r =>
      exact ⟨_, rfl, ⟨_, .of (c2.sub _ _ s)⟩, hp1 F2 H1 _ [(.fz (.tup _), .ref _)] (c2.push (.tup s r)) itok_tup⟩
    | _ => exact hp1.elim
/-- ints in a row -/
def upto (lo : Int) (n : Nat) : List D := (List.range n).map fun i => .int (lo + (i : Nat))
theorem itok_range {lo : Int} {n : Nat} : ItOk K mg (Itr lo n) (upto lo n) [] := by
  intro B F ρ σ τ H c
  have hl : (upto lo n).length = n := by simp [upto]
  refine ⟨fun i hi => (by rw [hl] at hi; exact hi), fun i hi _ => (by rw [hl] at hi; exact hi), fun i x H' d hy hd => ?_⟩
  obtain ⟨e, y⟩ := hy
  subst e y
  have hi : i < n := by rw [← hl]; exact (List.getElem?_eq_some_iff.mp hd).1
  have hd' : d = .int (lo + (i : Nat)) := by
    unfold upto at hd
    rw [List.getElem?_map, List.getElem?_range hi] at hd
    exact (Option.some.inj hd).symm
  subst hd'
  exact ⟨F, c, .int, fun _ _ e => e⟩
def small62 (i : Int) : Bool := decide (-(2 ^ 62) ≤ i ∧ i < 2 ^ 62)
def dRng1 (a : DA) : DI := fun ρ => (a ρ).bind fun xs ρ1 => match xs with
  | [.fz (.int j)] => if small62 j then .ok (upto 0 j.toNat) ρ1 else .no
  | _ => .no
def dRng2 (a : DA) : DI := fun ρ => (a ρ).bind fun xs ρ1 => match xs with
  | [.fz (.int i), .fz (.int j)] => if small62 i && small62 j then .ok (upto i (j - i).toNat) ρ1 else .no
  | _ => .no
theorem SA.bindI {t : TA} {a : DA} (ha : SA K mg P W t a) (pr : PrOk B P) (c : Cfg K mg B F ρ σ τ H) {f : List RV → List SV → R (List D)} {Rr : It → Hp → Prop} {Q : List V → Hp → Prop}
    (hp : PostI K mg W B σ τ Rr ((a ρ).bind f))
    (hok : ∀ rs ρ' F' H' vs, Cfg K mg B F' ρ' σ (stkL rs vs τ) H' → RBs σ rs vs → PostI K mg W B σ τ Rr (f rs ρ') → Q vs H') : t σ H Q :=
  ha.bind pr c (Post := PostI K mg W B σ τ Rr) hp (fun _ _ _ h => h) id hok
theorem si_rng1 {t : TA} {a : DA} (h : SA K mg P W t a) : SI K mg P W (iRng1 t) (dRng1 a) := by
  refine ⟨fun B F ρ σ τ H Rr pr c hp => ?_⟩
  refine h.bindI pr c hp fun xs ρ1 F1 H1 vs c1 b1 hp1 => ?_
  match xs, vs, b1, c1, hp1 with
  | [.fz (.int j)], [v], .cons _ .nil, c1, hp1 =>
    have c1 : Cfg K mg B F1 ρ1 σ ((.fz (.int j), v) :: τ) H1 := c1
    have r := c1.top
    cases r
    have hp1 : PostI K mg W B σ τ Rr (if small62 j then .ok (upto 0 j.toNat) ρ1 else .no) := hp1
    by_cases hs : small62 j = true
    · rw [if_pos hs] at hp1
      have hs' : -(2 ^ 62) ≤ j ∧ j < 2 ^ 62 := of_decide_eq_true hs
      exact ⟨j, rfl, hs'.1, hs'.2, hp1 F1 H1 _ [] c1.pop itok_range⟩
    · rw [if_neg hs] at hp1; exact hp1.elim
theorem si_rng2 {t : TA} {a : DA} (h : SA K mg P W t a) : SI K mg P W (iRng2 t) (dRng2 a) := by
  refine ⟨fun B F ρ σ τ H Rr pr c hp => ?_⟩
  refine h.bindI pr c hp fun xs ρ1 F1 H1 vs c1 b1 hp1 => ?_
  match xs, vs, b1, c1, hp1 with
  | [.fz (.int i), .fz (.int j)], [v, u], .cons _ (.cons _ .nil), c1, hp1 =>
    have c1 : Cfg K mg B F1 ρ1 σ ((.fz (.int j), u) :: (.fz (.int i), v) :: τ) H1 := c1
    have r := c1.top
    cases r
    have r := c1.pop.top
    cases r
    have hp1 : PostI K mg W B σ τ Rr (if small62 i && small62 j then .ok (upto i (j - i).toNat) ρ1 else .no) := hp1
    by_cases hs : (small62 i && small62 j) = true
    · rw [if_pos hs] at hp1
      rw [Bool.and_eq_true] at hs
      have h1 : -(2 ^ 62) ≤ i ∧ i < 2 ^ 62 := of_decide_eq_true hs.1
      have h2 : -(2 ^ 62) ≤ j ∧ j < 2 ^ 62 := of_decide_eq_true hs.2
      exact ⟨i, j, rfl, ⟨h1.1, h1.2, h2.1, h2.2⟩, hp1 F1 H1 _ [] c1.pop.pop itok_range⟩
    · rw [if_neg hs] at hp1; exact hp1.elim
end
section
variable {X : Cx} {P : List Nat} {W : WX} {pos p : Pos} {tg a b : Expr} {da : DE} {d : DA}
theorem d_iList (h : PD X P W a da) : PDI X P W tg a (dItL da) := by
  obtain ⟨t, h1, h2⟩ := h
  exact ⟨_, pi_list h1, si_list h2⟩
theorem d_iTup (h : PD X P W a da) : PDI X P W tg a (dItT da) := by
  obtain ⟨t, h1, h2⟩ := h
  exact ⟨_, pi_tup h1, si_tup h2⟩
theorem d_iRng1 (hg : Gl X "range") (hm : X.mg "range" = none) (h : PDA X P W [a] d) (hs : starEach [a] X.env = [(false, eval a X.env)] := by rfl) : PDI X P W tg (.Call (.Name "range" p) [a] [] pos) (dRng1 d) := by
  obtain ⟨t, h1, h2⟩ := h
  exact ⟨_, pi_range1 hg hm h1 hs, si_rng1 h2⟩
theorem d_iRng2 (hg : Gl X "range") (hm : X.mg "range" = none) (h : PDA X P W [a, b] d) (hs : starEach [a, b] X.env = [(false, eval a X.env), (false, eval b X.env)] := by rfl) (hs2 : starEach [b] X.env = [(false, eval b X.env)] := by rfl) :
    PDI X P W tg (.Call (.Name "range" p) [a, b] [] pos) (dRng2 d) := by
  obtain ⟨t, h1, h2⟩ := h
  exact ⟨_, pi_range2 hg hm h1 hs hs2, si_rng2 h2⟩
end
end PD
set_option Elab.async false
set_option linter.all false
set_option maxRecDepth 100000
set_option autoImplicit false
set_option maxHeartbeats 4000000
/-! PD: comprehensions, calls of defs. -/
namespace PD
open PySem PySem.Spec PyProof.Rows L2

/-! ### slots that a block has for itself -/
def wipeR (ρ : List SV) : List Nat → List SV
  | [] => ρ
  | v :: vs => (wipeR ρ vs).set v .no
def back (ρ : List SV) : List Nat → List SV → List SV
  | [], ρ' => ρ'
  | v :: vs, ρ' => back ρ vs (ρ'.set v ((ρ[v]?).getD .no))
theorem wipeR_out {ρ : List SV} {i : Nat} : ∀ {vs : List Nat}, i ∉ vs → (wipeR ρ vs)[i]? = ρ[i]?
  | [], _ => rfl
  | v :: vs, h => by
    simp only [List.mem_cons, not_or] at h
    unfold wipeR
    rw [List.getElem?_set_ne (Ne.symm h.1)]
    exact wipeR_out h.2
section
variable {K : PySem.W.Frag} {mg : Str → Option Value} {P : List Nat} {W : WX} {B : Bs} {F F' H H' : Hp} {ρ : List SV} {σ : L2.St} {τ τ' : List (SV × V)}
/-- what stood in a slot goes back, the name as it was -/
theorem Cfg.putBack {i : Nat} {sv : SV} {v : V} (c : Cfg K mg B F ρ σ ((sv, v) :: τ) H) (es : σ[i]? = some (some v)) (hn : ρ[i]? = some .no) : Cfg K mg B F (ρ.set i sv) σ τ H := by
  have g := c.gt _ List.mem_cons_self
  have c0 := c.pop
  have hi : i < ρ.length := (List.getElem?_eq_some_iff.mp hn).1
  have sub' : ∀ j q, ownS (ρ.set i sv) σ j q → (j = i ∧ ∃ d, sv = .own d ∧ v = .ref q) ∨ (j ≠ i ∧ ownS ρ σ j q) := fun j q ⟨d2, h1, h2⟩ => by
    by_cases hj : j = i
    · subst hj
      rw [List.getElem?_set_self hi] at h1
      rw [es] at h2
      exact .inl ⟨rfl, d2, Option.some.inj h1, Option.some.inj (Option.some.inj h2)⟩
    · rw [List.getElem?_set_ne (Ne.symm hj)] at h1; exact .inr ⟨hj, d2, h1, h2⟩
  refine { c0 with
    len := by rw [List.length_set]; exact c.len
    gs := fun j sv' e' => ?_
    s1 := fun j k q h1 h2 => ?_
    s2 := fun j q h1 => ?_
    b3 := fun q h => ?_ }
  · by_cases hj : j = i
    · subst hj
      rw [List.getElem?_set_self hi] at e'; cases e'
      rw [es]
      exact g
    · rw [List.getElem?_set_ne (Ne.symm hj)] at e'; exact c.gs j sv' e'
  · rcases sub' j q h1 with ⟨hj, d, e1, e2⟩ | ⟨hj, o1⟩
    · rcases sub' k q h2 with ⟨hk, _⟩ | ⟨hk, o2⟩
      · rw [hj, hk]
      · exact absurd ⟨d, by rw [e1, e2]; exact List.mem_cons_self⟩ (c.s2 k q o2)
    · rcases sub' k q h2 with ⟨hk, d, e1, e2⟩ | ⟨hk, o2⟩
      · exact absurd ⟨d, by rw [e1, e2]; exact List.mem_cons_self⟩ (c.s2 j q o1)
      · exact c.s1 j k q o1 o2
  · rcases sub' j q h1 with ⟨hj, d, e1, e2⟩ | ⟨hj, o1⟩
    · rintro ⟨d', hm⟩
      subst e1 e2
      exact (List.pairwise_cons.mp c.s3).1 _ hm q d d' rfl rfl
    · exact c0.s2 j q o1
  · rcases h with ⟨j, h⟩ | h
    · rcases sub' j q h with ⟨hj, d, e1, e2⟩ | ⟨hj, o1⟩
      · exact c.b3 q (.inr ⟨d, by rw [e1, e2]; exact List.mem_cons_self⟩)
      · exact c.b3 q (.inl ⟨j, o1⟩)
    · exact c0.b3 q (.inr h)
/-- the slots vs are put away, and come back -/
theorem Cfg.away (pr : PrOk B P) : ∀ (vs : List Nat), vs.Nodup → (∀ v ∈ vs, v ∉ P) → Cfg K mg B F ρ σ τ H →
    ∃ hid, Cfg K mg B F (wipeR ρ vs) (wipe σ vs) (hid ++ τ) H ∧ ∀ F' ρ' H' τ', Cfg K mg B F' ρ' (wipe σ vs) (hid ++ τ') H' → Cfg K mg B F' (back ρ vs ρ') σ τ' H'
  | [], _, _, c => ⟨[], c, fun F' ρ' H' τ' c' => c'⟩
  | v :: vs, nd, hP, c => by
    obtain ⟨nv, nd'⟩ := List.nodup_cons.mp nd
    obtain ⟨hid, c1, bk⟩ := Cfg.away pr vs nd' (fun u hu => hP u (List.mem_cons_of_mem _ hu)) c
    have hv : ∀ x ∈ B.pr, x.1 ≠ v := notP pr (hP v List.mem_cons_self)
    have eρ := wipeR_out (ρ := ρ) nv
    cases e : (wipe σ vs)[v]? with
    | none =>
      have hl : ρ[v]? = none := by
        rw [← eρ]
        rw [List.getElem?_eq_none_iff] at e ⊢
        rw [c1.len]; exact e
      have e1 : (wipe σ vs).set v none = wipe σ vs := List.set_eq_of_length_le (List.getElem?_eq_none_iff.mp e)
      refine ⟨hid, c1.forget hv, fun F' ρ' H' τ' c' => ?_⟩
      unfold wipe at c'
      rw [e1] at c'
      unfold back
      rw [hl]
      exact bk _ _ _ _ c'.lose
    | some o =>
      cases o with
      | none =>
        have e1 : (wipe σ vs).set v none = wipe σ vs := by
          apply List.ext_getElem?
          intro j
          by_cases hj : v = j
          · subst hj
            rw [List.getElem?_set_self (List.getElem?_eq_some_iff.mp e).1, e]
          · rw [List.getElem?_set_ne hj]
        have hn : (ρ[v]?).getD .no = .no := by
          rw [← eρ]
          cases q : (wipeR ρ vs)[v]? with
          | none => rfl
          | some sv =>
            have g := c1.gs v sv q
            rw [e] at g
            cases sv with
            | no => rfl
            | fz d => obtain ⟨w, z, _⟩ := g; cases z
            | own d => obtain ⟨w, ho, z, _⟩ := g; cases z
        refine ⟨hid, c1.forget hv, fun F' ρ' H' τ' c' => ?_⟩
        unfold wipe at c'
        rw [e1] at c'
        unfold back
        rw [hn]
        exact bk _ _ _ _ c'.lose
      | some w =>
        have hlt : v < (wipeR ρ vs).length := by rw [c1.len]; exact (List.getElem?_eq_some_iff.mp e).1
        have q : (wipeR ρ vs)[v]? = some ((wipeR ρ vs)[v]) := List.getElem?_eq_getElem hlt
        refine ⟨((wipeR ρ vs)[v], w) :: hid, c1.hide q e hv, fun F' ρ' H' τ' c' => ?_⟩
        unfold wipe at c'
        have c2 := Cfg.assign (i := v) c' hv
        have e1 : ((wipe σ vs).set v none).set v (some w) = wipe σ vs := by
          rw [List.set_set]
          apply List.ext_getElem?
          intro j
          by_cases hj : v = j
          · subst hj
            rw [List.getElem?_set_self (List.getElem?_eq_some_iff.mp e).1, e]
          · rw [List.getElem?_set_ne hj]
        rw [e1] at c2
        unfold back
        rw [← eρ, q]
        exact bk _ _ _ _ c2
theorem wipe_frame {σ σ' : L2.St} : ∀ {vs : List Nat}, (∀ j, j ∉ vs → σ'[j]? = σ[j]?) → σ'.length = σ.length → wipe σ' vs = wipe σ vs := fun {vs} h hl => by
  apply List.ext_getElem?
  intro j
  by_cases hj : j ∈ vs
  · have key : ∀ (s : L2.St) (us : List Nat), j ∈ us → j < s.length → (wipe s us)[j]? = some none := by
      intro s us
      induction us with
      | nil => intro h; cases h
      | cons u us ih =>
        intro h hlt
        unfold wipe
        by_cases hu : u = j
        · subst hu; rw [List.getElem?_set_self (by rw [wipe_length]; exact hlt)]
        · rw [List.getElem?_set_ne hu]
          rcases List.mem_cons.mp h with rfl | h
          · exact absurd rfl hu
          · exact ih h hlt
    by_cases hlt : j < σ.length
    · rw [key σ' vs hj (by rw [hl]; exact hlt), key σ vs hj hlt]
    · rw [List.getElem?_eq_none (by rw [wipe_length, hl]; omega), List.getElem?_eq_none (by rw [wipe_length]; omega)]
  · rw [wipe_out hj, wipe_out hj, h j hj]
theorem wipe_wipe {σ : L2.St} {vs : List Nat} : wipe (wipe σ vs) vs = wipe σ vs := wipe_frame (fun j hj => wipe_out hj) (wipe_length _ _)
end

/-! ### [elt for target in iter if ..] -/
def dTests : List DT → DT
  | [], ρ => .ok true ρ
  | t :: ts, ρ => (t ρ).bind fun b ρ1 => if b then dTests ts ρ1 else .ok false ρ1
def dLcL (g : DG) (tt : DT) (te : DE) (vs : List Nat) : List D → List D → List SV → R (List D)
  | [], acc, ρ => .ok acc ρ
  | d :: ds, acc, ρ => match g d ρ with
    | none => .no
    | some ρ1 => match tt ρ1 with
      | .ok true ρ2 => match te ρ2 with
        | .ok y ρ3 => match fz1 y ρ3 with
          | some (dy, ρ4) => if acc.length < 1000000 then dLcL g tt te vs ds (acc ++ [dy]) (wipeR ρ4 vs) else .no
          | none => .no
        | _ => .no
      | .ok false ρ2 => dLcL g tt te vs ds acc (wipeR ρ2 vs)
      | _ => .no
def dLc (it : DI) (g : DG) (tt : DT) (te : DE) (vs : List Nat) : DE := fun ρ => (it ρ).bind fun ds ρ1 => match dLcL g tt te vs ds [] (wipeR ρ1 vs) with
  | .ok acc ρ2 => .ok (.own (.lst acc)) (back ρ1 vs ρ2)
  | _ => .no
abbrev W0 : WX := fun _ _ _ _ => False
section
variable {K : PySem.W.Frag} {mg : Str → Option Value} {P vs : List Nat} {W : WX}
theorem PostT.noex {B : Bs} {σ : L2.St} {τ : List (SV × V)} {Q : Bool → Hp → Prop} {r : R Bool} (h : ∀ b ρ, r = .ok b ρ → ∀ F H, Cfg K mg B F ρ σ τ H → Q b H) (h' : ∃ b ρ, r = .ok b ρ) : PostT K mg W B σ τ Q r := by
  obtain ⟨b, ρ, e⟩ := h'
  subst e
  exact h b ρ rfl
theorem se_lc {wi : TI} {g : TG} {tt : TT} {te : TE} {it : DI} {dg : DG} {dt : DT} {de : DE} (hi : SI K mg P W wi it) (hg : SG K mg P vs g dg) (ht : ST K mg P W0 tt dt) (he : SE K mg P W0 te de) (nd : vs.Nodup) (hP : ∀ v ∈ vs, v ∉ P) :
    SE K mg P W (tLc wi g tt te vs) (dLc it dg dt de vs) := by
  refine ⟨fun B F ρ σ τ H Q pr c hp => ?_⟩
  refine hi.run B F ρ σ τ H _ pr c ?_
  unfold dLc at hp
  cases e : it ρ with
  | no => rw [e] at hp; exact hp.elim
  | ex cc fs ρ' => rw [e] at hp; exact hp
  | ok ds ρ1 =>
    rw [e] at hp
    intro F1 H1 J src c1 ok Ld hD
    have hp : PostE K mg W B σ τ Q (match dLcL dg dt de vs ds [] (wipeR ρ1 vs) with
      | .ok acc ρ2 => .ok (.own (.lst acc)) (back ρ1 vs ρ2)
      | _ => .no) := hp
    have c2 := c1.allocO (d := .lst []) (o := .lst []) hD (.lst .nil)
    obtain ⟨hid, c3, bk⟩ := Cfg.away pr vs nd hP c2
    -- the order in which it is kept: src, the list, what was put away, the rest
    have c4 : Cfg K mg B F1 (wipeR ρ1 vs) (wipe σ vs) (src ++ ((.own (.lst []), .ref Ld) :: (hid ++ τ))) (upd H1 Ld (.lst [])) := c3.perm (by
      have h1 : (hid ++ (.own (.lst []), .ref Ld) :: (src ++ τ) : List (SV × V)).Perm ((.own (.lst []), .ref Ld) :: (hid ++ (src ++ τ))) := List.perm_middle
      have h2 : (hid ++ (src ++ τ)).Perm (src ++ (hid ++ τ)) := by
        rw [← List.append_assoc, ← List.append_assoc]
        exact List.Perm.append_right _ List.perm_append_comm
      exact h1.trans ((List.Perm.cons _ h2).trans List.perm_middle.symm))
    refine ⟨fun i m H => m = ds.length - i ∧ i ≤ ds.length ∧ ∃ F ρ acc, Cfg K mg B F ρ (wipe σ vs) (src ++ ((.own (.lst acc), .ref Ld) :: (hid ++ τ))) H ∧
      PostE K mg W B σ τ Q (match dLcL dg dt de vs (ds.drop i) acc ρ with
        | .ok acc ρ2 => .ok (.own (.lst acc)) (back ρ1 vs ρ2)
        | _ => .no), ⟨_, rfl, Nat.zero_le _, F1, _, [], c4, hp⟩, ?_⟩
    rintro i m H2 ⟨rfl, hi2, F2, ρ2, acc, c5, hp2⟩
    obtain ⟨o1, o2, o3⟩ := ok B F2 ρ2 (wipe σ vs) _ H2 c5
    by_cases hlt : i < ds.length
    · refine .inr ⟨o1 i hlt, fun H' => ∃ F ρ acc, Cfg K mg B F ρ (wipe σ vs) (src ++ ((.own (.lst acc), .ref Ld) :: (hid ++ τ))) H' ∧
        PostE K mg W B σ τ Q (match dLcL dg dt de vs (ds.drop (i + 1)) acc ρ with
          | .ok acc ρ2 => .ok (.own (.lst acc)) (back ρ1 vs ρ2)
          | _ => .no), fun H' w => ⟨_, by omega, rfl, hlt, w⟩, fun x H3 y => ?_⟩
      have hd : ds[i]? = some ds[i] := by simp [hlt]
      obtain ⟨F3, c6, r3, _⟩ := o3 i x H3 ds[i] y hd
      have hdrop : ds.drop i = ds[i] :: ds.drop (i + 1) := by rw [List.drop_eq_getElem_cons hlt]
      rw [hdrop] at hp2
      unfold dLcL at hp2
      cases eg : dg ds[i] ρ2 with
      | none => simp only [eg] at hp2; exact hp2.elim
      | some ρ3 =>
        simp only [eg] at hp2
        refine hg.run B F3 _ (wipe σ vs) _ H3 x ds[i] ρ3 _ pr c6 r3 eg fun σ4 c8 f4 l4 => ⟨(wipe_frame f4 l4).trans wipe_wipe, ?_⟩
        have ew : wipe σ4 vs = wipe σ vs := (wipe_frame f4 l4).trans wipe_wipe
        -- behind the turn the block's own names are forgotten
        have again : ∀ {F' : Hp} {ρ' : List SV} {acc' : List D} {H' : Hp}, Cfg K mg B F' ρ' σ4 (src ++ ((.own (.lst acc'), .ref Ld) :: (hid ++ τ))) H' → Cfg K mg B F' (wipeR ρ' vs) (wipe σ vs) (src ++ ((.own (.lst acc'), .ref Ld) :: (hid ++ τ))) H' := by
          intro F' ρ' acc' H' c'
          have key : ∀ us : List Nat, (∀ u ∈ us, u ∈ vs) → Cfg K mg B F' (wipeR ρ' us) (wipe σ4 us) (src ++ ((.own (.lst acc'), .ref Ld) :: (hid ++ τ))) H' := by
            intro us
            induction us with
            | nil => intro _; exact c'
            | cons u us ih => intro h; exact (ih fun w hw => h w (List.mem_cons_of_mem _ hw)).forget (notP pr (hP u (h u List.mem_cons_self)))
          rw [← ew]
          exact key vs fun _ h => h
        have fin : ∀ {F' : Hp} {ρ' : List SV} {acc' : List D} {H' : Hp}, Cfg K mg B F' ρ' σ4 (src ++ ((.own (.lst acc'), .ref Ld) :: (hid ++ τ))) H' →
            PostE K mg W B σ τ Q (match dLcL dg dt de vs (ds.drop (i + 1)) acc' (wipeR ρ' vs) with | .ok acc ρ2 => .ok (.own (.lst acc)) (back ρ1 vs ρ2) | _ => .no) →
            ∃ F ρ acc, Cfg K mg B F ρ (wipe σ vs) (src ++ ((.own (.lst acc), .ref Ld) :: (hid ++ τ))) H' ∧
              PostE K mg W B σ τ Q (match dLcL dg dt de vs (ds.drop (i + 1)) acc ρ with | .ok acc ρ2 => .ok (.own (.lst acc)) (back ρ1 vs ρ2) | _ => .no) :=
          fun c' hq => ⟨_, _, _, again c', hq⟩
        refine ht.run B F3 ρ3 σ4 _ H3 _ pr c8 ?_
        cases et : dt ρ3 with
        | no => simp only [et] at hp2; exact hp2.elim
        | ex cc fs ρ' => simp only [et] at hp2; exact hp2.elim
        | ok b ρ5 =>
          simp only [et] at hp2
          intro F5 H5 c9
          cases b with
          | false => exact iteF (fin c9 hp2)
          | true =>
            refine iteT (he.run B F5 ρ5 σ4 _ H5 _ pr c9 ?_)
            simp only at hp2
            cases ee : de ρ5 with
            | no => simp only [ee] at hp2; exact hp2.elim
            | ex cc fs ρ' => simp only [ee] at hp2; exact hp2.elim
            | ok yv ρ6 =>
              simp only [ee] at hp2
              intro F6 H6 v c10 b10
              cases ef : fz1 yv ρ6 with
              | none => simp only [ef] at hp2; exact hp2.elim
              | some p =>
                obtain ⟨dy, ρ7⟩ := p
                simp only [ef] at hp2
                obtain ⟨F7, c11, m7, r7⟩ := c10.fz1 b10 ef
                by_cases hl : acc.length < 1000000
                · rw [if_pos hl] at hp2
                  have c12 := c11.perm (τ' := (.own (.lst acc), .ref Ld) :: (src ++ (hid ++ τ))) List.perm_middle
                  obtain ⟨q, ho, eq, n, hh, hv⟩ := c12.gt _ List.mem_cons_self
                  cases eq
                  cases hv with
                  | lst rr =>
                    refine ⟨_, hh, ?_, ?_⟩
                    · rw [← rr.length]; exact Nat.lt_of_lt_of_le hl (by rw [sizeLine_eq]; decide)
                    · have c13 := c12.mutT (d' := .lst (acc ++ [dy])) (.lst (rr.append (.cons r7 .nil)))
                      exact fin (c13.perm List.perm_middle.symm) hp2
                · rw [if_neg hl] at hp2; exact hp2.elim
    · have ei : i = ds.length := by omega
      subst ei
      rw [List.drop_length] at hp2
      refine .inl ⟨o2 _ (Nat.le_refl _) (Nat.le_refl _), ?_⟩
      have hp3 : PostE K mg W B σ τ Q (.ok (.own (.lst acc)) (back ρ1 vs ρ2)) := hp2
      have c6 := c5.sub' (List.sublist_append_right src _)
      have c7 := bk F2 ρ2 H2 ((.own (.lst acc), .ref Ld) :: τ) (c6.perm List.perm_middle.symm)
      exact hp3 F2 H2 (.ref Ld) c7 trivial
end
section
variable {X : Cx} {P : List Nat} {W : WX} {pos : Pos} {elt tg iter : Expr} {ifs : List Expr} {scope : Scope} {own : List (Str × Nat)} {it : DI} {b : DG} {dt : DT} {de : DE}
/-- the tests of a clause -/
def PDTs (X : Cx) (P : List Nat) (W : WX) (ifs : List Expr) (dt : DT) : Prop := PTs X ifs (tT X.K X.mg P W dt)
def dYes : DT := fun ρ => .ok true ρ
theorem d_ifs0 : PDTs X P W [] dYes := ⟨fun pins s σ H Q I ⟨B, F, ρ, τ, pr, c, hp⟩ => pts_nil.run pins s σ H Q I (hp F H c)⟩
theorem d_ifs1 {c : Expr} (h : PDT X P W c dt) : PDTs X P W [c] dt := pts_one h.canon
theorem d_lc (hc : X.calm = true) (hN : X.N.Nodup) (hi : PDI X P W tg iter it) (ok : BlkOk X.N X.env.scope scope own) (nd : (own.map (·.2)).Nodup) (hP : ∀ v ∈ own.map (·.2), v ∉ P)
    {vs : List Nat} (hvs : ∀ v ∈ vs, v ∈ own.map (·.2))
    (hg : ∀ (s : Shared) (H : Hp) (C : Addr) (cl : List (Str × Addr)) (fp : List Addr), PDG (X.blk s H scope (compEnvC scope cl C X.env) fp) P vs tg b)
    (ht : ∀ (s : Shared) (H : Hp) (C : Addr) (cl : List (Str × Addr)) (fp : List Addr), PDTs (X.blk s H scope (compEnvC scope cl C X.env) fp) P W0 ifs dt)
    (he : ∀ (s : Shared) (H : Hp) (C : Addr) (cl : List (Str × Addr)) (fp : List Addr), PD (X.blk s H scope (compEnvC scope cl C X.env) fp) P W0 elt de) (hs : ∀ x, foldedSetIterable iter X.env x = pure x := by intro _; rfl) :
    PD X P W (.ListComp elt [⟨tg, iter, ifs, 0⟩] scope pos) (dLc it b dt de (own.map (·.2))) := by
  obtain ⟨t, h1, h2⟩ := hi
  have sg : SG X.K X.mg P (own.map (·.2)) (gE X.K X.mg P vs b) b := ⟨fun B F ρ σ τ H v d ρ' Q pr c hd e hq =>
    sg_canon.run B F ρ σ τ H v d ρ' Q pr c hd e fun σ' c' f l => hq σ' c' (fun j hj => f j fun z => hj (hvs j z)) l⟩
  exact ⟨_, pe_lc (tt := tT X.K X.mg P W0 dt) hc hN h1 ok (fun s H C cl fp => (hg s H C cl fp).canon) (fun s H C cl fp => ht s H C cl fp) (fun s H C cl fp => (he s H C cl fp).canon) hs, se_lc h2 sg st_canon se_canon nd hP⟩
/-- name = [..] -/
theorem d_setLc {i : Nat} {y : Str} {py spos : Pos} (hc : X.calm = true) (hN : X.N.Nodup) (hy : X.N[i]? = some y) (hyl : X.env.scope.names.lookup y = some .local) (hiP : i ∉ P)
    (hsw : swapsWith (.ListComp elt [⟨tg, iter, ifs, 0⟩] scope pos) (some (.Name y py)) spos.line X.env = pure true)
    (hi : PDI X P W tg iter it) (ok : BlkOk X.N X.env.scope scope own) (nd : (own.map (·.2)).Nodup) (hP : ∀ v ∈ own.map (·.2), v ∉ P)
    {vs : List Nat} (hvs : ∀ v ∈ vs, v ∈ own.map (·.2))
    (hg : ∀ (s : Shared) (H : Hp) (C : Addr) (cl : List (Str × Addr)) (fp : List Addr), PDG (X.blk s H scope (compEnvC scope cl C X.env) fp) P vs tg b)
    (ht : ∀ (s : Shared) (H : Hp) (C : Addr) (cl : List (Str × Addr)) (fp : List Addr), PDTs (X.blk s H scope (compEnvC scope cl C X.env) fp) P W0 ifs dt)
    (he : ∀ (s : Shared) (H : Hp) (C : Addr) (cl : List (Str × Addr)) (fp : List Addr), PD (X.blk s H scope (compEnvC scope cl C X.env) fp) P W0 elt de) (hs : ∀ x, foldedSetIterable iter X.env x = pure x := by intro _; rfl) :
    PDS X P W (.Assign [.Name y py] (.ListComp elt [⟨tg, iter, ifs, 0⟩] scope pos) spos) (dSet i (dLc it b dt de (own.map (·.2)))) := by
  obtain ⟨t, h1, h2⟩ := hi
  have sg : SG X.K X.mg P (own.map (·.2)) (gE X.K X.mg P vs b) b := ⟨fun B F ρ σ τ H v d ρ' Q pr c hd e hq =>
    sg_canon.run B F ρ σ τ H v d ρ' Q pr c hd e fun σ' c' f l => hq σ' c' (fun j hj => f j fun z => hj (hvs j z)) l⟩
  exact ⟨_, ps_setLc (tt := tT X.K X.mg P W0 dt) hc hN hy hyl hsw h1 ok (fun s H C cl fp => (hg s H C cl fp).canon) (fun s H C cl fp => ht s H C cl fp) (fun s H C cl fp => (he s H C cl fp).canon) hs, ss_set (se_lc h2 sg st_canon se_canon nd hP) hiP⟩
end
end PD
set_option Elab.async false
set_option linter.all false
set_option maxRecDepth 100000
set_option autoImplicit false
set_option maxHeartbeats 4000000
/-! PD: calls of defs. -/
namespace PD
open PySem PySem.Spec PyProof.Rows L2

/-- what a def's call gives: a result, or an exception; and what is behind it in the slots of the arguments that were handed over as own objects -/
inductive FR where
  | ret (sv : SV) (as : List SV) | ex (c : Str) (fs : List (Str × D)) (as : List SV) | no
/-- a def: which parameters may be own objects of the caller; what it does -/
structure FDn where
  io : List Bool
  run : List SV → FR

/-! ### from the caller's to the callee's -/
/-- an argument, made ready -/
def prep1 (io : Bool) : RV → List SV → Option (SV × List SV)
  | .fz d, ρ => some (.fz d, ρ)
  | .own d, ρ => some (if io then .own d else .fz d, ρ)
  | .bor i, ρ => match ρ[i]? with
    | some (.own d) => if io then some (.own d, ρ.set i .no) else some (.fz d, ρ.set i (.fz d))
    | some (.fz d) => some (.fz d, ρ)
    | _ => none
def prep : List Bool → List RV → List SV → Option (List SV × List SV)
  | [], [], ρ => some ([], ρ)
  | io :: ios, r :: rs, ρ => match prep1 io r ρ with
    | some (sv, ρ1) => match prep ios rs ρ1 with
      | some (svs, ρ2) => some (sv :: svs, ρ2)
      | none => none
    | none => none
  | _, _, _ => none
/-- back in the caller's slots -/
def wb : List SV → List RV → List SV → List SV → List SV
  | .own _ :: svs, .bor i :: rs, a :: as, ρ => wb svs rs as (ρ.set i a)
  | _ :: svs, _ :: rs, _ :: as, ρ => wb svs rs as ρ
  | _, _, _, ρ => ρ
def toRV : SV → Option RV
  | .fz d => some (.fz d)
  | .own d => some (.own d)
  | .no => none
def dCall (f : FDn) (a : DA) : DE := fun ρ => (a ρ).bind fun rs ρ1 => match prep f.io rs ρ1 with
  | none => .no
  | some (svs, ρ2) => match f.run svs with
    | .ret sv as => match toRV sv with
      | some rv => if as.length = svs.length then .ok rv (wb svs rs as ρ2) else .no
      | none => .no
    | .ex c fs as => if as.length = svs.length then .ex c fs (wb svs rs as ρ2) else .no
    | .no => .no

section
variable (K : PySem.W.Frag) (mg : Str → Option Value)
/-- what the callee leaves: over the caller's frozen objects F and heap H -/
def Exit (F H : Hp) (svs : List SV) (vs : List V) (F' H' : Hp) (as : List SV) (τ : List (SV × V)) : Prop :=
  Cfg K mg ⟨F, H, ownT (svs.zip vs), []⟩ F' as (vs.map some) τ H'
def PostF (F H : Hp) (svs : List SV) (vs : List V) (Q : VK) (E : XK) : FR → Prop
  | .ret sv as => as.length = svs.length → ∀ F' H' v, Exit K mg F H svs vs F' H' as [(sv, v)] → Q v H'
  | .ex c fs as => as.length = svs.length → ∀ F' H' cls dd, Exit K mg F H svs vs F' H' as [] → EV K mg F' c fs cls dd → E cls dd H'
  | .no => False
/-- the own arguments stand where they may -/
def ioOk : List Bool → List SV → Bool
  | [], [] => true
  | io :: ios, sv :: svs => (match sv with | .own _ => io | .fz _ => true | .no => false) && ioOk ios svs
  | _, _ => false
/-- the promise of a def -/
def spD (f : FDn) : Sp := fun vs H Q E => ∃ F svs, vs.length = f.io.length ∧ svs.length = vs.length ∧ ioOk f.io svs = true ∧ Cfg K mg ⟨F, H, ownT (svs.zip vs), []⟩ F svs (vs.map some) [] H ∧ PostF K mg F H svs vs Q E (f.run svs)
end

section
variable {K : PySem.W.Frag} {mg : Str → Option Value} {P : List Nat} {W : WX} {B : Bs} {F F' H H' : Hp} {ρ : List SV} {σ : L2.St} {τ τ' : List (SV × V)}
theorem Cfg.prep1 {io : Bool} {rv : RV} {v : V} {sv : SV} {ρ' : List SV} (c : Cfg K mg B F ρ σ ((rv.stk, v) :: τ) H) (hb : RVb σ rv v) (e : prep1 io rv ρ = some (sv, ρ')) : ∃ F', Cfg K mg B F' ρ' σ ((sv, v) :: τ) H := by
  cases rv with
  | fz d => cases e; exact ⟨F, c⟩
  | own d =>
    have e : some ((if io then SV.own d else SV.fz d), ρ) = some (sv, ρ') := e
    cases io with
    | true => cases e; exact ⟨F, c⟩
    | false =>
      cases e
      obtain ⟨F', c', _⟩ := c.freezeT
      exact ⟨F', c'⟩
  | bor i =>
    have hb : σ[i]? = some (some v) := hb
    have e : (match ρ[i]? with | some (.own d) => if io then some (SV.own d, ρ.set i .no) else some (SV.fz d, ρ.set i (.fz d)) | some (.fz d) => some (SV.fz d, ρ) | _ => none) = some (sv, ρ') := e
    cases q : ρ[i]? with
    | none => rw [q] at e; cases e
    | some s =>
      rw [q] at e
      cases s with
      | no => cases e
      | fz d =>
        cases e
        obtain ⟨v', e1, r⟩ := c.fz_slot q
        rw [hb] at e1; cases e1
        exact ⟨F, c.pop.push r⟩
      | own d =>
        cases io with
        | true => cases e; exact ⟨F, c.pop.moveS q hb⟩
        | false =>
          cases e
          obtain ⟨F', c', m, v', e1, r⟩ := c.pop.freezeS q
          rw [hb] at e1; cases e1
          exact ⟨F', c'.push r⟩
theorem Cfg.prepL : ∀ {ios : List Bool} {rs : List RV} {vs : List V} {svs : List SV} {ρ ρ' : List SV} {F : Hp} {τ : List (SV × V)}, Cfg K mg B F ρ σ ((rs.map RV.stk).zip vs ++ τ) H → RBs σ rs vs → PD.prep ios rs ρ = some (svs, ρ') →
    ∃ F', Cfg K mg B F' ρ' σ (svs.zip vs ++ τ) H ∧ svs.length = vs.length ∧ ios.length = vs.length
  | [], [], _, svs, ρ, ρ', F, τ, c, .nil, e => by
    cases e
    exact ⟨F, c, rfl, rfl⟩
  | io :: ios, r :: rs, v :: vs, svs, ρ, ρ', F, τ, c, .cons hb hbs, e => by
    unfold PD.prep at e
    cases e1 : PD.prep1 io r ρ with
    | none => rw [e1] at e; cases e
    | some p =>
      obtain ⟨sv, ρ1⟩ := p
      rw [e1] at e
      simp only at e
      cases e2 : PD.prep ios rs ρ1 with
      | none => rw [e2] at e; cases e
      | some p =>
        obtain ⟨svs1, ρ2⟩ := p
        rw [e2] at e
        cases e
        have c1 : Cfg K mg B F ρ σ ((r.stk, v) :: ((rs.map RV.stk).zip vs ++ τ)) H := c
        obtain ⟨F1, c2⟩ := c1.prep1 hb e1
        obtain ⟨F2, c3, h1, h2⟩ := Cfg.prepL (τ := (sv, v) :: τ) (c2.perm List.perm_middle.symm) hbs e2
        exact ⟨F2, c3.perm List.perm_middle, by simp [h1], by simp [h2]⟩
theorem prep_io : ∀ {ios : List Bool} {rs : List RV} {svs : List SV} {ρ ρ' : List SV}, PD.prep ios rs ρ = some (svs, ρ') → ioOk ios svs = true
  | [], [], svs, ρ, ρ', e => by cases e; rfl
  | io :: ios, r :: rs, svs, ρ, ρ', e => by
    unfold PD.prep at e
    cases e1 : PD.prep1 io r ρ with
    | none => rw [e1] at e; cases e
    | some p =>
      obtain ⟨sv, ρ1⟩ := p
      rw [e1] at e
      simp only at e
      cases e2 : PD.prep ios rs ρ1 with
      | none => rw [e2] at e; cases e
      | some p =>
        obtain ⟨svs1, ρ2⟩ := p
        rw [e2] at e
        cases e
        have ih := prep_io e2
        unfold ioOk
        rw [ih, Bool.and_true]
        cases r with
        | fz d => cases e1; rfl
        | own d =>
          cases io <;> (cases e1; rfl)
        | bor i =>
          have e1 : (match ρ[i]? with | some (.own d) => if io then some (SV.own d, ρ.set i .no) else some (SV.fz d, ρ.set i (.fz d)) | some (.fz d) => some (SV.fz d, ρ) | _ => none) = some (sv, ρ1) := e1
          cases q : ρ[i]? with
          | none => rw [q] at e1; cases e1
          | some s =>
            rw [q] at e1
            cases s with
            | no => cases e1
            | fz d => cases e1; rfl
            | own d => cases io <;> (cases e1; rfl)
  | [], r :: rs, svs, ρ, ρ', e => by cases e
  | io :: ios, [], svs, ρ, ρ', e => by cases e
/-- the arguments alone, as a callee sees them -/
theorem Cfg.entry {svs : List SV} {vs : List V} (c : Cfg K mg B F ρ σ (svs.zip vs ++ τ) H) (hl : svs.length = vs.length) : Cfg K mg ⟨F, H, ownT (svs.zip vs), []⟩ F svs (vs.map some) [] H := by
  have get : ∀ {i : Nat} {sv : SV}, svs[i]? = some sv → ∃ v, vs[i]? = some v ∧ (sv, v) ∈ svs.zip vs := fun {i sv} e => by
    have hi : i < svs.length := (List.getElem?_eq_some_iff.mp e).1
    have hv : vs[i]? = some (vs[i]'(by omega)) := List.getElem?_eq_getElem (by omega)
    refine ⟨_, hv, ?_⟩
    have : (svs.zip vs)[i]? = some (sv, vs[i]'(by omega)) := by
      rw [List.getElem?_zip_eq_some]
      exact ⟨e, hv⟩
    exact List.mem_of_getElem? this
  have zipget : ∀ {i : Nat} {p : Addr}, ownS svs (vs.map some) i p → ∃ d, (svs.zip vs)[i]? = some (.own d, .ref p) := fun {i p} ⟨d, e1, e2⟩ => by
    rw [List.getElem?_map] at e2
    cases q : vs[i]? with
    | none => rw [q] at e2; cases e2
    | some v =>
      rw [q] at e2
      cases e2
      exact ⟨d, List.getElem?_zip_eq_some.mpr ⟨e1, q⟩⟩
  have pw : ∀ (i j : Nat) (p : Addr), ownS svs (vs.map some) i p → ownS svs (vs.map some) j p → ¬ i < j := fun i j p h1 h2 hij => by
    obtain ⟨d1, e1⟩ := zipget h1
    obtain ⟨d2, e2⟩ := zipget h2
    have s3 : (svs.zip vs).Pairwise _ := (List.pairwise_append.mp c.s3).1
    rw [List.pairwise_iff_getElem] at s3
    obtain ⟨i1, e1⟩ := List.getElem?_eq_some_iff.mp e1
    obtain ⟨j1, e2⟩ := List.getElem?_eq_some_iff.mp e2
    exact s3 i j i1 j1 hij p d1 d2 e1 e2
  exact {
    len := by rw [List.length_map]; exact hl
    sub := c.sub
    gs := fun i sv e => by
      obtain ⟨v, hv, hm⟩ := get e
      have g := c.gt _ (List.mem_append_left τ hm)
      rw [List.getElem?_map, hv]
      exact g
    gt := fun x hx => by cases hx
    s1 := fun i j p h1 h2 => by
      rcases Nat.lt_trichotomy i j with h | h | h
      · exact absurd h (pw i j p h1 h2)
      · exact h
      · exact absurd h (pw j i p h2 h1)
    s2 := fun i p h ⟨d, t⟩ => by cases t
    s3 := .nil
    b1 := fun a o e => .inl e
    b2 := fun b o e _ => e
    b3 := fun p h => by
      rcases h with ⟨i, h⟩ | ⟨d, t⟩
      · obtain ⟨d, e⟩ := zipget h
        exact .inr ⟨d, List.mem_of_getElem? e⟩
      · cases t
    b4 := fun a o e => e
    pr := fun x hx => by cases hx
    prH := fun x hx => by cases hx }
/-- behind the call -/
theorem Cfg.leave {svs as : List SV} {vs : List V} {τr : List (SV × V)} (c : Cfg K mg B F ρ σ (svs.zip vs ++ τ) H) (x : Exit K mg F H svs vs F' H' as τr) : Cfg K mg B F' ρ σ (as.zip vs ++ (τr ++ τ)) H' := by
  have x : Cfg K mg ⟨F, H, ownT (svs.zip vs), []⟩ F' as (vs.map some) τr H' := x
  have mF : ∀ a o, F a = some o → F' a = some o := x.b4
  have sp3 := List.pairwise_append.mp c.s3
  -- an own object of the caller that was not handed over stands as it stood
  have stays : ∀ p ho, H p = some ho → F p = none → ¬ ownT (svs.zip vs) p → (∀ xs, ho ≠ .tup xs) → F' p = none ∧ H' p = some ho := fun p ho hh fp nA nt => by
    refine ⟨?_, x.b2 p ho hh nA⟩
    cases q : F' p with
    | none => rfl
    | some u =>
      rcases x.b1 p u q with z | z | z | ⟨xs, z⟩
      · have z : F p = some u := z; rw [fp] at z; cases z
      · have z : H p = none := z; rw [hh] at z; cases z
      · exact absurd z nA
      · have e1 := x.sub p u q
        rw [x.b2 p ho hh nA] at e1
        cases e1
        exact absurd z (nt xs)
  have nS : ∀ i p, ownS ρ σ i p → ¬ ownT (svs.zip vs) p := fun i p h ⟨d, t⟩ => c.s2 i p h ⟨d, List.mem_append_left _ t⟩
  have nT : ∀ p, ownT τ p → ¬ ownT (svs.zip vs) p := fun p ⟨d, t⟩ ⟨d', t'⟩ => sp3.2.2 _ t' _ t p d' d rfl rfl
  -- what is own behind the call was new, or handed over
  have zipget : ∀ {p : Addr}, ownT (as.zip vs) p → ∃ i, ownS as (vs.map some) i p := fun {p} ⟨d, t⟩ => by
    obtain ⟨i, e⟩ := List.mem_iff_getElem?.mp t
    obtain ⟨e1, e2⟩ := List.getElem?_zip_eq_some.mp e
    exact ⟨i, d, e1, by rw [List.getElem?_map, e2]; rfl⟩
  have came : ∀ p, ownT (as.zip vs ++ τr) p → H p = none ∨ ownT (svs.zip vs) p := fun p ⟨d, t⟩ => by
    rcases List.mem_append.mp t with t | t
    · obtain ⟨i, h⟩ := zipget ⟨d, t⟩
      exact x.b3 p (.inl ⟨i, h⟩)
    · exact x.b3 p (.inr ⟨d, t⟩)
  have apart : ∀ p, ownT (as.zip vs ++ τr) p → ∀ ho, H p = some ho → ¬ ownT (svs.zip vs) p → False := fun p h ho hh nA => by
    rcases came p h with z | z
    · rw [hh] at z; cases z
    · exact nA z
  have gtAll : ∀ y ∈ as.zip vs ++ τr, Gd K mg F' H' y.1 (some y.2) := fun y hy => by
    rcases List.mem_append.mp hy with hy | hy
    · obtain ⟨i, e⟩ := List.mem_iff_getElem?.mp hy
      obtain ⟨e1, e2⟩ := List.getElem?_zip_eq_some.mp e
      have g := x.gs i _ e1
      rw [List.getElem?_map, e2] at g
      exact g
    · exact x.gt y hy
  rw [← List.append_assoc]
  exact {
    len := c.len
    sub := x.sub
    gs := fun i sv e => by
      have g := c.gs i sv e
      cases sv with
      | no => trivial
      | fz d => obtain ⟨v, e1, r⟩ := g; exact ⟨v, e1, r.mono mF⟩
      | own d =>
        obtain ⟨p, ho, e1, n, hh, r⟩ := g
        obtain ⟨n', h'⟩ := stays p ho hh n (nS i p ⟨d, e, join_some e1⟩) r.not_tup
        exact ⟨p, ho, e1, n', h', r.mono mF⟩
    gt := fun y hy => by
      rcases List.mem_append.mp hy with hy | hy
      · exact gtAll y hy
      · have g := c.gt y (List.mem_append_right _ hy)
        obtain ⟨sv, v⟩ := y
        cases sv with
        | no => trivial
        | fz d => obtain ⟨v, e1, r⟩ := g; exact ⟨v, e1, r.mono mF⟩
        | own d =>
          obtain ⟨p, ho, e1, n, hh, r⟩ := g
          cases e1
          obtain ⟨n', h'⟩ := stays p ho hh n (nT p ⟨d, hy⟩) r.not_tup
          exact ⟨p, ho, rfl, n', h', r.mono mF⟩
    s1 := c.s1
    s2 := fun i p h ⟨d, t⟩ => by
      obtain ⟨_, _, ho, hh, _⟩ := c.ownS_at h
      rcases List.mem_append.mp t with t | t
      · exact apart p ⟨d, t⟩ ho hh (nS i p h)
      · exact c.s2 i p h ⟨d, List.mem_append_right _ t⟩
    s3 := by
      refine List.pairwise_append.mpr ⟨?_, sp3.2.1, fun y hy z hz p d d' e1 e2 => ?_⟩
      · refine List.pairwise_append.mpr ⟨?_, x.s3, fun y hy z hz p d d' e1 e2 => ?_⟩
        · rw [List.pairwise_iff_getElem]
          intro i j hi hj hij p d d' e1 e2
          have g1 : (as.zip vs)[i]? = some (.own d, .ref p) := List.getElem?_eq_some_iff.mpr ⟨hi, e1⟩
          have g2 : (as.zip vs)[j]? = some (.own d', .ref p) := List.getElem?_eq_some_iff.mpr ⟨hj, e2⟩
          obtain ⟨a1, a2⟩ := List.getElem?_zip_eq_some.mp g1
          obtain ⟨b1, b2⟩ := List.getElem?_zip_eq_some.mp g2
          have := x.s1 i j p ⟨d, a1, by rw [List.getElem?_map, a2]; rfl⟩ ⟨d', b1, by rw [List.getElem?_map, b2]; rfl⟩
          omega
        · subst e1
          obtain ⟨i, h⟩ := zipget ⟨d, hy⟩
          exact x.s2 i p h ⟨d', by rw [← e2]; exact hz⟩
      · subst e1 e2
        obtain ⟨_, _, ho, hh, _⟩ := c.ownT_at (p := p) ⟨d', List.mem_append_right _ hz⟩
        exact apart p ⟨d, hy⟩ ho hh (nT p ⟨d', hz⟩)
    b1 := fun a o e => by
      rcases x.b1 a o e with z | z | ⟨d, t⟩ | z
      · exact c.b1 a o z
      · have z : H a = none := z
        cases q : B.H0 a with
        | none => exact .inr (.inl rfl)
        | some u =>
          by_cases hA : B.A0 a
          · exact .inr (.inr (.inl hA))
          · rw [c.b2 a u q hA] at z; cases z
      · rcases c.b3 a (.inr ⟨d, List.mem_append_left _ t⟩) with z | z
        · exact .inr (.inl z)
        · exact .inr (.inr (.inl z))
      · exact .inr (.inr (.inr z))
    b2 := fun b o e hA => x.b2 b o (c.b2 b o e hA) fun ⟨d, t⟩ => by
      rcases c.b3 b (.inr ⟨d, List.mem_append_left _ t⟩) with z | z
      · rw [z] at e; cases e
      · exact hA z
    b3 := fun p h => by
      rcases h with h | ⟨d, t⟩
      · exact c.b3 p (.inl h)
      · rcases List.mem_append.mp t with t | t
        · rcases came p ⟨d, t⟩ with z | ⟨d', t'⟩
          · cases q : B.H0 p with
            | none => exact .inl rfl
            | some u =>
              by_cases hA : B.A0 p
              · exact .inr hA
              · rw [c.b2 p u q hA] at z; cases z
          · exact c.b3 p (.inr ⟨d', List.mem_append_left _ t'⟩)
        · exact c.b3 p (.inr ⟨d, List.mem_append_right _ t⟩)
    b4 := fun a o e => mF _ _ (c.b4 a o e)
    pr := c.pr
    prH := c.prH }
/-- the caller's slots have their own objects again -/
theorem Cfg.wbL : ∀ {svs : List SV} {rs : List RV} {vs : List V} {as : List SV} {ρ : List SV} {τ : List (SV × V)}, Cfg K mg B F ρ σ (as.zip vs ++ τ) H → RBs σ rs vs → as.length = vs.length → svs.length = vs.length →
    (∀ (k i : Nat) (d : D), svs[k]? = some (.own d) → rs[k]? = some (.bor i) → ρ[i]? = some .no) → (∀ (k l i : Nat) (d d' : D), svs[k]? = some (.own d) → svs[l]? = some (.own d') → rs[k]? = some (.bor i) → rs[l]? = some (.bor i) → k = l) → Cfg K mg B F (PD.wb svs rs as ρ) σ τ H
  | [], _, [], [], ρ, τ, c, .nil, _, _, _, _ => c
  | sv :: svs, [], [], [], ρ, τ, c, .nil, _, h2, _, _ => by simp at h2
  | sv :: svs, r :: rs, v :: vs, a :: as, ρ, τ, c, .cons hb hbs, h1, h2, hn, hd => by
    have c1 : Cfg K mg B F ρ σ ((a, v) :: (as.zip vs ++ τ)) H := c
    have plain : Cfg K mg B F (PD.wb svs rs as ρ) σ τ H :=
      Cfg.wbL (c1.pop) hbs (by simpa using h1) (by simpa using h2) (fun k i d e1 e2 => hn (k + 1) i d (by simpa using e1) (by simpa using e2)) (fun k l i d d' e1 e2 e3 e4 => by
        have := hd (k + 1) (l + 1) i d d' (by simpa using e1) (by simpa using e2) (by simpa using e3) (by simpa using e4)
        omega)
    cases sv with
    | no => cases r <;> exact plain
    | fz d => cases r <;> exact plain
    | own d =>
      cases r with
      | fz d' => exact plain
      | own d' => exact plain
      | bor i =>
        have hb : σ[i]? = some (some v) := hb
        have hno := hn 0 i d rfl rfl
        have c2 := c1.putBack hb hno
        show Cfg K mg B F (PD.wb svs rs as (ρ.set i a)) σ τ H
        refine Cfg.wbL c2 hbs (by simpa using h1) (by simpa using h2) (fun k j d' e1 e2 => ?_) (fun k l i d d' e1 e2 e3 e4 => by
          have := hd (k + 1) (l + 1) i d d' (by simpa using e1) (by simpa using e2) (by simpa using e3) (by simpa using e4)
          omega)
        have hij : i ≠ j := fun z => by
          subst z
          have := hd 0 (k + 1) i d d' rfl (by simpa using e1) rfl (by simpa using e2)
          omega
        rw [List.getElem?_set_ne hij]
        exact hn (k + 1) j d' (by simpa using e1) (by simpa using e2)
/-- the slots that were moved out are empty -/
theorem prep_no : ∀ {ios : List Bool} {rs : List RV} {svs : List SV} {ρ ρ' : List SV}, PD.prep ios rs ρ = some (svs, ρ') →
    (∀ i : Nat, ρ[i]? = some SV.no → ρ'[i]? = some SV.no) ∧ (∀ (k i : Nat) (d : D), svs[k]? = some (.own d) → rs[k]? = some (.bor i) → ρ'[i]? = some SV.no ∧ ρ[i]? ≠ some SV.no) ∧
    (∀ (k l i : Nat) (d d' : D), svs[k]? = some (.own d) → svs[l]? = some (.own d') → rs[k]? = some (.bor i) → rs[l]? = some (.bor i) → k = l)
  | [], [], svs, ρ, ρ', e => by
    cases e
    exact ⟨fun i h => h, fun k i d e => by simp at e, fun k l i d d' e => by simp at e⟩
  | io :: ios, r :: rs, svs, ρ, ρ', e => by
    unfold PD.prep at e
    cases e1 : PD.prep1 io r ρ with
    | none => rw [e1] at e; cases e
    | some p =>
      obtain ⟨sv, ρ1⟩ := p
      rw [e1] at e
      simp only at e
      cases e2 : PD.prep ios rs ρ1 with
      | none => rw [e2] at e; cases e
      | some p =>
        obtain ⟨svs1, ρ2⟩ := p
        rw [e2] at e
        cases e
        obtain ⟨k1, k2, k3⟩ := prep_no e2
        -- what one step does to the slots
        have st : (∀ i : Nat, ρ[i]? = some SV.no → ρ1[i]? = some SV.no) ∧ ∀ (i : Nat) (d : D), sv = .own d → r = .bor i → ρ1[i]? = some SV.no ∧ ρ[i]? ≠ some SV.no := by
          cases r with
          | fz d => cases e1; exact ⟨fun i h => h, fun i d e => by cases e⟩
          | own d => cases io <;> (cases e1; exact ⟨fun i h => h, fun i d _ e => by cases e⟩)
          | bor j =>
            have e1 : (match ρ[j]? with | some (.own d) => if io then some (SV.own d, ρ.set j .no) else some (SV.fz d, ρ.set j (.fz d)) | some (.fz d) => some (SV.fz d, ρ) | _ => none) = some (sv, ρ1) := e1
            cases q : ρ[j]? with
            | none => rw [q] at e1; cases e1
            | some s =>
              rw [q] at e1
              cases s with
              | no => cases e1
              | fz d => cases e1; exact ⟨fun i h => h, fun i d e => by cases e⟩
              | own d =>
                have hj : j < ρ.length := (List.getElem?_eq_some_iff.mp q).1
                cases io with
                | false =>
                  cases e1
                  exact ⟨fun i h => by rw [List.getElem?_set_ne (fun z => by subst z; rw [q] at h; cases h)]; exact h, fun i d e => by cases e⟩
                | true =>
                  cases e1
                  refine ⟨fun i h => by rw [List.getElem?_set_ne (fun z => by subst z; rw [q] at h; cases h)]; exact h, fun i d' _ e => ?_⟩
                  cases e
                  exact ⟨List.getElem?_set_self hj, by rw [q]; intro z; cases z⟩
        refine ⟨fun i h => k1 i (st.1 i h), fun k i d h1 h2 => ?_, fun k l i d d' h1 h2 h3 h4 => ?_⟩
        · cases k with
          | zero =>
            simp at h1 h2
            obtain ⟨a, b⟩ := st.2 i d h1 h2
            exact ⟨k1 i a, b⟩
          | succ k =>
            obtain ⟨a, b⟩ := k2 k i d (by simpa using h1) (by simpa using h2)
            exact ⟨a, fun z => b (st.1 i z)⟩
        · cases k with
          | zero =>
            cases l with
            | zero => rfl
            | succ l =>
              simp at h1 h3
              obtain ⟨a, _⟩ := st.2 i d h1 h3
              obtain ⟨_, b⟩ := k2 l i d' (by simpa using h2) (by simpa using h4)
              exact absurd a b
          | succ k =>
            cases l with
            | zero =>
              simp at h2 h4
              obtain ⟨a, _⟩ := st.2 i d' h2 h4
              obtain ⟨_, b⟩ := k2 k i d (by simpa using h1) (by simpa using h3)
              exact absurd a b
            | succ l => rw [k3 k l i d d' (by simpa using h1) (by simpa using h2) (by simpa using h3) (by simpa using h4)]
  | [], r :: rs, svs, ρ, ρ', e => by cases e
  | io :: ios, [], svs, ρ, ρ', e => by cases e
/-- THE CALL, from the caller's side: behind the arguments, the promise -/
theorem call_ok {f : FDn} {rs : List RV} {vs : List V} {Q : VK} {E : XK} (c : Cfg K mg B F ρ σ (stkL rs vs τ) H) (hb : RBs σ rs vs) (hE : ∀ cls dd H', W cls dd σ H' → E cls dd H')
    (hp : PostE K mg W B σ τ Q (match prep f.io rs ρ with
      | none => .no
      | some (svs, ρ2) => match f.run svs with
        | .ret sv as => match toRV sv with
          | some rv => if as.length = svs.length then .ok rv (wb svs rs as ρ2) else .no
          | none => .no
        | .ex c fs as => if as.length = svs.length then .ex c fs (wb svs rs as ρ2) else .no
        | .no => .no)) : spD K mg f vs H Q E := by
  cases e : PD.prep f.io rs ρ with
  | none => rw [e] at hp; exact hp.elim
  | some p =>
    obtain ⟨svs, ρ2⟩ := p
    rw [e] at hp
    simp only at hp
    obtain ⟨F2, c2, h1, h2⟩ := Cfg.prepL (c.perm (stkL_perm hb.length)) hb e
    obtain ⟨_, k2, k3⟩ := prep_no e
    refine ⟨F2, svs, h2.symm, h1, prep_io e, c2.entry h1, ?_⟩
    cases er : f.run svs with
    | no => rw [er] at hp; exact hp.elim
    | ret sv as =>
      rw [er] at hp
      simp only at hp
      intro hl F' H' v x
      have c3 := c2.leave x
      have c4 := Cfg.wbL (svs := svs) c3 hb (by rw [hl, h1]) h1 (fun k i d e1 e2 => (k2 k i d e1 e2).1) k3
      cases sv with
      | no => exact hp.elim
      | fz d =>
        simp only [toRV, hl, if_true] at hp
        exact hp F' H' v c4 trivial
      | own d =>
        simp only [toRV, hl, if_true] at hp
        exact hp F' H' v c4 trivial
    | ex cc fs as =>
      rw [er] at hp
      simp only at hp
      intro hl F' H' cls dd x ev
      have c3 := c2.leave x
      have c4 := Cfg.wbL (svs := svs) c3 hb (by rw [hl, h1]) h1 (fun k i d e1 e2 => (k2 k i d e1 e2).1) k3
      simp only [hl, if_true] at hp
      exact hE _ _ _ (hp F' H' cls dd c4 ev)
theorem se_call {f : FDn} {t : TA} {a : DA} (ha : SA K mg P W t a) : SE K mg P W (tCallS (spD K mg f) (WE W) t) (dCall f a) := by
  refine ⟨fun B F ρ σ τ H Q pr c hp => ?_⟩
  refine ha.bind pr c hp (fun _ _ _ h => h) id fun rs ρ1 F1 H1 vs c1 b1 hp1 => ?_
  exact call_ok c1 b1 (fun _ _ _ h => h) hp1
end
section
variable {X : Cx} {P : List Nat} {W : WX} {pos p : Pos} {x : Str} {e : Expr} {es : List Expr} {d : DA} {k : Nat} {fa : Addr} {fd : FuncData} {ps : List Str} {f : FDn}
theorem d_call (G : FnOk X.prog X.w X.K X.mg X.base (L2.CX X.prog X.w) k fa fd ps (spD X.K X.mg f)) (hr : Room k X.A) (hg : Gl X x) (hm : X.mg x = some (.ref fa)) (hk : PySem.W.keepIn X.K (.ref fa) = true) (hb : Binds X.K fd ps []) (tk : Takes X W)
    (h : PDA X P W (e :: es) d) (hdb : (x == ("__debug__" : Str)) = false := by decide) (he : starEach (e :: es) X.env = (false, eval e X.env) :: starEach es X.env := by rfl) (hpl : (backTo pos (starEach es X.env)).any (·.1) = false := by rfl) :
    PD X P W (.Call (.Name x p) (e :: es) [] pos) (dCall f d) := by
  obtain ⟨t, h1, h2⟩ := h
  exact ⟨_, pe_callS G hr hg hm hk hb (fun σ => passAt tk σ) h1 hdb he hpl, se_call h2⟩
end

/-! ### a def's body -/
/-- the arguments' slots behind the body: those that are the caller's own -/
def pick : List SV → List SV → List SV
  | [], _ => []
  | sv :: svs, ρ => (match sv with | .own _ => ρ.headD .no | _ => .no) :: pick svs ρ.tail
/-- a def by its body; n: how many slots -/
def mkF (io : List Bool) (n : Nat) (body : DS) : FDn where
  io := io
  run := fun svs => match body (svs ++ List.replicate (n - svs.length) .no) with
    | .nx ρ => .ret (.fz .non) (pick svs ρ)
    | .rt sv ρ => .ret sv (pick svs ρ)
    | .ex c fs ρ => .ex c fs (pick svs ρ)
    | _ => .no
/-- the slots that may not be stored to -/
def ioP : List Bool → Nat → List Nat
  | [], _ => []
  | io :: r, n => if io then n :: ioP r (n + 1) else ioP r (n + 1)
def prOf : List SV → List V → Nat → List (Nat × Addr)
  | sv :: svs, v :: vs, n => (match sv, v with | .own _, .ref p => [(n, p)] | _, _ => []) ++ prOf svs vs (n + 1)
  | _, _, _ => []
theorem pick_length : ∀ (svs ρ : List SV), (pick svs ρ).length = svs.length
  | [], _ => rfl
  | _ :: svs, ρ => by unfold pick; simp [pick_length svs]
theorem pick_get : ∀ {svs ρ : List SV} {i : Nat} {sv : SV}, (pick svs ρ)[i]? = some sv → sv = .no ∨ ((∃ d, svs[i]? = some (.own d)) ∧ ρ[i]? = some sv)
  | [], _, i, sv, e => by simp [pick] at e
  | s :: svs, ρ, 0, sv, e => by
    unfold pick at e
    simp at e
    cases s with
    | no => exact .inl e.symm
    | fz d => exact .inl e.symm
    | own d =>
      cases ρ with
      | nil => exact .inl e.symm
      | cons r ρ => exact .inr ⟨⟨d, rfl⟩, by simpa using e⟩
  | s :: svs, ρ, i + 1, sv, e => by
    unfold pick at e
    have := pick_get (svs := svs) (ρ := ρ.tail) (i := i) (sv := sv) (by simpa using e)
    rcases this with h | ⟨⟨d, h1⟩, h2⟩
    · exact .inl h
    · refine .inr ⟨⟨d, by simpa using h1⟩, ?_⟩
      cases ρ with
      | nil => simp at h2
      | cons r ρ => simpa using h2
theorem mem_prOf : ∀ {svs : List SV} {vs : List V} {n i : Nat} {d : D} {p : Addr}, svs[i]? = some (.own d) → vs[i]? = some (.ref p) → (n + i, p) ∈ prOf svs vs n
  | [], _, _, i, _, _, e, _ => by simp at e
  | _ :: _, [], _, i, _, _, _, e => by simp at e
  | sv :: svs, v :: vs, n, 0, d, p, e1, e2 => by
    simp at e1 e2
    subst e1 e2
    unfold prOf
    simp
  | sv :: svs, v :: vs, n, i + 1, d, p, e1, e2 => by
    have := mem_prOf (svs := svs) (vs := vs) (n := n + 1) (i := i) (d := d) (p := p) (by simpa using e1) (by simpa using e2)
    unfold prOf
    refine List.mem_append_right _ ?_
    rw [show n + (i + 1) = n + 1 + i by omega]
    exact this
theorem of_prOf : ∀ {svs : List SV} {vs : List V} {n : Nat} {x : Nat × Addr}, x ∈ prOf svs vs n → ∃ i d, x.1 = n + i ∧ svs[i]? = some (.own d) ∧ vs[i]? = some (.ref x.2)
  | [], _, _, _, h => by simp [prOf] at h
  | _ :: _, [], _, _, h => by simp [prOf] at h
  | sv :: svs, v :: vs, n, x, h => by
    unfold prOf at h
    rcases List.mem_append.mp h with h | h
    · cases sv with
      | no => simp at h
      | fz d => simp at h
      | own d =>
        cases v with
        | ref p =>
          have e : x = (n, p) := by simpa using h
          subst e
          exact ⟨0, d, rfl, rfl, rfl⟩
        | _ => simp at h
    · obtain ⟨i, d, e1, e2, e3⟩ := of_prOf h
      exact ⟨i + 1, d, by omega, by simpa using e2, by simpa using e3⟩
theorem ioP_mem : ∀ {ios : List Bool} {svs : List SV} {n i : Nat} {d : D}, ioOk ios svs = true → svs[i]? = some (.own d) → n + i ∈ ioP ios n
  | [], [], _, i, _, _, e => by simp at e
  | [], _ :: _, _, _, _, h, _ => by simp [ioOk] at h
  | _ :: _, [], _, i, _, _, e => by simp at e
  | io :: ios, sv :: svs, n, 0, d, h, e => by
    simp at e
    subst e
    unfold ioOk at h
    rw [Bool.and_eq_true] at h
    have : io = true := h.1
    subst this
    unfold ioP
    simp
  | io :: ios, sv :: svs, n, i + 1, d, h, e => by
    unfold ioOk at h
    rw [Bool.and_eq_true] at h
    have := ioP_mem (n := n + 1) (i := i) (d := d) h.2 (by simpa using e)
    unfold ioP
    rw [show n + (i + 1) = n + 1 + i by omega]
    cases io with
    | true => exact List.mem_cons_of_mem _ this
    | false => exact this
section
variable {K : PySem.W.Frag} {mg : Str → Option Value} {P : List Nat} {W : WX} {B : Bs} {F F' H H' : Hp} {ρ : List SV} {σ : L2.St} {τ τ' : List (SV × V)}
/-- the other slots are empty yet -/
theorem Cfg.pad {A0 : Addr → Prop} {F0 H0 : Hp} {svs : List SV} {vs : List V} (n : Nat) (c : Cfg K mg ⟨F0, H0, A0, []⟩ F svs (vs.map some) τ H) (hl : svs.length = vs.length) (hH : ∀ a o, H a = some o → H0 a = some o) :
    Cfg K mg ⟨F0, H0, A0, prOf svs vs 0⟩ F (svs ++ List.replicate (n - svs.length) .no) (vs.map some ++ List.replicate (n - vs.length) none) τ H := by
  have sub' : ∀ i p, ownS (svs ++ List.replicate (n - svs.length) .no) (vs.map some ++ List.replicate (n - vs.length) none) i p → ownS svs (vs.map some) i p := fun i p ⟨d, e1, e2⟩ => by
    by_cases h : i < svs.length
    · rw [List.getElem?_append_left h] at e1
      rw [List.getElem?_append_left (by rw [List.length_map, ← hl]; exact h)] at e2
      exact ⟨d, e1, e2⟩
    · rw [List.getElem?_append_right (by omega)] at e1
      have := List.mem_of_getElem? e1
      rw [List.mem_replicate] at this
      cases this.2
  exact { c with
    len := by simp [hl]
    gs := fun i sv e => by
      by_cases h : i < svs.length
      · rw [List.getElem?_append_left h] at e
        rw [List.getElem?_append_left (by rw [List.length_map, ← hl]; exact h)]
        exact c.gs i sv e
      · rw [List.getElem?_append_right (by omega)] at e
        have := List.mem_of_getElem? e
        rw [List.mem_replicate] at this
        rw [this.2]
        trivial
    s1 := fun i j p h1 h2 => c.s1 i j p (sub' i p h1) (sub' j p h2)
    s2 := fun i p h => c.s2 i p (sub' i p h)
    b3 := fun p h => c.b3 p (h.imp (fun ⟨i, h⟩ => ⟨i, sub' i p h⟩) id)
    pr := fun x hx => by
      obtain ⟨i, d, e1, e2, e3⟩ := of_prOf hx
      have hi : i < vs.length := (List.getElem?_eq_some_iff.mp e3).1
      rw [e1, Nat.zero_add, List.getElem?_append_left (by rw [List.length_map]; exact hi), List.getElem?_map, e3]
      rfl
    prH := fun x hx => by
      obtain ⟨i, d, e1, e2, e3⟩ := of_prOf hx
      have o : ownS svs (vs.map some) i x.2 := ⟨d, e2, by rw [List.getElem?_map, e3]; rfl⟩
      obtain ⟨_, _, ho, hh, _⟩ := c.ownS_at o
      exact ⟨ho, hH _ _ hh⟩ }
theorem Cfg.exit {F0 H0 : Hp} {A0 : Addr → Prop} {svs : List SV} {vs : List V} (c : Cfg K mg ⟨F0, H0, A0, prOf svs vs 0⟩ F' ρ σ τ H') (hl : svs.length = vs.length) (hv : ∀ (i : Nat) (d : D), svs[i]? = some (.own d) → ∃ p, vs[i]? = some (.ref p)) :
    Cfg K mg ⟨F0, H0, A0, []⟩ F' (pick svs ρ) (vs.map some) τ H' := by
  have at' : ∀ {i : Nat} {sv : SV}, (pick svs ρ)[i]? = some sv → sv ≠ .no → ∃ p, vs[i]? = some (.ref p) ∧ ρ[i]? = some sv ∧ σ[i]? = some (some (.ref p)) := fun {i sv} e hn => by
    rcases pick_get e with h | ⟨⟨d, h1⟩, h2⟩
    · exact absurd h hn
    · obtain ⟨p, hp⟩ := hv i d h1
      have := c.pr (0 + i, p) (mem_prOf h1 hp)
      rw [Nat.zero_add] at this
      exact ⟨p, hp, h2, this⟩
  have sub' : ∀ i p, ownS (pick svs ρ) (vs.map some) i p → ownS ρ σ i p := fun i p ⟨d, e1, e2⟩ => by
    obtain ⟨q, h1, h2, h3⟩ := at' e1 (by intro z; cases z)
    rw [List.getElem?_map, h1] at e2
    cases e2
    exact ⟨d, h2, h3⟩
  exact { c with
    len := by rw [pick_length, List.length_map]; exact hl
    gs := fun i sv e => by
      cases sv with
      | no => trivial
      | fz d =>
        obtain ⟨q, h1, h2, h3⟩ := at' e (by intro z; cases z)
        have g := c.gs i _ h2
        rw [h3] at g
        rw [List.getElem?_map, h1]
        exact g
      | own d =>
        obtain ⟨q, h1, h2, h3⟩ := at' e (by intro z; cases z)
        have g := c.gs i _ h2
        rw [h3] at g
        rw [List.getElem?_map, h1]
        exact g
    s1 := fun i j p h1 h2 => c.s1 i j p (sub' i p h1) (sub' j p h2)
    s2 := fun i p h => c.s2 i p (sub' i p h)
    b3 := fun p h => c.b3 p (h.imp (fun ⟨i, h⟩ => ⟨i, sub' i p h⟩) id)
    pr := fun x hx => by cases hx
    prH := fun x hx => by cases hx }
end
/-- THE DEF: its body's denotation is its promise -/
theorem fn_ok {PP : Program} {w : World} {K : PySem.W.Frag} {mg : Str → Option Value} {base : Heap} {x qual : Str} {st : Stmt} {f : Addr} {fd : FuncData} {N ps : List Str} {k : Nat} (io : List Bool) (s : DS)
    (Fn : Fun K x qual st f fd) (S : FnScope N ps (defScope st)) (hio : io.length = ps.length)
    (hbody : ∀ (cdv : Value) (A : Around) (outer : List Env) (sh : Shared) (H : Hp) (E : XK), Room k (A.deeper (envOfC qual (defScope st) sh.heap.objs.size f cdv)) →
      PDSs (cxOf (L2.CX PP w) PP w K mg base N qual (defScope st) f cdv A outer sh H E) (ioP io 0) (fun cls d _ H => E cls d H) (defBody st) s) :
    FnOk PP w K mg base (L2.CX PP w) (k + 1) f fd ps (spD K mg (mkF io N.length s)) := by
  refine Fn.okX S (fun vs H Q E h => ?_) (fun cdv A outer sh H vs Q E hr h => ?_)
  · obtain ⟨F, svs, h1, _⟩ := h
    exact h1.trans hio
  · obtain ⟨F, svs, h1, h2, hok, c, post⟩ := h
    obtain ⟨t, p1, p2⟩ := hbody cdv A outer sh H E hr
    refine ⟨t, p1, ?_⟩
    have own_at : ∀ (i : Nat) (d : D), svs[i]? = some (.own d) → ∃ p, vs[i]? = some (.ref p) := fun i d e => by
      obtain ⟨p, ho, e1, _⟩ := c.own_slot e
      rw [List.getElem?_map] at e1
      cases q : vs[i]? with
      | none => rw [q] at e1; cases e1
      | some v => rw [q] at e1; cases e1; exact ⟨p, rfl⟩
    have c0 := c.pad N.length h2 fun _ _ e => e
    have pr : PrOk ⟨F, H, ownT (svs.zip vs), prOf svs vs 0⟩ (ioP io 0) := fun y hy => by
      obtain ⟨i, d, e1, e2, e3⟩ := of_prOf hy
      rw [e1]
      exact ioP_mem hok e2
    refine p2.run _ F _ (L2.start N vs) [] H _ pr (by unfold L2.start; exact c0) ?_
    have post : PostF K mg F H svs vs Q E (match s (svs ++ List.replicate (N.length - svs.length) .no) with
      | .nx ρ => .ret (.fz .non) (pick svs ρ)
      | .rt sv ρ => .ret sv (pick svs ρ)
      | .ex c fs ρ => .ex c fs (pick svs ρ)
      | _ => .no) := post
    cases e : s (svs ++ List.replicate (N.length - svs.length) .no) with
    | nx ρ =>
      rw [e] at post
      intro F' σ' H' c'
      exact post (pick_length _ _) F' H' .non ((c'.exit h2 own_at).push .non)
    | rt sv ρ =>
      rw [e] at post
      intro F' σ' H' v c'
      exact post (pick_length _ _) F' H' v (c'.exit h2 own_at)
    | ex cc fs ρ =>
      rw [e] at post
      intro F' σ' H' cls dd c' ev
      exact post (pick_length _ _) F' H' cls dd (c'.exit h2 own_at) ev
    | bk ρ => rw [e] at post; exact post.elim
    | ct ρ => rw [e] at post; exact post.elim
    | no => rw [e] at post; exact post.elim
end PD
set_option Elab.async false
set_option linter.all false
set_option maxRecDepth 100000
set_option autoImplicit false
set_option maxHeartbeats 4000000
/-! PD: operators, comparisons, subscripts, built-ins by values. -/
namespace PD
open PySem PySem.Spec PyProof.Rows L2

section
variable {K : PySem.W.Frag} {mg : Str → Option Value}
/-- two rules for one operation -/
theorem OK2.or1 {r r' : R2} {f : D → D → Option RV} (h : OK2 K mg r f) : OK2 K mg (fun x y H Q => r x y H Q ∨ r' x y H Q) f := ⟨fun B F ρ σ τ H x y a b rv Q c ha hb e g => .inl (h.run B F ρ σ τ H x y a b rv Q c ha hb e g), h.nb⟩
/-- f where it says something, else g -/
def orD (f g : D → D → Option RV) : D → D → Option RV := fun a b => match f a b with
  | some r => some r
  | none => g a b
theorem OK2.orD {r r' : R2} {f g : D → D → Option RV} (h : OK2 K mg r f) (h' : OK2 K mg r' g) : OK2 K mg (fun x y H Q => r x y H Q ∨ r' x y H Q) (orD f g) := by
  refine ⟨fun B F ρ σ τ H x y a b rv Q c ha hb e gt => ?_, fun a b rv e => ?_⟩
  · unfold PD.orD at e
    cases q : f a b with
    | some r => rw [q] at e; cases e; exact .inl (h.run B F ρ σ τ H x y a b _ Q c ha hb q gt)
    | none => rw [q] at e; exact .inr (h'.run B F ρ σ τ H x y a b rv Q c ha hb e gt)
  · unfold PD.orD at e
    cases q : f a b with
    | some r => rw [q] at e; cases e; exact h.nb _ _ _ q
    | none => rw [q] at e; exact h'.nb _ _ _ e
/-! ### ints -/
def fI (C : Int → Int → Bool) (g : Int → Int → Int) : D → D → Option RV
  | .int i, .int j => if C i j then some (.fz (.int (g i j))) else none
  | _, _ => none
def fB (g : Int → Int → Bool) : D → D → Option RV
  | .int i, .int j => some (.fz (.bl (g i j)))
  | _, _ => none
theorem ok_fI {C : Int → Int → Prop} {Cb : Int → Int → Bool} {g : Int → Int → Int} (h : ∀ i j, Cb i j = true → C i j) : OK2 K mg (rI C fun i j => .int (g i j)) (fI Cb g) := by
  refine ⟨fun B F ρ σ τ H x y a b rv Q c ha hb e gt => ?_, fun a b rv e => ?_⟩
  · cases ha <;> cases hb <;> try (cases e; done)
    rename_i i j
    have e : (if Cb i j then some (RV.fz (.int (g i j))) else none) = some rv := e
    by_cases q : Cb i j = true
    · rw [if_pos q] at e; cases e
      exact ⟨i, j, rfl, rfl, h i j q, gt F H _ (c.push .int)⟩
    · rw [if_neg q] at e; cases e
  · cases a <;> cases b <;> try (cases e; done)
    rename_i i j
    have e : (if Cb i j then some (RV.fz (.int (g i j))) else none) = some rv := e
    by_cases q : Cb i j = true
    · rw [if_pos q] at e; cases e; rfl
    · rw [if_neg q] at e; cases e
def yes2 : Int → Int → Bool := fun _ _ => true
theorem ok_fI0 {g : Int → Int → Int} : OK2 K mg (rI0 fun i j => .int (g i j)) (fI yes2 g) := by
  refine ⟨fun B F ρ σ τ H x y a b rv Q c ha hb e gt => ?_, fun a b rv e => ?_⟩
  · cases ha <;> cases hb <;> try (cases e; done)
    rename_i i j
    cases e
    exact ⟨i, j, rfl, rfl, gt F H _ (c.push .int)⟩
  · cases a <;> cases b <;> (cases e <;> rfl)
theorem ok_fB {g : Int → Int → Bool} : OK2 K mg (rI0 fun i j => .bl (g i j)) (fB g) := by
  refine ⟨fun B F ρ σ τ H x y a b rv Q c ha hb e gt => ?_, fun a b rv e => ?_⟩
  · cases ha <;> cases hb <;> try (cases e; done)
    rename_i i j
    cases e
    exact ⟨i, j, rfl, rfl, gt F H _ (c.push .bl)⟩
  · cases a <;> cases b <;> (cases e <;> rfl)
def subD : D → D → Option RV := fI yes2 fun i j => i - j
def xorD : D → D → Option RV := fI yes2 fun i j => Builtin.bitXor i j
def modD : D → D → Option RV := fI (fun _ j => decide (j ≠ 0)) fun i j => i.fmod j
def fdivD : D → D → Option RV := fI (fun _ j => decide (j ≠ 0 ∧ j.natAbs < 2 ^ 64)) fun i j => i.fdiv j
def powD : D → D → Option RV := fI (fun i j => decide (0 ≤ j ∧ j ≤ 1000000 ∧ i.natAbs < 2 ^ 64)) fun i j => i ^ j.toNat
def mulI : D → D → Option RV := fI (fun i j => decide ((-(2 ^ 64) < i ∧ i < 2 ^ 64) ∨ (-(2 ^ 64) < j ∧ j < 2 ^ 64))) fun i j => i * j
def addI : D → D → Option RV := fI yes2 fun i j => i + j
def ltI : D → D → Option RV := fB fun i j => decide (i < j)
def leI : D → D → Option RV := fB fun i j => decide (i ≤ j)
def gtI : D → D → Option RV := fB fun i j => decide (j < i)
def geI : D → D → Option RV := fB fun i j => decide (j ≤ i)
theorem ok_sub : OK2 K mg (rI0 fun i j => .int (i - j)) subD := ok_fI0
theorem ok_xor : OK2 K mg (rI0 fun i j => .int (Builtin.bitXor i j)) xorD := ok_fI0
theorem ok_mod : OK2 K mg (rI (fun _ j => j ≠ 0) fun i j => .int (i.fmod j)) modD := ok_fI fun i j h => of_decide_eq_true h
def CDivL (_ j : Int) : Prop := j ≠ 0 ∧ j.natAbs < 2 ^ 64
theorem op_fdivL {X : Cx} : OpR X (binaryOp .FloorDiv) (rI CDivL fun i j => .int (i.fdiv j)) := opI fun _ j _ _ _ _ _ hc q =>
  floordiv_int hc.1 q (.inl (PyProof.noPylong_of_log2 (Nat.lt_trans ((Nat.log2_lt (by have := hc.1; omega)).2 hc.2) (by decide))))
theorem ok_fdiv : OK2 K mg (rI CDivL fun i j => .int (i.fdiv j)) fdivD := ok_fI fun i j h => show j ≠ 0 ∧ j.natAbs < 2 ^ 64 from of_decide_eq_true h
theorem ok_pow : OK2 K mg (rI CPow fun i j => .int (i ^ j.toNat)) powD := ok_fI fun i j h => show 0 ≤ j ∧ j ≤ 1000000 ∧ i.natAbs < 2 ^ 64 from of_decide_eq_true h
theorem ok_mulI : OK2 K mg (rI CMul fun i j => .int (i * j)) mulI := ok_fI fun i j h => show (-(2 ^ 64) < i ∧ i < 2 ^ 64) ∨ (-(2 ^ 64) < j ∧ j < 2 ^ 64) from of_decide_eq_true h
theorem ok_addI : OK2 K mg (rI0 fun i j => .int (i + j)) addI := ok_fI0
theorem ok_lt : OK2 K mg (rI0 fun i j => .bl (decide (i < j))) ltI := ok_fB
theorem ok_le : OK2 K mg (rI0 fun i j => .bl (decide (i ≤ j))) leI := ok_fB
theorem ok_gt : OK2 K mg (rI0 fun i j => .bl (decide (j < i))) gtI := ok_fB
theorem ok_ge : OK2 K mg (rI0 fun i j => .bl (decide (j ≤ i))) geI := ok_fB
def negD : D → Option RV
  | .int i => some (.fz (.int (-i)))
  | _ => none
theorem ok_neg : OK1 K mg (rU fun i => .int (-i)) negD := by
  refine ⟨fun B F ρ σ τ H x a rv Q c ha e gt => ?_, fun a rv e => ?_⟩
  · cases ha <;> try (cases e; done)
    cases e
    exact ⟨_, rfl, gt F H _ (c.push .int)⟩
  · cases a <;> (cases e <;> rfl)

/-! ### sequences put together -/
def okLen (n : Nat) : Bool := decide (n ≤ 1000000)
theorem okLen_line {n : Nat} (h : okLen n = true) : n ≤ sizeLine := line_of (of_decide_eq_true h)
def catL : D → D → Option RV
  | .lst xs, .lst ys => if okLen (xs.length + ys.length) then some (.own (.lst (xs ++ ys))) else none
  | _, _ => none
theorem if_some {α : Type} {c : Bool} {x y : α} (h : (if c = true then some x else none) = some y) : c = true ∧ x = y := by
  cases c with
  | true => exact ⟨rfl, Option.some.inj h⟩
  | false => cases h
theorem ok_catL : OK2 K mg rCat catL := by
  refine ⟨fun B F ρ σ τ H x y a b rv Q c ha hb e gt => ?_, fun a b rv e => ?_⟩
  · cases ha with
    | lst h1 r1 =>
      cases hb with
      | lst h2 r2 =>
        obtain ⟨hl, e⟩ := if_some e
        subst e
        refine ⟨_, _, _, _, rfl, rfl, h1, h2, by rw [← r1.length, ← r2.length]; exact okLen_line hl, fun p hp => gt _ _ _ (c.allocO hp (.lst (r1.append r2)))⟩
      | _ => cases e
    | _ => cases e
  · unfold catL at e
    split at e
    · obtain ⟨_, e⟩ := if_some e
      subst e; rfl
    · cases e
def catT : D → D → Option RV
  | .tup xs, .tup ys => if okLen (xs.length + ys.length) then some (.fz (.tup (xs ++ ys))) else none
  | _, _ => none
theorem DVs.nil_iff {F : Hp} {xs : List D} {vs : List V} (h : DVs K mg F xs vs) : xs = [] ↔ vs = [] := by cases h <;> simp
/-- v again, as it stood on the stack or in a slot -/
theorem ok_catT : OK2 K mg (rCatA K) catT := by
  refine ⟨fun B F ρ σ τ H x y a b rv Q c ha hb e gt => ?_, fun a b rv e => ?_⟩
  · cases ha with
    | tup h1 r1 =>
      cases hb with
      | tup h2 r2 =>
        obtain ⟨hl, e⟩ := if_some e
        subst e
        refine ⟨_, _, _, _, rfl, rfl, .of (c.sub _ _ h1), .of (c.sub _ _ h2), by rw [← r1.length, ← r2.length]; exact okLen_line hl, fun z => ?_, fun _ z => ?_, fun _ _ p hp => ?_⟩
        · have z' := r1.nil_iff.mpr z
          subst z'
          exact gt _ _ _ (c.push (.tup h2 r2))
        · have z' := r2.nil_iff.mpr z
          subst z'
          refine gt _ _ _ (c.push (.tup (vs := _) h1 ?_))
          rw [List.append_nil]; exact r1
        · obtain ⟨c', m⟩ := c.allocF (o := .tup _) hp
          exact gt _ _ _ (c'.push (.tup upd_same ((r1.append r2).mono m)))
      | _ => cases e
    | _ => cases e
  · unfold catT at e
    split at e
    · obtain ⟨_, e⟩ := if_some e
      subst e; rfl
    · cases e
def catS : D → D → Option RV
  | .str x, .str y => if okLen (x.length + y.length) then some (.fz (.str (x ++ y))) else none
  | _, _ => none
theorem ok_catS : OK2 K mg (fun x y H Q => ∃ i j, x = .str i ∧ y = .str j ∧ i.length + j.length ≤ sizeLine ∧ Q (.str (i ++ j)) H) catS := by
  refine ⟨fun B F ρ σ τ H x y a b rv Q c ha hb e gt => ?_, fun a b rv e => ?_⟩
  · cases ha with
    | str =>
      cases hb with
      | str =>
        obtain ⟨hl, e⟩ := if_some e
        subst e
        exact ⟨_, _, rfl, rfl, okLen_line hl, gt _ _ _ (c.push .str)⟩
      | _ => cases e
    | _ => cases e
  · unfold catS at e
    split at e
    · obtain ⟨_, e⟩ := if_some e
      subst e; rfl
    · cases e
def addD : D → D → Option RV := orD addI (orD catL (orD catT catS))
/-- xs * k -/
def repL : D → D → Option RV
  | .lst xs, .int k => if decide (-(2 ^ 63) ≤ k ∧ k < 2 ^ 63) && okLen (xs.length * k.toNat) then some (.own (.lst (List.replicate k.toNat xs).flatten)) else none
  | _, _ => none
theorem DVs.rep {F : Hp} {xs : List D} {vs : List V} (h : DVs K mg F xs vs) : ∀ k : Nat, DVs K mg F (List.replicate k xs).flatten (List.replicate k vs).flatten
  | 0 => .nil
  | k + 1 => by
    rw [List.replicate_succ, List.replicate_succ, List.flatten_cons, List.flatten_cons]
    exact h.append (h.rep k)
theorem ok_repL : OK2 K mg rRep repL := by
  refine ⟨fun B F ρ σ τ H x y a b rv Q c ha hb e gt => ?_, fun a b rv e => ?_⟩
  · cases ha with
    | lst h1 r1 =>
      cases hb with
      | int =>
        obtain ⟨hl, e⟩ := if_some e
        subst e
        rw [Bool.and_eq_true] at hl
        have hk := of_decide_eq_true hl.1
        exact ⟨_, _, _, rfl, rfl, h1, hk.1, hk.2, by rw [← r1.length]; exact okLen_line hl.2, fun p hp => gt _ _ _ (c.allocO hp (.lst (r1.rep _)))⟩
      | _ => cases e
    | _ => cases e
  · unfold repL at e
    split at e
    · obtain ⟨_, e⟩ := if_some e
      subst e; rfl
    · cases e
def mulD : D → D → Option RV := orD mulI repL

/-! ### == of data -/
mutual
def toPy : D → Option PyData
  | .non => some .none
  | .bl b => some (.bool b)
  | .int i => some (.int i)
  | .str x => some (.str x)
  | .tup xs => (toPys xs).map .tuple
  | .lst xs => (toPys xs).map .list
  | _ => none
def toPys : List D → Option (List PyData)
  | [] => some []
  | d :: ds => match toPy d, toPys ds with
    | some p, some ps => some (p :: ps)
    | _, _ => none
end
section
variable {F H : Hp}
mutual
theorem DV.dp {d : D} {v : V} {p : PyData} (h : DV K mg F d v) (e : toPy d = some p) : Dp K F v p := by
  cases h with
  | non => cases e; exact .non
  | bl => cases e; exact .bl _
  | int => cases e; exact .int _
  | str => cases e; exact .str _
  | tup s r =>
    unfold toPy at e
    rw [Option.map_eq_some_iff] at e
    obtain ⟨ps, e1, e2⟩ := e
    subst e2
    exact .tup (.of s) (DVs.dp r e1)
  | kt s r => cases e
  | lst s r =>
    unfold toPy at e
    rw [Option.map_eq_some_iff] at e
    obtain ⟨ps, e1, e2⟩ := e
    subst e2
    exact .lst (.of s) (DVs.dp r e1)
  | lk s r => cases e
  | dK s r => cases e
  | dT s r => cases e
  | ins s c r => cases e
  | ty => cases e
  | fn c k => cases e
theorem DVs.dp {ds : List D} {vs : List V} {ps : List PyData} (h : DVs K mg F ds vs) (e : toPys ds = some ps) : DpAll K F vs ps := by
  cases h with
  | nil => cases e; exact .nil
  | cons a r =>
    rename_i d v ds vs
    unfold toPys at e
    cases e1 : toPy d with
    | none => rw [e1] at e; cases e
    | some p =>
      cases e2 : toPys ds with
      | none => rw [e1, e2] at e; cases e
      | some ps' =>
        rw [e1, e2] at e
        cases e
        exact .cons (DV.dp a e1) (DVs.dp r e2)
end
end
def eqR (neg : Bool) : D → D → Option RV := fun a b => match toPy a, toPy b with
  | some p, some q => if SeqAt.shaped p && SeqAt.shaped q then some (.fz (.bl (if neg then !PyData.eqv p q else PyData.eqv p q))) else none
  | _, _ => none
def eqD : D → D → Option RV := eqR false
def neD : D → D → Option RV := eqR true
theorem eqR_some {neg : Bool} {a b : D} {rv : RV} (e : eqR neg a b = some rv) : ∃ p q, toPy a = some p ∧ toPy b = some q ∧ SeqAt.shaped p = true ∧ SeqAt.shaped q = true ∧ rv = .fz (.bl (if neg then !PyData.eqv p q else PyData.eqv p q)) := by
  unfold eqR at e
  cases e1 : toPy a with
  | none => rw [e1] at e; cases e
  | some p =>
    cases e2 : toPy b with
    | none => rw [e1, e2] at e; cases e
    | some q =>
      rw [e1, e2] at e
      obtain ⟨hl, e⟩ := if_some e
      rw [Bool.and_eq_true] at hl
      exact ⟨p, q, rfl, rfl, hl.1, hl.2, e.symm⟩
theorem ok_eq : OK2 K mg (rEqD K) eqD := by
  refine ⟨fun B F ρ σ τ H x y a b rv Q c ha hb e gt => ?_, fun a b rv e => ?_⟩
  · obtain ⟨p, q, e1, e2, s1, s2, rfl⟩ := eqR_some e
    exact ⟨p, q, (ha.dv c.sub).dp e1, (hb.dv c.sub).dp e2, s1, s2, gt _ _ _ (c.push .bl)⟩
  · obtain ⟨p, q, e1, e2, s1, s2, rfl⟩ := eqR_some e
    rfl
theorem ok_ne : OK2 K mg (rNeD K) neD := by
  refine ⟨fun B F ρ σ τ H x y a b rv Q c ha hb e gt => ?_, fun a b rv e => ?_⟩
  · obtain ⟨p, q, e1, e2, s1, s2, rfl⟩ := eqR_some e
    exact ⟨p, q, (ha.dv c.sub).dp e1, (hb.dv c.sub).dp e2, s1, s2, gt _ _ _ (c.push .bl)⟩
  · obtain ⟨p, q, e1, e2, s1, s2, rfl⟩ := eqR_some e
    rfl
/-- is None, is not None -/
def isN : D → D → Option RV := fun a b => match b with
  | .non => some (.fz (.bl (match a with | .non => true | _ => false)))
  | _ => none
def notN : D → D → Option RV := fun a b => match b with
  | .non => some (.fz (.bl (match a with | .non => false | _ => true)))
  | _ => none
theorem ok_isN : OK2 K mg (fun x y H Q => y = .non ∧ Q (.bl (decide (x = .non))) H) isN := by
  refine ⟨fun B F ρ σ τ H x y a b rv Q c ha hb e gt => ?_, fun a b rv e => ?_⟩
  · cases hb <;> try (cases e; done)
    refine ⟨rfl, ?_⟩
    cases ha <;> (cases e; refine gt _ _ _ (c.push ?_); exact .bl)
  · cases b <;> (cases e <;> rfl)
theorem ok_notN : OK2 K mg (fun x y H Q => y = .non ∧ Q (.bl (!decide (x = .non))) H) notN := by
  refine ⟨fun B F ρ σ τ H x y a b rv Q c ha hb e gt => ?_, fun a b rv e => ?_⟩
  · cases hb <;> try (cases e; done)
    refine ⟨rfl, ?_⟩
    cases ha <;> (cases e; refine gt _ _ _ (c.push ?_); exact .bl)
  · cases b <;> (cases e <;> rfl)
end
end PD
set_option Elab.async false
set_option linter.all false
set_option maxRecDepth 100000
set_option autoImplicit false
set_option maxHeartbeats 4000000
/-! PD: in, subscripts, slices, built-in calls. -/
namespace PD
open PySem PySem.Spec PyProof.Rows L2

/-! ### in -/
section
variable {X : Cx}
def rInT (K : PySem.W.Frag) (neg : Bool) : R2 := fun x y H Q => ∃ d ds, Dp K H x d ∧ Dp K H y (.tuple ds) ∧ SeqAt.shaped d = true ∧ SeqAt.shaped (.tuple ds) = true ∧ Q (.bl (if neg then !ds.any fun z => PyData.eqv z d else ds.any fun z => PyData.eqv z d)) H
theorem op_inT (hu : X.A.units + 65 < cLine) : OpR X (compareOp .In) (rInT X.K false) := by
  intro pins s σ H x y v u Q I rx ry h
  obtain ⟨d, ds, hd, he, sd, se, q⟩ := h
  obtain ⟨as, r1⟩ := Dp.reads I d x v hd rx
  obtain ⟨bs, r2⟩ := Dp.reads I (.tuple ds) y u he ry
  exact SeqAt.in_tuple_reads r2 r1 (SeqAt.canLay_of_shaped se) (SeqAt.canLay_of_shaped sd) (room_in_shaped sd hu) ⟨.bl _, H, I, rfl, q⟩
theorem op_notInT (hu : X.A.units + 65 < cLine) : OpR X (compareOp .NotIn) (rInT X.K true) := by
  intro pins s σ H x y v u Q I rx ry h
  obtain ⟨d, ds, hd, he, sd, se, q⟩ := h
  obtain ⟨as, r1⟩ := Dp.reads I d x v hd rx
  obtain ⟨bs, r2⟩ := Dp.reads I (.tuple ds) y u he ry
  exact SeqAt.notIn_tuple_reads r2 r1 (SeqAt.canLay_of_shaped se) (SeqAt.canLay_of_shaped sd) (room_in_shaped sd hu) ⟨.bl _, H, I, rfl, q⟩
end
def inR0 (neg : Bool) : D → D → Option RV := fun a b => match b with
  | .lst xs => match toPy a, toPys xs with
    | some p, some ps => if SeqAt.shaped p && SeqAt.shaped (.list ps) then some (.fz (.bl (if neg then !ps.any fun z => PyData.eqv z p else ps.any fun z => PyData.eqv z p))) else none
    | _, _ => none
  | .tup xs => match toPy a, toPys xs with
    | some p, some ps => if SeqAt.shaped p && SeqAt.shaped (.tuple ps) then some (.fz (.bl (if neg then !ps.any fun z => PyData.eqv z p else ps.any fun z => PyData.eqv z p))) else none
    | _, _ => none
  | .kt xs => match toPy a, toPys xs with
    | some p, some ps => if SeqAt.shaped p && SeqAt.shaped (.tuple ps) then some (.fz (.bl (if neg then !ps.any fun z => PyData.eqv z p else ps.any fun z => PyData.eqv z p))) else none
    | _, _ => none
  | _ => none
def inD : D → D → Option RV := inR0 false
def notInD : D → D → Option RV := inR0 true
section
variable {K : PySem.W.Frag} {mg : Str → Option Value}
def rInA (K : PySem.W.Frag) (neg : Bool) : R2 := fun x y H Q => (if neg then rNotInD K else rInD K) x y H Q ∨ rInT K neg x y H Q
theorem inR0_some {neg : Bool} {a b : D} {rv : RV} (e : inR0 neg a b = some rv) : ∃ xs p ps, toPy a = some p ∧ toPys xs = some ps ∧ SeqAt.shaped p = true ∧ rv = .fz (.bl (if neg then !ps.any fun z => PyData.eqv z p else ps.any fun z => PyData.eqv z p)) ∧
    ((b = .lst xs ∧ SeqAt.shaped (.list ps) = true) ∨ (b = .tup xs ∧ SeqAt.shaped (.tuple ps) = true) ∨ (b = .kt xs ∧ SeqAt.shaped (.tuple ps) = true)) := by
  unfold inR0 at e
  cases b with
  | lst xs =>
    simp only at e
    split at e
    · obtain ⟨hl, e⟩ := if_some e
      rw [Bool.and_eq_true] at hl
      exact ⟨xs, _, _, by assumption, by assumption, hl.1, e.symm, .inl ⟨rfl, hl.2⟩⟩
    · cases e
  | tup xs =>
    simp only at e
    split at e
    · obtain ⟨hl, e⟩ := if_some e
      rw [Bool.and_eq_true] at hl
      exact ⟨xs, _, _, by assumption, by assumption, hl.1, e.symm, .inr (.inl ⟨rfl, hl.2⟩)⟩
    · cases e
  | kt xs =>
    simp only at e
    split at e
    · obtain ⟨hl, e⟩ := if_some e
      rw [Bool.and_eq_true] at hl
      exact ⟨xs, _, _, by assumption, by assumption, hl.1, e.symm, .inr (.inr ⟨rfl, hl.2⟩)⟩
    · cases e
  | _ => cases e
theorem ok_inR {neg : Bool} : OK2 K mg (rInA K neg) (inR0 neg) := by
  refine ⟨fun B F ρ σ τ H x y a b rv Q c ha hb e gt => ?_, fun a b rv e => ?_⟩
  · obtain ⟨xs, p, ps, e1, e2, s1, rfl, h⟩ := inR0_some e
    have hd := (ha.dv c.sub).dp e1
    have fin := gt _ _ _ (c.push .bl)
    rcases h with ⟨rfl, s2⟩ | ⟨rfl, s2⟩ | ⟨rfl, s2⟩
    · cases hb with
      | lst h1 r1 =>
        have hy : Dp K H (.ref _) (.list ps) := .lst (.of h1) ((r1.mono c.sub).dp e2)
        cases neg with
        | true => exact .inl ⟨p, ps, hd, hy, s1, s2, fin⟩
        | false => exact .inl ⟨p, ps, hd, hy, s1, s2, fin⟩
    · cases hb with
      | tup h1 r1 => exact .inr ⟨p, ps, hd, .tup (.of (c.sub _ _ h1)) ((r1.mono c.sub).dp e2), s1, s2, fin⟩
    · cases hb with
      | kt h1 r1 => exact .inr ⟨p, ps, hd, .tup (sqT_mono c.sub h1) ((r1.mono c.sub).dp e2), s1, s2, fin⟩
  · obtain ⟨xs, p, ps, e1, e2, s1, rfl, h⟩ := inR0_some e
    rfl
theorem ok_in : OK2 K mg (rInA K false) inD := ok_inR
theorem ok_notIn : OK2 K mg (rInA K true) notInD := ok_inR
end
section
variable {X : Cx}
theorem op_in (hu : X.A.units + 65 < cLine) : OpR X (compareOp .In) (rInA X.K false) := OpR.or (op_inD hu) (op_inT hu)
theorem op_notIn (hu : X.A.units + 65 < cLine) : OpR X (compareOp .NotIn) (rInA X.K true) := OpR.or (op_notInD hu) (op_notInT hu)
end

/-! ### subscripts -/
def ixD : D → D → Option RV
  | .lst xs, .int i => (atI xs i).map .fz
  | .tup xs, .int i => (atI xs i).map .fz
  | .kt xs, .int i => (atI xs i).map .fz
  | .lk xs, .int i => (atI xs i).map .fz
  | .str z, .int i => if okLen z.length then (atI z.cps.toList i).map fun c => .fz (.str ⟨#[c]⟩) else none
  | _, _ => none
section
variable {K : PySem.W.Frag} {mg : Str → Option Value}
theorem DVs.atI {F : Hp} {xs : List D} {vs : List V} (h : DVs K mg F xs vs) {i : Int} {d : D} (e : L2.atI xs i = some d) : ∃ v, L2.atI vs i = some v ∧ DV K mg F d v := by
  unfold L2.atI at e ⊢
  rw [← h.length]
  cases q : ixN xs.length i with
  | none => rw [q] at e; cases e
  | some j =>
    rw [q] at e
    exact h.get e
theorem ok_ix : OK2 K mg (rIx K) ixD := by
  refine ⟨fun B F ρ σ τ H x y a b rv Q c ha hb e gt => ?_, fun a b rv e => ?_⟩
  · cases hb with
    | int =>
      rename_i i
      cases ha with
      | lst h1 r1 =>
        obtain ⟨d, e1, e2⟩ := Option.map_eq_some_iff.mp e
        subst e2
        obtain ⟨v, hv, hr⟩ := r1.atI e1
        exact .inl ⟨_, _, _, _, rfl, rfl, .of h1, hv, gt _ _ _ (c.push hr)⟩
      | tup h1 r1 =>
        obtain ⟨d, e1, e2⟩ := Option.map_eq_some_iff.mp e
        subst e2
        obtain ⟨v, hv, hr⟩ := r1.atI e1
        exact .inr (.inl ⟨_, _, _, _, rfl, rfl, .of (c.sub _ _ h1), hv, gt _ _ _ (c.push hr)⟩)
      | kt h1 r1 =>
        obtain ⟨d, e1, e2⟩ := Option.map_eq_some_iff.mp e
        subst e2
        obtain ⟨v, hv, hr⟩ := r1.atI e1
        exact .inr (.inl ⟨_, _, _, _, rfl, rfl, sqT_mono c.sub h1, hv, gt _ _ _ (c.push hr)⟩)
      | lk h1 r1 =>
        obtain ⟨d, e1, e2⟩ := Option.map_eq_some_iff.mp e
        subst e2
        obtain ⟨v, hv, hr⟩ := r1.atI e1
        exact .inl ⟨_, _, _, _, rfl, rfl, h1, hv, gt _ _ _ (c.push hr)⟩
      | str =>
        rename_i z
        have e : (if okLen z.length = true then (L2.atI z.cps.toList i).map fun c => RV.fz (.str ⟨#[c]⟩) else none) = some rv := e
        by_cases hl : okLen z.length = true
        · rw [if_pos hl] at e
          obtain ⟨d, e1, e2⟩ := Option.map_eq_some_iff.mp e
          subst e2
          exact .inr (.inr ⟨z, i, d, rfl, rfl, okLen_line hl, e1, gt _ _ _ (c.push .str)⟩)
        · rw [if_neg hl] at e; cases e
      | _ => cases e
    | _ => cases ha <;> cases e
  · have key : ∀ {α : Type} {o : Option α} {g : α → D}, o.map (fun x => RV.fz (g x)) = some rv → isBor rv = false := fun {α o g} e => by
      obtain ⟨d, _, rfl⟩ := Option.map_eq_some_iff.mp e
      rfl
    unfold ixD at e
    split at e
    · exact key e
    · exact key e
    · exact key e
    · exact key e
    · split at e
      · exact key e
      · cases e
    · cases e

/-! ### slices -/
abbrev DO := List SV → R (Option Int)
def dNoPart : DO := fun ρ => .ok none ρ
def dPart (e : DE) : DO := fun ρ => (e ρ).bind fun x ρ1 => match x with
  | .fz (.int i) => .ok (some i) ρ1
  | _ => .no
section
variable (K : PySem.W.Frag) (mg : Str → Option Value)
def PostO (W : WX) (B : Bs) (σ : L2.St) (τ : List (SV × V)) (Q : Option Int → Hp → Prop) : R (Option Int) → Prop
  | .ok b ρ => ∀ F H, Cfg K mg B F ρ σ τ H → Q b H
  | .ex c fs ρ => ∀ F H cls dd, Cfg K mg B F ρ σ τ H → EV K mg F c fs cls dd → W cls dd σ H
  | .no => False
structure SO (P : List Nat) (W : WX) (t : TO) (e : DO) : Prop where
  run : ∀ (B : Bs) (F : Hp) (ρ : List SV) (σ : L2.St) (τ : List (SV × V)) (H : Hp) (Q : Option Int → Hp → Prop), PrOk B P → Cfg K mg B F ρ σ τ H → PostO K mg W B σ τ Q (e ρ) → t σ H Q
end
def PDO (X : Cx) (P : List Nat) (W : WX) (e : Option Expr) (τ : DO) : Prop := ∃ t, PO X e t ∧ SO X.K X.mg P W t τ
variable {P : List Nat} {W : WX}
theorem so_none : SO K mg P W tNoPart dNoPart := ⟨fun B F ρ σ τ H Q pr c hp => hp F H c⟩
theorem so_some {t : TE} {e : DE} (h : SE K mg P W t e) : SO K mg P W (tPart t) (dPart e) := by
  refine ⟨fun B F ρ σ τ H Q pr c hp => ?_⟩
  refine h.bind (Post := PostO K mg W B σ τ Q) pr c hp (fun _ _ _ h => h) id fun x ρ1 F1 H1 vx c1 b1 hp1 => ?_
  cases x with
  | fz d =>
    cases d with
    | int i =>
      have r := c1.top
      cases r
      exact ⟨i, rfl, hp1 _ _ c1.pop⟩
    | _ => exact hp1.elim
  | _ => exact hp1.elim
theorem SO.bind {B : Bs} {F : Hp} {ρ : List SV} {σ : L2.St} {τ : List (SV × V)} {H : Hp} {α : Type} {t : TO} {a : DO} (ha : SO K mg P W t a) (pr : PrOk B P) (c : Cfg K mg B F ρ σ τ H) {f : Option Int → List SV → R α} {Post : R α → Prop} {Q : Option Int → Hp → Prop}
    (hp : Post ((a ρ).bind f)) (hex : ∀ c fs ρ', Post (.ex c fs ρ') → ∀ F' H' cls dd, Cfg K mg B F' ρ' σ τ H' → EV K mg F' c fs cls dd → W cls dd σ H') (hno : ¬ Post .no)
    (hok : ∀ b ρ' F' H', Cfg K mg B F' ρ' σ τ H' → Post (f b ρ') → Q b H') : t σ H Q := by
  refine ha.run B F ρ σ τ H Q pr c ?_
  cases e : a ρ with
  | ok rv ρ' => rw [e] at hp; exact fun F' H' c' => hok rv ρ' F' H' c' hp
  | ex cc fs ρ' => rw [e] at hp; exact hex cc fs ρ' hp
  | no => rw [e] at hp; exact (hno hp).elim
/-- a slice by values -/
structure OKs (K : PySem.W.Frag) (mg : Str → Option Value) (r : V → Option Int → Option Int → Hp → VK → Prop) (f : D → Option Int → Option Int → Option RV) : Prop where
  run : ∀ (B : Bs) (F : Hp) (ρ : List SV) (σ : L2.St) (τ : List (SV × V)) (H : Hp) (x : V) (a : D) (lo hi : Option Int) (rv : RV) (Q : VK), Cfg K mg B F ρ σ τ H → TV K mg F H a x → f a lo hi = some rv → Got K mg B ρ σ τ rv Q → r x lo hi H Q
  nb : ∀ a lo hi rv, f a lo hi = some rv → isBor rv = false
def dSl (f : D → Option Int → Option Int → Option RV) (e : DE) (lo hi : DO) : DE := fun ρ => (e ρ).bind fun x ρ1 => (lo ρ1).bind fun l ρ2 => (hi ρ2).bind fun u ρ3 => match rd ρ3 x with
  | some d => match f d l u with
    | some rv => .ok rv ρ3
    | none => .no
  | none => .no
theorem se_sl {r : V → Option Int → Option Int → Hp → VK → Prop} {f : D → Option Int → Option Int → Option RV} {te : TE} {tl th : TO} {e : DE} {lo hi : DO} (ok : OKs K mg r f) (he : SE K mg P W te e) (hl : SO K mg P W tl lo) (hh : SO K mg P W th hi) :
    SE K mg P W (tSl r te tl th) (dSl f e lo hi) := by
  refine ⟨fun B F ρ σ τ H Q pr c hp => ?_⟩
  refine he.bind pr c hp (fun _ _ _ h => h) id fun x ρ1 F1 H1 vx c1 b1 hp1 => ?_
  refine hl.bind pr c1 (Post := PostE K mg W B σ τ Q) hp1 (fun cc fs ρ' h F' H' cls dd c' ev => h F' H' cls dd c'.pop ev) id fun l ρ2 F2 H2 c2 hp2 => ?_
  refine hh.bind pr c2 (Post := PostE K mg W B σ τ Q) hp2 (fun cc fs ρ' h F' H' cls dd c' ev => h F' H' cls dd c'.pop ev) id fun u ρ3 F3 H3 c3 hp3 => ?_
  cases e1 : rd ρ3 x with
  | none => rw [e1] at hp3; exact hp3.elim
  | some d =>
    rw [e1] at hp3
    cases e3 : f d l u with
    | none => simp only [e3] at hp3; exact hp3.elim
    | some rv =>
      simp only [e3] at hp3
      exact ok.run B F3 ρ3 σ τ H3 vx d l u rv Q c3.pop (c3.read List.mem_cons_self b1 e1) e3 fun F' H' v c' => hp3 F' H' v c' (rvb_nb (ok.nb _ _ _ _ e3) v)
def cutD (xs : List D) (lo hi : Option Int) : List D := (xs.drop (HT.sIx xs.length 0 lo)).take (HT.sIx xs.length xs.length hi - HT.sIx xs.length 0 lo)
theorem DVs.cut {F : Hp} {xs : List D} {vs : List V} (h : DVs K mg F xs vs) (lo hi : Option Int) : DVs K mg F (cutD xs lo hi) (cutV vs lo hi) := by
  unfold cutD cutV
  rw [h.length]
  exact (h.drop _).take _
def slD : D → Option Int → Option Int → Option RV
  | .lst xs, lo, hi => some (.own (.lst (cutD xs lo hi)))
  | .lk xs, lo, hi => some (.own (.lst (cutD xs lo hi)))
  | .tup xs, lo, hi => some (.fz (.tup (cutD xs lo hi)))
  | _, _, _ => none
theorem ok_sl : OKs K mg (fun x lo hi H Q => rSlL K x lo hi H Q ∨ rSlA K x lo hi H Q) slD := by
  refine ⟨fun B F ρ σ τ H x a lo hi rv Q c ha e gt => ?_, fun a lo hi rv e => ?_⟩
  · cases ha with
    | lst h1 r1 =>
      cases e
      exact .inl ⟨_, _, rfl, .of h1, fun p hp => gt _ _ _ (c.allocO hp (.lst (r1.cut lo hi)))⟩
    | lk h1 r1 =>
      cases e
      exact .inl ⟨_, _, rfl, h1, fun p hp => gt _ _ _ (c.allocO hp (.lst (r1.cut lo hi)))⟩
    | @tup a ys vs h1 r1 =>
      cases e
      refine .inr ⟨_, _, rfl, .of (c.sub _ _ h1), fun z => ?_, fun _ p hp => ?_⟩
      · have e : cutD ys lo hi = ys := by
          have z1 := z.1
          have z2 := z.2
          rw [← r1.length] at z1 z2
          unfold cutD
          rw [z1, z2, List.drop_zero, Nat.sub_zero, List.take_length]
        rw [e] at gt
        exact gt _ _ _ (c.push (.tup h1 r1))
      · obtain ⟨c', m⟩ := c.allocF (o := .tup _) hp
        exact gt _ _ _ (c'.push (.tup upd_same ((r1.cut lo hi).mono m)))
    | _ => cases e
  · unfold slD at e
    split at e <;> (cases e <;> rfl)
end
section
variable {X : Cx} {P : List Nat} {W : WX} {pos p2 : Pos} {e : Expr} {a : DE}
theorem d_oNone : PDO X P W none dNoPart := ⟨_, po_none, so_none⟩
theorem d_oSome (h : PD X P W e a) : PDO X P W (some e) (dPart a) := by
  obtain ⟨t, h1, h2⟩ := h
  exact ⟨_, po_some h1, so_some h2⟩
theorem d_sl {lo hi : Option Expr} {l u : DO} (h : PD X P W e a) (h1 : PDO X P W lo l) (h2 : PDO X P W hi u) : PD X P W (.Subscript e (.Slice lo hi none p2) pos) (dSl slD a l u) := by
  obtain ⟨t, p1, p2⟩ := h
  obtain ⟨t1, q1, q2⟩ := h1
  obtain ⟨t2, r1, r2⟩ := h2
  exact ⟨_, pe_slice (sl_list.or sl_tupA) p1 q1 r1, se_sl ok_sl p2 q2 r2⟩
/-- xs[::-1] of a list -/
def revD : D → Option RV
  | .lst xs => some (.own (.lst xs.reverse))
  | _ => none
theorem d_revL {k : Nat} {p1 p3 p4 : Pos} (h : PD X P W e a) : PD X P W (.Subscript e (.Slice none none (some (.UnaryOp .USub (.Constant (.int 1) k p1) p3)) p4) pos) (dOp1 revD a) := by
  obtain ⟨t, h1, h2⟩ := h
  refine ⟨_, pe_revL h1, ⟨fun B F ρ σ τ H Q pr c hp => ?_⟩⟩
  refine h2.bind pr c hp (fun _ _ _ h => h) id fun x ρ1 F1 H1 vx c1 b1 hp1 => ?_
  cases e1 : rd ρ1 x with
  | none => rw [e1] at hp1; exact hp1.elim
  | some dx =>
    rw [e1] at hp1
    have r := c1.read List.mem_cons_self b1 e1
    cases r with
    | lst h1 r1 => exact ⟨_, _, rfl, .of h1, fun p hp => hp1 _ _ _ (c1.pop.allocO hp (.lst r1.reverse)) trivial⟩
    | _ => exact hp1.elim
end

/-! ### calls -/
section
variable {K : PySem.W.Frag} {mg : Str → Option Value}
theorem TVs.inv1 {F H : Hp} {a : D} {xs : List V} (h : TVs K mg F H [a] xs) : ∃ x, xs = [x] ∧ TV K mg F H a x := by
  cases h with
  | cons h r => cases r; exact ⟨_, rfl, h⟩
theorem TVs.inv2 {F H : Hp} {a b : D} {xs : List V} (h : TVs K mg F H [a, b] xs) : ∃ x y, xs = [x, y] ∧ TV K mg F H a x ∧ TV K mg F H b y := by
  cases h with
  | cons h r =>
    obtain ⟨y, rfl, h2⟩ := r.inv1
    exact ⟨_, y, rfl, h, h2⟩
theorem TVs.inv3 {F H : Hp} {a b d : D} {xs : List V} (h : TVs K mg F H [a, b, d] xs) : ∃ x y z, xs = [x, y, z] ∧ TV K mg F H a x ∧ TV K mg F H b y ∧ TV K mg F H d z := by
  cases h with
  | cons h r =>
    obtain ⟨y, z, rfl, h2⟩ := r.inv2
    exact ⟨_, y, z, rfl, h, h2⟩
def lenD : List D → Option RV
  | [.lst xs] => some (.fz (.int xs.length))
  | [.tup xs] => some (.fz (.int xs.length))
  | [.kt xs] => some (.fz (.int xs.length))
  | [.lk xs] => some (.fz (.int xs.length))
  | [.str x] => if okLen x.length then some (.fz (.int x.length)) else none
  | _ => none
theorem ok_len : OKn K mg (fun xs H Q => ∃ x n, xs = [x] ∧ LenV K x H n ∧ Q (.int n) H) lenD := by
  refine ⟨fun B F ρ σ τ H xs as rv Q c ha e gt => ?_, fun as rv e => ?_⟩
  · match as, ha, e with
    | [.lst ys], ha, e =>
      cases e
      obtain ⟨x, rfl, h⟩ := ha.inv1
      cases h with
      | lst h1 r1 => exact ⟨_, _, rfl, .inl ⟨_, .of h1, rfl⟩, by rw [← r1.length]; exact gt _ _ _ (c.push .int)⟩
    | [.tup ys], ha, e =>
      cases e
      obtain ⟨x, rfl, h⟩ := ha.inv1
      cases h with
      | tup h1 r1 => exact ⟨_, _, rfl, .inr ⟨_, .of (c.sub _ _ h1), rfl⟩, by rw [← r1.length]; exact gt _ _ _ (c.push .int)⟩
    | [.kt ys], ha, e =>
      cases e
      obtain ⟨x, rfl, h⟩ := ha.inv1
      cases h with
      | kt h1 r1 => exact ⟨_, _, rfl, .inr ⟨_, sqT_mono c.sub h1, rfl⟩, by rw [← r1.length]; exact gt _ _ _ (c.push .int)⟩
    | [.lk ys], ha, e =>
      cases e
      obtain ⟨x, rfl, h⟩ := ha.inv1
      cases h with
      | lk h1 r1 => exact ⟨_, _, rfl, .inl ⟨_, h1, rfl⟩, by rw [← r1.length]; exact gt _ _ _ (c.push .int)⟩
    | [.str z], ha, e =>
      obtain ⟨hl, e⟩ := if_some e
      subst e
      obtain ⟨x, rfl, h⟩ := ha.inv1
      cases h with
      | str => exact ⟨_, _, rfl, ⟨okLen_line hl, rfl⟩, gt _ _ _ (c.push .int)⟩
  · unfold lenD at e
    split at e <;> first | (cases e; rfl) | (cases e; done) | (obtain ⟨_, e⟩ := if_some e; subst e; rfl)
def absD : List D → Option RV
  | [.int i] => some (.fz (.int (if i < 0 then -i else i)))
  | _ => none
theorem ok_abs : OKn K mg (fun xs H Q => ∃ i, xs = [.int i] ∧ Q (.int (if i < 0 then -i else i)) H) absD := by
  refine ⟨fun B F ρ σ τ H xs as rv Q c ha e gt => ?_, fun as rv e => ?_⟩
  · match as, ha, e with
    | [.int i], ha, e =>
      cases e
      obtain ⟨x, rfl, h⟩ := ha.inv1
      cases h
      exact ⟨i, rfl, gt _ _ _ (c.push .int)⟩
  · unfold absD at e
    split at e <;> (cases e <;> rfl)
def max2D : List D → Option RV
  | [.int i, .int j] => some (.fz (.int (if j > i then j else i)))
  | _ => none
def min2D : List D → Option RV
  | [.int i, .int j] => some (.fz (.int (if j < i then j else i)))
  | _ => none
theorem ok_max2 : OKn K mg (fun xs H Q => ∃ i j, xs = [.int i, .int j] ∧ Q (.int (if j > i then j else i)) H) max2D := by
  refine ⟨fun B F ρ σ τ H xs as rv Q c ha e gt => ?_, fun as rv e => ?_⟩
  · match as, ha, e with
    | [.int i, .int j], ha, e =>
      cases e
      obtain ⟨x, y, rfl, h, h'⟩ := ha.inv2
      cases h
      cases h'
      exact ⟨i, j, rfl, gt _ _ _ (c.push .int)⟩
  · unfold max2D at e
    split at e <;> (cases e <;> rfl)
theorem ok_min2 : OKn K mg (fun xs H Q => ∃ i j, xs = [.int i, .int j] ∧ Q (.int (if j < i then j else i)) H) min2D := by
  refine ⟨fun B F ρ σ τ H xs as rv Q c ha e gt => ?_, fun as rv e => ?_⟩
  · match as, ha, e with
    | [.int i, .int j], ha, e =>
      cases e
      obtain ⟨x, y, rfl, h, h'⟩ := ha.inv2
      cases h
      cases h'
      exact ⟨i, j, rfl, gt _ _ _ (c.push .int)⟩
  · unfold min2D at e
    split at e <;> (cases e <;> rfl)
def intD : List D → Option RV
  | [.int i] => some (.fz (.int i))
  | [.bl b] => some (.fz (.int (if b then 1 else 0)))
  | _ => none
theorem ok_int : OKn K mg (fun xs H Q => (∃ i, xs = [.int i] ∧ Q (.int i) H) ∨ ∃ k, xs = [.bl k] ∧ Q (.int (if k then 1 else 0)) H) intD := by
  refine ⟨fun B F ρ σ τ H xs as rv Q c ha e gt => ?_, fun as rv e => ?_⟩
  · match as, ha, e with
    | [.int i], ha, e =>
      cases e
      obtain ⟨x, rfl, h⟩ := ha.inv1
      cases h
      exact .inl ⟨i, rfl, gt _ _ _ (c.push .int)⟩
    | [.bl b], ha, e =>
      cases e
      obtain ⟨x, rfl, h⟩ := ha.inv1
      cases h
      exact .inr ⟨b, rfl, gt _ _ _ (c.push .int)⟩
  · unfold intD at e
    split at e <;> (cases e <;> rfl)
/-- ints out of data -/
def asInts : List D → Option (List Int)
  | [] => some []
  | .int i :: r => (asInts r).map (i :: ·)
  | _ => none
theorem asInts_eq : ∀ {xs : List D} {ns : List Int}, asInts xs = some ns → xs = ns.map .int
  | [], _, e => by cases e; rfl
  | .int i :: r, ns, e => by
    obtain ⟨ms, e1, rfl⟩ := Option.map_eq_some_iff.mp e
    rw [List.map_cons, asInts_eq e1]
theorem DVs.ints {F : Hp} : ∀ {ns : List Int} {vs : List V}, DVs K mg F (ns.map .int) vs → vs = ns.map V.int
  | [], _, .nil => rfl
  | n :: ns, _, .cons h r => by
    cases h
    rw [List.map_cons, DVs.ints r]
theorem DVs.of_ints {F : Hp} : ∀ ns : List Int, DVs K mg F (ns.map .int) (ns.map V.int)
  | [] => .nil
  | n :: ns => .cons .int (DVs.of_ints ns)
def asBls : List D → Option (List Bool)
  | [] => some []
  | .bl i :: r => (asBls r).map (i :: ·)
  | _ => none
theorem asBls_eq : ∀ {xs : List D} {ns : List Bool}, asBls xs = some ns → xs = ns.map .bl
  | [], _, e => by cases e; rfl
  | .bl i :: r, ns, e => by
    obtain ⟨ms, e1, rfl⟩ := Option.map_eq_some_iff.mp e
    rw [List.map_cons, asBls_eq e1]
theorem DVs.bls {F : Hp} : ∀ {ns : List Bool} {vs : List V}, DVs K mg F (ns.map .bl) vs → vs = ns.map V.bl
  | [], _, .nil => rfl
  | n :: ns, _, .cons h r => by
    cases h
    rw [List.map_cons, DVs.bls r]
def sumD : List D → Option RV
  | [.lst xs] => (asInts xs).map fun ns => .fz (.int ns.sum)
  | _ => none
theorem ok_sum : OKn K mg (rSum K) sumD := by
  refine ⟨fun B F ρ σ τ H xs as rv Q c ha e gt => ?_, fun as rv e => ?_⟩
  · match as, ha, e with
    | [.lst ys], ha, e =>
      obtain ⟨ns, e1, rfl⟩ := Option.map_eq_some_iff.mp e
      have e2 := asInts_eq e1
      subst e2
      obtain ⟨x, rfl, h⟩ := ha.inv1
      cases h with
      | lst h1 r1 =>
        have e3 := r1.ints
        subst e3
        exact ⟨_, ns, rfl, .of h1, gt _ _ _ (c.push .int)⟩
  · unfold sumD at e
    split at e
    · obtain ⟨_, _, rfl⟩ := Option.map_eq_some_iff.mp e; rfl
    · cases e
def allD : List D → Option RV
  | [.lst xs] => (asBls xs).map fun ns => .fz (.bl (ns.all id))
  | _ => none
def anyD : List D → Option RV
  | [.lst xs] => (asBls xs).map fun ns => .fz (.bl (ns.any id))
  | _ => none
theorem ok_all : OKn K mg (rAll K) allD := by
  refine ⟨fun B F ρ σ τ H xs as rv Q c ha e gt => ?_, fun as rv e => ?_⟩
  · match as, ha, e with
    | [.lst ys], ha, e =>
      obtain ⟨ns, e1, rfl⟩ := Option.map_eq_some_iff.mp e
      have e2 := asBls_eq e1
      subst e2
      obtain ⟨x, rfl, h⟩ := ha.inv1
      cases h with
      | lst h1 r1 =>
        have e3 := r1.bls
        subst e3
        exact ⟨_, ns, rfl, .of h1, gt _ _ _ (c.push .bl)⟩
  · unfold allD at e
    split at e
    · obtain ⟨_, _, rfl⟩ := Option.map_eq_some_iff.mp e; rfl
    · cases e
theorem ok_any : OKn K mg (rAny K) anyD := by
  refine ⟨fun B F ρ σ τ H xs as rv Q c ha e gt => ?_, fun as rv e => ?_⟩
  · match as, ha, e with
    | [.lst ys], ha, e =>
      obtain ⟨ns, e1, rfl⟩ := Option.map_eq_some_iff.mp e
      have e2 := asBls_eq e1
      subst e2
      obtain ⟨x, rfl, h⟩ := ha.inv1
      cases h with
      | lst h1 r1 =>
        have e3 := r1.bls
        subst e3
        exact ⟨_, ns, rfl, .of h1, gt _ _ _ (c.push .bl)⟩
  · unfold anyD at e
    split at e
    · obtain ⟨_, _, rfl⟩ := Option.map_eq_some_iff.mp e; rfl
    · cases e
/-- the greatest, the least of ints -/
def maxI : List Int → Int
  | [] => 0
  | [n] => n
  | n :: r => max n (maxI r)
def minI : List Int → Int
  | [] => 0
  | [n] => n
  | n :: r => min n (minI r)
theorem maxI_mem : ∀ {ns : List Int}, ns ≠ [] → maxI ns ∈ ns ∧ ∀ y ∈ ns, y ≤ maxI ns
  | [], h => absurd rfl h
  | [n], _ => ⟨by simp [maxI], by simp [maxI]⟩
  | n :: m :: r, _ => by
    obtain ⟨h1, h2⟩ := maxI_mem (ns := m :: r) (by simp)
    have e : maxI (n :: m :: r) = max n (maxI (m :: r)) := rfl
    rw [e]
    refine ⟨?_, fun y hy => ?_⟩
    · rcases Int.le_total n (maxI (m :: r)) with h | h
      · rw [Int.max_eq_right h]; exact List.mem_cons_of_mem _ h1
      · rw [Int.max_eq_left h]; exact List.mem_cons_self
    · rcases List.mem_cons.mp hy with rfl | hy
      · exact Int.le_max_left _ _
      · exact Int.le_trans (h2 y hy) (Int.le_max_right _ _)
theorem minI_mem : ∀ {ns : List Int}, ns ≠ [] → minI ns ∈ ns ∧ ∀ y ∈ ns, minI ns ≤ y
  | [], h => absurd rfl h
  | [n], _ => ⟨by simp [minI], by simp [minI]⟩
  | n :: m :: r, _ => by
    obtain ⟨h1, h2⟩ := minI_mem (ns := m :: r) (by simp)
    have e : minI (n :: m :: r) = min n (minI (m :: r)) := rfl
    rw [e]
    refine ⟨?_, fun y hy => ?_⟩
    · rcases Int.le_total n (minI (m :: r)) with h | h
      · rw [Int.min_eq_left h]; exact List.mem_cons_self
      · rw [Int.min_eq_right h]; exact List.mem_cons_of_mem _ h1
    · rcases List.mem_cons.mp hy with rfl | hy
      · exact Int.min_le_left _ _
      · exact Int.le_trans (Int.min_le_right _ _) (h2 y hy)
def max1D : List D → Option RV
  | [.lst xs] => match asInts xs with
    | some (n :: r) => some (.fz (.int (maxI (n :: r))))
    | _ => none
  | _ => none
def min1D : List D → Option RV
  | [.lst xs] => match asInts xs with
    | some (n :: r) => some (.fz (.int (minI (n :: r))))
    | _ => none
  | _ => none
theorem ok_max1 : OKn K mg (rMax K) max1D := by
  refine ⟨fun B F ρ σ τ H xs as rv Q c ha e gt => ?_, fun as rv e => ?_⟩
  · match as, ha, e with
    | [.lst ys], ha, e =>
      have e : (match asInts ys with | some (n :: r) => some (RV.fz (.int (maxI (n :: r)))) | _ => none) = some rv := e
      split at e
      · rename_i n r e1
        cases e
        have e2 := asInts_eq e1
        subst e2
        obtain ⟨x, rfl, h⟩ := ha.inv1
        cases h with
        | lst h1 r1 =>
          have e3 := r1.ints
          subst e3
          refine ⟨_, _, rfl, .of h1, by simp, fun m hm hy => ?_⟩
          obtain ⟨g1, g2⟩ := maxI_mem (ns := n :: r) (by simp)
          have : m = maxI (n :: r) := Int.le_antisymm (g2 m hm) (hy _ g1)
          rw [this]
          exact gt _ _ _ (c.push .int)
      · cases e
  · unfold max1D at e
    split at e
    · split at e <;> (cases e <;> rfl)
    · cases e
theorem ok_min1 : OKn K mg (rMin K) min1D := by
  refine ⟨fun B F ρ σ τ H xs as rv Q c ha e gt => ?_, fun as rv e => ?_⟩
  · match as, ha, e with
    | [.lst ys], ha, e =>
      have e : (match asInts ys with | some (n :: r) => some (RV.fz (.int (minI (n :: r)))) | _ => none) = some rv := e
      split at e
      · rename_i n r e1
        cases e
        have e2 := asInts_eq e1
        subst e2
        obtain ⟨x, rfl, h⟩ := ha.inv1
        cases h with
        | lst h1 r1 =>
          have e3 := r1.ints
          subst e3
          refine ⟨_, _, rfl, .of h1, by simp, fun m hm hy => ?_⟩
          obtain ⟨g1, g2⟩ := minI_mem (ns := n :: r) (by simp)
          have : m = minI (n :: r) := Int.le_antisymm (hy _ g1) (g2 m hm)
          rw [this]
          exact gt _ _ _ (c.push .int)
      · cases e
  · unfold min1D at e
    split at e
    · split at e <;> (cases e <;> rfl)
    · cases e
/-- tuple(xs), list(xs) -/
def tupleD : List D → Option RV
  | [.lst xs] => some (.fz (.tup xs))
  | [.tup xs] => some (.fz (.tup xs))
  | _ => none
theorem ok_tuple : OKn K mg (fun xs H Q => ∃ p ys, xs = [.ref p] ∧ ((SqL K H p ys ∧ ∀ l, H l = none → Q (.ref l) (upd H l (.tup ys))) ∨ (SqT K H p ys ∧ Q (.ref p) H))) tupleD := by
  refine ⟨fun B F ρ σ τ H xs as rv Q c ha e gt => ?_, fun as rv e => ?_⟩
  · match as, ha, e with
    | [.lst ys], ha, e =>
      cases e
      obtain ⟨x, rfl, h⟩ := ha.inv1
      cases h with
      | lst h1 r1 =>
        refine ⟨_, _, rfl, .inl ⟨.of h1, fun p hp => ?_⟩⟩
        obtain ⟨c', m⟩ := c.allocF (o := .tup _) hp
        exact gt _ _ _ (c'.push (.tup upd_same (r1.mono m)))
    | [.tup ys], ha, e =>
      cases e
      obtain ⟨x, rfl, h⟩ := ha.inv1
      cases h with
      | tup h1 r1 => exact ⟨_, _, rfl, .inr ⟨.of (c.sub _ _ h1), gt _ _ _ (c.push (.tup h1 r1))⟩⟩
  · unfold tupleD at e
    split at e <;> (cases e <;> rfl)
def listD : List D → Option RV
  | [.lst xs] => some (.own (.lst xs))
  | [.tup xs] => some (.own (.lst xs))
  | _ => none
theorem ok_list : OKn K mg (fun xs H Q => ∃ p ys, xs = [.ref p] ∧ (SqL K H p ys ∨ SqT K H p ys) ∧ ∀ l, H l = none → Q (.ref l) (upd H l (.lst ys))) listD := by
  refine ⟨fun B F ρ σ τ H xs as rv Q c ha e gt => ?_, fun as rv e => ?_⟩
  · match as, ha, e with
    | [.lst ys], ha, e =>
      cases e
      obtain ⟨x, rfl, h⟩ := ha.inv1
      cases h with
      | lst h1 r1 => exact ⟨_, _, rfl, .inl (.of h1), fun p hp => gt _ _ _ (c.allocO hp (.lst r1))⟩
    | [.tup ys], ha, e =>
      cases e
      obtain ⟨x, rfl, h⟩ := ha.inv1
      cases h with
      | tup h1 r1 => exact ⟨_, _, rfl, .inr (.of (c.sub _ _ h1)), fun p hp => gt _ _ _ (c.allocO hp (.lst r1))⟩
  · unfold listD at e
    split at e <;> (cases e <;> rfl)
end
end PD
set_option Elab.async false
set_option linter.all false
set_option maxRecDepth 100000
set_option autoImplicit false
set_option maxHeartbeats 4000000
/-! PD: isinstance, sorted, methods, stores by places, several targets. -/
namespace PD
open PySem PySem.Spec PyProof.Rows L2

/-! ### isinstance -/
def Ty.sub (a b : Ty) : Bool := decide (a = b) || (decide (a = .bool) && decide (b = .int))
theorem kit_sub {K : PySem.W.Frag} (a b : Ty) : PySem.W.kitOne K (.type a.name) (.type b.name) = some (a.sub b) := by
  cases a <;> cases b <;> exact kit_ty (by decide +kernel)
def tyOf : D → Option Ty
  | .non => some .none
  | .bl _ => some .bool
  | .int _ => some .int
  | .str _ => some .str
  | .tup _ => some .tuple
  | .lst _ => some .list
  | .dct _ _ => some .dict
  | _ => none
def asTys : List D → Option (List Ty)
  | [] => some []
  | .ty t :: r => (asTys r).map (t :: ·)
  | _ => none
def isiD : List D → Option RV
  | [d, .ty t] => (tyOf d).map fun a => .fz (.bl (a.sub t))
  | [d, .tup ts] => match tyOf d, asTys ts with
    | some a, some us => some (.fz (.bl (us.any fun t => a.sub t)))
    | _, _ => none
  | _ => none
section
variable {K : PySem.W.Frag} {mg : Str → Option Value}
theorem TV.tyX {F H : Hp} {d : D} {v : V} {t : Ty} (m : ∀ a o, F a = some o → H a = some o) (h : TV K mg F H d v) (e : tyOf d = some t) : TyX K H v (.type t.name) := by
  cases h with
  | non => cases e; exact .base .non
  | bl => cases e; exact .base (.bl _)
  | int => cases e; exact .base (.int _)
  | str => cases e; exact .base (.str _)
  | tup h r => cases e; exact .base (.tup (m _ _ h))
  | lst h r => cases e; exact .base (.lst h)
  | dK h r => cases e; exact .base (.dK h)
  | dT h r => cases e; exact .base (.dT h)
  | _ => cases e
theorem asTys_eq : ∀ {xs : List D} {ts : List Ty}, asTys xs = some ts → xs = ts.map .ty
  | [], _, e => by cases e; rfl
  | .ty t :: r, ns, e => by
    obtain ⟨ms, e1, rfl⟩ := Option.map_eq_some_iff.mp e
    rw [List.map_cons, asTys_eq e1]
theorem DVs.tys {F : Hp} : ∀ {ts : List Ty} {vs : List V}, DVs K mg F (ts.map .ty) vs → vs = ts.map fun t => V.ty t.name
  | [], _, .nil => rfl
  | n :: ns, _, .cons h r => by
    cases h
    rw [List.map_cons, DVs.tys r]
theorem clsV_tys : ∀ ts : List Ty, Paired ClsV (ts.map fun t => V.ty t.name) (ts.map fun t => Value.type t.name)
  | [] => .nil
  | t :: ts => .cons (.ty _) (clsV_tys ts)
theorem kitAny_tys {a : Ty} : ∀ ts : List Ty, PySem.W.kitAny K (.type a.name) (ts.map fun t => Value.type t.name) = some (ts.any fun t => a.sub t)
  | [] => kitAny_nil
  | t :: ts => by
    refine kitAny_cons (kit_sub a t) (fun e => ?_) (fun e => ?_)
    · rw [List.any_cons, e, Bool.false_or]; exact kitAny_tys ts
    · rw [List.any_cons, e, Bool.true_or]
theorem ok_isi : OKn K mg (fun xs H Q => rIsi K xs H Q ∨ rIsiT K xs H Q) isiD := by
  refine ⟨fun B F ρ σ τ H xs as rv Q c ha e gt => ?_, fun as rv e => ?_⟩
  · match as, ha, e with
    | [d, .ty t], ha, e =>
      obtain ⟨a, e1, rfl⟩ := Option.map_eq_some_iff.mp e
      obtain ⟨x, y, rfl, h, h'⟩ := ha.inv2
      cases h'
      exact .inl ⟨x, _, _, _, _, rfl, .ty _, h.tyX c.sub e1, kit_sub a t, gt _ _ _ (c.push .bl)⟩
    | [d, .tup ts], ha, e =>
      have e : (match tyOf d, asTys ts with | some a, some us => some (RV.fz (.bl (us.any fun t => a.sub t))) | _, _ => none) = some rv := e
      split at e
      · rename_i a us e1 e2
        cases e
        have e3 := asTys_eq e2
        subst e3
        obtain ⟨x, y, rfl, h, h'⟩ := ha.inv2
        cases h' with
        | tup h1 r1 =>
          have e4 := r1.tys
          subst e4
          exact .inr ⟨x, _, _, _, _, _, rfl, c.sub _ _ h1, clsV_tys us, h.tyX c.sub e1, kitAny_tys us, gt _ _ _ (c.push .bl)⟩
      · cases e
  · unfold isiD at e
    split at e
    · obtain ⟨_, _, rfl⟩ := Option.map_eq_some_iff.mp e; rfl
    · split at e <;> (cases e <;> rfl)
    · cases e
end
theorem op_isi {X : Cx} : CallR X (.builtin "isinstance") (fun xs H Q => rIsi X.K xs H Q ∨ rIsiT X.K xs H Q) := CallR.or call_isi call_isiT
section
variable {X : Cx} {P : List Nat} {W : WX} {pos : Pos}
/-- the name of a built-in type -/
theorem d_ty {x : Str} (t : Ty) (hg : Gl X x) (hm : X.mg x = none) (hv : bootBuiltins x = some (.type t.name)) (hn : x ≠ "__name__" := by decide) (hd : (x == ("__debug__" : Str)) = false := by decide) : PD X P W (.Name x pos) (dC (.ty t)) :=
  ⟨_, pe_bltn (v := .ty t.name) hg hm hv rfl hn hd, se_c fun _ => .ty⟩
end

/-! ### sorted -/
def insI (n : Int) : List Int → List Int
  | [] => [n]
  | m :: r => if n ≤ m then n :: m :: r else m :: insI n r
def sortI : List Int → List Int
  | [] => []
  | n :: r => insI n (sortI r)
theorem insI_perm (n : Int) : ∀ l : List Int, (insI n l).Perm (n :: l)
  | [] => .refl _
  | m :: r => by
    unfold insI
    split
    · exact .refl _
    · exact ((insI_perm n r).cons m).trans (.swap n m r)
theorem sortI_perm : ∀ l : List Int, (sortI l).Perm l
  | [] => .refl _
  | n :: r => (insI_perm n _).trans ((sortI_perm r).cons n)
theorem insI_sorted {n : Int} : ∀ {l : List Int}, l.Pairwise (· ≤ ·) → (insI n l).Pairwise (· ≤ ·)
  | [], _ => by simp [insI]
  | m :: r, h => by
    unfold insI
    obtain ⟨h1, h2⟩ := List.pairwise_cons.mp h
    split
    · rename_i hn
      refine List.pairwise_cons.mpr ⟨fun y hy => ?_, h⟩
      rcases List.mem_cons.mp hy with rfl | hy
      · exact hn
      · exact Int.le_trans hn (h1 y hy)
    · rename_i hn
      refine List.pairwise_cons.mpr ⟨fun y hy => ?_, insI_sorted h2⟩
      rcases List.mem_cons.mp ((insI_perm n r).mem_iff.mp hy) with rfl | hy
      · omega
      · exact h1 y hy
theorem sortI_sorted : ∀ l : List Int, (sortI l).Pairwise (· ≤ ·)
  | [] => .nil
  | n :: r => insI_sorted (sortI_sorted r)
theorem sorted_uniq : ∀ {l m : List Int}, l.Perm m → l.Pairwise (· ≤ ·) → m.Pairwise (· ≤ ·) → l = m := fun p h1 h2 => p.eq_of_pairwise (fun a b _ _ h h' => Int.le_antisymm h h') h1 h2
/-- pairs of ints -/
def asPr : D → Option (Int × Int)
  | .tup [.int i, .int j] => some (i, j)
  | _ => none
def asPrs : List D → Option (List (Int × Int))
  | [] => some []
  | d :: r => match asPr d, asPrs r with
    | some p, some ps => some (p :: ps)
    | _, _ => none
def ofPr (p : Int × Int) : D := .tup [.int p.1, .int p.2]
def lePr (p q : Int × Int) : Bool := decide (p.1 < q.1) || (decide (p.1 = q.1) && decide (p.2 ≤ q.2))
def insP (n : Int × Int) : List (Int × Int) → List (Int × Int)
  | [] => [n]
  | m :: r => if lePr n m then n :: m :: r else m :: insP n r
def sortP : List (Int × Int) → List (Int × Int)
  | [] => []
  | n :: r => insP n (sortP r)
theorem insP_perm (n : Int × Int) : ∀ l : List (Int × Int), (insP n l).Perm (n :: l)
  | [] => .refl _
  | m :: r => by
    unfold insP
    split
    · exact .refl _
    · exact ((insP_perm n r).cons m).trans (.swap n m r)
theorem sortP_perm : ∀ l : List (Int × Int), (sortP l).Perm l
  | [] => .refl _
  | n :: r => (insP_perm n _).trans ((sortP_perm r).cons n)
theorem lePr_total (p q : Int × Int) : lePr p q = false → lePr q p = true := by
  unfold lePr
  simp only [Bool.or_eq_false_iff, Bool.and_eq_false_iff, decide_eq_false_iff_not, Bool.or_eq_true, Bool.and_eq_true, decide_eq_true_eq]
  omega
theorem lePr_trans {p q r : Int × Int} : lePr p q = true → lePr q r = true → lePr p r = true := by
  unfold lePr
  simp only [Bool.or_eq_true, Bool.and_eq_true, decide_eq_true_eq]
  omega
theorem lePr_anti {p q : Int × Int} : lePr p q = true → lePr q p = true → p = q := by
  unfold lePr
  simp only [Bool.or_eq_true, Bool.and_eq_true, decide_eq_true_eq]
  intro h1 h2
  exact Prod.ext (by omega) (by omega)
theorem insP_sorted {n : Int × Int} : ∀ {l : List (Int × Int)}, l.Pairwise (fun p q => lePr p q = true) → (insP n l).Pairwise (fun p q => lePr p q = true)
  | [], _ => by simp [insP]
  | m :: r, h => by
    unfold insP
    obtain ⟨h1, h2⟩ := List.pairwise_cons.mp h
    split
    · rename_i hn
      refine List.pairwise_cons.mpr ⟨fun y hy => ?_, h⟩
      rcases List.mem_cons.mp hy with rfl | hy
      · exact hn
      · exact lePr_trans hn (h1 y hy)
    · rename_i hn
      refine List.pairwise_cons.mpr ⟨fun y hy => ?_, insP_sorted h2⟩
      rcases List.mem_cons.mp ((insP_perm n r).mem_iff.mp hy) with rfl | hy
      · exact lePr_total _ _ (by simpa using hn)
      · exact h1 y hy
theorem sortP_sorted : ∀ l : List (Int × Int), (sortP l).Pairwise (fun p q => lePr p q = true)
  | [] => .nil
  | n :: r => insP_sorted (sortP_sorted r)
theorem sortedP_uniq {l m : List (Int × Int)} (p : l.Perm m) (h1 : l.Pairwise (fun p q => lePr p q = true)) (h2 : m.Pairwise (fun p q => lePr p q = true)) : l = m :=
  p.eq_of_pairwise (fun a b _ _ h h' => lePr_anti h h') h1 h2
theorem asPr_eq {d : D} {p : Int × Int} (e : asPr d = some p) : d = ofPr p := by
  unfold asPr at e
  split at e
  · cases e; rfl
  · cases e
theorem asPrs_eq : ∀ {xs : List D} {ps : List (Int × Int)}, asPrs xs = some ps → xs = ps.map ofPr
  | [], _, e => by cases e; rfl
  | d :: r, ps, e => by
    unfold asPrs at e
    split at e
    · rename_i p qs e1 e2
      cases e
      rw [List.map_cons, asPr_eq e1, asPrs_eq e2]
    · cases e
def sortedD : List D → Option RV
  | [.lst xs] => match asInts xs with
    | some ns => some (.own (.lst ((sortI ns).map .int)))
    | none => match asPrs xs with
      | some ps => some (.own (.lst ((sortP ps).map ofPr)))
      | none => none
  | _ => none
section
variable {K : PySem.W.Frag} {mg : Str → Option Value}
/-- the pair that stands at v -/
def prAt (H : Hp) : V → Int × Int
  | .ref t => match H t with
    | some (.tup [.int i, .int j]) => (i, j)
    | _ => (0, 0)
  | _ => (0, 0)
theorem DVs.prs {F H : Hp} (m : ∀ a o, F a = some o → H a = some o) : ∀ {ps : List (Int × Int)} {vs : List V}, DVs K mg F (ps.map ofPr) vs →
    vs.map (prAt H) = ps ∧ ∀ v ∈ vs, (∃ t, v = V.ref t ∧ H t = some (.tup [.int (prAt H v).1, .int (prAt H v).2])) ∧ DV K mg F (ofPr (prAt H v)) v
  | [], _, .nil => ⟨rfl, fun _ h => by cases h⟩
  | p :: ps, _, .cons h r => by
    obtain ⟨e, hv⟩ := DVs.prs m r
    cases h with
    | tup h1 r1 =>
      rename_i vs a us
      cases r1 with
      | cons g1 r1 =>
        cases g1
        cases r1 with
        | cons g2 r2 =>
          cases g2
          cases r2
          have hk : prAt H (.ref a) = p := by
            show (match H a with | some (.tup [.int i, .int j]) => (i, j) | _ => (0, 0)) = p
            rw [m _ _ h1]
          refine ⟨by rw [List.map_cons, hk, e], fun v hm => ?_⟩
          rcases List.mem_cons.mp hm with rfl | hm
          · rw [hk]
            exact ⟨⟨a, rfl, m _ _ h1⟩, .tup h1 (.cons .int (.cons .int .nil))⟩
          · exact hv v hm
theorem DVs.of_all {F : Hp} {f : V → D} : ∀ {vs : List V}, (∀ v ∈ vs, DV K mg F (f v) v) → DVs K mg F (vs.map f) vs
  | [], _ => .nil
  | v :: vs, h => .cons (h v List.mem_cons_self) (DVs.of_all fun w hw => h w (List.mem_cons_of_mem _ hw))
theorem ok_sorted : OKn K mg (fun xs H Q => rSortedI K xs H Q ∨ rSortedPO K xs H Q) sortedD := by
  refine ⟨fun B F ρ σ τ H xs as rv Q c ha e gt => ?_, fun as rv e => ?_⟩
  · match as, ha, e with
    | [.lst ys], ha, e =>
      obtain ⟨x, rfl, h⟩ := ha.inv1
      have e : (match asInts ys with
        | some ns => some (RV.own (.lst ((sortI ns).map .int)))
        | none => match asPrs ys with
          | some ps => some (RV.own (.lst ((sortP ps).map ofPr)))
          | none => none) = some rv := e
      cases h with
      | lst h1 r1 =>
        cases q : asInts ys with
        | some ns =>
          rw [q] at e
          cases e
          have e2 := asInts_eq q
          subst e2
          have e3 := r1.ints
          subst e3
          refine .inl ⟨_, ns, rfl, .of h1, fun ns' p hp hs hn => ?_⟩
          have : ns' = sortI ns := sorted_uniq (hp.trans (sortI_perm ns).symm) hs (sortI_sorted ns)
          subst this
          exact gt _ _ _ (c.allocO hn (.lst (.of_ints _)))
        | none =>
          rw [q] at e
          simp only at e
          cases q2 : asPrs ys with
          | none => rw [q2] at e; cases e
          | some ps =>
            rw [q2] at e
            cases e
            have e2 := asPrs_eq q2
            subst e2
            obtain ⟨e3, hv⟩ := r1.prs c.sub
            refine .inr ⟨_, _, prAt H, rfl, .of h1, fun v hm => (hv v hm).1, fun zs p hs hb hn => ?_⟩
            have hz : ∀ v ∈ zs, DV K mg F (ofPr (prAt H v)) v := fun v hm => (hv v (hb.perm.mem_iff.mp hm)).2
            have e4 : zs.map (prAt H) = sortP ps := by
              refine sortedP_uniq ?_ ?_ (sortP_sorted ps)
              · have := hb.perm.map (prAt H)
                rw [e3] at this
                exact this.trans (sortP_perm ps).symm
              · rw [List.pairwise_map]
                refine hs.imp fun {a b} hab => ?_
                have hab : SrtO.lexB (prAt H b) (prAt H a) = false := hab
                unfold SrtO.lexB at hab
                unfold lePr
                split at hab <;> simp only [decide_eq_false_iff_not, Bool.or_eq_true, Bool.and_eq_true, decide_eq_true_eq] at hab ⊢ <;> omega
            have := DVs.of_all hz
            have e5 : zs.map (fun v => ofPr (prAt H v)) = (sortP ps).map ofPr := by rw [← e4, List.map_map]; rfl
            rw [e5] at this
            exact gt _ _ _ (c.allocO hn (.lst this))
  · unfold sortedD at e
    split at e
    · split at e
      · cases e; rfl
      · split at e <;> (cases e <;> rfl)
    · cases e
end
theorem op_sorted {X : Cx} : CallR X (.builtin "sorted") (fun xs H Q => rSortedI X.K xs H Q ∨ rSortedPO X.K xs H Q) := CallR.or cr_sortedI cr_sortedPO

/-! ### methods that change their object -/
def isLst : SV → Bool
  | .own (.lst _) => true
  | _ => false
def isDct : SV → Bool
  | .own (.dct _ _) => true
  | _ => false
def chkT (T : String) : SV → Bool := fun s => (decide (T = "list") && isLst s) || (decide (T = "dict") && isDct s)
def dMut (T : String) (f : D → List D → Option (D × RV)) (o : DE) (a : DA) : DE := fun ρ => (o ρ).bind fun x ρ1 => match x with
  | .bor i => if chkT T ((ρ1[i]?).getD .no) then (a ρ1).bind fun xs ρ2 => match fzL xs ρ2 with
      | some (ds, ρ3) => match ρ3[i]? with
        | some (.own d) => match f d ds with
          | some (d', rv) => .ok rv (ρ3.set i (.own d'))
          | none => .no
        | _ => .no
      | none => .no
    else .no
  | _ => .no
structure OKm (K : PySem.W.Frag) (mg : Str → Option Value) (r : V → List V → Hp → VK → Prop) (f : D → List D → Option (D × RV)) : Prop where
  run : ∀ (B : Bs) (F : Hp) (ρ : List SV) (σ : L2.St) (τ : List (SV × V)) (H : Hp) (p : Addr) (i : Nat) (d d' : D) (ds : List D) (vs : List V) (rv : RV) (Q : VK), Cfg K mg B F ρ σ τ H → ρ[i]? = some (.own d) → σ[i]? = some (some (.ref p)) → DVs K mg F ds vs →
    f d ds = some (d', rv) → Got K mg B (ρ.set i (.own d')) σ τ rv Q → r (.ref p) vs H Q
  nb : ∀ d ds d' rv, f d ds = some (d', rv) → isBor rv = false
section
variable {X : Cx} {P : List Nat} {W : WX} {pos : Pos} {K : PySem.W.Frag} {mg : Str → Option Value}
theorem chkT_ty {B : Bs} {F H : Hp} {ρ : List SV} {σ : L2.St} {τ : List (SV × V)} {T : String} {i : Nat} {v : V} (c : Cfg K mg B F ρ σ τ H) (hb : σ[i]? = some (some v)) (h : chkT T ((ρ[i]?).getD .no) = true) : tyV K T v H := by
  cases q : ρ[i]? with
  | none => rw [q] at h; simp [chkT, isLst, isDct] at h
  | some s =>
    rw [q] at h
    cases s with
    | no => simp [chkT, isLst, isDct] at h
    | fz d => simp [chkT, isLst, isDct] at h
    | own d =>
      obtain ⟨p, ho, e1, n, hh, r⟩ := c.own_slot q
      rw [hb] at e1
      cases e1
      cases r with
      | lst r1 => simp [chkT, isLst, isDct] at h; exact .inl ⟨h, _, .of hh⟩
      | dK r1 => simp [chkT, isLst, isDct] at h; exact .inr (.inr (.inl ⟨h, .inl ⟨_, hh⟩⟩))
      | dT r1 => simp [chkT, isLst, isDct] at h; exact .inr (.inr (.inl ⟨h, .inr ⟨_, hh⟩⟩))
      | ins c r1 => simp [chkT, isLst, isDct] at h
theorem se_mut {T : String} {r : V → List V → Hp → VK → Prop} {f : D → List D → Option (D × RV)} {to : TE} {t : TA} {o : DE} {a : DA} (ok : OKm K mg r f) (ho : SE K mg P W to o) (ha : SA K mg P W t a) : SE K mg P W (tBM K T r to t) (dMut T f o a) := by
  refine ⟨fun B F ρ σ τ H Q pr c hp => ?_⟩
  refine ho.bind pr c hp (fun _ _ _ h => h) id fun x ρ1 F1 H1 vx c1 b1 hp1 => ?_
  cases x with
  | fz d => exact hp1.elim
  | own d => exact hp1.elim
  | bor i =>
    have b1 : σ[i]? = some (some vx) := b1
    simp only at hp1
    by_cases hc : chkT T ((ρ1[i]?).getD .no) = true
    · rw [if_pos hc] at hp1
      refine ⟨chkT_ty c1 b1 hc, ?_⟩
      refine ha.bind pr c1.pop (Post := PostE K mg W B σ τ Q) hp1 (fun _ _ _ h => h) id fun xs ρ2 F2 H2 vs c2 b2 hp2 => ?_
      cases e : fzL xs ρ2 with
      | none => rw [e] at hp2; exact hp2.elim
      | some q =>
        obtain ⟨ds, ρ3⟩ := q
        rw [e] at hp2
        simp only at hp2
        obtain ⟨F3, c3, m, r3⟩ := c2.fzA b2 e
        cases e2 : ρ3[i]? with
        | none => rw [e2] at hp2; exact hp2.elim
        | some s =>
          rw [e2] at hp2
          cases s with
          | no => exact hp2.elim
          | fz d => exact hp2.elim
          | own d =>
            simp only at hp2
            cases e3 : f d ds with
            | none => rw [e3] at hp2; exact hp2.elim
            | some q =>
              obtain ⟨d', rv⟩ := q
              rw [e3] at hp2
              obtain ⟨p, _, e4, _⟩ := c3.own_slot e2
              have e5 := e4
              rw [b1] at e5
              cases e5
              exact ok.run B F3 ρ3 σ τ H2 p i d d' ds vs rv Q c3 e2 b1 r3 e3 fun F' H' v c' => hp2 F' H' v c' (rvb_nb (ok.nb _ _ _ _ e3) v)
    · rw [if_neg hc] at hp1; exact hp1.elim
def appD : D → List D → Option (D × RV)
  | .lst xs, [d] => if xs.length < 1000000 then some (.lst (xs ++ [d]), .fz .non) else none
  | _, _ => none
theorem lt_line {n : Nat} (h : n < 1000000) : n < sizeLine := Nat.lt_of_lt_of_le h (by rw [sizeLine_eq]; decide)
theorem DVs.inv1 {F : Hp} {d : D} {vs : List V} (h : DVs K mg F [d] vs) : ∃ v, vs = [v] ∧ DV K mg F d v := by
  cases h with
  | cons h r => cases r; exact ⟨_, rfl, h⟩
theorem DVs.inv2 {F : Hp} {d e : D} {vs : List V} (h : DVs K mg F [d, e] vs) : ∃ v w, vs = [v, w] ∧ DV K mg F d v ∧ DV K mg F e w := by
  cases h with
  | cons h r =>
    obtain ⟨w, rfl, h2⟩ := r.inv1
    exact ⟨_, w, rfl, h, h2⟩
theorem ok_app : OKm K mg rAppend appD := by
  refine ⟨fun B F ρ σ τ H p i d d' ds vs rv Q c e1 e2 hd e gt => ?_, fun d ds d' rv e => ?_⟩
  · obtain ⟨q, ho, e3, n, hh, r⟩ := c.own_slot e1
    rw [e2] at e3
    cases e3
    cases r with
    | @lst xs us r1 =>
      match ds, hd, e with
      | [y], hd, e =>
        have e : (if xs.length < 1000000 then some (D.lst (xs ++ [y]), RV.fz .non) else none) = some (d', rv) := e
        obtain ⟨v, rfl, hv⟩ := hd.inv1
        by_cases hl : xs.length < 1000000
        · rw [if_pos hl] at e
          cases e
          exact ⟨_, _, _, rfl, rfl, hh, by rw [← r1.length]; exact lt_line hl, gt _ _ _ ((c.mutS e1 e2 (.lst (r1.append (.cons hv .nil)))).push .non)⟩
        · rw [if_neg hl] at e; cases e
    | _ => cases ds <;> cases e
  · unfold appD at e
    split at e
    · split at e <;> (cases e <;> rfl)
    · cases e
def extD : D → List D → Option (D × RV)
  | .lst xs, [.lst ys] => if okLen (xs.length + ys.length) then some (.lst (xs ++ ys), .fz .non) else none
  | _, _ => none
theorem ok_ext : OKm K mg rExtend extD := by
  refine ⟨fun B F ρ σ τ H p i d d' ds vs rv Q c e1 e2 hd e gt => ?_, fun d ds d' rv e => ?_⟩
  · obtain ⟨q, ho, e3, n, hh, r⟩ := c.own_slot e1
    rw [e2] at e3
    cases e3
    cases r with
    | lst r1 =>
      match ds, hd, e with
      | [.lst ys], hd, e =>
        obtain ⟨v, rfl, hv⟩ := hd.inv1
        obtain ⟨hl, e⟩ := if_some e
        cases e
        cases hv with
        | lst h2 r2 =>
          exact ⟨_, _, _, _, rfl, rfl, hh, c.sub _ _ h2, by rw [← r1.length, ← r2.length]; exact okLen_line hl, gt _ _ _ ((c.mutS e1 e2 (.lst (r1.append r2))).push .non)⟩
    | _ => cases ds <;> cases e
  · unfold extD at e
    split at e
    · obtain ⟨_, e⟩ := if_some e
      cases e; rfl
    · cases e
def popAtD : D → List D → Option (D × RV)
  | .lst xs, [.int i] => if decide (-(2 ^ 63) ≤ i ∧ i < 2 ^ 63) then match seqIndex? i xs.length with
      | some k => match xs[k]? with
        | some y => some (.lst (xs.eraseIdx k), .fz y)
        | none => none
      | none => none
    else none
  | _, _ => none
theorem ok_popAt : OKm K mg rPopAt popAtD := by
  refine ⟨fun B F ρ σ τ H p i d d' ds vs rv Q c e1 e2 hd e gt => ?_, fun d ds d' rv e => ?_⟩
  · obtain ⟨q, ho, e3, n, hh, r⟩ := c.own_slot e1
    rw [e2] at e3
    cases e3
    cases r with
    | @lst xs us r1 =>
      match ds, hd, e with
      | [.int j], hd, e =>
        obtain ⟨v, rfl, hv⟩ := hd.inv1
        cases hv
        unfold popAtD at e
        simp only at e
        split at e
        · rename_i hj
          have hj := of_decide_eq_true hj
          split at e
          · rename_i k hk
            split at e
            · rename_i y hy
              cases e
              obtain ⟨w, hw, rw'⟩ := r1.get hy
              refine ⟨_, _, j, k, w, rfl, rfl, hh, hj.1, hj.2, by rw [← r1.length]; exact hk, hw, gt _ _ _ ((c.mutS e1 e2 (.lst (r1.eraseIdx k))).push rw')⟩
            · cases e
          · cases e
        · cases e
    | _ => cases ds <;> cases e
  · unfold popAtD at e
    repeat' (split at e)
    all_goals first | (cases e; rfl) | (cases e; done)
/-- .. without arguments -/
def dMut0 (T : String) (f : D → List D → Option (D × RV)) (o : DE) : DE := dMut T f o dNil
theorem se_mut0 {T : String} {r : V → List V → Hp → VK → Prop} {f : D → List D → Option (D × RV)} {to : TE} {o : DE} (ok : OKm K mg r f) (ho : SE K mg P W to o) : SE K mg P W (tBM0 K T r to) (dMut0 T f o) := by
  have h := se_mut (T := T) ok ho (sa_nil (K := K) (mg := mg) (P := P) (W := W))
  exact ⟨fun B F ρ σ τ H Q pr c hp => h.run B F ρ σ τ H Q pr c hp⟩
def popD : D → List D → Option (D × RV)
  | .lst xs, [] => match xs[xs.length - 1]? with
    | some y => some (.lst xs.dropLast, .fz y)
    | none => none
  | _, _ => none
theorem DVs.dropLast {F : Hp} {xs : List D} {vs : List V} (h : DVs K mg F xs vs) : DVs K mg F xs.dropLast vs.dropLast := by
  rw [List.dropLast_eq_take, List.dropLast_eq_take, ← h.length]
  exact h.take _
theorem ok_pop : OKm K mg rPop popD := by
  refine ⟨fun B F ρ σ τ H p i d d' ds vs rv Q c e1 e2 hd e gt => ?_, fun d ds d' rv e => ?_⟩
  · obtain ⟨q, ho, e3, n, hh, r⟩ := c.own_slot e1
    rw [e2] at e3
    cases e3
    cases r with
    | @lst xs us r1 =>
      match ds, hd, e with
      | [], hd, e =>
        cases hd
        have e : (match xs[xs.length - 1]? with | some y => some (D.lst xs.dropLast, RV.fz y) | none => none) = some (d', rv) := e
        cases hy : xs[xs.length - 1]? with
        | none => rw [hy] at e; cases e
        | some y =>
          rw [hy] at e
          cases e
          obtain ⟨w, hw, rw'⟩ := r1.get hy
          exact ⟨_, _, w, rfl, rfl, hh, by rw [← r1.length]; exact hw, gt _ _ _ ((c.mutS e1 e2 (.lst r1.dropLast)).push rw')⟩
    | _ => cases ds <;> cases e
  · unfold popD at e
    repeat' (split at e)
    all_goals first | (cases e; rfl) | (cases e; done)
end
section
variable {X : Cx} {P : List Nat} {W : WX} {pos : Pos} {o : Expr} {es : List Expr} {e : Expr} {do_ : DE} {a : DA}
end
end PD
set_option Elab.async false
set_option linter.all false
set_option maxRecDepth 100000
set_option autoImplicit false
set_option maxHeartbeats 4000000
/-! PD: method calls, stores by places, dicts, several targets. -/
namespace PD
open PySem PySem.Spec PyProof.Rows L2

section
variable {X : Cx} {P : List Nat} {W : WX} {pos apos cpos : Pos} {o e : Expr} {es : List Expr} {m : Str} {od : DE} {a : DA}
/-- o.m(e, ..) of a built-in type, o an own object, changed -/
theorem d_mut {T : String} {id : String} {r : V → List V → Hp → VK → Prop} {f : D → List D → Option (D × RV)} (ok : OKm X.K X.mg r f) (pa : PlainAttrs T) (slot : Slot T m id) (hty : typeOf (.builtin id) = pure (.type "method_descriptor")) (hm : MtR X id r)
    (ho : PD X P W o od) (ha : PDA X P W (e :: es) a) (hb : attributeBase o m X.env (eval o X.env) = eval o X.env := by rfl)
    (h2 : (((backTo cpos (starEach (e :: es) X.env)).all fun x => !x.1) && ((backToKw cpos (keywordEach [] X.env)).all fun x => x.1.isSome) && decide ((e :: es).length + ([] : List Keyword).length + (if ([] : List Keyword).isEmpty then 0 else 1) < 30)) = true := by rfl)
    (h3 : (apos.endLine == cpos.line) = true := by rfl) (he : starEach (e :: es) X.env = (false, eval e X.env) :: starEach es X.env := by rfl) (hpl : (backTo cpos (starEach es X.env)).any (·.1) = false := by rfl) :
    PD X P W (.Call (.Attribute o m apos) (e :: es) [] cpos) (dMut T f od a) := by
  obtain ⟨t, p1, p2⟩ := ho
  obtain ⟨u, q1, q2⟩ := ha
  exact ⟨_, pe_bm pa slot hty hm p1 q1 hb h2 h3 he hpl, se_mut ok p2 q2⟩
theorem d_mut0 {T : String} {id : String} {r : V → List V → Hp → VK → Prop} {f : D → List D → Option (D × RV)} (ok : OKm X.K X.mg r f) (pa : PlainAttrs T) (slot : Slot T m id) (hty : typeOf (.builtin id) = pure (.type "method_descriptor")) (hm : MtR X id r)
    (ho : PD X P W o od) (hb : attributeBase o m X.env (eval o X.env) = eval o X.env := by rfl)
    (h3 : (apos.endLine == cpos.line) = true := by rfl) :
    PD X P W (.Call (.Attribute o m apos) [] [] cpos) (dMut0 T f od) := by
  obtain ⟨t, p1, p2⟩ := ho
  exact ⟨_, pe_bm0 pa slot hty hm p1 hb h3, se_mut0 ok p2⟩
theorem d_append (ho : PD X P W o od) (ha : PDA X P W [e] a) (hb : attributeBase o "append" X.env (eval o X.env) = eval o X.env := by rfl)
    (h2 : (((backTo cpos (starEach [e] X.env)).all fun x => !x.1) && ((backToKw cpos (keywordEach [] X.env)).all fun x => x.1.isSome) && decide ([e].length + ([] : List Keyword).length + (if ([] : List Keyword).isEmpty then 0 else 1) < 30)) = true := by rfl)
    (h3 : (apos.endLine == cpos.line) = true := by rfl) (he : starEach [e] X.env = (false, eval e X.env) :: starEach [] X.env := by rfl) (hpl : (backTo cpos (starEach [] X.env)).any (·.1) = false := by rfl) :
    PD X P W (.Call (.Attribute o "append" apos) [e] [] cpos) (dMut "list" appD od a) := d_mut ok_app PySem.F.plainAttrs_list PySem.F.slot_list_append PySem.F.type_list_append mt_append ho ha hb h2 h3 he hpl
theorem d_extend (ho : PD X P W o od) (ha : PDA X P W [e] a) (hb : attributeBase o "extend" X.env (eval o X.env) = eval o X.env := by rfl)
    (h2 : (((backTo cpos (starEach [e] X.env)).all fun x => !x.1) && ((backToKw cpos (keywordEach [] X.env)).all fun x => x.1.isSome) && decide ([e].length + ([] : List Keyword).length + (if ([] : List Keyword).isEmpty then 0 else 1) < 30)) = true := by rfl)
    (h3 : (apos.endLine == cpos.line) = true := by rfl) (he : starEach [e] X.env = (false, eval e X.env) :: starEach [] X.env := by rfl) (hpl : (backTo cpos (starEach [] X.env)).any (·.1) = false := by rfl) :
    PD X P W (.Call (.Attribute o "extend" apos) [e] [] cpos) (dMut "list" extD od a) := d_mut ok_ext PySem.F.plainAttrs_list PySem.F.slot_list_extend PySem.F.type_list_extend mt_extend ho ha hb h2 h3 he hpl
theorem d_popAt (ho : PD X P W o od) (ha : PDA X P W [e] a) (hb : attributeBase o "pop" X.env (eval o X.env) = eval o X.env := by rfl)
    (h2 : (((backTo cpos (starEach [e] X.env)).all fun x => !x.1) && ((backToKw cpos (keywordEach [] X.env)).all fun x => x.1.isSome) && decide ([e].length + ([] : List Keyword).length + (if ([] : List Keyword).isEmpty then 0 else 1) < 30)) = true := by rfl)
    (h3 : (apos.endLine == cpos.line) = true := by rfl) (he : starEach [e] X.env = (false, eval e X.env) :: starEach [] X.env := by rfl) (hpl : (backTo cpos (starEach [] X.env)).any (·.1) = false := by rfl) :
    PD X P W (.Call (.Attribute o "pop" apos) [e] [] cpos) (dMut "list" popAtD od a) := d_mut ok_popAt PySem.F.plainAttrs_list PySem.F.slot_list_pop PySem.F.type_list_pop mt_popAt ho ha hb h2 h3 he hpl
theorem d_pop (ho : PD X P W o od) (hb : attributeBase o "pop" X.env (eval o X.env) = eval o X.env := by rfl)
    (h3 : (apos.endLine == cpos.line) = true := by rfl) :
    PD X P W (.Call (.Attribute o "pop" apos) [] [] cpos) (dMut0 "list" popD od) := d_mut0 ok_pop PySem.F.plainAttrs_list PySem.F.slot_list_pop PySem.F.type_list_pop mt_pop ho hb h3
end

/-! ### name op= e -/
def dAug (i : Nat) (f : D → D → Option RV) (e : DE) : DS := fun ρ => match ρ[i]? with
  | some (.fz d) => (e ρ).bindS fun y ρ1 => match rd ρ1 y with
    | some dy => match f d dy with
      | some (.fz dz) => .nx (ρ1.set i (.fz dz))
      | _ => .no
    | none => .no
  | _ => .no
section
variable {X : Cx} {P : List Nat} {W : WX} {pos : Pos} {e : Expr} {d : DE} {K : PySem.W.Frag} {mg : Str → Option Value}
theorem ss_aug {i : Nat} {te : TE} {g : Int → Int → Int} (he : SE K mg P W te d) (hi : i ∉ P) : SS K mg P W (tAug i te (ipI g)) (dAug i (fI yes2 g) d) := by
  refine ⟨fun B F ρ σ τ H D pr c hp => ?_⟩
  unfold dAug at hp
  cases q : ρ[i]? with
  | none => rw [q] at hp; exact hp.elim
  | some s =>
    rw [q] at hp
    cases s with
    | no => exact hp.elim
    | own d' => exact hp.elim
    | fz d' =>
      simp only at hp
      obtain ⟨v, es, r⟩ := c.fz_slot q
      refine ⟨v, es, ?_⟩
      have c0 := c.push r
      refine he.bindS pr c0 (D := D) (τ' := τ) hp (fun _ _ _ _ h => h.pop) fun y ρ1 F1 H1 vy c1 b1 hp1 => ?_
      cases e1 : rd ρ1 y with
      | none => rw [e1] at hp1; exact hp1.elim
      | some dy =>
        rw [e1] at hp1
        have ry := c1.read List.mem_cons_self b1 e1
        have rx := c1.pop.top
        cases rx with
        | int =>
          cases ry with
          | int => exact ⟨_, _, rfl, rfl, hp1 _ _ _ ((c1.pop.pop.push .int).assign (notP pr hi))⟩
          | _ => exact hp1.elim
        | _ => cases dy <;> exact hp1.elim
theorem d_augAdd {i : Nat} {x : Str} {pos' : Pos} (hN : X.N.Nodup) (hi : X.N[i]? = some x) (hx : Loc X.env.scope x) (hP : i ∉ P) (he : PD X P W e d) (hf : X.fn x = true ∨ X.env.scope.names.lookup x = some .local := by first | exact .inl rfl | exact .inr rfl | assumption) :
    PDS X P W (.AugAssign (.Name x pos') .Add e pos) (dAug i addI d) := by
  obtain ⟨t, h1, h2⟩ := he
  exact ⟨_, ps_aug hN hi hx h1 ip_add hf, ss_aug h2 hP⟩
end

/-! ### o[i] = e, o[i] op= e -/
theorem PSet.or {X : Cx} {t t' : TSet} (h : PSet X t) (h' : PSet X t') : PSet X (fun o i v H Q => t o i v H Q ∨ t' o i v H Q) := by
  intro pins s σ H o i v ov iv u Q I r1 r2 r3 q
  rcases q with q | q
  · exact h pins s σ H o i v ov iv u Q I r1 r2 r3 q
  · exact h' pins s σ H o i v ov iv u Q I r1 r2 r3 q
def rSetD : TSet := fun o i v H Q => ∃ a H', o = .ref a ∧ DPut H a i v H' ∧ Q H'
theorem set_dict {X : Cx} (hu : X.A.units + 1 < cLine) : PSet X rSetD := by
  intro pins s σ H o i v ov iv u Q I r1 r2 r3 h
  obtain ⟨a, H', rfl, g, q⟩ := h
  cases r1
  exact d_setItem hu I g r2 r3 fun s' I' => ⟨H', I', q⟩
/-- a key as it stands in a dict -/
def keyD : D → Option (Key ⊕ List Key)
  | .int i => some (.inl (.inl i))
  | .str x => some (.inl (.inr x))
  | .tup xs => (keys1 xs).map .inr
  | _ => none
where keys1 : List D → Option (List Key)
  | [] => some []
  | .int i :: r => (keys1 r).map (.inl i :: ·)
  | .str x :: r => (keys1 r).map (.inr x :: ·)
  | _ => none
def lookD (kvs : List (D × D)) (k : Key ⊕ List Key) : Option D := (kvs.find? fun p => decide (keyD p.1 = some k)).map (·.2)
/-- the dict with one more, or with another value -/
def putD (kvs : List (D × D)) (k : Key ⊕ List Key) (key d : D) : List (D × D) :=
  if (kvs.any fun p => decide (keyD p.1 = some k)) then kvs.map fun p => if keyD p.1 = some k then (p.1, d) else p else kvs ++ [(key, d)]
def dropD (kvs : List (D × D)) (k : Key ⊕ List Key) : List (D × D) := kvs.filter fun p => decide (keyD p.1 ≠ some k)
theorem keyD_kD (k : Key) : keyD (kD k) = some (.inl k) := by cases k <;> rfl
theorem keys1_map : ∀ ks : List Key, keyD.keys1 (ks.map kD) = some ks
  | [] => rfl
  | .inl i :: r => by show (keyD.keys1 (r.map kD)).map _ = _; rw [keys1_map r]; rfl
  | .inr i :: r => by show (keyD.keys1 (r.map kD)).map _ = _; rw [keys1_map r]; rfl
theorem keyD_tkD (ks : List Key) : keyD (tkD ks) = some (.inr ks) := by
  show (keyD.keys1 (ks.map kD)).map _ = _
  rw [keys1_map]; rfl
theorem keys1_eq : ∀ {xs : List D} {ks : List Key}, keyD.keys1 xs = some ks → xs = ks.map kD
  | [], _, e => by cases e; rfl
  | .int i :: r, ks, e => by
    obtain ⟨ms, e1, rfl⟩ := Option.map_eq_some_iff.mp e
    rw [List.map_cons, keys1_eq e1]; rfl
  | .str i :: r, ks, e => by
    obtain ⟨ms, e1, rfl⟩ := Option.map_eq_some_iff.mp e
    rw [List.map_cons, keys1_eq e1]; rfl
theorem keyD_inl {d : D} {k : Key} (e : keyD d = some (.inl k)) : d = kD k := by
  cases d with
  | int i => cases e; rfl
  | str x => cases e; rfl
  | tup xs => obtain ⟨_, _, h⟩ := Option.map_eq_some_iff.mp e; cases h
  | _ => cases e
theorem keyD_inr {d : D} {k : List Key} (e : keyD d = some (.inr k)) : d = tkD k := by
  cases d with
  | int i => cases e
  | str x => cases e
  | tup xs =>
    obtain ⟨ks, e1, h⟩ := Option.map_eq_some_iff.mp e
    cases h
    unfold tkD
    rw [keys1_eq e1]
  | _ => cases e
section
variable {K : PySem.W.Frag} {mg : Str → Option Value} {F H : Hp}
theorem DV.key {k : Key} {v : V} (h : DV K mg F (kD k) v) : v = kV k := by
  cases k <;> (cases h; rfl)
theorem DVs.keys : ∀ {ks : List Key} {vs : List V}, DVs K mg F (ks.map kD) vs → vs = ks.map kV
  | [], _, .nil => rfl
  | k :: ks, _, .cons h r => by rw [List.map_cons, h.key, DVs.keys r]
theorem DV.tkey {k : List Key} {v : V} (h : DV K mg F (tkD k) v) : ∃ b, v = .ref b ∧ F b = some (.tup (k.map kV)) := by
  cases h with
  | tup h1 r1 => exact ⟨_, rfl, by rw [h1, r1.keys]⟩
theorem DKs.look {kvs : List (D × D)} {ks : List (Key × V)} (h : DKs K mg F kvs ks) (k : Key) : (lookD kvs (.inl k) = none ∧ valV ks k = none) ∨ ∃ d v, lookD kvs (.inl k) = some d ∧ valV ks k = some v ∧ DV K mg F d v := by
  induction kvs generalizing ks with
  | nil => cases h; exact .inl ⟨rfl, rfl⟩
  | cons p r ih =>
    cases h with
    | cons hd hr =>
      rename_i k' d v vs
      by_cases e : k' = k
      · subst e
        refine .inr ⟨d, v, ?_, valV_pos rfl, hd⟩
        unfold lookD
        rw [List.find?_cons_of_pos (by simp [keyD_kD])]
        rfl
      · have e1 : lookD ((kD k', d) :: r) (.inl k) = lookD r (.inl k) := by
          unfold lookD
          rw [List.find?_cons_of_neg (by simp [keyD_kD, e])]
        rw [e1, valV_neg (p := (k', v)) e]
        exact ih hr
theorem DTs.look {kvs : List (D × D)} {ks : List (List Key × V)} (h : DTs K mg F kvs ks) (k : List Key) : (lookD kvs (.inr k) = none ∧ valV ks k = none) ∨ ∃ d v, lookD kvs (.inr k) = some d ∧ valV ks k = some v ∧ DV K mg F d v := by
  induction kvs generalizing ks with
  | nil => cases h; exact .inl ⟨rfl, rfl⟩
  | cons p r ih =>
    cases h with
    | cons hd hr =>
      rename_i k' d v vs
      by_cases e : k' = k
      · subst e
        refine .inr ⟨d, v, ?_, valV_pos rfl, hd⟩
        unfold lookD
        rw [List.find?_cons_of_pos (by simp [keyD_tkD])]
        rfl
      · have e1 : lookD ((tkD k', d) :: r) (.inr k) = lookD r (.inr k) := by
          unfold lookD
          rw [List.find?_cons_of_neg (by simp [keyD_tkD, e])]
        rw [e1, valV_neg (p := (k', v)) e]
        exact ih hr
theorem DKs.any {kvs : List (D × D)} {ks : List (Key × V)} (h : DKs K mg F kvs ks) (k : Key) : (kvs.any fun p => decide (keyD p.1 = some (.inl k))) = ks.any fun kv => decide (kv.1 = k) := by
  induction kvs generalizing ks with
  | nil => cases h; rfl
  | cons p r ih =>
    cases h with
    | cons hd hr => rw [List.any_cons, List.any_cons, ih hr]; simp [keyD_kD]
theorem DTs.any {kvs : List (D × D)} {ks : List (List Key × V)} (h : DTs K mg F kvs ks) (k : List Key) : (kvs.any fun p => decide (keyD p.1 = some (.inr k))) = ks.any fun kv => decide (kv.1 = k) := by
  induction kvs generalizing ks with
  | nil => cases h; rfl
  | cons p r ih =>
    cases h with
    | cons hd hr => rw [List.any_cons, List.any_cons, ih hr]; simp [keyD_tkD]
theorem DKs.append {a b : List (D × D)} {x y : List (Key × V)} (h : DKs K mg F a x) (h' : DKs K mg F b y) : DKs K mg F (a ++ b) (x ++ y) := by
  induction a generalizing x with
  | nil => cases h; exact h'
  | cons p r ih => cases h with | cons hd hr => exact .cons hd (ih hr)
theorem DTs.append {a b : List (D × D)} {x y : List (List Key × V)} (h : DTs K mg F a x) (h' : DTs K mg F b y) : DTs K mg F (a ++ b) (x ++ y) := by
  induction a generalizing x with
  | nil => cases h; exact h'
  | cons p r ih => cases h with | cons hd hr => exact .cons hd (ih hr)
theorem DKs.put {kvs : List (D × D)} {ks : List (Key × V)} (h : DKs K mg F kvs ks) (k : Key) {d : D} {v : V} (hd : DV K mg F d v) : DKs K mg F (putD kvs (.inl k) (kD k) d) (putK ks k v) := by
  unfold putD putK
  rw [h.any k]
  split
  · rename_i hh
    clear hh
    induction kvs generalizing ks with
    | nil => cases h; exact .nil
    | cons p r ih =>
      cases h with
      | cons h1 hr =>
        rename_i k' d' v' vs
        rw [List.map_cons, List.map_cons]
        by_cases e : k' = k
        · subst e
          rw [if_pos (keyD_kD _), if_pos rfl]
          exact .cons hd (ih hr)
        · rw [if_neg (by rw [keyD_kD]; intro z; cases z; exact e rfl), if_neg e]
          exact .cons h1 (ih hr)
  · exact h.append (.cons hd .nil)
theorem DTs.put {kvs : List (D × D)} {ks : List (List Key × V)} (h : DTs K mg F kvs ks) (k : List Key) {d : D} {v : V} (hd : DV K mg F d v) : DTs K mg F (putD kvs (.inr k) (tkD k) d) (putK ks k v) := by
  unfold putD putK
  rw [h.any k]
  split
  · rename_i hh
    clear hh
    induction kvs generalizing ks with
    | nil => cases h; exact .nil
    | cons p r ih =>
      cases h with
      | cons h1 hr =>
        rename_i k' d' v' vs
        rw [List.map_cons, List.map_cons]
        by_cases e : k' = k
        · subst e
          rw [if_pos (keyD_tkD _), if_pos rfl]
          exact .cons hd (ih hr)
        · rw [if_neg (by rw [keyD_tkD]; intro z; cases z; exact e rfl), if_neg e]
          exact .cons h1 (ih hr)
  · exact h.append (.cons hd .nil)
theorem DKs.drop {kvs : List (D × D)} {ks : List (Key × V)} (h : DKs K mg F kvs ks) (k : Key) : DKs K mg F (dropD kvs (.inl k)) (dropK ks k) := by
  unfold dropD dropK
  induction kvs generalizing ks with
  | nil => cases h; exact .nil
  | cons p r ih =>
    cases h with
    | cons h1 hr =>
      rename_i k' d' v' vs
      by_cases e : k' = k
      · subst e
        rw [List.filter_cons_of_neg (by simp [keyD_kD]), List.filter_cons_of_neg (by simp)]
        exact ih hr
      · rw [List.filter_cons_of_pos (by simp [keyD_kD, e]), List.filter_cons_of_pos (by simp [e])]
        exact .cons h1 (ih hr)
theorem DTs.drop {kvs : List (D × D)} {ks : List (List Key × V)} (h : DTs K mg F kvs ks) (k : List Key) : DTs K mg F (dropD kvs (.inr k)) (dropK ks k) := by
  unfold dropD dropK
  induction kvs generalizing ks with
  | nil => cases h; exact .nil
  | cons p r ih =>
    cases h with
    | cons h1 hr =>
      rename_i k' d' v' vs
      by_cases e : k' = k
      · subst e
        rw [List.filter_cons_of_neg (by simp [keyD_tkD]), List.filter_cons_of_neg (by simp)]
        exact ih hr
      · rw [List.filter_cons_of_pos (by simp [keyD_tkD, e]), List.filter_cons_of_pos (by simp [e])]
        exact .cons h1 (ih hr)
theorem DKs.length {kvs : List (D × D)} {ks : List (Key × V)} (h : DKs K mg F kvs ks) : kvs.length = ks.length := by
  induction kvs generalizing ks with
  | nil => cases h; rfl
  | cons p r ih => cases h with | cons _ hr => simp [ih hr]
theorem DTs.length {kvs : List (D × D)} {ks : List (List Key × V)} (h : DTs K mg F kvs ks) : kvs.length = ks.length := by
  induction kvs generalizing ks with
  | nil => cases h; rfl
  | cons p r ih => cases h with | cons _ hr => simp [ih hr]
/-- a dict looked into -/
def dgetD : D → D → Option (Option D)
  | .dct false kvs, key => match keyD key with
    | some (.inl k) => some (lookD kvs (.inl k))
    | _ => none
  | .dct true kvs, key => match keyD key with
    | some (.inr k) => some (lookD kvs (.inr k))
    | _ => none
  | _, _ => none
theorem TV.dget {a b : D} {x y : V} {o : Option D} (m : ∀ a o, F a = some o → H a = some o) (ha : TV K mg F H a x) (hb : TV K mg F H b y) (e : dgetD a b = some o) :
    ∃ p, x = .ref p ∧ ((o = none ∧ DGet H p y none) ∨ ∃ d v, o = some d ∧ DGet H p y (some v) ∧ DV K mg F d v) := by
  cases ha with
  | dK h1 r1 =>
    rename_i p kvs ks
    have e : (match keyD b with | some (.inl k) => some (lookD kvs (.inl k)) | _ => none) = some o := e
    cases q : keyD b with
    | none => rw [q] at e; cases e
    | some kk =>
      rw [q] at e
      cases kk with
      | inr k => cases e
      | inl k =>
        cases e
        have eb := keyD_inl q
        subst eb
        have ey := (hb.dv m).key
        subst ey
        refine ⟨p, rfl, ?_⟩
        rcases r1.look k with ⟨z1, z2⟩ | ⟨d, v, z1, z2, z3⟩
        · exact .inl ⟨z1, by rw [← z2]; exact .k h1⟩
        · exact .inr ⟨d, v, z1, by rw [← z2]; exact .k h1, z3⟩
  | dT h1 r1 =>
    rename_i p kvs ks
    have e : (match keyD b with | some (.inr k) => some (lookD kvs (.inr k)) | _ => none) = some o := e
    cases q : keyD b with
    | none => rw [q] at e; cases e
    | some kk =>
      rw [q] at e
      cases kk with
      | inl k => cases e
      | inr k =>
        cases e
        have eb := keyD_inr q
        subst eb
        obtain ⟨bb, ey, hbb⟩ := (hb.dv m).tkey
        subst ey
        refine ⟨p, rfl, ?_⟩
        rcases r1.look k with ⟨z1, z2⟩ | ⟨d, v, z1, z2, z3⟩
        · exact .inl ⟨z1, by rw [← z2]; exact .t h1 hbb⟩
        · exact .inr ⟨d, v, z1, by rw [← z2]; exact .t h1 hbb, z3⟩
  | _ => cases e
end
section
variable {K : PySem.W.Frag} {mg : Str → Option Value}
/-- d[k] -/
def ixDct : D → D → Option RV := fun a b => match dgetD a b with
  | some (some d) => some (.fz d)
  | _ => none
def rIxDct : R2 := fun x y H Q => ∃ a v, x = .ref a ∧ DGet H a y (some v) ∧ Q v H
theorem ok_ixDct : OK2 K mg rIxDct ixDct := by
  refine ⟨fun B F ρ σ τ H x y a b rv Q c ha hb e gt => ?_, fun a b rv e => ?_⟩
  · unfold ixDct at e
    cases q : dgetD a b with
    | none => rw [q] at e; cases e
    | some o =>
      rw [q] at e
      cases o with
      | none => cases e
      | some d =>
        cases e
        obtain ⟨p, rfl, h⟩ := ha.dget c.sub hb q
        rcases h with ⟨z, _⟩ | ⟨d', v, z, g, r⟩
        · cases z
        · cases z
          exact ⟨p, v, rfl, g, gt _ _ _ (c.push r)⟩
  · unfold ixDct at e
    split at e <;> (cases e <;> rfl)
theorem ix_dct {X : Cx} (hu : X.A.units + 1 < cLine) : IxR X rIxDct := by
  intro value slice pins s σ H x y v u Q I rx ry h hs
  obtain ⟨a, w, rfl, g, q⟩ := h
  cases rx
  have hT := dict_typeIs I g
  have h := d_getItem (E := X.xe) (Q := EP X pins σ Q) hu I g ry fun w' s' I' r' => ⟨w, H, I', r', q⟩
  unfold subscriptTail
  refine wpAny_bind ?_
  rw [getitemInPython_of_ne hT.not_modules]
  refine wpAny_bind (wpAny_specialOf hT slot_dict_getitem.lookup ?_)
  have fin : wpAny (model X.prog X.w) X.A (subscripted slice false (.ref a) u) (fun r s₃ => wpAny (model X.prog X.w) X.A (letTemporaryGo value (.ref a) r >>= fun _ => pure r) (EP X pins σ Q) X.xe s₃) X.xe s := by
    rw [hs]
    exact wpAny_operating (wpAny_mono h (fun r s₃ h₃ => wpAny_bind (wpAny_letTemporaryGo (wpAny_pure h₃))) fun _ _ x => x)
  first
    | exact wpAny_pure (wpAny_bind fin)
    | exact wpAny_bind (wpAny_pure (wpAny_bind fin))
    | exact wpAny_bind fin
def rInDct (neg : Bool) : R2 := fun x y H Q => ∃ a o, y = .ref a ∧ DGet H a x o ∧ Q (.bl (if neg then !o.isSome else o.isSome)) H
def inDct (neg : Bool) : D → D → Option RV := fun a b => (dgetD b a).map fun o => .fz (.bl (if neg then !o.isSome else o.isSome))
theorem ok_inDct {neg : Bool} : OK2 K mg (rInDct neg) (inDct neg) := by
  refine ⟨fun B F ρ σ τ H x y a b rv Q c ha hb e gt => ?_, fun a b rv e => ?_⟩
  · obtain ⟨o, q, rfl⟩ := Option.map_eq_some_iff.mp e
    obtain ⟨p, rfl, h⟩ := hb.dget c.sub ha q
    rcases h with ⟨z, g⟩ | ⟨d', v, z, g, r⟩
    · subst z
      exact ⟨p, none, rfl, g, gt _ _ _ (c.push .bl)⟩
    · subst z
      exact ⟨p, some v, rfl, g, gt _ _ _ (c.push .bl)⟩
  · obtain ⟨o, q, rfl⟩ := Option.map_eq_some_iff.mp e
    rfl
theorem op_inDct {X : Cx} (hu : X.A.units + 1 < cLine) : OpR X (compareOp .In) (rInDct false) := by
  intro pins s σ H x y v u Q I rx ry h
  obtain ⟨a, o, rfl, g, q⟩ := h
  cases ry
  exact d_in hu I g rx fun s' I' => ⟨.bl _, H, I', rfl, q⟩
theorem op_notInDct {X : Cx} (hu : X.A.units + 1 < cLine) : OpR X (compareOp .NotIn) (rInDct true) := by
  intro pins s σ H x y v u Q I rx ry h
  obtain ⟨a, o, rfl, g, q⟩ := h
  cases ry
  exact d_notIn hu I g rx fun s' I' => ⟨.bl _, H, I', rfl, q⟩
end

/-! ### any subscript, any in -/
def ixA : D → D → Option RV := orD ixD ixDct
def inA : D → D → Option RV := orD inD (inDct false)
def notInA : D → D → Option RV := orD notInD (inDct true)
section
variable {X : Cx} {P : List Nat} {W : WX} {pos : Pos} {a b : Expr} {da db : DE}
theorem d_ixA (hu : X.A.units + 1 < cLine) (h : PD X P W a da) (h' : PD X P W b db) (hs : PlainIx b := by intro _ _; rfl) : PD X P W (.Subscript a b pos) (dOp2 ixA da db) :=
  d_ix (ok_ix.orD ok_ixDct) (IxR.or ix_seq (ix_dct hu)) h h' hs
theorem d_in (hu : X.A.units + 65 < cLine) (h : PD X P W a da) (h' : PD X P W b db) (hm : behindInMarks .In b = false := by rfl) : PD X P W (.Compare a [.In] [b] pos) (dOp2 inA da db) :=
  d_cmp (ok_in.orD ok_inDct) (OpR.or (op_in hu) (op_inDct (by omega))) h h' hm
theorem d_notIn (hu : X.A.units + 65 < cLine) (h : PD X P W a da) (h' : PD X P W b db) (hm : behindInMarks .NotIn b = false := by rfl) : PD X P W (.Compare a [.NotIn] [b] pos) (dOp2 notInA da db) :=
  d_cmp (ok_notIn.orD ok_inDct) (OpR.or (op_notIn hu) (op_notInDct (by omega))) h h' hm
theorem d_inT (hu : X.A.units + 65 < cLine) (h : PD X P W a da) (h' : PD X P W b db) (hm : behindInMarks .In b = false := by rfl) : PDT X P W (.Compare a [.In] [b] pos) (dB (dOp2 inA da db)) :=
  d_cmpT (ok_in.orD ok_inDct) (OpR.or (op_in hu) (op_inDct (by omega))) h h' hm
theorem d_notInT (hu : X.A.units + 65 < cLine) (h : PD X P W a da) (h' : PD X P W b db) (hm : behindInMarks .NotIn b = false := by rfl) : PDT X P W (.Compare a [.NotIn] [b] pos) (dB (dOp2 notInA da db)) :=
  d_cmpT (ok_notIn.orD ok_inDct) (OpR.or (op_notIn hu) (op_notInDct (by omega))) h h' hm
end

/-! ### o[i] = e -/
/-- what an own object is with another item -/
def storeD : D → D → D → Option D
  | .lst xs, .int k, d => (ixN xs.length k).map fun j => .lst (xs.set j d)
  | .dct false kvs, key, d => match keyD key with
    | some (.inl k) => if kvs.length < 1000000 then some (.dct false (putD kvs (.inl k) (kD k) d)) else none
    | _ => none
  | .dct true kvs, key, d => match keyD key with
    | some (.inr k) => if kvs.length < 1000000 then some (.dct true (putD kvs (.inr k) (tkD k) d)) else none
    | _ => none
  | _, _, _ => none
def dStore (e o i : DE) : DS := fun ρ => (e ρ).bindS fun x ρ1 => (o ρ1).bindS fun r ρ2 => (i ρ2).bindS fun k ρ3 => match r with
  | .bor j => match fz1 k ρ3 with
    | some (dk, ρ4) => match fz1 x ρ4 with
      | some (dx, ρ5) => match ρ5[j]? with
        | some (.own d) => match storeD d dk dx with
          | some d' => .nx (ρ5.set j (.own d'))
          | none => .no
        | _ => .no
      | none => .no
    | none => .no
  | _ => .no
section
variable {X : Cx} {P : List Nat} {W : WX} {pos spos : Pos} {e o i : Expr} {de do_ di : DE} {K : PySem.W.Frag} {mg : Str → Option Value}
theorem ss_store {te to ti : TE} (he : SE K mg P W te de) (ho : SE K mg P W to do_) (hi : SE K mg P W ti di) : SS K mg P W (tAsg te (gSub to ti (fun o i v H Q => rSetL o i v H Q ∨ rSetD o i v H Q))) (dStore de do_ di) := by
  refine ⟨fun B F ρ σ τ H D pr c hp => ?_⟩
  refine he.bindS pr c hp (fun _ _ _ _ h => h) fun x ρ1 F1 H1 vx c1 b1 hp1 => ?_
  refine ho.bindS pr c1 (D := D) hp1 (fun _ _ _ _ h => h.pop) fun r ρ2 F2 H2 vr c2 b2 hp2 => ?_
  refine hi.bindS pr c2 (D := D) hp2 (fun _ _ _ _ h => h.pop.pop) fun k ρ3 F3 H3 vk c3 b3 hp3 => ?_
  cases r with
  | fz d => exact hp3.elim
  | own d => exact hp3.elim
  | bor j =>
    have b2 : σ[j]? = some (some vr) := b2
    simp only at hp3
    cases e1 : fz1 k ρ3 with
    | none => rw [e1] at hp3; exact hp3.elim
    | some q =>
      obtain ⟨dk, ρ4⟩ := q
      rw [e1] at hp3
      simp only at hp3
      obtain ⟨F4, c4, m4, rk⟩ := c3.fz1 b3 e1
      have c4 := c4.pop
      cases e2 : fz1 x ρ4 with
      | none => rw [e2] at hp3; exact hp3.elim
      | some q =>
        obtain ⟨dx, ρ5⟩ := q
        rw [e2] at hp3
        simp only at hp3
        obtain ⟨F5, c5, m5, rx⟩ := c4.fz1 b1 e2
        cases e3 : ρ5[j]? with
        | none => rw [e3] at hp3; exact hp3.elim
        | some s =>
          rw [e3] at hp3
          cases s with
          | no => exact hp3.elim
          | fz d => exact hp3.elim
          | own d =>
            simp only at hp3
            obtain ⟨p, hob, e4, n, hh, r⟩ := c5.own_slot e3
            have e5 := e4
            rw [b2] at e5
            cases e5
            cases e6 : storeD d dk dx with
            | none => rw [e6] at hp3; exact hp3.elim
            | some d' =>
              rw [e6] at hp3
              cases r with
              | @lst xs us r1 =>
                cases dk with
                | int kk =>
                  obtain ⟨jj, e7, rfl⟩ := Option.map_eq_some_iff.mp e6
                  have rk := rk
                  cases rk
                  refine .inl ⟨p, us, kk, jj, rfl, rfl, hh, by rw [← r1.length]; exact e7, hp3 _ _ _ (c5.mutS e3 b2 (.lst (r1.set jj rx)))⟩
                | _ => cases e6
              | @dK kvs ks r1 =>
                have e6 : (match keyD dk with | some (.inl k) => if kvs.length < 1000000 then some (PD.D.dct false (putD kvs (.inl k) (kD k) dx)) else none | _ => none) = some d' := e6
                split at e6
                · rename_i kk q
                  split at e6
                  · rename_i hl
                    cases e6
                    have := keyD_inl q
                    subst this
                    have rk := rk.key
                    subst rk
                    refine .inr ⟨p, _, rfl, .k hh (by rw [← r1.length]; exact lt_line hl), hp3 _ _ _ (c5.mutS e3 b2 (.dK (r1.put kk rx)))⟩
                  · cases e6
                · cases e6
              | @dT kvs ks r1 =>
                have e6 : (match keyD dk with | some (.inr k) => if kvs.length < 1000000 then some (PD.D.dct true (putD kvs (.inr k) (tkD k) dx)) else none | _ => none) = some d' := e6
                split at e6
                · rename_i kk q
                  split at e6
                  · rename_i hl
                    cases e6
                    have := keyD_inr q
                    subst this
                    obtain ⟨bb, ey, hbb⟩ := rk.tkey
                    subst ey
                    refine .inr ⟨p, _, rfl, .t hh (c5.sub _ _ (m5 _ _ hbb)) (by rw [← r1.length]; exact lt_line hl), hp3 _ _ _ (c5.mutS e3 b2 (.dT (r1.put kk rx)))⟩
                  · cases e6
                · cases e6
              | ins cc rr => cases e6
theorem d_store (hu : X.A.units + 1 < cLine) (he : PD X P W e de) (ho : PD X P W o do_) (hi : PD X P W i di) (hs : swapsWithSole [.Subscript o i spos] e pos.line X.env = pure false := by rfl) (hw : swappedStores [.Subscript o i spos] e X.env = pure none := by rfl)
    (h1 : (assignEach [.Subscript o i spos] X.env).map (·.2) = [assign (.Subscript o i spos) X.env] := by rfl)
    (ha : ∀ v, assign (.Subscript o i spos) X.env v = (do
      let ov ← holding [v] (eval o X.env)
      let iv ← holding [v, ov] (eval i X.env)
      standAt spos
      holding [v, ov, iv] (setItem ov iv v)
      release [v, ov, iv] []) := by intro _; rfl) : PDS X P W (.Assign [.Subscript o i spos] e pos) (dStore de do_ di) := by
  obtain ⟨t, p1, p2⟩ := he
  obtain ⟨u, q1, q2⟩ := ho
  obtain ⟨w, r1, r2⟩ := hi
  exact ⟨_, ps_asg p1 (pg_sub q1 r1 (PSet.or set_list (set_dict hu)) ha) hs hw h1, ss_store p2 q2 r2⟩
end

/-! ### a, b = x, y -/
def dPar (i j : Nat) (a : DA) : DS := fun ρ => (a ρ).bindS fun rs ρ1 => match rs with
  | [x, y] => match inR x ρ1 with
    | some (sx, ρ2) => match inR y ρ2 with
      | some (sy, ρ3) => .nx ((ρ3.set j sy).set i sx)
      | none => .no
    | none => .no
  | _ => .no
section
variable {X : Cx} {P : List Nat} {W : WX} {pos : Pos} {a b : Expr} {d : DA} {K : PySem.W.Frag} {mg : Str → Option Value}
theorem SA.bindS {t : TA} {a : DA} {B : Bs} {F H : Hp} {ρ : List SV} {σ : L2.St} {τ : List (SV × V)} (ha : SA K mg P W t a) (pr : PrOk B P) (c : Cfg K mg B F ρ σ τ H) {f : List RV → List SV → RS} {τ' : List (SV × V)} {D : Ends} {Q : List V → Hp → Prop}
    (hp : PostS K mg W B τ' D ((a ρ).bindS f)) (hτ : ∀ F' ρ' σ' H', Cfg K mg B F' ρ' σ' τ H' → Cfg K mg B F' ρ' σ' τ' H')
    (hok : ∀ rs ρ' F' H' vs, Cfg K mg B F' ρ' σ (stkL rs vs τ) H' → RBs σ rs vs → PostS K mg W B τ' D (f rs ρ') → Q vs H') : t σ H Q := by
  refine ha.run B F ρ σ τ H Q pr c ?_
  cases e : a ρ with
  | ok rv ρ' => rw [e] at hp; exact fun F' H' v c' b => hok rv ρ' F' H' v c' b hp
  | ex cc fs ρ' => rw [e] at hp; exact fun F' H' cls dd c' ev => hp F' σ H' cls dd (hτ _ _ _ _ c') ev
  | no => rw [e] at hp; exact hp.elim
theorem ss_par {i j : Nat} {t : TA} (h : SA K mg P W t d) (hi : i ∉ P) (hj : j ∉ P) (hij : i ≠ j) : SS K mg P W (tPar i j t) (dPar i j d) := by
  refine ⟨fun B F ρ σ τ H D pr c hp => ?_⟩
  refine h.bindS pr c hp (fun _ _ _ _ h => h) fun rs ρ1 F1 H1 vs c1 b1 hp1 => ?_
  match rs, vs, b1, c1, hp1 with
  | [x, y], [v, u], .cons bx (.cons by_ .nil), c1, hp1 =>
    have c1 : Cfg K mg B F1 ρ1 σ ((y.stk, u) :: (x.stk, v) :: τ) H1 := c1
    have hp1 : PostS K mg W B τ D (match inR x ρ1 with
      | some (sx, ρ2) => match inR y ρ2 with
        | some (sy, ρ3) => .nx ((ρ3.set j sy).set i sx)
        | none => .no
      | none => .no) := hp1
    refine ⟨v, u, rfl, ?_⟩
    cases e1 : PD.inR x ρ1 with
    | none => rw [e1] at hp1; exact hp1.elim
    | some q =>
      obtain ⟨sx, ρ2⟩ := q
      rw [e1] at hp1
      simp only at hp1
      obtain ⟨F2, c2⟩ := c1.swap.inR bx e1
      cases e2 : PD.inR y ρ2 with
      | none => rw [e2] at hp1; exact hp1.elim
      | some q =>
        obtain ⟨sy, ρ3⟩ := q
        rw [e2] at hp1
        obtain ⟨F3, c3⟩ := c2.swap.inR by_ e2
        have c4 := (c3.assign (notP pr hj)).assign (notP pr hi)
        rw [List.set_comm _ _ hij]
        exact hp1 _ _ _ c4
theorem d_par {i j : Nat} {x y : Str} {px py pt : Pos} {kt k2 : Nat} {pt2 : Pos} (hc : X.calm = true) (hN : X.N.Nodup) (hi : X.N[i]? = some x) (hj : X.N[j]? = some y) (hij : i ≠ j) (hiP : i ∉ P) (hjP : j ∉ P)
    (hx : X.env.scope.names.lookup x = some .local) (hy : X.env.scope.names.lookup y = some .local) (ha : PDA X P W [a, b] d)
    (hw : swappedStores [.Tuple [.Name x px, .Name y py] kt pt] (.Tuple [a, b] k2 pt2) X.env = pure (some [x, y]))
    (hs : swapsWithSole [.Tuple [.Name x px, .Name y py] kt pt] (.Tuple [a, b] k2 pt2) pos.line X.env = pure false := by rfl) :
    PDS X P W (.Assign [.Tuple [.Name x px, .Name y py] kt pt] (.Tuple [a, b] k2 pt2) pos) (dPar i j d) := by
  obtain ⟨t, p1, p2⟩ := ha
  exact ⟨_, ps_par hc hN hi hj hij hx hy p1 hw hs, ss_par p2 hiP hjP hij⟩
end

/-! ### new dicts -/
def dNewD (t : Bool) : DE := fun ρ => .ok (.own (.dct t [])) ρ
section
variable {X : Cx} {P : List Nat} {W : WX} {pos : Pos}
theorem d_newK : PD X P W (.Dict [] [] pos) (dNewD false) := ⟨_, pe_dnewK, ⟨fun B F ρ σ τ H Q pr c hp p hn => hp _ _ _ (c.allocO hn (.dK .nil)) trivial⟩⟩
theorem d_newT : PD X P W (.Dict [] [] pos) (dNewD true) := ⟨_, pe_dnewT, ⟨fun B F ρ σ τ H Q pr c hp p hn => hp _ _ _ (c.allocO hn (.dT .nil)) trivial⟩⟩
end

/-! ### list(range(..)) -/
def dLstRg (a : DI) : DE := fun ρ => (a ρ).bind fun ds ρ1 => if ds.length ≤ 1000000 then .ok (.own (.lst ds)) ρ1 else .no
section
variable {X : Cx} {P : List Nat} {W : WX} {pos p p2 pos2 : Pos} {a b : Expr} {da db : DE}
theorem rgV_dvs {K : PySem.W.Frag} {mg : Str → Option Value} {F : Hp} (i j : Int) : DVs K mg F (upto i (j - i).toNat) (rgV i j) := by
  unfold upto rgV
  generalize (List.range (j - i).toNat) = l
  induction l with
  | nil => exact .nil
  | cons k r ih => exact .cons .int ih
theorem d_listRg1 (hc : X.calm = true) (hg : Gl X "list") (hm : X.mg "list" = none) (hg2 : Gl X "range") (hm2 : X.mg "range" = none) (h : PD X P W a da) (na2 : starEach [a] X.env = (false, eval a X.env) :: starEach [] X.env := by rfl)
    (na : starEach [Expr.Call (.Name "range" p2) [a] [] pos2] X.env = (false, eval (Expr.Call (.Name "range" p2) [a] [] pos2) X.env) :: starEach [] X.env := by rfl) :
    PD X P W (.Call (.Name "list" p) [.Call (.Name "range" p2) [a] [] pos2] [] pos) (dLstRg (dRng1 (dCons da dNil))) := by
  obtain ⟨t, h1, h2⟩ := h
  refine ⟨_, pe_listRg hc hg hm (prg_1 hg2 hm2 h1 na2) na, ⟨fun B F ρ σ τ H Q pr c hp => ?_⟩⟩
  have hp : PostE X.K X.mg W B σ τ Q ((da ρ).bind fun x ρ1 => (match [x] with
      | [.fz (.int j)] => if small62 j then R.ok (upto 0 j.toNat) ρ1 else .no
      | _ => .no : R (List D)).bind fun ds ρ1 => if ds.length ≤ 1000000 then .ok (.own (.lst ds)) ρ1 else .no) := by
    unfold dLstRg dRng1 dCons dNil at hp
    cases e : da ρ with
    | ok x ρ1 => rw [e] at hp; exact hp
    | ex cc fs ρ1 => rw [e] at hp; exact hp
    | no => rw [e] at hp; exact hp
  refine h2.bind pr c (Post := PostE X.K X.mg W B σ τ Q) hp (fun _ _ _ h => h) id fun x ρ1 F1 H1 vx c1 b1 hp1 => ?_
  cases x with
  | fz d =>
    cases d with
    | int j =>
      have r := c1.top
      cases r
      have hp1 : PostE X.K X.mg W B σ τ Q ((if small62 j then R.ok (upto 0 j.toNat) ρ1 else .no : R (List D)).bind fun ds ρ1 => if ds.length ≤ 1000000 then .ok (.own (.lst ds)) ρ1 else .no) := hp1
      refine ⟨j, rfl, ?_⟩
      by_cases hs : small62 j = true
      · rw [if_pos hs] at hp1
        have hp1 : PostE X.K X.mg W B σ τ Q (if (upto 0 j.toNat).length ≤ 1000000 then .ok (.own (.lst (upto 0 j.toNat))) ρ1 else .no) := hp1
        by_cases hl : (upto 0 j.toNat).length ≤ 1000000
        · rw [if_pos hl] at hp1
          have hs' : -(2 ^ 62) ≤ j ∧ j < 2 ^ 62 := of_decide_eq_true hs
          have hl' : j.toNat ≤ 1000000 := by simpa [upto] using hl
          refine ⟨⟨by omega, by omega, hs'.1, hs'.2, by omega⟩, fun q hq => ?_⟩
          have := rgV_dvs (K := X.K) (mg := X.mg) (F := F1) 0 j
          rw [Int.sub_zero] at this
          exact hp1 _ _ _ (c1.pop.allocO hq (.lst this)) trivial
        · rw [if_neg hl] at hp1; exact hp1.elim
      · rw [if_neg hs] at hp1; exact hp1.elim
    | _ => exact hp1.elim
  | _ => exact hp1.elim
end

/-! ### enumerate, zip over lists -/
def dEnum (e : DE) : DI := fun ρ => (e ρ).bind fun x ρ1 => match fz1 x ρ1 with
  | some (.lst xs, ρ2) => .ok (enumL 0 xs) ρ2
  | _ => .no
where enumL : Nat → List D → List D
  | _, [] => []
  | n, d :: ds => .tup [.int n, d] :: enumL (n + 1) ds
theorem enumL_length : ∀ (xs : List D) (n : Nat), (dEnum.enumL n xs).length = xs.length
  | [], _ => rfl
  | _ :: r, n => by unfold dEnum.enumL; simp [enumL_length r]
theorem enumL_get : ∀ {xs : List D} {n i : Nat} {d : D}, (dEnum.enumL n xs)[i]? = some d → ∃ x, xs[i]? = some x ∧ d = .tup [.int ((n + i : Nat) : Int), x]
  | [], n, i, d, h => by simp [dEnum.enumL] at h
  | x :: r, n, 0, d, h => by
    unfold dEnum.enumL at h
    simp at h
    exact ⟨x, rfl, by rw [← h]; rfl⟩
  | x :: r, n, i + 1, d, h => by
    unfold dEnum.enumL at h
    obtain ⟨y, h1, h2⟩ := enumL_get (xs := r) (n := n + 1) (i := i) (d := d) (by simpa using h)
    exact ⟨y, by simpa using h1, by rw [h2]; congr 3; omega⟩
section
variable {X : Cx} {P : List Nat} {W : WX} {pos p tpos : Pos} {e : Expr} {d : DE} {K : PySem.W.Frag} {mg : Str → Option Value}
theorem itok_enum {a : Addr} {xs : List D} : ItOk K mg (Ite K a) (dEnum.enumL 0 xs) [(.fz (.lst xs), .ref a)] := by
  intro B F ρ σ τ H c
  have r := c.top
  cases r with
  | lst s r =>
    have s' : SqL K H a _ := .of (c.sub _ _ s)
    refine ⟨fun i hi => ?_, fun i hi _ => ⟨_, s', by rw [enumL_length] at hi; rw [← r.length]; exact hi⟩, fun i x H' d hy hd => ?_⟩
    · rw [enumL_length] at hi
      have hd : xs[i]? = some xs[i] := by simp [hi]
      obtain ⟨v, hv, _⟩ := r.get hd
      exact ⟨_, v, s', hv⟩
    · obtain ⟨T, y, rfl, hT, rfl, hy⟩ := hy
      obtain ⟨dx, hx, rfl⟩ := enumL_get hd
      obtain ⟨v, hv, hr⟩ := r.get hx
      have e2 := hy _ s'
      rw [hv] at e2
      cases e2
      obtain ⟨c', m⟩ := c.allocF (o := .tup [.int (i : Nat), y]) hT
      refine ⟨_, c', .tup upd_same (.cons ?_ (.cons (hr.mono m) .nil)), fun b o e => by rw [upd_ne (ne_of_none e hT)]; exact e⟩
      rw [Nat.zero_add]
      exact .int
theorem d_enum {elts : List Expr} {kk : Nat} (hg : Gl X "enumerate") (hm : X.mg "enumerate" = none) (h : PD X P W e d) (hs0 : starEach [e] X.env = (false, eval e X.env) :: starEach [] X.env := by rfl) (hs : starEach [e] X.env = [(false, eval e X.env)] := by rfl) :
    PDI X P W (.Tuple elts kk tpos) (.Call (.Name "enumerate" p) [e] [] pos) (dEnum d) := by
  obtain ⟨t, h1, h2⟩ := h
  refine ⟨_, pi_enum hg hm (pa_cons h1 pa_nil hs0) hs, ⟨fun B F ρ σ τ H Rr pr c hp => ?_⟩⟩
  refine h2.bindI pr c hp fun x ρ1 F1 H1 vx c1 b1 hp1 => ?_
  cases q : fz1 x ρ1 with
  | none => rw [q] at hp1; exact hp1.elim
  | some p =>
    obtain ⟨d, ρ2⟩ := p
    rw [q] at hp1
    obtain ⟨F2, c2, m, r⟩ := c1.fz1 b1 q
    cases r with
    | lst s r =>
      exact ⟨_, _, rfl, .of (c2.sub _ _ s), hp1 F2 H1 _ [(.fz (.lst _), .ref _)] (c2.push (.lst s r)) itok_enum⟩
    | _ => exact hp1.elim
end
end PD
set_option Elab.async false
set_option linter.all false
set_option maxRecDepth 100000
set_option autoImplicit false
set_option maxHeartbeats 4000000
/-! PD: lists and tuples walked alike; enumerate; zip. -/
namespace PD
open PySem PySem.Spec PyProof.Rows L2

/-! ### a list or a tuple -/
def iSeq (K : PySem.W.Frag) (tl : TE) : TI := fun σ H R => tl σ H fun x H1 => ∃ a, x = .ref a ∧ (((∃ xs, SqL K H1 a xs) ∧ R (Itl K a) H1) ∨ ((∃ xs, SqT K H1 a xs) ∧ R (Itt K a) H1))
theorem pi_seq {X : Cx} {tg l : Expr} {tl : TE} (hl : PE X l tl) : PI X tg l (iSeq X.K tl) := by
  refine ⟨fun pins s σ H R I h => ?_⟩
  refine thn (hl.run pins s σ H _ I h) fun v s1 ⟨x, H1, I1, r1, q1⟩ => ?_
  obtain ⟨a, e, q1⟩ := q1
  subst e
  cases r1
  have fr : ∀ b ∈ [s1.heap.objs.size], FpOk X pins H1 b := fun b hb => by
    have e : b = s1.heap.objs.size := by simpa using hb
    subst e
    exact I1.fpOk (Nat.le_refl _) (I1.hok.fresh (Nat.le_refl _))
  rcases q1 with ⟨⟨xs, hq⟩, q⟩ | ⟨⟨xs, hq⟩, q⟩
  · obtain ⟨its, rv, p, hz⟩ := I1.list hq
    refine wpAny_pyIter_list p.isList ?_
    exact ⟨s1.heap.objs.size, [s1.heap.objs.size], _, _, H1, rfl, I1.kept (t' := s1.toks) fun b o e => Heap.get?_push_of_some _ e, turn_list a _, ⟨_, Heap.get?_push_size _ rfl, rfl, rfl⟩, fr, q⟩
  · obtain ⟨its, rv, p, hz⟩ := I1.tuple hq
    refine wpAny_pyIter_tuple (show s1.heap.IsTuple a its.toArray from p) ?_
    exact ⟨s1.heap.objs.size, [s1.heap.objs.size], _, _, H1, rfl, I1.kept (t' := s1.toks) fun b o e => Heap.get?_push_of_some _ e, turn_tuple a _, ⟨_, Heap.get?_push_size _ rfl, rfl, rfl⟩, fr, q⟩
def dItS (e : DE) : DI := fun ρ => (e ρ).bind fun x ρ1 => match fz1 x ρ1 with
  | some (.lst xs, ρ2) => .ok xs ρ2
  | some (.tup xs, ρ2) => .ok xs ρ2
  | _ => .no
section
variable {K : PySem.W.Frag} {mg : Str → Option Value} {P : List Nat} {W : WX}
theorem si_seq {t : TE} {e : DE} (h : SE K mg P W t e) : SI K mg P W (iSeq K t) (dItS e) := by
  refine ⟨fun B F ρ σ τ H Rr pr c hp => ?_⟩
  refine h.bindI pr c hp fun x ρ1 F1 H1 vx c1 b1 hp1 => ?_
  cases q : fz1 x ρ1 with
  | none => rw [q] at hp1; exact hp1.elim
  | some p =>
    obtain ⟨d, ρ2⟩ := p
    rw [q] at hp1
    obtain ⟨F2, c2, m, r⟩ := c1.fz1 b1 q
    cases r with
    | lst s r =>
      exact ⟨_, rfl, .inl ⟨⟨_, .of (c2.sub _ _ s)⟩, hp1 F2 H1 _ [(.fz (.lst _), .ref _)] (c2.push (.lst s r)) itok_list⟩⟩
    | tup s r =>
      exact ⟨_, rfl, .inr ⟨⟨_, .of (c2.sub _ _ s)⟩, hp1 F2 H1 _ [(.fz (.tup _), .ref _)] (c2.push (.tup s r)) itok_tup⟩⟩
    | _ => exact hp1.elim
theorem d_iSeq {X : Cx} {P : List Nat} {W : WX} {tg a : Expr} {da : DE} (h : PD X P W a da) : PDI X P W tg a (dItS da) := by
  obtain ⟨t, h1, h2⟩ := h
  exact ⟨_, pi_seq h1, si_seq h2⟩
end

/-! ### enumerate over a tuple -/
section
open AutoSeq1 (wpAny_loadPart')
set_option maxHeartbeats 1000000 in
theorem meets_enumerate_newT {v : Value} {o : Obj} {Hh : Heap → Prop} (B : Begins v o Hh) :
    Meets (Builtin.«enumerate.__new__» ⟨[.type "enumerate", v], []⟩) (fun _ R s => Hh s.heap ∧
      R (.ok (.ret (.ref (s.heap.push o).objs.size))) { s with heap := (s.heap.push o).push { cls := .type "enumerate", data := .fields #[.none, .bool false, .ref s.heap.objs.size, rawInt 0, .none, .none] } }) :=
  .of_wp fun prog w A R s h => by
    obtain ⟨hp, g, d, tk, os⟩ := s; obtain ⟨h1, h⟩ := h
    have hsub := sub_enumerate
    have q1 : ∀ {A' : Around} {E : Value → Shared → Prop} {Q : Value → Shared → Prop}, Q (.ref hp.objs.size) ⟨hp.push o, g, d, tk, os⟩ → wpAny (model prog w) A' (pyIter v) Q E ⟨hp, g, d, tk, os⟩ :=
      fun q => B.iter prog w _ _ ⟨hp, g, d, tk, os⟩ _ h1 q
    wp_walk using q1
    refine wpAny_stack_any fun st => wpAny_pure ?_
    split
    · rename_i c _ _ _ _ _
      cases (c == Value.type "enumerate")
      · wp_walk using q1
        exact ⟨_, rfl, h⟩
      · wp_walk using q1
        exact ⟨_, rfl, h⟩
    · wp_walk using q1
      exact ⟨_, rfl, h⟩
theorem call_enumerate_1B {prog : Program} {w : World} {A : Around} {E : Value → Shared → Prop} {s : Shared} {v : Value} {o : Obj} {Hh : Heap → Prop} {Q : Value → Shared → Prop} (B : Begins v o Hh) (h1 : Hh s.heap)
    (h : ∀ h', IsEnum h' (s.heap.objs.size + 1) s.heap.objs.size 0 .none → h'.get? s.heap.objs.size = some o → h'.objs.size = s.heap.objs.size + 2 →
      (∀ b o, s.heap.get? b = some o → h'.get? b = some o) → Q (.ref (s.heap.objs.size + 1)) { s with heap := h' }) :
    wpAny (model prog w) A (call (.type "enumerate") [v]) Q E s := by
  refine callType_new F.called_enumerate (by decide) (F.typeCall_enumerate_1 _) (F.newCall_enumerate_1 _) (fun obj => F.args_object_init_2 obj _) F.entry_enumerate_new
    (meets_enumerate_newT B) ⟨h1, ?_⟩
  have hz : (s.heap.push o).objs.size = s.heap.objs.size + 1 := Heap.size_push ..
  show _ ∧ _
  rw [hz]
  have he : IsEnum ((s.heap.push o).push { cls := .type "enumerate", data := .fields #[.none, .bool false, .ref s.heap.objs.size, rawInt 0, .none, .none] }) (s.heap.objs.size + 1) s.heap.objs.size 0 .none := by
    have := Heap.get?_push_size (s.heap.push o) (o := { cls := .type "enumerate", data := .fields #[.none, .bool false, .ref s.heap.objs.size, rawInt 0, .none, .none] }) rfl
    rw [hz] at this; exact this
  refine ⟨⟨_, he, rfl⟩, h _ he (Heap.get?_push_of_some _ (Heap.get?_push_size _ B.free)) (by rw [Heap.size_push, hz]) fun b o x => Heap.get?_push_of_some _ (Heap.get?_push_of_some _ x)⟩
end
def IteT (K : PySem.W.Frag) (a : Addr) : It :=
  ⟨fun i H => ∃ (xs : List V) (x : V), SqT K H a xs ∧ xs[i]? = some x, fun i H v H' => ∃ T x, v = .ref T ∧ H T = none ∧ H' = upd H T (.tup [.int (i : Nat), x]) ∧ ∀ xs, SqT K H a xs → xs[i]? = some x, fun i H => ∃ xs : List V, SqT K H a xs ∧ xs.length ≤ i⟩
theorem turn_enumT {P : Program} {w : World} {K : PySem.W.Frag} {elts : List Expr} {kk : Nat} {tpos : Pos} (a e it : Addr) (hai : a ≠ it) :
    Turn P w K (.Tuple elts kk tpos) (IteT K a) [e, it] e (fun i h => (∃ old, IsEnum h e it ((i : Nat) : Int) old) ∧ h.IsTupleIter it a i ∧ e ≠ it ∧ e ≠ a) where
  mem := by simp
  obj := fun i h st b hb => by
    obtain ⟨⟨old, he⟩, ⟨o, ho, hc, hd⟩, _⟩ := st
    have e' : b = e ∨ b = it := by simpa using hb
    rcases e' with z | z
    · rw [z]; exact ⟨_, he, fun v q => nomatch q⟩
    · rw [z]; exact ⟨o, ho, fun v q => by rw [hd] at q; cases q⟩
  keep := fun i h h' st k => let ⟨⟨old, he⟩, hi, hne, hnt⟩ := st; ⟨⟨old, k e (by simp) _ he⟩, hi.at fun o q => k it (by simp) o q, hne, hnt⟩
  item := by
    intro X hP hw hK hc i pins s σ H E I hf st hg
    subst hP hw hK
    obtain ⟨⟨old, he⟩, hit, hne, hnt⟩ := st
    obtain ⟨xs, x, hq, hx⟩ := hg
    obtain ⟨its, rv, p, hz⟩ := I.tuple hq
    obtain ⟨u, hu, ru⟩ := rv.get hx
    have hel : e < s.heap.objs.size := Heap.lt_size he
    have hil : it < s.heap.objs.size := by obtain ⟨_, q, _⟩ := hit; exact Heap.lt_size q
    have hlt : i < its.toArray.size := by
      have := (List.getElem?_eq_some_iff.mp hu).1
      simpa using this
    refine wpAny_pyNext_enum_itemD (Draws.tuple (A := X.A.in1) (I.ok.hd hc) it a hai its.toArray) he ⟨hit, p⟩ hlt hne (by simp [hne, hnt]) fun x' h' tk hx' ho hst hT hsz hk => ?_
    obtain ⟨hit', _⟩ := hst
    have ex : x' = u := by
      have h1 : its[i]? = some x' := by simpa using hx'
      rw [hu] at h1
      exact (Option.some.inj h1).symm
    subst ex
    refine ⟨_, rfl, wpAny_letOwnedTupleGo_enum (s := { s with heap := h', toks := tk + 1 }) ho fun h'' he' sb => ?_⟩
    have hT2 : h''.get? s.heap.objs.size = some { cls := .type "tuple", data := .seq #[.int i tk, x'] } := (sb.2 _ (Nat.ne_of_gt hel)).trans hT
    have new : ObjOk X.prog X.w (upd H s.heap.objs.size (.tup [.int (i : Nat), x])) h'' s.heap.objs.size (.tup [.int (i : Nat), x]) :=
      ⟨by show 2 ≤ sizeLine; decide, [.int i tk, x'], .cons ⟨_, rfl⟩ (.cons ru .nil), ⟨_, hT2, rfl, _, rfl⟩⟩
    have I1 : Inv X pins σ (upd H s.heap.objs.size (.tup [.int (i : Nat), x])) { s with heap := h'', toks := tk + 1 } :=
      I.turnedNew (ch := [e, it]) (fun b ob hb q => (sb.2 b (fun z => hb (by simp [z]))).trans (hk b ob (fun z => hb (by simp [z])) (fun z => hb (by simp [z])) q)) hf (Nat.le_refl _) new
    refine ⟨.ref s.heap.objs.size, _, I1, rfl, ⟨_, x, rfl, I.hok.fresh (Nat.le_refl _), rfl, fun ys hy => by rw [I.tuple_inj hy hq]; exact hx⟩, ⟨⟨x', ?_⟩, hit'.at fun o q => (sb.2 it (Ne.symm hne)).trans q, hne, hnt⟩, fun b hb => ?_⟩
    · have e1 : ((i + 1 : Nat) : Int) = (i : Int) + 1 := by omega
      rw [e1]; exact he'
    · have hb' : b < s.heap.objs.size := by
        have e' : b = e ∨ b = it := by simpa using hb
        rcases e' with z | z
        · rw [z]; exact hel
        · rw [z]; exact hil
      rw [upd_ne (Nat.ne_of_lt hb')]
      exact (hf b hb).1
  done := by
    intro X hP hw hK hc i pins s σ H E I hf st hg
    subst hP hw hK
    obtain ⟨⟨old, he⟩, hit, hne, hnt⟩ := st
    obtain ⟨xs, hq, hx⟩ := hg
    obtain ⟨its, rv, p, hz⟩ := I.tuple hq
    obtain ⟨f0, f1, f2, f3, f4, f5⟩ := hf it (by simp)
    have hl := rv.length
    have hT : s.TypeIs (.ref e) "enumerate" := ⟨_, he, rfl⟩
    unfold pyNext
    refine wpAny_bind (wpAny_attempt (wpAny_callSpecial?_slot (name := Str.ofString "__next__") hT F.slot_enumerate_next
      (wpAny_call_entry F.slot_enumerate_next hT F.entry_enumerate_next ?_ (F.args_enumerate_next_1 _))))
    show wpAny _ _ (field (.ref e) 2 >>= _) _ _ _
    refine wpAny_bind (wpAny_field he rfl (x := .ref it) rfl ?_)
    refine wpAny_bind (wpAny_nextOf_tuple_end (A := X.A.in1) (I.ok.hd hc) hit p (by simp; omega) fun h' x he' hx' => ?_)
    obtain ⟨o, ho, hc'⟩ := hx'
    refine wpAny_bind (wpAny_isInstance (T := "StopIteration") (b := true) ⟨o, ho, hc'⟩ isSubtype_stop ?_)
    exact wpAny_pure ⟨rfl, I.turned (t' := s.toks) (fun b o hb q => he' b o hb q) f0 f1 f3 f4 f5⟩
  self := fun A i s Q E st h => let ⟨⟨_, he⟩, _⟩ := st; wpAny_pyIter_enum he h
end PD
set_option Elab.async false
set_option linter.all false
set_option maxRecDepth 100000
set_option autoImplicit false
set_option maxHeartbeats 4000000
/-! PD: enumerate and zip over lists and tuples. -/
namespace PD
open PySem PySem.Spec PyProof.Rows L2

def iEnumS (K : PySem.W.Frag) (ta : TA) : TI := fun σ H R => ta σ H fun vs H1 => ∃ a, vs = [.ref a] ∧ (((∃ xs, SqL K H1 a xs) ∧ R (Ite K a) H1) ∨ ((∃ xs, SqT K H1 a xs) ∧ R (IteT K a) H1))
theorem pi_enumS {X : Cx} {e : Expr} {ta : TA} {p pos tpos : Pos} {elts : List Expr} {kk : Nat} (hg : Gl X "enumerate") (hm : X.mg "enumerate" = none) (ha : PA X [e] ta) (hs : starEach [e] X.env = [(false, eval e X.env)] := by rfl) :
    PI X (.Tuple elts kk tpos) (.Call (.Name "enumerate" p) [e] [] pos) (iEnumS X.K ta) := by
  refine ⟨fun pins s σ H R I h => ?_⟩
  refine Call_ (ld_blt I hg hm boot_enumerate (PyProof.Rows.callWith_type1 (thn (ha.run pos pins s σ H _ I h) fun us s1 ⟨vs, H1, I1, r1, q1⟩ => ?_) hs rfl))
  obtain ⟨a, ex, q1⟩ := q1
  subst ex
  cases r1 with
  | cons r rr =>
    cases rr
    cases r
    have fr : ∀ b ∈ [s1.heap.objs.size + 1, s1.heap.objs.size], FpOk X pins H1 b := fun b hb => by
      have e' : b = s1.heap.objs.size + 1 ∨ b = s1.heap.objs.size := by simpa using hb
      have hle : s1.heap.objs.size ≤ b := by
        rcases e' with z | z
        · rw [z]; exact Nat.le_add_right _ _
        · rw [z]; exact Nat.le_refl _
      exact I1.fpOk hle (I1.hok.fresh hle)
    rcases q1 with ⟨⟨xs, hq⟩, q⟩ | ⟨⟨xs, hq⟩, q⟩
    · obtain ⟨its, rv, p', hz⟩ := I1.list hq
      refine call_enumerate_list p'.isList fun h' he hit hsz hk => wpAny_pyIter_enum he ?_
      have I2 : Inv X pins σ H1 { s1 with heap := h' } := I1.kept (t' := s1.toks) hk
      exact ⟨s1.heap.objs.size + 1, [s1.heap.objs.size + 1, s1.heap.objs.size], _, _, H1, rfl, I2, turn_enum a (s1.heap.objs.size + 1) s1.heap.objs.size, ⟨⟨.none, he⟩, hit, Nat.succ_ne_self _⟩, fr, q⟩
    · obtain ⟨its, rv, p', hz⟩ := I1.tuple hq
      have hlt : a < s1.heap.objs.size := by obtain ⟨o, ho, _⟩ := id p'; exact Heap.lt_size ho
      refine call_enumerate_1B (begins_tuple a its.toArray) (show s1.heap.IsTuple a its.toArray from p') fun h' he hit hsz hk => wpAny_pyIter_enum he ?_
      have I2 : Inv X pins σ H1 { s1 with heap := h' } := I1.kept (t' := s1.toks) hk
      exact ⟨s1.heap.objs.size + 1, [s1.heap.objs.size + 1, s1.heap.objs.size], _, _, H1, rfl, I2, turn_enumT a (s1.heap.objs.size + 1) s1.heap.objs.size (Nat.ne_of_lt hlt), ⟨⟨.none, he⟩, ⟨_, hit, rfl, rfl⟩, Nat.succ_ne_self _, Nat.ne_of_gt (Nat.lt_succ_of_lt hlt)⟩, fr, q⟩
/-- the items of a list or a tuple -/
def fzS (x : RV) (ρ : List SV) : Option (List D × List SV) := match fz1 x ρ with
  | some (.lst xs, ρ2) => some (xs, ρ2)
  | some (.tup xs, ρ2) => some (xs, ρ2)
  | _ => none
def dEnumS (a : DE) : DI := fun ρ => (a ρ).bind fun x ρ1 => match fz1 x ρ1 with
  | some (.lst xs, ρ2) => .ok (dEnum.enumL 0 xs) ρ2
  | some (.tup xs, ρ2) => .ok (dEnum.enumL 0 xs) ρ2
  | _ => .no
section
variable {X : Cx} {P : List Nat} {W : WX} {pos p tpos : Pos} {e : Expr} {d : DE} {K : PySem.W.Frag} {mg : Str → Option Value}
theorem itok_enumT {a : Addr} {xs : List D} : ItOk K mg (IteT K a) (dEnum.enumL 0 xs) [(.fz (.tup xs), .ref a)] := by
  intro B F ρ σ τ H c
  have r := c.top
  cases r with
  | tup s r =>
    have s' : SqT K H a _ := .of (c.sub _ _ s)
    refine ⟨fun i hi => ?_, fun i hi _ => ⟨_, s', by rw [enumL_length] at hi; rw [← r.length]; exact hi⟩, fun i x H' d hy hd => ?_⟩
    · rw [enumL_length] at hi
      have hd : xs[i]? = some xs[i] := by simp [hi]
      obtain ⟨v, hv, _⟩ := r.get hd
      exact ⟨_, v, s', hv⟩
    · obtain ⟨T, y, rfl, hT, rfl, hy⟩ := hy
      obtain ⟨dx, hx, rfl⟩ := enumL_get hd
      obtain ⟨v, hv, hr⟩ := r.get hx
      have e2 := hy _ s'
      rw [hv] at e2
      cases e2
      obtain ⟨c', m⟩ := c.allocF (o := .tup [.int (i : Nat), y]) hT
      refine ⟨_, c', .tup upd_same (.cons ?_ (.cons (hr.mono m) .nil)), fun b o e => by rw [upd_ne (ne_of_none e hT)]; exact e⟩
      rw [Nat.zero_add]
      exact .int
theorem d_enumS {elts : List Expr} {kk : Nat} (hg : Gl X "enumerate") (hm : X.mg "enumerate" = none) (h : PD X P W e d) (hs0 : starEach [e] X.env = (false, eval e X.env) :: starEach [] X.env := by rfl) (hs : starEach [e] X.env = [(false, eval e X.env)] := by rfl) :
    PDI X P W (.Tuple elts kk tpos) (.Call (.Name "enumerate" p) [e] [] pos) (dEnumS d) := by
  obtain ⟨t, h1, h2⟩ := h
  refine ⟨_, pi_enumS hg hm (pa_cons h1 pa_nil hs0) hs, ⟨fun B F ρ σ τ H Rr pr c hp => ?_⟩⟩
  refine h2.bindI pr c hp fun x ρ1 F1 H1 vx c1 b1 hp1 => ?_
  cases q : fz1 x ρ1 with
  | none => rw [q] at hp1; exact hp1.elim
  | some p =>
    obtain ⟨d, ρ2⟩ := p
    rw [q] at hp1
    obtain ⟨F2, c2, m, r⟩ := c1.fz1 b1 q
    cases r with
    | lst s r =>
      exact ⟨_, rfl, .inl ⟨⟨_, .of (c2.sub _ _ s)⟩, hp1 F2 H1 _ [(.fz (.lst _), .ref _)] (c2.push (.lst s r)) itok_enum⟩⟩
    | tup s r =>
      exact ⟨_, rfl, .inr ⟨⟨_, .of (c2.sub _ _ s)⟩, hp1 F2 H1 _ [(.fz (.tup _), .ref _)] (c2.push (.tup s r)) itok_enumT⟩⟩
    | _ => exact hp1.elim
end

/-! ### zip of two, each a list or a tuple -/
def Sq (K : PySem.W.Frag) (l : Bool) (H : Hp) (a : Addr) (xs : List V) : Prop := match l with
  | true => SqL K H a xs
  | false => SqT K H a xs
def ItS (l : Bool) (h : Heap) (it a : Addr) (i : Nat) : Prop := match l with
  | true => h.IsListIter it a i
  | false => h.IsTupleIter it a i
def IsS (l : Bool) (h : Heap) (a : Addr) (its : Array Value) : Prop := match l with
  | true => h.IsList a its
  | false => h.IsTuple a its
section
variable {X : Cx} {pins : List (Addr × Obj)} {σ : L2.St} {H : Hp} {s : Shared} {a : Addr} {xs ys : List V} {l : Bool}
theorem inv_sq (I : Inv X pins σ H s) (h : Sq X.K l H a xs) : ∃ its : List Value, Vals xs its ∧ IsS l s.heap a its.toArray := by
  cases l with
  | true => obtain ⟨its, r, p, _⟩ := I.list h; exact ⟨its, r, p.isList⟩
  | false => obtain ⟨its, r, p, _⟩ := I.tuple h; exact ⟨its, r, p⟩
theorem sq_inj (I : Inv X pins σ H s) (h : Sq X.K l H a xs) (h' : Sq X.K l H a ys) : xs = ys := by
  cases l with
  | true => exact I.list_inj h h'
  | false => exact I.tuple_inj h h'
theorem ItS.at' {h h' : Heap} {it : Addr} {i : Nat} (st : ItS l h it a i) (k : ∀ o, h.get? it = some o → h'.get? it = some o) : ItS l h' it a i := by
  cases l with
  | true => exact Heap.IsListIter.at st k
  | false => exact Heap.IsTupleIter.at st k
theorem ItS.obj {h : Heap} {it : Addr} {i : Nat} (st : ItS l h it a i) : ∃ o, h.get? it = some o ∧ ∀ v, o.data ≠ .cell v := by
  cases l with
  | true => obtain ⟨o, e, _, d⟩ := (show h.IsListIter it a i from st); exact ⟨o, e, fun v q => by rw [d] at q; cases q⟩
  | false => obtain ⟨o, e, _, d⟩ := (show h.IsTupleIter it a i from st); exact ⟨o, e, fun v q => by rw [d] at q; cases q⟩
theorem drawsS {prog : Program} {w : World} {A : Around} (hh : A.handled = none) (l : Bool) (it t : Addr) (hne : t ≠ it) (items : Array Value) :
    Draws prog w A it [it, t] items.size (fun i v => items[i]? = some v) (fun i h => ItS l h it t i ∧ IsS l h t items) := by
  cases l with
  | true => exact Draws.list hh it t hne items
  | false => exact Draws.tuple hh it t hne items
end
/-- the sequences at a and b as they stand at each turn, the items in new pairs -/
def ItzS (K : PySem.W.Frag) (l m : Bool) (a b : Addr) : It :=
  ⟨fun i H => ∃ (xs ys : List V) (x y : V), Sq K l H a xs ∧ Sq K m H b ys ∧ xs[i]? = some x ∧ ys[i]? = some y,
    fun i H v H' => ∃ T x y, v = .ref T ∧ H T = none ∧ H' = upd H T (.tup [x, y]) ∧ (∀ xs, Sq K l H a xs → xs[i]? = some x) ∧ ∀ ys, Sq K m H b ys → ys[i]? = some y,
    fun i H => ∃ xs ys : List V, Sq K l H a xs ∧ Sq K m H b ys ∧ i ≤ xs.length ∧ i ≤ ys.length ∧ (i = xs.length ∨ i = ys.length)⟩
theorem turn_zipS {P : Program} {w : World} {K : PySem.W.Frag} {elts : List Expr} {kk : Nat} {tpos : Pos} {l m : Bool} {a b z TI TO i1 i2 : Addr} (S : ZipSep2 z TI TO i1 i2 [i1, a] [i2, b]) (hai : a ≠ i1) (hbi : b ≠ i2) :
    Turn P w K (.Tuple elts kk tpos) (ItzS K l m a b) [z, TI, TO, i1, i2] z (fun i h => IsZip h z TI TO .none ∧ IsTupOf2 h TI (.ref i1) (.ref i2) ∧ (∃ x y, IsTupOf2 h TO x y) ∧ ItS l h i1 a i ∧ ItS m h i2 b i) where
  mem := by simp
  obj := fun i h st c hc => by
    obtain ⟨hz, hTI, ⟨x, y, hTO⟩, h1, h2⟩ := st
    have e' : c = z ∨ c = TI ∨ c = TO ∨ c = i1 ∨ c = i2 := by simpa using hc
    rcases e' with q | q | q | q | q
    · rw [q]; exact ⟨_, hz, fun v q => nomatch q⟩
    · rw [q]; exact ⟨_, hTI, fun v q => nomatch q⟩
    · rw [q]; exact ⟨_, hTO, fun v q => nomatch q⟩
    · rw [q]; exact h1.obj
    · rw [q]; exact h2.obj
  keep := fun i h h' st k => by
    obtain ⟨hz, hTI, ⟨x, y, hTO⟩, h1, h2⟩ := st
    exact ⟨k z (by simp) _ hz, k TI (by simp) _ hTI, ⟨x, y, k TO (by simp) _ hTO⟩, h1.at' fun o q => k i1 (by simp) o q, h2.at' fun o q => k i2 (by simp) o q⟩
  item := by
    intro X hP hw hK hc i pins s σ H E I hf st hg
    subst hP hw hK
    obtain ⟨hz, hTI, ⟨x0, y0, hTO⟩, h1, h2⟩ := st
    obtain ⟨xs, ys, x, y, hqx, hqy, hx, hy⟩ := hg
    obtain ⟨its, rv, p⟩ := inv_sq I hqx
    obtain ⟨its2, rv2, p2⟩ := inv_sq I hqy
    obtain ⟨u, hu, ru⟩ := rv.get hx
    obtain ⟨u2, hu2, ru2⟩ := rv2.get hy
    have hzl : z < s.heap.objs.size := Heap.lt_size hz
    have l1 : i < its.toArray.size := by
      have := (List.getElem?_eq_some_iff.mp hu).1
      simpa using this
    have l2 : i < its2.toArray.size := by
      have := (List.getElem?_eq_some_iff.mp hu2).1
      simpa using this
    refine wpAny_pyNext_zipD2_item S (drawsS (A := X.A.in1) (I.ok.hd hc) l i1 a hai its.toArray) (drawsS (A := X.A.in1) (I.ok.hd hc) m i2 b hbi its2.toArray) hz hTI hTO ⟨h1, p⟩ ⟨h2, p2⟩ l1 l2 fun x1 x2 h' tk hx1 hx2 z' TO' st1' st2' hT hsz hk => ?_
    obtain ⟨h1', _⟩ := st1'
    obtain ⟨h2', _⟩ := st2'
    have e1 : x1 = u := by
      have h1 : its[i]? = some x1 := by simpa using hx1
      rw [hu] at h1
      exact (Option.some.inj h1).symm
    have e2 : x2 = u2 := by
      have h1 : its2[i]? = some x2 := by simpa using hx2
      rw [hu2] at h1
      exact (Option.some.inj h1).symm
    subst e1 e2
    refine ⟨_, rfl, wpAny_letOwnedTupleGo_zip (s := { s with heap := h', toks := tk }) z' fun h'' z'' sb => ?_⟩
    have hT2 : h''.get? s.heap.objs.size = some { cls := .type "tuple", data := .seq #[x1, x2] } := (sb.2 _ (Nat.ne_of_gt hzl)).trans hT
    have new : ObjOk X.prog X.w (upd H s.heap.objs.size (.tup [x, y])) h'' s.heap.objs.size (.tup [x, y]) :=
      ⟨by show 2 ≤ sizeLine; decide, [x1, x2], .cons ru (.cons ru2 .nil), ⟨_, hT2, rfl, _, rfl⟩⟩
    have I1 : Inv X pins σ (upd H s.heap.objs.size (.tup [x, y])) { s with heap := h'', toks := tk } :=
      I.turnedNew (t' := tk) (ch := [z, TI, TO, i1, i2]) (fun c o hb q => (sb.2 c (fun q' => hb (by simp [q']))).trans (hk c o (fun q' => hb (by simp [q'])) (fun q' => hb (by simp [q'])) (fun q' => hb (by simp [q'])) (fun q' => hb (by simp [q'])) q)) hf (Nat.le_refl _) new
    refine ⟨.ref s.heap.objs.size, _, I1, rfl, ⟨_, x, y, rfl, I.hok.fresh (Nat.le_refl _), rfl, fun l hl => by rw [sq_inj I hl hqx]; exact hx, fun l hl => by rw [sq_inj I hl hqy]; exact hy⟩, ⟨z'', ?_, ⟨x1, x2, ?_⟩, ?_, ?_⟩, fun c hcm => ?_⟩
    · exact (sb.2 _ S.TIz).trans (hk _ _ S.TIz S.TITO S.TIi1 S.TIi2 hTI)
    · exact (sb.2 _ S.TOz).trans TO'
    · exact h1'.at' fun o q => (sb.2 _ (Ne.symm S.zi1)).trans q
    · exact h2'.at' fun o q => (sb.2 _ (Ne.symm S.zi2)).trans q
    · have hlt : c < s.heap.objs.size := by
        have e' : c = z ∨ c = TI ∨ c = TO ∨ c = i1 ∨ c = i2 := by simpa using hcm
        rcases e' with q | q | q | q | q
        · rw [q]; exact hzl
        · rw [q]; exact Heap.lt_size hTI
        · rw [q]; exact Heap.lt_size hTO
        · rw [q]; obtain ⟨_, e1, _⟩ := h1.obj; exact Heap.lt_size e1
        · rw [q]; obtain ⟨_, e1, _⟩ := h2.obj; exact Heap.lt_size e1
      rw [upd_ne (Nat.ne_of_lt hlt)]
      exact (hf c hcm).1
  done := by
    intro X hP hw hK hc i pins s σ H E I hf st hg
    subst hP hw hK
    obtain ⟨hz, hTI, ⟨x0, y0, hTO⟩, h1, h2⟩ := st
    obtain ⟨xs, ys, hqx, hqy, hl1, hl2, hend⟩ := hg
    obtain ⟨its, rv, p⟩ := inv_sq I hqx
    obtain ⟨its2, rv2, p2⟩ := inv_sq I hqy
    have e1 := rv.length
    have e2 := rv2.length
    exact wpAny_pyNext_zipD2_end S (drawsS (A := X.A.in1) (I.ok.hd hc) l i1 a hai its.toArray) (drawsS (A := X.A.in1) (I.ok.hd hc) m i2 b hbi its2.toArray) hz hTI hTO ⟨h1, p⟩ ⟨h2, p2⟩ (by simp; omega) (by simp; omega) (by simp; omega) fun h' tk hk =>
      ⟨rfl, I.turnedL (t' := tk) (ch := [z, TI, TO, i1, i2]) (fun c o hb q =>
      hk c o (fun q' => hb (by simp [q'])) (fun q' => hb (by simp [q'])) (fun q' => hb (by simp [q'])) (fun q' => hb (by simp [q'])) q) hf⟩
  self := fun A i s Q E st h => wpAny_pyIter_zip st.1 h
def SqD (K : PySem.W.Frag) (mg : Str → Option Value) (F : Hp) (l : Bool) (xs : List D) (a : Addr) : Prop := DV K mg F (if l then .lst xs else .tup xs) (.ref a)
def iZipS (K : PySem.W.Frag) (ta : TA) : TI := fun σ H R => ta σ H fun vs H1 => ∃ a b xs ys l m, vs = [.ref a, .ref b] ∧ Sq K l H1 a xs ∧ Sq K m H1 b ys ∧ R (ItzS K l m a b) H1
theorem begS (l : Bool) (a : Addr) (its : Array Value) : ∃ o : Obj, PySem.Begins (.ref a) o (fun h => IsS l h a its) ∧ ∀ h it, h.get? it = some o → ItS l h it a 0 := by
  cases l with
  | true => exact ⟨_, begins_list a its, fun h it e => ⟨_, e, rfl, rfl⟩⟩
  | false => exact ⟨_, begins_tuple a its, fun h it e => ⟨_, e, rfl, rfl⟩⟩
theorem IsS.lt {l : Bool} {h : Heap} {a : Addr} {its : Array Value} (p : IsS l h a its) : a < h.objs.size := by
  cases l with
  | true => obtain ⟨o, ho, _⟩ := (show h.IsList a its from p); exact Heap.lt_size ho
  | false => obtain ⟨o, ho, _⟩ := (show h.IsTuple a its from p); exact Heap.lt_size ho
theorem pi_zipS {X : Cx} {e e2 : Expr} {ta : TA} {p pos tpos : Pos} {elts : List Expr} {kk : Nat} (hg : Gl X "zip") (hm : X.mg "zip" = none) (ha : PA X [e, e2] ta)
    (hs : starEach [e, e2] X.env = (false, eval e X.env) :: starEach [e2] X.env := by rfl) (hpl : (backTo pos (starEach [e2] X.env)).any (·.1) = false := by rfl) :
    PI X (.Tuple elts kk tpos) (.Call (.Name "zip" p) [e, e2] [] pos) (iZipS X.K ta) := by
  refine ⟨fun pins s σ H R I h => ?_⟩
  refine Call_ (ld_blt I hg hm PyProof.Rows.boot_zip (PyProof.Rows.callWith_type1 (thn (ha.run pos pins s σ H _ I h) fun us s1 ⟨vs, H1, I1, r1, q1⟩ => ?_) hs hpl))
  obtain ⟨a, b, xs, ys, l, m, ex, hqx, hqy, q⟩ := q1
  subst ex
  cases r1 with
  | cons r rr =>
    cases rr with
    | cons r' rr =>
      cases rr
      cases r
      cases r'
      have fresh5 : ∀ c, c ∈ [s1.heap.objs.size + 4, s1.heap.objs.size + 2, s1.heap.objs.size + 3, s1.heap.objs.size, s1.heap.objs.size + 1] → FpOk X pins H1 c := fun c hcm => by
        have e' : c = s1.heap.objs.size + 4 ∨ c = s1.heap.objs.size + 2 ∨ c = s1.heap.objs.size + 3 ∨ c = s1.heap.objs.size ∨ c = s1.heap.objs.size + 1 := by simpa using hcm
        have hle : s1.heap.objs.size ≤ c := by
          rcases e' with z | z | z | z | z
          · rw [z]; exact Nat.le_add_right _ _
          · rw [z]; exact Nat.le_add_right _ _
          · rw [z]; exact Nat.le_add_right _ _
          · rw [z]; exact Nat.le_refl _
          · rw [z]; exact Nat.le_add_right _ _
        exact I1.fpOk hle (I1.hok.fresh hle)
      obtain ⟨its, rv, p1⟩ := inv_sq I1 hqx
      obtain ⟨its2, rv2, p2⟩ := inv_sq I1 hqy
      have la : a < s1.heap.objs.size := p1.lt
      have lb : b < s1.heap.objs.size := p2.lt
      obtain ⟨o1, B1, b1⟩ := begS l a its.toArray
      obtain ⟨o2, B2, b2⟩ := begS m b its2.toArray
      refine zip_begins2 B1 B2 p1 p2 fun h' hz hTI hTO h1 h2 hsz hk => wpAny_pyIter_zip hz ?_
      have I2 : Inv X pins σ H1 { s1 with heap := h' } := I1.kept (t' := s1.toks) hk
      refine ⟨s1.heap.objs.size + 4, [s1.heap.objs.size + 4, s1.heap.objs.size + 2, s1.heap.objs.size + 3, s1.heap.objs.size, s1.heap.objs.size + 1], _, _, H1, rfl, I2, turn_zipS (zip_sep2 (fp1 := [a]) (fp2 := [b]) (fun c hc => ?_) (fun c hc => ?_)) (Nat.ne_of_lt la) (Nat.ne_of_lt (Nat.lt_succ_of_lt lb)), ⟨hz, hTI, ⟨_, _, hTO⟩, b1 _ _ h1, b2 _ _ h2⟩, fresh5, q⟩
      · have : c = a := by simpa using hc
        rw [this]; exact la
      · have : c = b := by simpa using hc
        rw [this]; exact lb
/-- the items of a list or a tuple -/
def seqD : D → Option (List D)
  | .lst xs => some xs
  | .tup xs => some xs
  | _ => none
def zipL : List D → List D → List D
  | x :: xs, y :: ys => .tup [x, y] :: zipL xs ys
  | _, _ => []
def dZip (a : DA) : DI := fun ρ => (a ρ).bind fun xs ρ1 => match fzL xs ρ1 with
  | some ([d, e], ρ2) => match seqD d with
    | some ds => match seqD e with
      | some es => .ok (zipL ds es) ρ2
      | none => .no
    | none => .no
  | _ => .no
theorem zipL_length : ∀ (xs ys : List D), (zipL xs ys).length = min xs.length ys.length
  | [], _ => by simp [zipL]
  | _ :: _, [] => by simp [zipL]
  | _ :: xs, _ :: ys => by simp [zipL, zipL_length xs ys]
theorem zipL_get : ∀ {xs ys : List D} {i : Nat} {d : D}, (zipL xs ys)[i]? = some d → ∃ x y, xs[i]? = some x ∧ ys[i]? = some y ∧ d = .tup [x, y]
  | [], _, i, d, h => by simp [zipL] at h
  | _ :: _, [], i, d, h => by simp [zipL] at h
  | x :: xs, y :: ys, 0, d, h => by
    simp [zipL] at h
    exact ⟨x, y, rfl, rfl, h.symm⟩
  | x :: xs, y :: ys, i + 1, d, h => by
    unfold zipL at h
    obtain ⟨u, v, h1, h2, h3⟩ := zipL_get (xs := xs) (ys := ys) (i := i) (d := d) (by simpa using h)
    exact ⟨u, v, by simpa using h1, by simpa using h2, h3⟩
section
variable {X : Cx} {P : List Nat} {W : WX} {pos p tpos : Pos} {e e2 : Expr} {a : DA} {K : PySem.W.Frag} {mg : Str → Option Value} {B : Bs} {F H : Hp} {ρ : List SV} {σ : L2.St} {τ : List (SV × V)}
/-- a sequence that stands frozen -/
theorem sq_of {d : D} {ds : List D} {v : V} (r : DV K mg F d v) (e : seqD d = some ds) (sub : ∀ a o, F a = some o → H a = some o) : ∃ a l vs, v = .ref a ∧ Sq K l H a vs ∧ DVs K mg F ds vs := by
  cases r with
  | lst s r => cases e; exact ⟨_, true, _, rfl, .of (sub _ _ s), r⟩
  | tup s r => cases e; exact ⟨_, false, _, rfl, .of (sub _ _ s), r⟩
  | _ => cases e
theorem itok_zip {a b : Addr} {l m : Bool} {d e : D} {xs ys : List D} {x y : SV × V} (ex : seqD d = some xs) (ey : seqD e = some ys) (hx : x = (.fz d, .ref a)) (hy : y = (.fz e, .ref b))
    (ha : ∀ F H, DV K mg F d (.ref a) → (∀ a o, F a = some o → H a = some o) → ∃ vs, Sq K l H a vs ∧ DVs K mg F xs vs) (hb : ∀ F H, DV K mg F e (.ref b) → (∀ a o, F a = some o → H a = some o) → ∃ vs, Sq K m H b vs ∧ DVs K mg F ys vs) :
    ItOk K mg (ItzS K l m a b) (zipL xs ys) [x, y] := by
  subst hx hy
  intro B F ρ σ τ H c
  have r1 : DV K mg F d (.ref a) := c.top
  have r2 : DV K mg F e (.ref b) := c.pop.top
  obtain ⟨vs, q1, s1⟩ := ha F H r1 c.sub
  obtain ⟨us, q2, s2⟩ := hb F H r2 c.sub
  have l1 := s1.length
  have l2 := s2.length
  refine ⟨fun i hi => ?_, fun i hi hi2 => ?_, fun i x H' d hy hd => ?_⟩
  · rw [zipL_length] at hi
    have h1 : xs[i]? = some (xs[i]'(by omega)) := List.getElem?_eq_getElem (by omega)
    have h2 : ys[i]? = some (ys[i]'(by omega)) := List.getElem?_eq_getElem (by omega)
    obtain ⟨v, hv, _⟩ := s1.get h1
    obtain ⟨u, hu, _⟩ := s2.get h2
    exact ⟨_, _, v, u, q1, q2, hv, hu⟩
  · rw [zipL_length] at hi hi2
    exact ⟨_, _, q1, q2, by omega, by omega, by omega⟩
  · obtain ⟨T, x, y, rfl, hT, rfl, hx, hy⟩ := hy
    obtain ⟨dx, dy, h1, h2, rfl⟩ := zipL_get hd
    obtain ⟨v, hv, rv⟩ := s1.get h1
    obtain ⟨u, hu, ru⟩ := s2.get h2
    have e1 := hx _ q1
    have e2 := hy _ q2
    rw [hv] at e1
    rw [hu] at e2
    cases e1
    cases e2
    obtain ⟨c', m⟩ := c.allocF (o := .tup [x, y]) hT
    exact ⟨_, c', .tup upd_same (.cons (rv.mono m) (.cons (ru.mono m) .nil)), fun b o e => by rw [upd_ne (ne_of_none e hT)]; exact e⟩
theorem sq_cases {d : D} {ds : List D} {v : V} (r : DV K mg F d v) (e : seqD d = some ds) : ∃ a l, v = .ref a ∧ ∀ F H, DV K mg F d (.ref a) → (∀ a o, F a = some o → H a = some o) → ∃ vs, Sq K l H a vs ∧ DVs K mg F ds vs := by
  cases d with
  | lst xs =>
    cases e
    cases r
    refine ⟨_, true, rfl, fun F H r sub => ?_⟩
    cases r with
    | lst s r => exact ⟨_, .of (sub _ _ s), r⟩
  | tup xs =>
    cases e
    cases r
    refine ⟨_, false, rfl, fun F H r sub => ?_⟩
    cases r with
    | tup s r => exact ⟨_, .of (sub _ _ s), r⟩
  | _ => cases e
theorem d_zip {elts : List Expr} {kk : Nat} (hg : Gl X "zip") (hm : X.mg "zip" = none) (h : PDA X P W [e, e2] a) (hs : starEach [e, e2] X.env = (false, eval e X.env) :: starEach [e2] X.env := by rfl) (hpl : (backTo pos (starEach [e2] X.env)).any (·.1) = false := by rfl) :
    PDI X P W (.Tuple elts kk tpos) (.Call (.Name "zip" p) [e, e2] [] pos) (dZip a) := by
  obtain ⟨t, h1, h2⟩ := h
  refine ⟨_, pi_zipS hg hm h1 hs hpl, ⟨fun B F ρ σ τ H Rr pr c hp => ?_⟩⟩
  refine h2.bindI pr c hp fun xs ρ1 F1 H1 vs c1 b1 hp1 => ?_
  cases q : fzL xs ρ1 with
  | none => rw [q] at hp1; exact hp1.elim
  | some pp =>
    obtain ⟨ds, ρ2⟩ := pp
    rw [q] at hp1
    obtain ⟨F2, c2, m, r⟩ := c1.fzA b1 q
    match ds, vs, r, hp1 with
    | [d1, d2], [v1, v2], .cons r1 (.cons r2 .nil), hp1 =>
      simp only at hp1
      cases e1 : seqD d1 with
      | none => rw [e1] at hp1; exact hp1.elim
      | some xs1 =>
        rw [e1] at hp1
        simp only at hp1
        cases e2 : seqD d2 with
        | none => rw [e2] at hp1; exact hp1.elim
        | some ys1 =>
          rw [e2] at hp1
          simp only at hp1
          obtain ⟨a1, l1, rfl, k1⟩ := sq_cases r1 e1
          obtain ⟨a2, l2, rfl, k2⟩ := sq_cases r2 e2
          obtain ⟨us1, q1, _⟩ := k1 _ _ r1 c2.sub
          obtain ⟨us2, q2, _⟩ := k2 _ _ r2 c2.sub
          exact ⟨a1, a2, us1, us2, l1, l2, rfl, q1, q2, hp1 F2 H1 _ [(.fz d1, .ref a1), (.fz d2, .ref a2)] ((c2.push r2).push r1) (itok_zip e1 e2 rfl rfl k1 k2)⟩
end
end PD
set_option Elab.async false
set_option linter.all false
set_option maxRecDepth 100000
set_option autoImplicit false
set_option maxHeartbeats 4000000
/-! PD: o[i] op= e; three targets; calls of what a name holds. -/
namespace PD
open PySem PySem.Spec PyProof.Rows L2

/-! ### o[i] += e -/
def rGetL : V → V → Hp → VK → Prop := fun o i H Q => ∃ (p : Addr) (xs : List V) (k : Int) (v : V), o = .ref p ∧ i = .int k ∧ H p = some (.lst xs) ∧ 0 ≤ k ∧ k < 2 ^ 63 ∧ xs[k.toNat]? = some v ∧ Q v H
def rGetD : V → V → Hp → VK → Prop := fun o i H Q => ∃ a v, o = .ref a ∧ DGet H a i (some v) ∧ Q v H
section
variable {X : Cx}
theorem get_list : PGet X rGetL := by
  intro pins s σ H o i ov iv Q I ro ri h
  obtain ⟨p, xs, k, v, rfl, rfl, hp, h0, h1, hv, q⟩ := h
  cases ro
  obtain ⟨t, rfl⟩ := ri
  obtain ⟨its, n, r, ho, hz⟩ := I.lst hp
  obtain ⟨u, hu, ru⟩ := r.get hv
  exact wpAny_getItem_list (items := its.toArray) ⟨_, ho, rfl, n, rfl⟩ h0 h1 (by simpa using hu) ⟨v, H, I, ru, q⟩
theorem get_dict (hu : X.A.units + 1 < cLine) : PGet X rGetD := by
  intro pins s σ H o i ov iv Q I ro ri h
  obtain ⟨a, v, rfl, g, q⟩ := h
  cases ro
  exact d_getItem hu I g ri fun w' s3 I3 rw' => ⟨v, H, I3, rw', q⟩
theorem PGet_or {r1 r2 : V → V → Hp → VK → Prop} (h1 : PGet X r1) (h2 : PGet X r2) : PGet X (fun o i H Q => r1 o i H Q ∨ r2 o i H Q) := by
  intro pins s σ H o i ov iv Q I ro ri h
  rcases h with h | h
  · exact h1 pins s σ H o i ov iv Q I ro ri h
  · exact h2 pins s σ H o i ov iv Q I ro ri h
end
def getS : D → D → Option D
  | .lst xs, .int k => if 0 ≤ k && decide (k < 2 ^ 63) then xs[k.toNat]? else none
  | .dct false kvs, key => match keyD key with
    | some (.inl k) => lookD kvs (.inl k)
    | _ => none
  | .dct true kvs, key => match keyD key with
    | some (.inr k) => lookD kvs (.inr k)
    | _ => none
  | _, _ => none
section
variable {K : PySem.W.Frag} {mg : Str → Option Value} {P : List Nat} {W : WX} {B : Bs} {F H : Hp} {ρ : List SV} {σ : L2.St} {τ : List (SV × V)} {j : Nat}
theorem Cfg.stored {d d' dk dx : D} {vr vk vx : V} {Q : Hp → Prop} (c5 : Cfg K mg B F ρ σ τ H) (e3 : ρ[j]? = some (.own d)) (b2 : σ[j]? = some (some vr)) (rk : DV K mg F dk vk) (rx : DV K mg F dx vx) (e6 : storeD d dk dx = some d')
    (hp3 : ∀ F H, Cfg K mg B F (ρ.set j (.own d')) σ τ H → Q H) : rSetL vr vk vx H Q ∨ rSetD vr vk vx H Q := by
  obtain ⟨p, hob, e4, n, hh, r⟩ := c5.own_slot e3
  have e5 := e4
  rw [b2] at e5
  cases e5
  cases r with
  | @lst xs us r1 =>
    cases dk with
    | int kk =>
      obtain ⟨jj, e7, rfl⟩ := Option.map_eq_some_iff.mp e6
      have rk := rk
      cases rk
      refine .inl ⟨p, us, kk, jj, rfl, rfl, hh, by rw [← r1.length]; exact e7, hp3 _ _ (c5.mutS e3 b2 (.lst (r1.set jj rx)))⟩
    | _ => cases e6
  | @dK kvs ks r1 =>
    have e6 : (match keyD dk with | some (.inl k) => if kvs.length < 1000000 then some (PD.D.dct false (putD kvs (.inl k) (kD k) dx)) else none | _ => none) = some d' := e6
    split at e6
    · rename_i kk q
      split at e6
      · rename_i hl
        cases e6
        have := keyD_inl q
        subst this
        have rk := rk.key
        subst rk
        refine .inr ⟨p, _, rfl, .k hh (by rw [← r1.length]; exact lt_line hl), hp3 _ _ (c5.mutS e3 b2 (.dK (r1.put kk rx)))⟩
      · cases e6
    · cases e6
  | @dT kvs ks r1 =>
    have e6 : (match keyD dk with | some (.inr k) => if kvs.length < 1000000 then some (PD.D.dct true (putD kvs (.inr k) (tkD k) dx)) else none | _ => none) = some d' := e6
    split at e6
    · rename_i kk q
      split at e6
      · rename_i hl
        cases e6
        have := keyD_inr q
        subst this
        obtain ⟨bb, ey, hbb⟩ := rk.tkey
        subst ey
        refine .inr ⟨p, _, rfl, .t hh (c5.sub _ _ hbb) (by rw [← r1.length]; exact lt_line hl), hp3 _ _ (c5.mutS e3 b2 (.dT (r1.put kk rx)))⟩
      · cases e6
    · cases e6
  | ins cc rr => cases e6
theorem Cfg.gotten {d dk dx : D} {vr vk : V} (c5 : Cfg K mg B F ρ σ τ H) (e3 : ρ[j]? = some (.own d)) (b2 : σ[j]? = some (some vr)) (rk : DV K mg F dk vk) (e6 : getS d dk = some dx) :
    ∃ v, DV K mg F dx v ∧ ∀ Q : VK, Q v H → rGetL vr vk H Q ∨ rGetD vr vk H Q := by
  obtain ⟨p, hob, e4, n, hh, r⟩ := c5.own_slot e3
  have e5 := e4
  rw [b2] at e5
  cases e5
  cases r with
  | @lst xs us r1 =>
    cases dk with
    | int kk =>
      have rk := rk
      cases rk
      have e6 : (if (decide (0 ≤ kk) && decide (kk < 2 ^ 63)) = true then xs[kk.toNat]? else none) = some dx := e6
      split at e6
      · rename_i h0
        rw [Bool.and_eq_true] at h0
        obtain ⟨v, hv, rv⟩ := r1.get e6
        exact ⟨v, rv, fun Q q => .inl ⟨p, us, kk, v, rfl, rfl, hh, of_decide_eq_true h0.1, of_decide_eq_true h0.2, hv, q⟩⟩
      · cases e6
    | _ => cases e6
  | @dK kvs ks r1 =>
    replace e6 : (match keyD dk with | some (.inl k) => lookD kvs (.inl k) | _ => none) = some dx := e6
    cases q : keyD dk with
    | none => rw [q] at e6; cases e6
    | some kq =>
    rw [q] at e6
    cases kq with
    | inr _ => cases e6
    | inl kk =>
      simp only at e6
      have := keyD_inl q
      subst this
      have rk := rk.key
      subst rk
      rcases r1.look kk with ⟨a1, a2⟩ | ⟨d1, v, a1, a2, a3⟩
      · rw [a1] at e6; cases e6
      · rw [a1] at e6
        cases e6
        refine ⟨v, a3, fun Q q => .inr ⟨p, v, rfl, ?_, q⟩⟩
        rw [← a2]
        exact .k hh
  | @dT kvs ks r1 =>
    replace e6 : (match keyD dk with | some (.inr k) => lookD kvs (.inr k) | _ => none) = some dx := e6
    cases q : keyD dk with
    | none => rw [q] at e6; cases e6
    | some kq =>
    rw [q] at e6
    cases kq with
    | inl _ => cases e6
    | inr kk =>
      simp only at e6
      have := keyD_inr q
      subst this
      obtain ⟨bb, ey, hbb⟩ := rk.tkey
      subst ey
      rcases r1.look kk with ⟨a1, a2⟩ | ⟨d1, v, a1, a2, a3⟩
      · rw [a1] at e6; cases e6
      · rw [a1] at e6
        cases e6
        refine ⟨v, a3, fun Q q => .inr ⟨p, v, rfl, ?_, q⟩⟩
        rw [← a2]
        exact .t hh (c5.sub _ _ hbb)
  | ins cc rr => cases e6
end
/-- o[i] op= e, o a local name, the item an int -/
def dAugS (f : Int → Int → Int) (o i e : DE) : DS := fun ρ => (o ρ).bindS fun r ρ1 => (i ρ1).bindS fun k ρ2 => match r with
  | .bor j => match fz1 k ρ2 with
    | some (dk, ρ3) => match ρ3[j]? with
      | some (.own d) => match getS d dk with
        | some (.int x) => (e ρ3).bindS fun y ρ4 => match rd ρ4 y with
          | some (.int y') => match ρ4[j]? with
            | some (.own d2) => match storeD d2 dk (.int (f x y')) with
              | some d' => .nx (ρ4.set j (.own d'))
              | none => .no
            | _ => .no
          | _ => .no
        | _ => .no
      | _ => .no
    | none => .no
  | _ => .no
section
variable {X : Cx} {P : List Nat} {W : WX} {pos spos : Pos} {e o i : Expr} {de do_ di : DE} {K : PySem.W.Frag} {mg : Str → Option Value}
theorem ss_augS {f : Int → Int → Int} {te to ti : TE} (ho : SE K mg P W to do_) (hi : SE K mg P W ti di) (he : SE K mg P W te de) :
    SS K mg P W (tAugS to ti te (fun o i H Q => rGetL o i H Q ∨ rGetD o i H Q) (ipI f) (fun o i v H Q => rSetL o i v H Q ∨ rSetD o i v H Q)) (dAugS f do_ di de) := by
  refine ⟨fun B F ρ σ τ H D pr c hp => ?_⟩
  refine ho.bindS pr c hp (fun _ _ _ _ h => h) fun r ρ1 F1 H1 vr c1 b1 hp1 => ?_
  refine hi.bindS pr c1 (D := D) hp1 (fun _ _ _ _ h => h.pop) fun k ρ2 F2 H2 vk c2 b2 hp2 => ?_
  cases r with
  | fz d => exact hp2.elim
  | own d => exact hp2.elim
  | bor j =>
    have b1 : σ[j]? = some (some vr) := b1
    simp only at hp2
    cases e1 : fz1 k ρ2 with
    | none => rw [e1] at hp2; exact hp2.elim
    | some q =>
      obtain ⟨dk, ρ3⟩ := q
      rw [e1] at hp2
      simp only at hp2
      obtain ⟨F3, c3, m3, rk⟩ := c2.fz1 b2 e1
      have c3 := c3.pop
      cases e2 : ρ3[j]? with
      | none => rw [e2] at hp2; exact hp2.elim
      | some s =>
        rw [e2] at hp2
        cases s with
        | no => exact hp2.elim
        | fz d => exact hp2.elim
        | own d =>
          simp only at hp2
          cases e3 : getS d dk with
          | none => rw [e3] at hp2; exact hp2.elim
          | some dx =>
            rw [e3] at hp2
            obtain ⟨v, rv, hv⟩ := c3.gotten e2 b1 rk e3
            cases dx with
            | int x =>
              cases rv
              simp only at hp2
              refine hv _ ?_
              have c4 := c3.push rk
              refine he.bindS pr c4 (D := D) (τ' := τ) hp2 (fun _ _ _ _ h => h.pop) fun y ρ4 F4 H4 vy c5 b5 hp4 => ?_
              cases e4 : rd ρ4 y with
              | none => rw [e4] at hp4; exact hp4.elim
              | some dy =>
                rw [e4] at hp4
                have ry := c5.read List.mem_cons_self b5 e4
                cases dy with
                | int y' =>
                  cases ry
                  simp only at hp4
                  refine ⟨x, y', rfl, rfl, ?_⟩
                  have rk' := c5.pop.top
                  cases e5 : ρ4[j]? with
                  | none => rw [e5] at hp4; exact hp4.elim
                  | some s =>
                    rw [e5] at hp4
                    cases s with
                    | no => exact hp4.elim
                    | fz d => exact hp4.elim
                    | own d2 =>
                      simp only at hp4
                      cases e6 : storeD d2 dk (.int (f x y')) with
                      | none => rw [e6] at hp4; exact hp4.elim
                      | some d' =>
                        rw [e6] at hp4
                        exact c5.pop.pop.stored e5 b1 rk' .int e6 fun F' H' c' => hp4 _ _ _ c'
                | _ => exact hp4.elim
            | _ => exact hp2.elim
theorem d_augSA (hu : X.A.units + 1 < cLine) (ho : PD X P W o do_) (hi : PD X P W i di) (he : PD X P W e de)
    (ha : ∀ ov iv new, augStore i ov iv new = (do holding [new, ov, iv] (setItem ov iv new); release [new, ov, iv] []; pure .next) := by intros; rfl) : PDS X P W (.AugAssign (.Subscript o i spos) .Add e pos) (dAugS (fun i j => i + j) do_ di de) := by
  obtain ⟨t, p1, p2⟩ := he
  obtain ⟨u, q1, q2⟩ := ho
  obtain ⟨w, r1, r2⟩ := hi
  exact ⟨_, ps_augS q1 r1 (PGet_or get_list (get_dict hu)) p1 ip_add (PSet.or set_list (set_dict hu)) ha, ss_augS q2 r2 p2⟩
theorem d_augSS (hu : X.A.units + 1 < cLine) (ho : PD X P W o do_) (hi : PD X P W i di) (he : PD X P W e de)
    (ha : ∀ ov iv new, augStore i ov iv new = (do holding [new, ov, iv] (setItem ov iv new); release [new, ov, iv] []; pure .next) := by intros; rfl) : PDS X P W (.AugAssign (.Subscript o i spos) .Sub e pos) (dAugS (fun i j => i - j) do_ di de) := by
  obtain ⟨t, p1, p2⟩ := he
  obtain ⟨u, q1, q2⟩ := ho
  obtain ⟨w, r1, r2⟩ := hi
  exact ⟨_, ps_augS q1 r1 (PGet_or get_list (get_dict hu)) p1 ip_sub (PSet.or set_list (set_dict hu)) ha, ss_augS q2 r2 p2⟩
end

/-! ### a, b, c = x, y, z -/
def dPar3 (i j l : Nat) (a : DA) : DS := fun ρ => (a ρ).bindS fun xs ρ1 => match xs with
  | [x, y, z] => match inR x ρ1 with
    | some (sx, ρ2) => match inR y ρ2 with
      | some (sy, ρ3) => match inR z ρ3 with
        | some (sz, ρ4) => .nx (((ρ4.set l sz).set j sy).set i sx)
        | none => .no
      | none => .no
    | none => .no
  | _ => .no
section
variable {X : Cx} {P : List Nat} {W : WX} {pos : Pos} {a b c : Expr} {d : DA} {K : PySem.W.Frag} {mg : Str → Option Value}
theorem ss_par3 {i j l : Nat} {t : TA} (h : SA K mg P W t d) (hi : i ∉ P) (hj : j ∉ P) (hl : l ∉ P) (hij : i ≠ j) (hil : i ≠ l) (hjl : j ≠ l) : SS K mg P W (tPar3 i j l t) (dPar3 i j l d) := by
  refine ⟨fun B F ρ σ τ H D pr c hp => ?_⟩
  refine h.bindS pr c hp (fun _ _ _ _ h => h) fun rs ρ1 F1 H1 vs c1 b1 hp1 => ?_
  match rs, vs, b1, c1, hp1 with
  | [x, y, z], [v, u, w], .cons bx (.cons by_ (.cons bz .nil)), c1, hp1 =>
    have c1 : Cfg K mg B F1 ρ1 σ ((z.stk, w) :: (y.stk, u) :: (x.stk, v) :: τ) H1 := c1
    have hp1 : PostS K mg W B τ D (match PD.inR x ρ1 with
      | some (sx, ρ2) => match PD.inR y ρ2 with
        | some (sy, ρ3) => match PD.inR z ρ3 with
          | some (sz, ρ4) => .nx (((ρ4.set l sz).set j sy).set i sx)
          | none => .no
        | none => .no
      | none => .no) := hp1
    refine ⟨v, u, w, rfl, ?_⟩
    cases e1 : PD.inR x ρ1 with
    | none => rw [e1] at hp1; exact hp1.elim
    | some q =>
      obtain ⟨sx, ρ2⟩ := q
      rw [e1] at hp1
      simp only at hp1
      obtain ⟨F2, c2⟩ := (c1.perm (List.perm_middle (l₁ := [(z.stk, w), (y.stk, u)]))).inR bx e1
      cases e2 : PD.inR y ρ2 with
      | none => rw [e2] at hp1; exact hp1.elim
      | some q =>
        obtain ⟨sy, ρ3⟩ := q
        rw [e2] at hp1
        simp only at hp1
        obtain ⟨F3, c3⟩ := (c2.perm (List.perm_middle (l₁ := [(sx, v), (z.stk, w)]))).inR by_ e2
        cases e3 : PD.inR z ρ3 with
        | none => rw [e3] at hp1; exact hp1.elim
        | some q =>
          obtain ⟨sz, ρ4⟩ := q
          rw [e3] at hp1
          obtain ⟨F4, c4⟩ := (c3.perm (List.perm_middle (l₁ := [(sy, u), (sx, v)]))).inR bz e3
          have c5 := ((c4.assign (notP pr hl)).assign (notP pr hj)).assign (notP pr hi)
          rw [List.set_comm _ _ hij, List.set_comm _ _ hil, List.set_comm _ _ hjl]
          exact hp1 _ _ _ c5
theorem d_par3 {i j l : Nat} {x y z : Str} {px py pz pt : Pos} {kt k2 : Nat} {pt2 : Pos} (hc : X.calm = true) (hN : X.N.Nodup) (hi : X.N[i]? = some x) (hj : X.N[j]? = some y) (hl : X.N[l]? = some z) (hij : i ≠ j) (hil : i ≠ l) (hjl : j ≠ l) (hiP : i ∉ P) (hjP : j ∉ P) (hlP : l ∉ P)
    (hx : X.env.scope.names.lookup x = some .local) (hy : X.env.scope.names.lookup y = some .local) (hz : X.env.scope.names.lookup z = some .local) (ha : PDA X P W [a, b, c] d)
    (hw : swappedStores [.Tuple [.Name x px, .Name y py, .Name z pz] kt pt] (.Tuple [a, b, c] k2 pt2) X.env = pure (some [x, y, z]))
    (hs : swapsWithSole [.Tuple [.Name x px, .Name y py, .Name z pz] kt pt] (.Tuple [a, b, c] k2 pt2) pos.line X.env = pure false := by rfl) :
    PDS X P W (.Assign [.Tuple [.Name x px, .Name y py, .Name z pz] kt pt] (.Tuple [a, b, c] k2 pt2) pos) (dPar3 i j l d) := by
  obtain ⟨t, p1, p2⟩ := ha
  exact ⟨_, ps_par3 hc hN hi hj hl hij hil hjl hx hy hz p1 hw hs, ss_par3 p2 hiP hjP hlP hij hil hjl⟩
end
end PD
set_option Elab.async false
set_option linter.all false
set_option maxRecDepth 100000
set_option autoImplicit false
set_option maxHeartbeats 4000000
/-! PD: calls of what a local name holds. -/
namespace PD
open PySem PySem.Spec PyProof.Rows L2

/-- the defs that a name may hold -/
structure OkTab (prog : Program) (w : World) (K : PySem.W.Frag) (mg : Str → Option Value) (base : Heap) (k : Nat) (tab : List (Str × FDn)) : Prop where
  all : ∀ c f, tab.lookup c = some f → ∃ fa fd ps j, mg c = some (.ref fa) ∧ FnOk prog w K mg base (L2.CX prog w) j fa fd ps (spD K mg f) ∧ j ≤ k ∧ Binds K fd ps []
def dCallV (i : Nat) (tab : List (Str × FDn)) (a : DA) : DE := fun ρ => match ρ[i]? with
  | some (.fz (.fn c)) => match tab.lookup c with
    | some f => dCall f a ρ
    | none => .no
  | _ => .no
def tCallV (prog : Program) (w : World) (K : PySem.W.Frag) (mg : Str → Option Value) (base : Heap) (i k : Nat) (E : L2.St → XK) (t : TA) : TE := fun σ H Q => ∃ f sp fd ps j, σ[i]? = some (some (.ref f)) ∧ FnOk prog w K mg base (L2.CX prog w) j f fd ps sp ∧ j ≤ k ∧ Binds K fd ps [] ∧ PySem.W.keepIn K (.ref f) = true ∧
  t σ H fun vs H1 => sp vs H1 Q (E σ)
section
variable {X : Cx} {P : List Nat} {W : WX} {pos p : Pos} {x : Str} {e : Expr} {es : List Expr} {d : DA} {k i : Nat} {tab : List (Str × FDn)}
theorem pe_callV {E : L2.St → XK} {t : TA} (hr : Room k X.A) (hN : X.N[i]? = some x) (hv : Vis X.env.scope x) (hx : ∀ σ, PassesAt (L2.CX X.prog X.w) X σ (E σ)) (ha : PA X (e :: es) t)
    (hdb : (x == ("__debug__" : Str)) = false := by decide) (hcd : (x == ("__classdict__" : Str)) = false := by decide)
    (he : starEach (e :: es) X.env = (false, eval e X.env) :: starEach es X.env := by rfl) (hpl : (backTo pos (starEach es X.env)).any (·.1) = false := by rfl) : PE X (.Call (.Name x p) (e :: es) [] pos) (tCallV X.prog X.w X.K X.mg X.base i k E t) := by
  refine ⟨fun pins s σ H Q I h => ?_⟩
  obtain ⟨f, sp, fd, ps, j, hs, F, hj, hb, hk, ht⟩ := h
  refine wpAny_Call_Name_kw (thn ((pe_var (pos := p) hN hv hdb hcd).run pins s σ H (fun v H1 => v = .ref f ∧ H1 = H) I ⟨.ref f, hs, rfl, rfl⟩) fun u s1 ⟨v, H1, I1, r1, q1⟩ => ?_)
  obtain ⟨rfl, rfl⟩ := q1
  cases r1
  refine PySem.W.callWith_K (h₀ := X.base) I.ok.mod.kin hk (thn (ha.run pos pins s1 σ _ _ I1 ht) fun us s2 ⟨vs, H2, I2, r, q⟩ => ⟨I2.kIn, ?_⟩) he hpl
  exact run_fnS F (hr.mono hj) hb (hx σ) I2 r q
theorem d_callV (T : OkTab X.prog X.w X.K X.mg X.base k tab) (hr : Room k X.A) (hN : X.N[i]? = some x) (hv : Vis X.env.scope x) (tk : Takes X W) (h : PDA X P W (e :: es) d)
    (hdb : (x == ("__debug__" : Str)) = false := by decide) (hcd : (x == ("__classdict__" : Str)) = false := by decide)
    (he : starEach (e :: es) X.env = (false, eval e X.env) :: starEach es X.env := by rfl) (hpl : (backTo pos (starEach es X.env)).any (·.1) = false := by rfl) : PD X P W (.Call (.Name x p) (e :: es) [] pos) (dCallV i tab d) := by
  obtain ⟨t, h1, h2⟩ := h
  refine ⟨_, pe_callV hr hN hv (fun σ => passAt tk σ) h1 hdb hcd he hpl, ⟨fun B F ρ σ τ H Q pr c hp => ?_⟩⟩
  unfold dCallV at hp
  cases q : ρ[i]? with
  | none => rw [q] at hp; exact hp.elim
  | some s =>
    rw [q] at hp
    cases s with
    | no => exact hp.elim
    | own d => exact hp.elim
    | fz d =>
      cases d with
      | fn cn =>
        simp only at hp
        cases q2 : tab.lookup cn with
        | none => rw [q2] at hp; exact hp.elim
        | some f =>
          rw [q2] at hp
          obtain ⟨v, e1, r⟩ := c.fz_slot q
          obtain ⟨fa, fd, ps, j, hm, Fk, hj, hb⟩ := T.all _ _ q2
          cases r with
          | fn hm' hk =>
            rw [hm] at hm'
            cases hm'
            refine ⟨fa, _, fd, ps, j, e1, Fk, hj, hb, hk, ?_⟩
            exact (se_call h2).run B F ρ σ τ H Q pr c hp
      | _ => exact hp.elim
end
end PD
set_option Elab.async false
set_option linter.all false
set_option maxRecDepth 100000
set_option autoImplicit false
set_option maxHeartbeats 4000000
/-! PD: displays with starred items. -/
namespace PD
open PySem PySem.Spec PyProof.Rows L2

def tStar (K : PySem.W.Frag) (te : TE) (t : TA) : TA := fun σ H Q => te σ H fun v H1 => ∃ a l xs, v = .ref a ∧ Sq K l H1 a xs ∧ t σ H1 fun vs H2 => Q (xs ++ vs) H2
section
variable {X : Cx} {P : List Nat} {W : WX} {e : Expr} {es : List Expr} {p : Pos}
theorem vals_app {xs ys : List V} {us ws : List Value} (h : Vals xs us) (h' : Vals ys ws) : Vals (xs ++ ys) (us ++ ws) := h.append h'
theorem pa_star {te : TE} {t : TA} (ha : PE X e te) (hr : PA X es t) (he : starEach (.Starred e p :: es) X.env = (true, eval e X.env) :: starEach es X.env := by rfl) : PA X (.Starred e p :: es) (tStar X.K te t) := by
  refine ⟨fun pos pins s σ H Q I h => ?_⟩
  refine PySem.W.items_star (thn (ha.run pins s σ H _ I h) fun v s1 ⟨x, H1, I1, r1, q1⟩ => ?_) he
  obtain ⟨a, l, xs, rfl, hq, q⟩ := q1
  cases r1
  have go : ∀ {T : String} {o : Obj} {its : List Value} {n : Nat}, T = "list" ∨ T = "tuple" → s1.heap.get? a = some o → o.cls = .type T → o.data = .seq its.toArray n → its.length ≤ sizeLine → Vals xs its →
      PySem.W.StarOf (model X.prog X.w) X.A X.xe (.ref a) (fun here s₂ => wpAny (model X.prog X.w) X.A (spliced (backTo pos (starEach es X.env))) (fun vs s₃ => AP X pins σ Q (here ++ vs) s₃) X.xe s₂) s1 := fun {T o its n} hT ho hc hd hz rv => by
    have hT' : s1.TypeIs (.ref a) T := ⟨o, ho, hc⟩
    have z : wpAny (model X.prog X.w) X.A (collect (.ref a)) (fun here s₂ => wpAny (model X.prog X.w) X.A (spliced (backTo pos (starEach es X.env))) (fun vs s₃ => AP X pins σ Q (here ++ vs) s₃) X.xe s₂) X.xe s1 := by
      refine wpAny_collect_seq a hT ho hc hd (fun h' hk => ?_) (by simpa using hz)
      have I2 : Inv X pins σ H1 { s1 with heap := h' } := I1.kept (t' := s1.toks) hk
      refine thn (hr.run pos pins _ σ H1 _ I2 q) fun us s2 ⟨vs, H2, I3, r2, q2⟩ => ⟨xs ++ vs, H2, I3, ?_, q2⟩
      simpa using vals_app rv r2
    unfold PySem.W.StarOf notIterableAtAll
    rcases hT with rfl | rfl
    · exact wpAny_bind (wpAny_specialOf hT' PySem.F.slot_list_iter.lookup (wpAny_pure ⟨rfl, z⟩))
    · exact wpAny_bind (wpAny_specialOf hT' PySem.F.slot_tuple_iter.lookup (wpAny_pure ⟨rfl, z⟩))
  cases l with
  | true =>
    obtain ⟨its, rv, p1, hz⟩ := I1.list hq
    obtain ⟨o, ho, hc, n, hd⟩ := p1.isList
    exact go (.inl rfl) ho hc hd (by rw [← rv.length]; exact hz) rv
  | false =>
    obtain ⟨its, rv, p1, hz⟩ := I1.tuple hq
    obtain ⟨o, ho, hc, n, hd⟩ := (show s1.heap.IsTuple a its.toArray from p1)
    exact go (.inr rfl) ho hc hd (by rw [← rv.length]; exact hz) rv
/-- `*e`, .. -/
def dStar (a : DE) (r : DA) : DA := fun ρ => (a ρ).bind fun x ρ1 => match fz1 x ρ1 with
  | some (d, ρ2) => match seqD d with
    | some ds => (r ρ2).bind fun rs ρ3 => .ok (ds.map RV.fz ++ rs) ρ3
    | none => .no
  | none => .no
end
section
variable {K : PySem.W.Frag} {mg : Str → Option Value} {P : List Nat} {W : WX} {B : Bs} {F F' H H' : Hp} {ρ : List SV} {σ : L2.St} {τ : List (SV × V)}
theorem Cfg.pushDs : ∀ {ds : List D} {vs : List V} {τ : List (SV × V)}, Cfg K mg B F ρ σ τ H → DVs K mg F ds vs → Cfg K mg B F ρ σ (stkL (ds.map RV.fz) vs τ) H
  | _, _, τ, c, .nil => c
  | _, _, τ, c, .cons h r => Cfg.pushDs (τ := _ :: τ) (c.push h) r
theorem stkL_app : ∀ {rs : List RV} {vs : List V} {rs' : List RV} {vs' : List V} {τ : List (SV × V)}, rs.length = vs.length → stkL (rs ++ rs') (vs ++ vs') τ = stkL rs' vs' (stkL rs vs τ)
  | [], [], _, _, _, _ => rfl
  | r :: rs, v :: vs, rs', vs', τ, h => stkL_app (rs := rs) (vs := vs) (by simpa using h)
theorem RBs.fzs : ∀ {ds : List D} {vs : List V}, ds.length = vs.length → RBs σ (ds.map RV.fz) vs
  | [], [], _ => .nil
  | d :: ds, v :: vs, h => .cons trivial (RBs.fzs (by simpa using h))
theorem RBs.app : ∀ {rs : List RV} {vs : List V} {rs' : List RV} {vs' : List V}, RBs σ rs vs → RBs σ rs' vs' → RBs σ (rs ++ rs') (vs ++ vs')
  | _, _, _, _, .nil, h => h
  | _, _, _, _, .cons a r, h => .cons a (RBs.app r h)
theorem sub_stkL : ∀ (rs : List RV) (vs : List V) (τ : List (SV × V)), τ.Sublist (stkL rs vs τ)
  | [], _, τ => .refl _
  | _ :: _, [], τ => .refl _
  | r :: rs, v :: vs, τ => (List.sublist_cons_self _ _).trans (sub_stkL rs vs _)
theorem sa_star {te : TE} {t : TA} {a : DE} {r : DA} (ha : SE K mg P W te a) (hr : SA K mg P W t r) : SA K mg P W (tStar K te t) (dStar a r) := by
  refine ⟨fun B F ρ σ τ H Q pr c hp => ?_⟩
  refine ha.bind pr c hp (fun _ _ _ h => h) id fun x ρ1 F1 H1 vx c1 b1 hp1 => ?_
  cases q : fz1 x ρ1 with
  | none => rw [q] at hp1; exact hp1.elim
  | some pp =>
    obtain ⟨d, ρ2⟩ := pp
    rw [q] at hp1
    simp only at hp1
    cases e1 : seqD d with
    | none => rw [e1] at hp1; exact hp1.elim
    | some ds =>
      rw [e1] at hp1
      simp only at hp1
      obtain ⟨F2, c2, m, rr⟩ := c1.fz1 b1 q
      obtain ⟨aa, l, us, ev, sq, dv⟩ := sq_of rr e1 c2.sub
      refine ⟨aa, l, us, ev, sq, ?_⟩
      have c3 := c2.pushDs dv
      have hl := dv.length
      refine hr.bind pr c3 (Post := PostA K mg W B σ τ Q) hp1 (fun cc fs ρ' h F' H' cls dd c' ev => h F' H' cls dd (c'.sub' (sub_stkL _ _ _)) ev) id fun xs ρ3 F3 H3 vs c4 b4 hp2 => ?_
      exact hp2 F3 H3 (us ++ vs) (by rw [stkL_app (by simpa using hl)]; exact c4) ((RBs.fzs hl).app b4)
end
section
variable {X : Cx} {P : List Nat} {W : WX} {e : Expr} {es : List Expr} {p : Pos}
theorem d_star {a : DE} {r : DA} (ha : PD X P W e a) (hr : PDA X P W es r) (he : starEach (.Starred e p :: es) X.env = (true, eval e X.env) :: starEach es X.env := by rfl) : PDA X P W (.Starred e p :: es) (dStar a r) := by
  obtain ⟨t, h1, h2⟩ := ha
  obtain ⟨u, r1, r2⟩ := hr
  exact ⟨_, pa_star h1 r1 he, sa_star h2 r2⟩
end
end PD
set_option Elab.async false
set_option linter.all false
set_option maxRecDepth 100000
set_option autoImplicit false
set_option maxHeartbeats 4000000
/-! PD: comprehensions with two clauses. -/
namespace PD
open PySem PySem.Spec PyProof.Rows L2

def dLc2I (g1 : DG) (tt1 : DT) (te : DE) (vs1 : List Nat) : List D → List D → List SV → R (List D)
  | [], acc, ρ => .ok acc ρ
  | d :: ds, acc, ρ => match g1 d ρ with
    | none => .no
    | some ρ1 => match tt1 ρ1 with
      | .ok true ρ2 => match te ρ2 with
        | .ok y ρ3 => match fz1 y ρ3 with
          | some (dy, ρ4) => if acc.length < 1000000 then dLc2I g1 tt1 te vs1 ds (acc ++ [dy]) (wipeR ρ4 vs1) else .no
          | none => .no
        | _ => .no
      | .ok false ρ2 => dLc2I g1 tt1 te vs1 ds acc (wipeR ρ2 vs1)
      | _ => .no
def dLc2L (g : DG) (tt : DT) (it1 : DI) (g1 : DG) (tt1 : DT) (te : DE) (vs vs1 : List Nat) : List D → List D → List SV → R (List D)
  | [], acc, ρ => .ok acc ρ
  | d :: ds, acc, ρ => match g d ρ with
    | none => .no
    | some ρ1 => match tt ρ1 with
      | .ok true ρ2 => match it1 ρ2 with
        | .ok ds1 ρ3 => match dLc2I g1 tt1 te vs1 ds1 acc (wipeR ρ3 vs1) with
          | .ok acc' ρ4 => dLc2L g tt it1 g1 tt1 te vs vs1 ds acc' (wipeR ρ4 vs)
          | _ => .no
        | _ => .no
      | .ok false ρ2 => dLc2L g tt it1 g1 tt1 te vs vs1 ds acc (wipeR ρ2 vs)
      | _ => .no
def dLc2 (it : DI) (g : DG) (tt : DT) (it1 : DI) (g1 : DG) (tt1 : DT) (te : DE) (vs vs1 : List Nat) : DE := fun ρ => (it ρ).bind fun ds ρ1 => match dLc2L g tt it1 g1 tt1 te vs vs1 ds [] (wipeR ρ1 vs) with
  | .ok acc ρ2 => .ok (.own (.lst acc)) (back ρ1 vs ρ2)
  | _ => .no
section
variable {K : PySem.W.Frag} {mg : Str → Option Value} {P vs vs1 : List Nat} {W : WX}
theorem wipe_sub {σ : L2.St} {vs vs1 : List Nat} (h : ∀ v ∈ vs1, v ∈ vs) : wipe (wipe σ vs1) vs = wipe σ vs := wipe_frame (fun j hj => wipe_out fun z => hj (h j z)) (wipe_length _ _)
theorem Cfg.forgets {B : Bs} {F H : Hp} {ρ : List SV} {σ : L2.St} {τ : List (SV × V)} (pr : PrOk B P) (c : Cfg K mg B F ρ σ τ H) : ∀ us : List Nat, (∀ v ∈ us, v ∉ P) → Cfg K mg B F (wipeR ρ us) (wipe σ us) τ H
  | [], _ => c
  | u :: us, h => (Cfg.forgets pr c us fun w hw => h w (List.mem_cons_of_mem _ hw)).forget (notP pr (h u List.mem_cons_self))
theorem se_lc2 {wi wi1 : TI} {g g1 : TG} {tt tt1 : TT} {te : TE} {it it1 : DI} {dg dg1 : DG} {dt dt1 : DT} {de : DE} (hi : SI K mg P W wi it) (hg : SG K mg P vs g dg) (ht : ST K mg P W0 tt dt) (hi1 : SI K mg P W0 wi1 it1) (hg1 : SG K mg P vs1 g1 dg1) (ht1 : ST K mg P W0 tt1 dt1) (he : SE K mg P W0 te de)
    (nd : vs.Nodup) (hP : ∀ v ∈ vs, v ∉ P) (hv : ∀ v ∈ vs1, v ∈ vs) : SE K mg P W (tLc2 wi g tt wi1 g1 tt1 te vs vs1) (dLc2 it dg dt it1 dg1 dt1 de vs vs1) := by
  refine ⟨fun B F ρ σ τ H Q pr c hp => ?_⟩
  refine hi.run B F ρ σ τ H _ pr c ?_
  unfold dLc2 at hp
  cases e : it ρ with
  | no => rw [e] at hp; exact hp.elim
  | ex cc fs ρ' => rw [e] at hp; exact hp
  | ok ds ρ1 =>
    rw [e] at hp
    intro F1 H1 J src c1 ok Ld hD
    have hp : PostE K mg W B σ τ Q (match dLc2L dg dt it1 dg1 dt1 de vs vs1 ds [] (wipeR ρ1 vs) with
      | .ok acc ρ2 => .ok (.own (.lst acc)) (back ρ1 vs ρ2)
      | _ => .no) := hp
    have c2 := c1.allocO (d := .lst []) (o := .lst []) hD (.lst .nil)
    obtain ⟨hid, c3, bk⟩ := Cfg.away pr vs nd hP c2
    have c4 : Cfg K mg B F1 (wipeR ρ1 vs) (wipe σ vs) (src ++ ((.own (.lst []), .ref Ld) :: (hid ++ τ))) (upd H1 Ld (.lst [])) := c3.perm (by
      have h1 : (hid ++ (.own (.lst []), .ref Ld) :: (src ++ τ) : List (SV × V)).Perm ((.own (.lst []), .ref Ld) :: (hid ++ (src ++ τ))) := List.perm_middle
      have h2 : (hid ++ (src ++ τ)).Perm (src ++ (hid ++ τ)) := by
        rw [← List.append_assoc, ← List.append_assoc]
        exact List.Perm.append_right _ List.perm_append_comm
      exact h1.trans ((List.Perm.cons _ h2).trans List.perm_middle.symm))
    refine ⟨fun i m H => m = ds.length - i ∧ i ≤ ds.length ∧ ∃ F ρ acc, Cfg K mg B F ρ (wipe σ vs) (src ++ ((.own (.lst acc), .ref Ld) :: (hid ++ τ))) H ∧
      PostE K mg W B σ τ Q (match dLc2L dg dt it1 dg1 dt1 de vs vs1 (ds.drop i) acc ρ with
        | .ok acc ρ2 => .ok (.own (.lst acc)) (back ρ1 vs ρ2)
        | _ => .no), ⟨_, rfl, Nat.zero_le _, F1, _, [], c4, hp⟩, ?_⟩
    rintro i m H2 ⟨rfl, hi2, F2, ρ2, acc, c5, hp2⟩
    obtain ⟨o1, o2, o3⟩ := ok B F2 ρ2 (wipe σ vs) _ H2 c5
    by_cases hlt : i < ds.length
    · refine .inr ⟨o1 i hlt, fun H' => ∃ F ρ acc, Cfg K mg B F ρ (wipe σ vs) (src ++ ((.own (.lst acc), .ref Ld) :: (hid ++ τ))) H' ∧
        PostE K mg W B σ τ Q (match dLc2L dg dt it1 dg1 dt1 de vs vs1 (ds.drop (i + 1)) acc ρ with
          | .ok acc ρ2 => .ok (.own (.lst acc)) (back ρ1 vs ρ2)
          | _ => .no), fun H' w => ⟨_, by omega, rfl, hlt, w⟩, fun x H3 y => ?_⟩
      have hd : ds[i]? = some ds[i] := by simp [hlt]
      obtain ⟨F3, c6, r3, _⟩ := o3 i x H3 ds[i] y hd
      have hdrop : ds.drop i = ds[i] :: ds.drop (i + 1) := by rw [List.drop_eq_getElem_cons hlt]
      rw [hdrop] at hp2
      unfold dLc2L at hp2
      cases eg : dg ds[i] ρ2 with
      | none => simp only [eg] at hp2; exact hp2.elim
      | some ρ3 =>
        simp only [eg] at hp2
        refine hg.run B F3 _ (wipe σ vs) _ H3 x ds[i] ρ3 _ pr c6 r3 eg fun σ4 c8 f4 l4 => ⟨(wipe_frame f4 l4).trans wipe_wipe, ?_⟩
        have ew : wipe σ4 vs = wipe σ vs := (wipe_frame f4 l4).trans wipe_wipe
        have again : ∀ {F' : Hp} {ρ' : List SV} {acc' : List D} {H' : Hp}, Cfg K mg B F' ρ' σ4 (src ++ ((.own (.lst acc'), .ref Ld) :: (hid ++ τ))) H' → Cfg K mg B F' (wipeR ρ' vs) (wipe σ vs) (src ++ ((.own (.lst acc'), .ref Ld) :: (hid ++ τ))) H' := by
          intro F' ρ' acc' H' c'
          rw [← ew]
          exact c'.forgets pr vs hP
        refine ht.run B F3 ρ3 σ4 _ H3 _ pr c8 ?_
        cases et : dt ρ3 with
        | no => simp only [et] at hp2; exact hp2.elim
        | ex cc fs ρ' => simp only [et] at hp2; exact hp2.elim
        | ok b ρ5 =>
          simp only [et] at hp2
          intro F5 H5 c9
          cases b with
          | false => exact iteF ⟨_, _, _, again c9, hp2⟩
          | true =>
            refine iteT (hi1.run B F5 ρ5 σ4 _ H5 _ pr c9 ?_)
            simp only at hp2
            cases e1 : it1 ρ5 with
            | no => simp only [e1] at hp2; exact hp2.elim
            | ex cc fs ρ' => simp only [e1] at hp2; exact hp2.elim
            | ok ds1 ρ6 =>
              simp only [e1] at hp2
              intro F6 H6 J1 src1 c10 ok1
              have c11 : Cfg K mg B F6 (wipeR ρ6 vs1) (wipe σ4 vs1) (src1 ++ (src ++ ((.own (.lst acc), .ref Ld) :: (hid ++ τ)))) H6 := c10.forgets pr vs1 fun v h => hP v (hv v h)
              refine ⟨fun j k H => k = ds1.length - j ∧ j ≤ ds1.length ∧ ∃ F ρ acc, Cfg K mg B F ρ (wipe σ4 vs1) (src1 ++ (src ++ ((.own (.lst acc), .ref Ld) :: (hid ++ τ)))) H ∧
                PostE K mg W B σ τ Q (match (match dLc2I dg1 dt1 de vs1 (ds1.drop j) acc ρ with
                  | .ok acc' ρ4 => dLc2L dg dt it1 dg1 dt1 de vs vs1 (ds.drop (i + 1)) acc' (wipeR ρ4 vs)
                  | _ => .no) with
                  | .ok acc ρ2 => .ok (.own (.lst acc)) (back ρ1 vs ρ2)
                  | _ => .no), ⟨_, rfl, Nat.zero_le _, F6, _, acc, c11, hp2⟩, ?_⟩
              rintro j k H7 ⟨rfl, hj2, F7, ρ7, acc7, c12, hp7⟩
              obtain ⟨p1, p2, p3⟩ := ok1 B F7 ρ7 (wipe σ4 vs1) _ H7 c12
              by_cases hjt : j < ds1.length
              · refine .inr ⟨p1 j hjt, fun H' => ∃ F ρ acc, Cfg K mg B F ρ (wipe σ4 vs1) (src1 ++ (src ++ ((.own (.lst acc), .ref Ld) :: (hid ++ τ)))) H' ∧
                  PostE K mg W B σ τ Q (match (match dLc2I dg1 dt1 de vs1 (ds1.drop (j + 1)) acc ρ with
                  | .ok acc' ρ4 => dLc2L dg dt it1 dg1 dt1 de vs vs1 (ds.drop (i + 1)) acc' (wipeR ρ4 vs)
                  | _ => .no) with
                  | .ok acc ρ2 => .ok (.own (.lst acc)) (back ρ1 vs ρ2)
                  | _ => .no), fun H' w => ⟨_, by omega, rfl, hjt, w⟩, fun x1 H8 y1 => ?_⟩
                have hd1 : ds1[j]? = some ds1[j] := by simp [hjt]
                obtain ⟨F8, c13, r8, _⟩ := p3 j x1 H8 ds1[j] y1 hd1
                have hdrop1 : ds1.drop j = ds1[j] :: ds1.drop (j + 1) := by rw [List.drop_eq_getElem_cons hjt]
                rw [hdrop1] at hp7
                unfold dLc2I at hp7
                cases eg1 : dg1 ds1[j] ρ7 with
                | none => simp only [eg1] at hp7; exact hp7.elim
                | some ρ8 =>
                  simp only [eg1] at hp7
                  refine hg1.run B F8 _ (wipe σ4 vs1) _ H8 x1 ds1[j] ρ8 _ pr c13 r8 eg1 fun σ9 c14 f9 l9 => ⟨(wipe_frame f9 l9).trans wipe_wipe, ?_⟩
                  have ew1 : wipe σ9 vs1 = wipe σ4 vs1 := (wipe_frame f9 l9).trans wipe_wipe
                  have again1 : ∀ {F' : Hp} {ρ' : List SV} {acc' : List D} {H' : Hp}, Cfg K mg B F' ρ' σ9 (src1 ++ (src ++ ((.own (.lst acc'), .ref Ld) :: (hid ++ τ)))) H' → Cfg K mg B F' (wipeR ρ' vs1) (wipe σ4 vs1) (src1 ++ (src ++ ((.own (.lst acc'), .ref Ld) :: (hid ++ τ)))) H' := by
                    intro F' ρ' acc' H' c'
                    rw [← ew1]
                    exact c'.forgets pr vs1 fun v h => hP v (hv v h)
                  refine ht1.run B F8 ρ8 σ9 _ H8 _ pr c14 ?_
                  cases et1 : dt1 ρ8 with
                  | no => simp only [et1] at hp7; exact hp7.elim
                  | ex cc fs ρ' => simp only [et1] at hp7; exact hp7.elim
                  | ok b ρ9 =>
                    simp only [et1] at hp7
                    intro F9 H9 c15
                    cases b with
                    | false => exact iteF ⟨_, _, _, again1 c15, hp7⟩
                    | true =>
                      refine iteT (he.run B F9 ρ9 σ9 _ H9 _ pr c15 ?_)
                      simp only at hp7
                      cases ee : de ρ9 with
                      | no => simp only [ee] at hp7; exact hp7.elim
                      | ex cc fs ρ' => simp only [ee] at hp7; exact hp7.elim
                      | ok yv ρ10 =>
                        simp only [ee] at hp7
                        intro F10 H10 v c16 b16
                        cases ef : fz1 yv ρ10 with
                        | none => simp only [ef] at hp7; exact hp7.elim
                        | some p =>
                          obtain ⟨dy, ρ11⟩ := p
                          simp only [ef] at hp7
                          obtain ⟨F11, c17, m11, r11⟩ := c16.fz1 b16 ef
                          by_cases hl : acc7.length < 1000000
                          · rw [if_pos hl] at hp7
                            rw [← List.append_assoc] at c17
                            have c18 := c17.perm (τ' := (.own (.lst acc7), .ref Ld) :: ((src1 ++ src) ++ (hid ++ τ))) List.perm_middle
                            obtain ⟨q, ho, eq, n, hh, hvv⟩ := c18.gt _ List.mem_cons_self
                            cases eq
                            cases hvv with
                            | lst rr =>
                              refine ⟨_, hh, ?_, ?_⟩
                              · rw [← rr.length]; exact Nat.lt_of_lt_of_le hl (by rw [sizeLine_eq]; decide)
                              · have c19 := c18.mutT (d' := .lst (acc7 ++ [dy])) (.lst (rr.append (.cons r11 .nil)))
                                have c20 := c19.perm (τ' := (src1 ++ src) ++ ((.own (.lst (acc7 ++ [dy])), .ref Ld) :: (hid ++ τ))) List.perm_middle.symm
                                rw [List.append_assoc] at c20
                                exact ⟨_, _, _, again1 c20, hp7⟩
                          · rw [if_neg hl] at hp7; exact hp7.elim
              · have ej : j = ds1.length := by omega
                subst ej
                rw [List.drop_length] at hp7
                refine .inl ⟨p2 _ (Nat.le_refl _) (Nat.le_refl _), ?_⟩
                have c13 := c12.sub' (List.sublist_append_right src1 _)
                have c14 := c13.forgets pr vs hP
                rw [wipe_sub hv, ew] at c14
                exact ⟨F7, _, acc7, c14, hp7⟩
    · have ei : i = ds.length := by omega
      subst ei
      rw [List.drop_length] at hp2
      refine .inl ⟨o2 _ (Nat.le_refl _) (Nat.le_refl _), ?_⟩
      have hp3 : PostE K mg W B σ τ Q (.ok (.own (.lst acc)) (back ρ1 vs ρ2)) := hp2
      have c6 := c5.sub' (List.sublist_append_right src _)
      have c7 := bk F2 ρ2 H2 ((.own (.lst acc), .ref Ld) :: τ) (c6.perm List.perm_middle.symm)
      exact hp3 F2 H2 (.ref Ld) c7 trivial
end
section
variable {X : Cx} {P : List Nat} {W : WX} {pos : Pos} {elt tg iter tg1 iter1 : Expr} {ifs ifs1 : List Expr} {scope : Scope} {own : List (Str × Nat)} {it it1 : DI} {b b1 : DG} {dt dt1 : DT} {de : DE}
theorem d_lc2 (hc : X.calm = true) (hN : X.N.Nodup) (hi : PDI X P W tg iter it) (ok : BlkOk X.N X.env.scope scope own) (nd : (own.map (·.2)).Nodup) (hP : ∀ v ∈ own.map (·.2), v ∉ P)
    {vs vs1 : List Nat} (hvs : ∀ v ∈ vs, v ∈ own.map (·.2)) (hv : ∀ v ∈ vs1, v ∈ own.map (·.2))
    (hg : ∀ (s : Shared) (H : Hp) (C : Addr) (cl : List (Str × Addr)) (fp : List Addr), PDG (X.blk s H scope (compEnvC scope cl C X.env) fp) P vs tg b)
    (ht : ∀ (s : Shared) (H : Hp) (C : Addr) (cl : List (Str × Addr)) (fp : List Addr), PDTs (X.blk s H scope (compEnvC scope cl C X.env) fp) P W0 ifs dt)
    (hi1 : ∀ (s : Shared) (H : Hp) (C : Addr) (cl : List (Str × Addr)) (fp : List Addr), PDI (X.blk s H scope (compEnvC scope cl C X.env) fp) P W0 tg1 iter1 it1)
    (hg1 : ∀ (s : Shared) (H : Hp) (C : Addr) (cl : List (Str × Addr)) (fp : List Addr), PDG (X.blk s H scope (compEnvC scope cl C X.env) fp) P vs1 tg1 b1)
    (ht1 : ∀ (s : Shared) (H : Hp) (C : Addr) (cl : List (Str × Addr)) (fp : List Addr), PDTs (X.blk s H scope (compEnvC scope cl C X.env) fp) P W0 ifs1 dt1)
    (he : ∀ (s : Shared) (H : Hp) (C : Addr) (cl : List (Str × Addr)) (fp : List Addr), PD (X.blk s H scope (compEnvC scope cl C X.env) fp) P W0 elt de) (hs : ∀ x, foldedSetIterable iter X.env x = pure x := by intro _; rfl) (hs1 : ∀ env x, foldedSetIterable iter1 env x = pure x := by intro _ _; rfl) :
    PD X P W (.ListComp elt [⟨tg, iter, ifs, 0⟩, ⟨tg1, iter1, ifs1, 0⟩] scope pos) (dLc2 it b dt it1 b1 dt1 de (own.map (·.2)) vs1) := by
  obtain ⟨t, h1, h2⟩ := hi
  have sg : SG X.K X.mg P (own.map (·.2)) (gE X.K X.mg P vs b) b := ⟨fun B F ρ σ τ H v d ρ' Q pr c hd e hq =>
    sg_canon.run B F ρ σ τ H v d ρ' Q pr c hd e fun σ' c' f l => hq σ' c' (fun j hj => f j fun z => hj (hvs j z)) l⟩
  exact ⟨_, pe_lc2 (tt := tT X.K X.mg P W0 dt) (tt1 := tT X.K X.mg P W0 dt1) hc hN h1 ok hv (fun s H C cl fp => (hg s H C cl fp).canon) (fun s H C cl fp => ht s H C cl fp) (fun s H C cl fp => (hi1 s H C cl fp).canon) (fun s H C cl fp => (hg1 s H C cl fp).canon) (fun s H C cl fp => ht1 s H C cl fp)
    (fun s H C cl fp => (he s H C cl fp).canon) hs hs1, se_lc2 h2 sg st_canon si_canon sg_canon st_canon se_canon nd hP hv⟩
end
end PD
set_option Elab.async false
set_option linter.all false
set_option maxRecDepth 100000
set_option autoImplicit false
set_option maxHeartbeats 4000000
/-! PD: sorted of tuples of ints, of a list or of a dict's keys. -/
namespace PD
open PySem PySem.Spec PyProof.Rows L2

/-! ### the order -/
def lexL : List Int → List Int → Bool
  | a :: r, b :: q => if a = b then lexL r q else decide (a < b)
  | [], _ :: _ => true
  | _, [] => false
theorem lexL_irrefl : ∀ a : List Int, lexL a a = false
  | [] => rfl
  | a :: r => by unfold lexL; rw [if_pos rfl]; exact lexL_irrefl r
theorem lexL_asym : ∀ {a b : List Int}, lexL a b = true → lexL b a = false
  | [], [], h => by cases h
  | [], _ :: _, h => rfl
  | _ :: _, [], h => by cases h
  | a :: r, b :: q, h => by
    unfold lexL at h ⊢
    by_cases e : a = b
    · rw [if_pos e] at h
      rw [if_pos e.symm]
      exact lexL_asym h
    · rw [if_neg e] at h
      rw [if_neg (Ne.symm e)]
      have := of_decide_eq_true h
      exact decide_eq_false (by omega)
/-- not less is passed on -/
theorem lexL_tr : ∀ {a b c : List Int}, lexL a b = false → lexL b c = false → lexL a c = false
  | [], [], c, _, h2 => h2
  | [], _ :: _, _, h1, _ => by cases h1
  | _ :: _, _, [], _, _ => by cases ‹List Int› <;> rfl
  | _ :: _, [], _ :: _, _, h2 => by cases h2
  | a :: r, b :: q, c :: t, h1, h2 => by
    unfold lexL at h1 h2 ⊢
    by_cases e1 : a = b
    · rw [if_pos e1] at h1
      by_cases e2 : b = c
      · rw [if_pos e2] at h2
        rw [if_pos (e1.trans e2)]
        exact lexL_tr h1 h2
      · rw [if_neg e2] at h2
        rw [if_neg (by omega)]
        have := of_decide_eq_false h2
        exact decide_eq_false (by omega)
    · rw [if_neg e1] at h1
      have := of_decide_eq_false h1
      by_cases e2 : b = c
      · rw [if_neg (by omega)]
        exact decide_eq_false (by omega)
      · rw [if_neg e2] at h2
        have := of_decide_eq_false h2
        rw [if_neg (by omega)]
        exact decide_eq_false (by omega)
theorem lexL_eq : ∀ {a b : List Int}, lexL a b = false → lexL b a = false → a = b
  | [], [], _, _ => rfl
  | [], _ :: _, h, _ => by cases h
  | _ :: _, [], _, h => by cases h
  | a :: r, b :: q, h1, h2 => by
    unfold lexL at h1 h2
    by_cases e : a = b
    · rw [if_pos e] at h1
      rw [if_pos e.symm] at h2
      rw [e, lexL_eq h1 h2]
    · rw [if_neg e] at h1
      rw [if_neg (Ne.symm e)] at h2
      have := of_decide_eq_false h1
      have := of_decide_eq_false h2
      omega
theorem swoL {α : Type} (k : α → List Int) : SrtO.Swo fun v u => lexL (k v) (k u) := ⟨fun x y h => lexL_asym h, fun x y z h1 h2 => lexL_tr h2 h1⟩
def insL (n : List Int) : List (List Int) → List (List Int)
  | [] => [n]
  | m :: r => if lexL m n then m :: insL n r else n :: m :: r
def sortL : List (List Int) → List (List Int)
  | [] => []
  | n :: r => insL n (sortL r)
theorem insL_perm (n : List Int) : ∀ l : List (List Int), (insL n l).Perm (n :: l)
  | [] => .refl _
  | m :: r => by
    unfold insL
    split
    · exact ((insL_perm n r).cons m).trans (.swap _ _ _)
    · exact .refl _
theorem sortL_perm : ∀ l : List (List Int), (sortL l).Perm l
  | [] => .refl _
  | n :: r => (insL_perm n _).trans ((sortL_perm r).cons n)
abbrev leL (p q : List Int) : Prop := lexL q p = false
theorem insL_sorted {n : List Int} : ∀ {l : List (List Int)}, l.Pairwise leL → (insL n l).Pairwise leL
  | [], _ => List.pairwise_singleton _ _
  | m :: r, h => by
    obtain ⟨h1, h2⟩ := List.pairwise_cons.mp h
    unfold insL
    split
    · rename_i hm
      refine List.pairwise_cons.mpr ⟨fun y hy => ?_, insL_sorted h2⟩
      rcases List.mem_cons.mp ((insL_perm n r).mem_iff.mp hy) with rfl | hy
      · exact lexL_asym hm
      · exact h1 y hy
    · rename_i hm
      have hm : lexL m n = false := by simpa using hm
      refine List.pairwise_cons.mpr ⟨fun y hy => ?_, h⟩
      rcases List.mem_cons.mp hy with rfl | hy
      · exact hm
      · exact lexL_tr (h1 y hy) hm
theorem sortL_sorted : ∀ l : List (List Int), (sortL l).Pairwise leL
  | [] => .nil
  | n :: r => insL_sorted (sortL_sorted r)
theorem sortedL_uniq {l m : List (List Int)} (p : l.Perm m) (h1 : l.Pairwise leL) (h2 : m.Pairwise leL) : l = m := p.eq_of_pairwise (fun a b _ _ h h' => lexL_eq h' h) h1 h2

/-! ### tuples of ints compared -/
section
variable {prog : Program} {w : World} {A : Around} {E : Value → Shared → Prop} {s : Shared} {Q : Bool → Shared → Prop}
theorem lex_intsL {b : Bool} {xs ys : List Value} {ns ms : List Int} (i : Nat) (hx : IntsAre xs ns) (hy : IntsAre ys ms) (hl : ns.length = ms.length)
    (h : Q (lexL ns ms) s) : PySem.W.KatLex prog w A b false Q (xs.zip ys) i s := by
  induction hx generalizing ys ms i with
  | nil =>
    cases hy with
    | nil => exact PySem.W.kat_nil h
    | cons q u hy => simp at hl
  | @cons p t xs ns hx ih =>
    cases hy with
    | nil => simp at hl
    | @cons q u ys ms hy =>
      have hl' : ns.length = ms.length := by simpa using hl
      show PySem.W.KatLex prog w A b false Q ((Value.int p t, Value.int q u) :: xs.zip ys) i s
      refine PySem.W.kat_cons (PySem.wpAny_eqBool_int ?_)
      by_cases e : p = q
      · subst e
        rw [beq_self_eq_true]
        refine PySem.W.kat_yes ?_
        unfold lexL at h
        rw [if_pos rfl] at h
        first
          | exact ih (i + 1) hy hl' h
          | exact ih _ _ (i + 1) hy hl' h
      · rw [show (p == q) = false from beq_eq_false_iff_ne.mpr e]
        refine PySem.W.kat_no (TS.oneLt_ints _ ?_)
        unfold lexL at h
        rw [if_neg e] at h
        exact h
end
/-- what is sorted: tuples of d ints -/
def TupsL (h : Heap) (d : Nat) (k : Value → List Int) (vs : List Value) : Prop := ∀ v, v ∈ vs → TS.TupInts h v (k v) ∧ (k v).length = d
theorem TupsL.keeps {h h' : Heap} {d : Nat} {k : Value → List Int} {vs : List Value} (x : TupsL h d k vs) (kp : ∀ b o, h.get? b = some o → o.cls = .type "tuple" → h'.get? b = some o) : TupsL h' d k vs := fun v hv => ⟨(x v hv).1.keeps kp, (x v hv).2⟩
theorem firstsL {h : Heap} {d : Nat} {k : Value → List Int} (hd : 1 ≤ d) : ∀ vs : List Value, TupsL h d k vs → ∃ fs, PySem.W.KatTups h vs fs ∧ fs.length = vs.length ∧ ∀ f, f ∈ fs → ∃ n t, f = Value.int n t
  | [], _ => ⟨[], PySem.W.KatTups.nil, rfl, fun f hf => by simp at hf⟩
  | v :: vs, x => by
    obtain ⟨fs, kk, hl, hi⟩ := firstsL hd vs fun u hu => x u (List.mem_cons_of_mem _ hu)
    obtain ⟨⟨a, xs, rfl, ⟨o, ho, hc, n, hdt⟩, i⟩, hn⟩ := x v (List.mem_cons_self ..)
    obtain ⟨y, ys, e⟩ : ∃ y ys, xs.toList = y :: ys := by
      cases q : xs.toList with
      | nil =>
        rw [q] at i
        have l := i.length
        rw [List.length_nil, hn] at l
        omega
      | cons y ys => exact ⟨y, ys, rfl⟩
    obtain ⟨m, t, hy⟩ := i.all y (by rw [e]; exact List.mem_cons_self ..)
    refine ⟨y :: fs, PySem.W.KatTups.cons ho hc hdt ?_ kk, by simp [hl], ?_⟩
    · have z := congrArg (fun l : List Value => l[0]?) e
      simpa using z
    · intro f hf
      rcases List.mem_cons.mp hf with rfl | hf
      · exact ⟨m, t, hy⟩
      · exact hi f hf
section
variable {prog : Program} {w : World} {A : Around} {s : Shared}
theorem tl_sortable {a : Addr} {vs : List Value} {d : Nat} {k : Value → List Int} (hd : 1 ≤ d) (h2 : 2 ≤ vs.length) (hp : TupsL s.heap d k vs) (ha : ∀ o, s.heap.get? a = some o → o.cls ≠ .type "tuple") :
    SrtO.SortableO prog w A s a vs fun v u => lexL (k v) (k u) := by
  intro h' keep
  have hp' : TupsL h' d k vs := hp.keeps fun b o e c => keep b o (fun z => by subst z; exact ha o e c) e
  obtain ⟨fs, h1, h3, h4⟩ := firstsL hd vs hp'
  refine ⟨PyProof.Rows.tuples' true, fun Q E hq => ?_, fun p q hm hm' => ?_⟩
  · refine PySem.W.kat_kind (T := .type "int") h1 (by omega) (fun f hm => ?_) (by rfl) ?_
    · obtain ⟨x, t, rfl⟩ := h4 f hm
      exact PySem.W.Looks.now
    · have e : (Value.type "int" != Value.type "tuple") = true := by first | decide +kernel | rfl | decide
      rw [e]
      exact hq
  · obtain ⟨t1, l1⟩ := hp' _ hm
    obtain ⟨t2, l2⟩ := hp' _ hm'
    show wpAny (model prog w) A (PyProof.Rows.keyLt' (PyProof.Rows.tuples' true) p.1 q.1) (fun r s' => s' = _ ∧ r = lexL (k p.1) (k q.1)) (fun _ _ => False) _
    obtain ⟨a1, xs, e1, ⟨o1, ho1, hc1, n1, hd1⟩, i1⟩ := t1
    obtain ⟨a2, ys, e2, ⟨o2, ho2, hc2, n2, hd2⟩, i2⟩ := t2
    generalize k p.1 = kp at *
    generalize k q.1 = kq at *
    rw [e1, e2]
    refine PySem.W.kat_lt ho1 hd1 ho2 hd2 ?_
    have sz : decide (xs.size < ys.size) = false := by
      have l1' := i1.length
      have l2' := i2.length
      rw [Array.length_toList] at l1' l2'
      exact decide_eq_false (by omega)
    rw [sz]
    exact lex_intsL 0 i1 i2 (by omega) ⟨rfl, rfl⟩
end
end PD
set_option Elab.async false
set_option linter.all false
set_option maxRecDepth 100000
set_option autoImplicit false
set_option maxHeartbeats 4000000
/-! PD: sorted of lists and of dicts' keys, as rules. -/
namespace PD
open PySem PySem.Spec PyProof.Rows L2

section
variable {prog : Program} {w : World} {A : Around} {E : Value → Shared → Prop} {s : Shared}
/-- a dict's keys as an iterable, whatever they are -/
theorem kdl_raw {d : Addr} {es : Array DictEntry} {ep : Nat} (lo : (d == sysModules) = false) :
    PySem.W.KdlSrc prog w "dict" d d es.size (fun i v => ∃ en, es[i]? = some en ∧ v = en.key) (fun h => DT.Raw h d es ep) where
  type := fun _ hm => hm.typeIs
  there := fun _ hm => ⟨hm.lt, hm.lt⟩
  keep := fun _ _ hm hk => hm.at' fun o e => hk d (.inl rfl) o e
  notList := by decide
  notTuple := by decide
  hint := fun _ _ _ _ hm hq => PySem.W.kdl_hint_dict hm.typeIs hq
  iter := fun A s hh hm => by
    obtain ⟨o, ho, hc, hdat⟩ := id hm
    have hlt : d < s.heap.objs.size := hm.lt
    refine ⟨_, fun i h => h.IsKeyIter s.heap.objs.size d i es.size ep ∧ DT.Raw h d es ep, fun _ _ hq => L2.iter_keys lo ho hc hdat hq, ?_, ⟨⟨_, Heap.get?_push_size _ rfl, rfl, rfl⟩, hm.push _⟩⟩
    refine { sub := by simp, frame := ?_, item := ?_, done := ?_, self := ?_ }
    · rintro i h h' ⟨a, b⟩ k
      exact ⟨a.at fun o e => k _ (by simp) o e, b.at' fun o e => k _ (by simp) o e⟩
    · rintro i s' Q E hi ⟨a, b⟩ hQ
      obtain ⟨o', ho', _, hd'⟩ := id b
      have hx : es[i]? = some es[i] := by simp [hi]
      refine L2.next_key_item a ho' hd' rfl hx fun h' a' sb => ?_
      exact hQ _ h' s'.toks ⟨_, hx, rfl⟩ ⟨a', b.at' fun o e => (sb.2 d (Nat.ne_of_lt hlt)).trans e⟩ fun c u hc e => (sb.2 c (fun z => hc (by simp [z]))).trans e
    · rintro s' Q E ⟨a, b⟩ hQ
      obtain ⟨o', ho', _, hd'⟩ := id b
      exact L2.next_key_end hh a ho' hd' rfl (Nat.le_refl _) fun h' eb => hQ h' s'.toks fun c u hc e => eb c u (fun z => hc (by simp [z])) e
    · rintro i s' Q E ⟨st, b⟩ h
      refine wpAny_pyIter_slot st.typeIs F.slot_dict_keyiterator_iter (wpAny_call_entry F.slot_dict_keyiterator_iter st.typeIs F.entry_dict_keyiterator_iter ?_ (F.args_dict_keyiterator_iter_1 _))
      show wpAny _ _ (ret (.ref _)) _ _ s'
      exact wpAny_pure ⟨_, rfl, "dict_keyiterator", _, st.typeIs, F.slot_dict_keyiterator_next.lookup, h⟩
/-- sorted of an iterable that is collected first -/
theorem sorted_srcO {T : String} {r d : Addr} {n : Nat} {P : Nat → Value → Prop} {OK : Heap → Prop} {ltv : Value → Value → Bool} {Q : Value → Shared → Prop} (O : SrtO.Swo ltv) (K : PySem.W.KdlSrc prog w T r d n P OK) (hh : A.handled = none) (hok : OK s.heap) (hn : n ≤ sizeLine)
    (h : ∀ (h' : Heap) (tk : Nat) (vs : List Value), (∀ b o, s.heap.get? b = some o → h'.get? b = some o) → vs.length = n → (∀ (j : Nat) (v : Value), vs[j]? = some v → P j v) →
      (2 ≤ vs.length → ∀ A', SrtO.SortableO prog w A' { s with heap := h'.push (seqObj "list" vs.toArray 0), toks := tk } h'.objs.size vs ltv) ∧
      ∀ out, SrtO.Srtd ltv out → SrtO.Stb ltv out vs → ∀ h2 e, (∀ b o, h'.get? b = some o → h2.get? b = some o) → h2.get? h'.objs.size = some (seqObj "list" out.toArray e) → Q (.ref h'.objs.size) { s with heap := h2, toks := tk }) :
    wpAny (model prog w) A (call (.builtin "sorted") [.ref r]) Q E s := by
  refine Calls.call_function_entry PyProof.Rows.kind_sorted PyProof.Rows.plain_sorted PyProof.Rows.entry_sorted (PyProof.Rows.args_sorted1 _) ?_
  unfold Builtin.«sorted»
  refine wpAny_bind (m := checkCount "sorted" 1 1 _) (wpAny_pure ?_)
  refine wpAny_bind (PySem.W.kdu_collect (A := A.in1) K hh hok hn fun h' tk acc hk hacc => ?_)
  have hal : acc.toList.length = n := by rw [Array.length_toList]; exact hacc.1
  obtain ⟨hs, ho⟩ := h h' tk acc.toList hk hal fun j v e => hacc.2 j v (by rw [← Array.getElem?_toList]; exact e)
  refine wpAny_bind (wpAny_newList ?_ (by rw [hal]; exact hn))
  have hoL : (h'.push (seqObj "list" acc.toList.toArray 0)).get? h'.objs.size = some (seqObj "list" acc.toList.toArray 0) := Heap.get?_push_size _ rfl
  show wpAny _ _ _ _ _ { s with heap := h'.push (seqObj "list" acc.toList.toArray 0), toks := tk }
  refine wpAny_bind (wpAny_holding (wpAny_call_entry PyProof.Rows.slot_list_sort ⟨_, hoL, rfl⟩ PyProof.Rows.entry_list_sort
    (SrtO.list_sort_ord (s := { s with heap := h'.push (seqObj "list" acc.toList.toArray 0), toks := tk }) O hoL (by rw [hal]; exact hn) (fun h2 => hs h2 _) fun out h1 h2 => ⟨_, rfl, ?_⟩) (PyProof.Rows.args_list_sort _)))
  obtain ⟨e', he'⟩ := PyProof.Rows.sortedHeap_at (vs := acc.toList) (out := out.toArray) hoL
  refine wpAny_pure ⟨_, rfl, ho out h1 h2 _ e' (fun b u e2 => ?_) he'⟩
  have hb : b < h'.objs.size := Heap.lt_size e2
  rw [PyProof.Rows.sortedHeap_old (Nat.ne_of_lt hb) (by rw [size_push']; exact Nat.lt_succ_of_lt hb)]
  exact Heap.get?_push_of_some _ e2
end
section
variable {X : Cx}
/-- sorted(xs), xs a list of tuples of d ints each -/
def rSortedTL (K : PySem.W.Frag) : List V → Hp → VK → Prop := fun vs H Q => ∃ (a : Addr) (xs : List V) (k : V → List Int) (d : Nat), vs = [V.ref a] ∧ SqL K H a xs ∧ 1 ≤ d ∧ (∀ x ∈ xs, ∃ t, x = V.ref t ∧ H t = some (.tup ((k x).map V.int)) ∧ (k x).length = d) ∧
  ∀ ys p, SrtO.Srtd (fun v u => lexL (k v) (k u)) ys → SrtO.Stb (fun v u => lexL (k v) (k u)) ys xs → H p = none → Q (.ref p) (upd H p (.lst ys))
theorem tupInts_at {pins : List (Addr × Obj)} {σ : L2.St} {H : Hp} {s : Shared} {t : Addr} {ns : List Int} (I : Inv X pins σ H s) (h : H t = some (.tup (ns.map V.int))) : TS.TupInts s.heap (.ref t) ns := by
  obtain ⟨_, its2, r2, o, ho, hc, n, hd⟩ := I.hok _ _ h
  exact ⟨t, its2.toArray, rfl, ⟨o, ho, hc, n, hd⟩, by simpa using r2.ints⟩
theorem cr_sortedTL : CallR X (.builtin "sorted") (rSortedTL X.K) := by
  intro pins s σ H vs us Q I r h
  obtain ⟨a, xs, k, d, rfl, hs, hd, hx, q⟩ := h
  obtain ⟨its, rv, hl, hz⟩ := I.list hs
  obtain ⟨u, rfl, ru⟩ := vals1 r
  obtain rfl : u = Value.ref a := ru
  obtain ⟨e1, e2⟩ := refs_back rv fun x m => by
    obtain ⟨t, e, _⟩ := hx x m
    exact ⟨t, e⟩
  have tl : TupsL s.heap d (fun u => k (backV u)) its := fun v hv => by
    obtain ⟨t, rfl⟩ := e2 v hv
    have hm : V.ref t ∈ xs := by rw [e1]; exact List.mem_map.mpr ⟨_, hv, rfl⟩
    obtain ⟨t', e, ht, hn⟩ := hx _ hm
    cases e
    exact ⟨tupInts_at I ht, hn⟩
  refine SrtO.sorted_ord (swoL (fun u => k (backV u))) hl.isList (by rw [← rv.length]; exact hz) (fun h2 h₁ a' ha' kk => ?_) fun out h1 h2 => ?_
  · refine tl_sortable (s := { s with heap := h₁ }) hd h2 (tl.keeps fun b o e _ => (kk b o e).2) fun o e c => ?_
    have e' : some o = some (seqObj "list" its.toArray 0) := e.symm.trans ha'
    cases e'
    have c : Value.type "list" = Value.type "tuple" := c
    injection c with c
    exact absurd c (by decide)
  · have h3 : ∀ u ∈ out, ∃ a, u = Value.ref a := fun u hu => e2 u (h2.perm.mem_iff.mp hu)
    obtain ⟨ep, he'⟩ := PyProof.Rows.sortedAll_at s.heap its out.toArray
    have hb : SrtO.Stb (fun v u => lexL (k v) (k u)) (out.map backV) xs := by
      rw [e1]
      exact SrtO.Stb.map (lt := fun v u => lexL (k v) (k u)) (swoL k) backV h2
    refine ⟨.ref _, upd H (s.heap.objs.size + 1) (.lst (out.map backV)), I.laid (t' := s.toks) (fun _ _ => PyProof.Rows.sortedAll_old) (Nat.le_succ _) ⟨?_, out, ep, vals_back h3, he'⟩, rfl, q _ _ (SrtO.srtd_map (lt := fun v u => lexL (k v) (k u)) h1) hb (I.hok.fresh (Nat.le_succ _))⟩
    rw [hb.len]
    exact hz
/-- sorted(d), d a dict whose keys are tuples of dd ints each -/
def rSortedDT : List V → Hp → VK → Prop := fun vs H Q => ∃ (a : Addr) (kvs : List (List Key × V)) (nss : List (List Int)) (dd : Nat), vs = [V.ref a] ∧ Rd H a (.dT kvs) ∧ 1 ≤ dd ∧ kvs.map (·.1) = nss.map (fun ns => ns.map Sum.inl) ∧ (∀ ns ∈ nss, ns.length = dd) ∧
  ∀ (ys : List V) (k : V → List Int) (p : Addr), (∀ y ∈ ys, ∃ t, y = V.ref t ∧ H t = some (.tup ((k y).map V.int))) → (ys.map k).Perm nss → (ys.map k).Pairwise leL → H p = none → Q (.ref p) (upd H p (.lst ys))
theorem raw_of {P : Program} {w : World} {H : Hp} {h : Heap} {a : Addr} {kvs : List (List Key × V)} (ok : HOk P w H h) (e : Rd H a (.dT kvs)) : kvs.length ≤ sizeLine ∧ (a == sysModules) = false ∧
    ∃ es ep, DT.Raw h a es ep ∧ es.size = kvs.length ∧ ∀ (i : Nat) (k : List Key) (v : V), kvs[i]? = some (k, v) → ∃ (en : DictEntry) (q : Addr), es[i]? = some en ∧ en.key = .ref q ∧ H q = some (.tup (k.map kV)) := by
  obtain ⟨z, y, xs, r, o, es, ep, h1, h2, h3, h4, h5⟩ := (show ObjOk P w H h a (.dT kvs) from rd_of ok e)
  refine ⟨z, y, es, ep, ⟨o, h1, h2, h3⟩, ?_, fun i k v e => ?_⟩
  · have l1 : es.size = xs.length := size_of_entries h4
    have l2 : kvs.length = xs.length := Paired.length r
    omega
  · obtain ⟨b, hb, e1, e2, _⟩ := paired_get r e
    have q := entry_at h4 i
    rw [hb] at q
    exact ⟨_, b.2.1, q, rfl, e2⟩
theorem cr_sortedDT (hcalm : X.calm = true) : CallR X (.builtin "sorted") rSortedDT := by
  intro pins s σ H xs us Q I r h
  obtain ⟨a, kvs, nss, dd, rfl, hd, hd1, hks, hln, q⟩ := h
  obtain ⟨u, rfl, rx⟩ := vals1 r
  cases rx
  obtain ⟨z, lo, es, ep, raw, hsz, ent⟩ := raw_of I.hok hd
  have hlen : kvs.length = nss.length := by
    have e := congrArg List.length hks
    rw [List.length_map, List.length_map] at e
    exact e
  -- what stands at each key
  have at_ : ∀ (i : Nat) (v : Value), (∃ en, es[i]? = some en ∧ v = en.key) → ∃ t ns, v = .ref t ∧ nss[i]? = some ns ∧ H t = some (.tup (ns.map V.int)) := fun i v ⟨en, he, hv⟩ => by
    have hi : i < kvs.length := by rw [← hsz]; exact (Array.getElem?_eq_some_iff.mp he).1
    obtain ⟨en', q, he', hk, hq⟩ := ent i kvs[i].1 kvs[i].2 (by simp [hi])
    rw [he] at he'
    cases he'
    have e1 : (kvs.map (·.1))[i]? = some kvs[i].1 := by simp [hi]
    rw [hks, List.getElem?_map] at e1
    cases e2 : nss[i]? with
    | none => rw [e2] at e1; cases e1
    | some ns =>
      rw [e2] at e1
      have e3 : ns.map Sum.inl = kvs[i].1 := Option.some.inj e1
      refine ⟨q, ns, by rw [hv, hk], rfl, ?_⟩
      rw [hq, ← e3, List.map_map]
      rfl
  -- the ints of a tuple in the heap
  let kf : Value → List Int := fun v => match v with
    | .ref t => match H t with
      | some (.tup ws) => ws.map fun w => match w with | .int n => n | _ => 0
      | _ => []
    | _ => []
  have kfe : ∀ {t : Addr} {ns : List Int}, H t = some (.tup (ns.map V.int)) → kf (.ref t) = ns := fun {t ns} h => by
    show (match H t with | some (.tup ws) => ws.map (fun w : V => match w with | .int n => n | _ => 0) | _ => []) = ns
    rw [h]
    show (ns.map V.int).map _ = ns
    rw [List.map_map]
    exact List.map_id _
  refine sorted_srcO (ltv := fun v u => lexL (kf v) (kf u)) (swoL kf) (kdl_raw lo) (I.ok.hd hcalm) raw (by rw [hsz]; exact z) fun h' tk vs hk hl hP => ?_
  have I1 : Inv X pins σ H { s with heap := h', toks := tk } := I.kept hk
  have all : ∀ v ∈ vs, ∃ t ns, v = .ref t ∧ ns ∈ nss ∧ H t = some (.tup (ns.map V.int)) := fun v hv => by
    obtain ⟨i, hi⟩ := List.mem_iff_getElem?.mp hv
    obtain ⟨t, ns, e1, e2, e3⟩ := at_ i v (hP i v hi)
    exact ⟨t, ns, e1, List.mem_of_getElem? e2, e3⟩
  have tl : TupsL h' dd kf vs := fun v hv => by
    obtain ⟨t, ns, rfl, hm, ht⟩ := all v hv
    rw [kfe ht]
    exact ⟨tupInts_at I1 ht, hln ns hm⟩
  have ek : vs.map kf = nss := by
    apply List.ext_getElem?
    intro i
    rw [List.getElem?_map]
    cases e : vs[i]? with
    | none =>
      have : nss.length ≤ i := by
        have := List.getElem?_eq_none_iff.mp e
        omega
      rw [List.getElem?_eq_none this]
      rfl
    | some v =>
      obtain ⟨t, ns, rfl, e2, e3⟩ := at_ i v (hP i v e)
      rw [e2]
      show some (kf (.ref t)) = some ns
      rw [kfe e3]
  refine ⟨fun h2 A' => tl_sortable hd1 h2 (tl.keeps fun b o e _ => Heap.get?_push_of_some _ e) fun o e c => ?_, fun out h1 h2 hp e hkk he' => ?_⟩
  · have e' : some o = some (seqObj "list" vs.toArray 0) := e.symm.trans (Heap.get?_push_size _ rfl)
    cases e'
    have c : Value.type "list" = Value.type "tuple" := c
    injection c with c
    exact absurd c (by decide)
  · have hm : ∀ u ∈ out, u ∈ vs := fun u hu => h2.perm.mem_iff.mp hu
    have h3 : ∀ u ∈ out, ∃ a, u = Value.ref a := fun u hu => by
      obtain ⟨t, ns, e1, _⟩ := all u (hm u hu)
      exact ⟨t, e1⟩
    let kv : V → List Int := fun v => match v with
      | .ref t => kf (.ref t)
      | _ => []
    have ekv : (out.map backV).map kv = out.map kf := by
      rw [List.map_map]
      refine List.map_congr_left fun u hu => ?_
      obtain ⟨t, rfl⟩ := h3 u hu
      rfl
    refine ⟨.ref h'.objs.size, upd H h'.objs.size (.lst (out.map backV)), I1.laid (t' := tk) hkk (Nat.le_refl _) ⟨?_, out, e, vals_back h3, he'⟩, rfl, q _ kv _ (fun y hy => ?_) ?_ ?_ (I1.hok.fresh (Nat.le_refl _))⟩
    · rw [List.length_map, h2.len, hl, hsz]; exact z
    · obtain ⟨u, hu, rfl⟩ := List.mem_map.mp hy
      obtain ⟨t, ns, rfl, _, ht⟩ := all u (hm u hu)
      refine ⟨t, rfl, ?_⟩
      show H t = some (.tup ((kf (.ref t)).map V.int))
      rw [kfe ht]
      exact ht
    · rw [ekv]
      have := h2.perm.map kf
      rw [ek] at this
      exact this
    · rw [ekv]
      exact List.pairwise_map.mpr (h1.imp fun h => h)
end
end PD
set_option Elab.async false
set_option linter.all false
set_option maxRecDepth 100000
set_option autoImplicit false
set_option maxHeartbeats 4000000
/-! PD: sorted, the denotation. -/
namespace PD
open PySem PySem.Spec PyProof.Rows L2

/-- a tuple of ints -/
def asTI : D → Option (List Int)
  | .tup xs => asInts xs
  | _ => none
def ofTI (ns : List Int) : D := .tup (ns.map .int)
def asTL (n : Nat) : List D → Option (List (List Int))
  | [] => some []
  | d :: r => match asTI d with
    | some ns => if ns.length = n then (asTL n r).map (ns :: ·) else none
    | none => none
theorem asTI_eq {d : D} {ns : List Int} (e : asTI d = some ns) : d = ofTI ns := by
  cases d with
  | tup xs => unfold ofTI; rw [asInts_eq (show asInts xs = some ns from e)]
  | _ => cases e
theorem asTL_eq {n : Nat} : ∀ {xs : List D} {nss : List (List Int)}, asTL n xs = some nss → xs = nss.map ofTI ∧ ∀ ns ∈ nss, ns.length = n
  | [], _, e => by cases e; exact ⟨rfl, fun _ h => by cases h⟩
  | d :: r, nss, e => by
    unfold asTL at e
    cases q : asTI d with
    | none => rw [q] at e; cases e
    | some ns =>
      rw [q] at e
      simp only at e
      split at e
      · rename_i hl
        cases q2 : asTL n r with
        | none => rw [q2] at e; cases e
        | some qs =>
          rw [q2] at e
          cases e
          obtain ⟨h1, h2⟩ := asTL_eq q2
          refine ⟨by rw [List.map_cons, asTI_eq q, h1], fun ms hm => ?_⟩
          rcases List.mem_cons.mp hm with rfl | hm
          · exact hl
          · exact h2 ms hm
      · cases e
/-- tuples of ints of one length, at least 1 -/
def asTLs : List D → Option (List (List Int))
  | [] => some []
  | d :: r => match asTI d with
    | some [] => none
    | some ns => asTL ns.length (d :: r)
    | none => none
theorem asTLs_eq {xs : List D} {nss : List (List Int)} (e : asTLs xs = some nss) : xs = nss.map ofTI ∧ ∃ n, 1 ≤ n ∧ ∀ ns ∈ nss, ns.length = n := by
  cases xs with
  | nil => cases e; exact ⟨rfl, 1, Nat.le_refl _, fun _ h => by cases h⟩
  | cons d r =>
    replace e : (match asTI d with | some [] => none | some ns => asTL ns.length (d :: r) | none => none) = some nss := e
    cases q : asTI d with
    | none => rw [q] at e; cases e
    | some ns =>
      rw [q] at e
      cases ns with
      | nil => cases e
      | cons a b =>
        obtain ⟨h1, h2⟩ := asTL_eq (show asTL (a :: b).length (d :: r) = some nss from e)
        exact ⟨h1, _, by simp, h2⟩
def srtD : List D → Option RV
  | [.lst xs] => match asInts xs with
    | some ns => some (.own (.lst ((sortI ns).map .int)))
    | none => match asTLs xs with
      | some nss => some (.own (.lst ((sortL nss).map ofTI)))
      | none => none
  | [.dct true kvs] => match asTLs (kvs.map (·.1)) with
    | some nss => some (.own (.lst ((sortL nss).map ofTI)))
    | none => none
  | _ => none
section
variable {K : PySem.W.Frag} {mg : Str → Option Value} {B : Bs} {F H : Hp} {ρ : List SV} {σ : L2.St} {τ : List (SV × V)}
def tlAt (H : Hp) : V → List Int
  | .ref t => match H t with
    | some (.tup ws) => ws.map fun w => match w with | .int n => n | _ => 0
    | _ => []
  | _ => []
theorem tlAt_eq {t : Addr} {ns : List Int} (h : H t = some (.tup (ns.map V.int))) : tlAt H (.ref t) = ns := by
  show (match H t with | some (.tup ws) => ws.map (fun w : V => match w with | .int n => n | _ => 0) | _ => []) = ns
  rw [h]
  show (ns.map V.int).map _ = ns
  rw [List.map_map]
  exact List.map_id _
theorem DVs.tls (m : ∀ a o, F a = some o → H a = some o) : ∀ {nss : List (List Int)} {vs : List V}, DVs K mg F (nss.map ofTI) vs →
    vs.map (tlAt H) = nss ∧ ∀ v ∈ vs, (∃ t, v = V.ref t ∧ H t = some (.tup ((tlAt H v).map V.int))) ∧ DV K mg F (ofTI (tlAt H v)) v
  | [], _, .nil => ⟨rfl, fun _ h => by cases h⟩
  | p :: ps, _, .cons h r => by
    obtain ⟨e, hv⟩ := DVs.tls m r
    cases h with
    | tup h1 r1 =>
      rename_i vs a us
      have e1 := r1.ints
      subst e1
      have hk := tlAt_eq (m _ _ h1)
      refine ⟨by rw [List.map_cons, hk, e], fun v hm => ?_⟩
      rcases List.mem_cons.mp hm with rfl | hm
      · rw [hk]
        exact ⟨⟨a, rfl, m _ _ h1⟩, .tup h1 r1⟩
      · exact hv v hm
theorem Cfg.adopts (k : V → List Int) : ∀ {ys : List V} {F : Hp}, Cfg K mg B F ρ σ τ H → (∀ y ∈ ys, ∃ t, y = V.ref t ∧ H t = some (.tup ((k y).map V.int))) →
    ∃ F', Cfg K mg B F' ρ σ τ H ∧ (∀ a o, F a = some o → F' a = some o) ∧ DVs K mg F' (ys.map fun y => ofTI (k y)) ys
  | [], F, c, _ => ⟨F, c, fun _ _ h => h, .nil⟩
  | y :: ys, F, c, h => by
    obtain ⟨t, ey, ht⟩ := h y List.mem_cons_self
    obtain ⟨F1, c1, m1, e1⟩ := c.adopt ht
    obtain ⟨F2, c2, m2, r2⟩ := Cfg.adopts k c1 fun z hz => h z (List.mem_cons_of_mem _ hz)
    subst ey
    exact ⟨F2, c2, fun a o e => m2 a o (m1 a o e), .cons (.tup (m2 _ _ e1) (.of_ints _)) r2⟩
theorem DTs.keysTI : ∀ {nss : List (List Int)} {kvs : List (D × D)} {ks : List (List Key × V)}, DTs K mg F kvs ks → kvs.map (·.1) = nss.map ofTI → ks.map (·.1) = nss.map (fun ns => ns.map Sum.inl)
  | [], [], _, .nil, _ => rfl
  | ns :: nss, _ :: kvs, _, .cons hd hr, e => by
    rw [List.map_cons, List.map_cons] at e
    rw [List.map_cons, List.map_cons]
    injection e with e1 e2
    rw [DTs.keysTI hr e2]
    congr 1
    rename_i k d v vs
    have : ∀ (k : List Key) (ns : List Int), tkD k = ofTI ns → k = ns.map Sum.inl := by
      intro k ns h
      unfold tkD ofTI at h
      injection h with h
      induction k generalizing ns with
      | nil => cases ns with
        | nil => rfl
        | cons _ _ => cases h
      | cons a b ih => cases ns with
        | nil => cases h
        | cons n ns =>
          rw [List.map_cons, List.map_cons] at h
          injection h with h1 h2
          rw [List.map_cons, ← ih ns h2]
          cases a with
          | inl i => cases h1; rfl
          | inr x => cases h1
    exact this _ _ e1
theorem ok_srt : OKn K mg (fun xs H Q => rSortedI K xs H Q ∨ (rSortedTL K xs H Q ∨ rSortedDT xs H Q)) srtD := by
  refine ⟨fun B F ρ σ τ H xs as rv Q c ha e gt => ?_, fun as rv e => ?_⟩
  · match as, ha, e with
    | [.lst ys], ha, e =>
      obtain ⟨x, rfl, h⟩ := ha.inv1
      have e : (match asInts ys with
        | some ns => some (RV.own (.lst ((sortI ns).map .int)))
        | none => match asTLs ys with
          | some ps => some (RV.own (.lst ((sortL ps).map ofTI)))
          | none => none) = some rv := e
      cases h with
      | lst h1 r1 =>
        cases q : asInts ys with
        | some ns =>
          rw [q] at e
          cases e
          have e2 := asInts_eq q
          subst e2
          have e3 := r1.ints
          subst e3
          refine .inl ⟨_, ns, rfl, .of h1, fun ns' p hp hs hn => ?_⟩
          have : ns' = sortI ns := sorted_uniq (hp.trans (sortI_perm ns).symm) hs (sortI_sorted ns)
          subst this
          exact gt _ _ _ (c.allocO hn (.lst (.of_ints _)))
        | none =>
          rw [q] at e
          simp only at e
          cases q2 : asTLs ys with
          | none => rw [q2] at e; cases e
          | some ps =>
            rw [q2] at e
            cases e
            obtain ⟨e2, n, hn1, hlen⟩ := asTLs_eq q2
            subst e2
            obtain ⟨e3, hv⟩ := r1.tls c.sub
            refine .inr (.inl ⟨_, _, tlAt H, n, rfl, .of h1, hn1, fun v hm => ?_, fun zs p hs hb hn => ?_⟩)
            · obtain ⟨⟨t, et, ht⟩, _⟩ := hv v hm
              exact ⟨t, et, ht, hlen _ (by rw [← e3]; exact List.mem_map.mpr ⟨v, hm, rfl⟩)⟩
            have hz : ∀ v ∈ zs, DV K mg F (ofTI (tlAt H v)) v := fun v hm => (hv v (hb.perm.mem_iff.mp hm)).2
            have e4 : zs.map (tlAt H) = sortL ps := by
              refine sortedL_uniq ?_ (List.pairwise_map.mpr (hs.imp fun h => h)) (sortL_sorted ps)
              have := hb.perm.map (tlAt H)
              rw [e3] at this
              exact this.trans (sortL_perm ps).symm
            have := DVs.of_all hz
            have e5 : zs.map (fun v => ofTI (tlAt H v)) = (sortL ps).map ofTI := by rw [← e4, List.map_map]; rfl
            rw [e5] at this
            exact gt _ _ _ (c.allocO hn (.lst this))
    | [.dct true kvs], ha, e =>
      obtain ⟨x, rfl, h⟩ := ha.inv1
      have e : (match asTLs (kvs.map (·.1)) with
        | some nss => some (RV.own (.lst ((sortL nss).map ofTI)))
        | none => none) = some rv := e
      cases h with
      | dT h1 r1 =>
        cases q2 : asTLs (kvs.map (·.1)) with
        | none => rw [q2] at e; cases e
        | some nss =>
          rw [q2] at e
          cases e
          obtain ⟨e2, n, hn1, hlen⟩ := asTLs_eq q2
          refine .inr (.inr ⟨_, _, nss, n, rfl, .of h1, hn1, r1.keysTI e2, hlen, fun ys k p hy hp hs hn => ?_⟩)
          obtain ⟨F', c', m', r'⟩ := c.adopts k hy
          have e4 : ys.map k = sortL nss := sortedL_uniq (hp.trans (sortL_perm nss).symm) hs (sortL_sorted nss)
          have e5 : ys.map (fun v => ofTI (k v)) = (sortL nss).map ofTI := by rw [← e4, List.map_map]; rfl
          rw [e5] at r'
          exact gt _ _ _ (c'.allocO hn (.lst r'))
  · unfold srtD at e
    split at e
    · split at e
      · cases e; rfl
      · split at e <;> (cases e <;> rfl)
    · split at e <;> (cases e <;> rfl)
    · cases e
end
theorem op_srt {X : Cx} (hc : X.calm = true) : CallR X (.builtin "sorted") (fun xs H Q => rSortedI X.K xs H Q ∨ (rSortedTL X.K xs H Q ∨ rSortedDT xs H Q)) := CallR.or cr_sortedI (CallR.or cr_sortedTL (cr_sortedDT hc))
end PD
set_option Elab.async false
set_option linter.all false
set_option maxRecDepth 100000
set_option autoImplicit false
set_option maxHeartbeats 4000000
/-! PD: min of four ints; count. -/
namespace PD
open PySem PySem.Spec PyProof.Rows L2
section
variable {prog : Program} {w : World} {A : Around} {E : Value → Shared → Prop} {s : Shared}
theorem args_min4 (a b c d : Value) : argsOk "min" ⟨[a, b, c, d], []⟩ := by unfold argsOk; kernel_rfl
theorem call_min_four {a b c d : Value} {Q : Value → Shared → Prop}
    (h : wpAny (model prog w) A.in1 (pyIter (.ref s.heap.objs.size)) (fun it s₂ => ∃ I fp wr n P St bt, it = .ref I ∧ Walks prog w A.in1 I fp wr n P St ∧ St 0 s₂.heap ∧ (∀ b ∈ fp, b < s₂.heap.objs.size) ∧ 0 < n ∧ CmpOf prog w A.in1 .Lt P bt ∧
      ∀ v h' tk, P (argBest bt (n - 1)) v → (∀ b o, b ∉ wr → s₂.heap.get? b = some o → h'.get? b = some o) → Q v { s₂ with heap := h', toks := tk }) E
      { s with heap := s.heap.push { cls := .type "tuple", data := .seq #[a, b, c, d] } }) :
    wpAny (model prog w) A (call (.builtin "min") [a, b, c, d]) Q E s := by
  have hname : (toString "min" ++ toString ".loop" : String) = "min.loop" := by decide
  refine call_function_tree PySem.F.kind_min PySem.F.plain_min PySem.F.entry_min (args_min4 _ _ _ _) ?_
  show wpAny _ A.in1 (Builtin.Builtins.bindParams "min" ["key", "default"] 0 ⟨[], []⟩ >>= _) _ _ s
  refine wpAny_bind (wpAny_of_eq (show Builtin.Builtins.bindParams "min" ["key", "default"] 0 ⟨[], []⟩ = pure [none, none] from rfl) ?_)
  show wpAny _ A.in1 (newTuple [a, b, c, d] >>= _) _ _ s
  refine wpAny_bind (wpAny_newObj_type ?_)
  refine wpAny_bind (wpAny_mono h (fun it s₂ h₂ => ?_) fun _ _ e => e)
  obtain ⟨I, fp, wr, n, P, St, bt, rfl, W, hst, hfp, hn, hcmp, hQ⟩ := h₂
  refine wpAny_bind (wpAny_newObj_type ?_)
  have hSf : s₂.heap.objs.size ∉ fp := fun hm => Nat.lt_irrefl _ (hfp _ hm)
  rw [hname]
  refine wpAny_pure ⟨plainId_quiet PySem.F.plain_min_loop _, codeAny_min_loop_first W bt hcmp s₂.heap.objs.size hSf hn (W.frame _ _ _ hst fun b _ o e => Heap.get?_push_of_some _ e) (Heap.get?_push_size _ rfl) fun v h' tk hP hk => ?_⟩
  exact hQ v h' tk hP fun b o hbw e => hk b o hbw (Nat.ne_of_lt (Heap.lt_size e)) (Heap.get?_push_of_some _ e)
def min2i (a b : Int) : Int := if b < a then b else a
theorem min_four_ints {a b c d : Int} {t u x y : Tok} {Q : Value → Shared → Prop} (hh : A.handled = none)
    (h : ∀ h' tk tt, (∀ d o, s.heap.get? d = some o → h'.get? d = some o) → Q (.int (min2i (min2i (min2i a b) c) d) tt) { s with heap := h', toks := tk }) :
    wpAny (model prog w) A (call (.builtin "min") [.int a t, .int b u, .int c x, .int d y]) Q E s := by
  have hT : (s.heap.push { cls := .type "tuple", data := .seq #[.int a t, .int b u, .int c x, .int d y] }).IsTuple s.heap.objs.size (intItems #[(a, t), (b, u), (c, x), (d, y)]) := ⟨_, Heap.get?_push_size _ rfl, rfl, 0, by simp [intItems]⟩
  refine call_min_four (wpAny_pyIter_tuple hT ?_)
  have hsz : (s.heap.push { cls := .type "tuple", data := .seq #[.int a t, .int b u, .int c x, .int d y] }).objs.size = s.heap.objs.size + 1 := Heap.size_push ..
  refine ⟨_, [_, s.heap.objs.size], [_], _, _, _, _, rfl, Walks.tuple (A := A.in1) hh _ s.heap.objs.size (by rw [hsz]; exact Nat.ne_of_lt (Nat.lt_succ_self _)) (intItems #[(a, t), (b, u), (c, x), (d, y)]),
    ⟨⟨_, Heap.get?_push_size _ rfl, rfl, rfl⟩, hT.push _⟩, fun d hd => ?_, by simp [intItems], CmpOf.ints_lt (numAt #[(a, t), (b, u), (c, x), (d, y)]) (fun _ _ => intItems_at), fun v h' tk hP hk => ?_⟩
  · show d < ((s.heap.push _).push _).objs.size
    rw [Heap.size_push, hsz]
    rcases List.mem_cons.mp hd with rfl | hd
    · rw [hsz]; exact Nat.lt_succ_self _
    · rcases List.mem_cons.mp hd with rfl | hd
      · exact Nat.lt_succ_of_lt (Nat.lt_succ_self _)
      · cases hd
  · have hold : ∀ d o, s.heap.get? d = some o → h'.get? d = some o := fun d o e => by
      refine hk d o (fun hm => ?_) (Heap.get?_push_of_some _ (Heap.get?_push_of_some _ e))
      rcases List.mem_cons.mp hm with e1 | hm
      · have := Heap.lt_size e; rw [e1, hsz] at this; exact Nat.lt_irrefl _ (Nat.lt_of_succ_lt this)
      · cases hm
    have hP' : (intItems #[(a, t), (b, u), (c, x), (d, y)])[argBest (fun i j => decide (numAt #[(a, t), (b, u), (c, x), (d, y)] i < numAt #[(a, t), (b, u), (c, x), (d, y)] j)) 3]? = some v := by
      have hsz2 : (intItems #[(a, t), (b, u), (c, x), (d, y)]).size - 1 = 3 := by simp [intItems]
      rw [← hsz2]; exact hP
    have hv : ∃ tt, v = Value.int (min2i (min2i (min2i a b) c) d) tt := by
      unfold min2i
      by_cases hba : b < a
      · rw [if_pos hba]
        by_cases hc : c < b
        · rw [if_pos hc]
          by_cases hd : d < c
          · rw [if_pos hd]
            simp [argBest, numAt, hba, hc, hd, intItems] at hP'
            exact ⟨_, hP'.symm⟩
          · rw [if_neg hd]
            simp [argBest, numAt, hba, hc, hd, intItems] at hP'
            exact ⟨_, hP'.symm⟩
        · rw [if_neg hc]
          by_cases hd : d < b
          · rw [if_pos hd]
            simp [argBest, numAt, hba, hc, hd, intItems] at hP'
            exact ⟨_, hP'.symm⟩
          · rw [if_neg hd]
            simp [argBest, numAt, hba, hc, hd, intItems] at hP'
            exact ⟨_, hP'.symm⟩
      · rw [if_neg hba]
        by_cases hc : c < a
        · rw [if_pos hc]
          by_cases hd : d < c
          · rw [if_pos hd]
            simp [argBest, numAt, hba, hc, hd, intItems] at hP'
            exact ⟨_, hP'.symm⟩
          · rw [if_neg hd]
            simp [argBest, numAt, hba, hc, hd, intItems] at hP'
            exact ⟨_, hP'.symm⟩
        · rw [if_neg hc]
          by_cases hd : d < a
          · rw [if_pos hd]
            simp [argBest, numAt, hba, hc, hd, intItems] at hP'
            exact ⟨_, hP'.symm⟩
          · rw [if_neg hd]
            simp [argBest, numAt, hba, hc, hd, intItems] at hP'
            exact ⟨_, hP'.symm⟩
    obtain ⟨tt, hv⟩ := hv
    rw [hv]; exact h h' tk tt hold
end
section
variable {X : Cx}
def rMin4 : List V → Hp → VK → Prop := fun xs H Q => ∃ i j k l, xs = [.int i, .int j, .int k, .int l] ∧ Q (.int (min2i (min2i (min2i i j) k) l)) H
theorem call_min4 (hc : X.calm = true) : CallR X (.builtin "min") rMin4 := by
  intro pins s σ H xs us Q I r h
  obtain ⟨i, j, k, l, rfl, q⟩ := h
  cases r with
  | cons r1 r =>
    cases r with
    | cons r2 r =>
      cases r with
      | cons r3 r =>
        cases r with
        | cons r4 r =>
          cases r
          obtain ⟨t1, rfl⟩ := r1
          obtain ⟨t2, rfl⟩ := r2
          obtain ⟨t3, rfl⟩ := r3
          obtain ⟨t4, rfl⟩ := r4
          refine min_four_ints (I.ok.hd hc) fun h' tk tt hk => ?_
          exact ⟨.int _, H, I.kept (t' := tk) hk, ⟨tt, rfl⟩, q⟩
end
def min4D : List D → Option RV
  | [.int i, .int j, .int k, .int l] => some (.fz (.int (min2i (min2i (min2i i j) k) l)))
  | _ => none
section
variable {K : PySem.W.Frag} {mg : Str → Option Value}
theorem ok_min4 : OKn K mg rMin4 min4D := by
  refine ⟨fun B F ρ σ τ H xs as rv Q c ha e gt => ?_, fun as rv e => ?_⟩
  · match as, xs, ha, e with
    | [.int i, .int j, .int k, .int l], _, .cons h1 (.cons h2 (.cons h3 (.cons h4 .nil))), e =>
      cases e
      cases h1; cases h2; cases h3; cases h4
      exact ⟨i, j, k, l, rfl, gt _ _ _ (c.push .int)⟩
  · unfold min4D at e
    split at e <;> (cases e <;> rfl)
end
end PD
set_option Elab.async false
set_option linter.all false
set_option maxRecDepth 100000
set_option autoImplicit false
set_option maxHeartbeats 4000000
/-! PD: one reading or another. -/
namespace PD
open PySem PySem.Spec PyProof.Rows L2
section
variable {α : Type}
def dAlt (a b : List SV → R α) : List SV → R α := fun ρ => match a ρ with
  | .no => b ρ
  | r => r
def sAlt (a b : DS) : DS := fun ρ => match a ρ with
  | .no => b ρ
  | r => r
end
section
variable {X : Cx} {P : List Nat} {W : WX} {K : PySem.W.Frag} {mg : Str → Option Value}
theorem d_alt {e : Expr} {a b : DE} (h : PD X P W e a) (h' : PD X P W e b) : PD X P W e (dAlt a b) := by
  obtain ⟨t, h1, h2⟩ := h
  obtain ⟨u, r1, r2⟩ := h'
  refine ⟨fun σ H Q => t σ H Q ∨ u σ H Q, ⟨fun pins s σ H Q I h => h.elim (h1.run pins s σ H Q I) (r1.run pins s σ H Q I)⟩, ⟨fun B F ρ σ τ H Q pr c hp => ?_⟩⟩
  unfold dAlt at hp
  cases e1 : a ρ with
  | no => rw [e1] at hp; exact .inr (r2.run B F ρ σ τ H Q pr c hp)
  | ok x ρ1 => rw [e1] at hp; exact .inl (h2.run B F ρ σ τ H Q pr c (by rw [e1]; exact hp))
  | ex cc fs ρ1 => rw [e1] at hp; exact .inl (h2.run B F ρ σ τ H Q pr c (by rw [e1]; exact hp))
theorem d_altT {e : Expr} {a b : DT} (h : PDT X P W e a) (h' : PDT X P W e b) : PDT X P W e (dAlt a b) := by
  obtain ⟨t, h1, h2⟩ := h
  obtain ⟨u, r1, r2⟩ := h'
  refine ⟨fun σ H Q => t σ H Q ∨ u σ H Q, ⟨fun pins s σ H Q I h => h.elim (h1.run pins s σ H Q I) (r1.run pins s σ H Q I)⟩, ⟨fun B F ρ σ τ H Q pr c hp => ?_⟩⟩
  unfold dAlt at hp
  cases e1 : a ρ with
  | no => rw [e1] at hp; exact .inr (r2.run B F ρ σ τ H Q pr c hp)
  | ok x ρ1 => rw [e1] at hp; exact .inl (h2.run B F ρ σ τ H Q pr c (by rw [e1]; exact hp))
  | ex cc fs ρ1 => rw [e1] at hp; exact .inl (h2.run B F ρ σ τ H Q pr c (by rw [e1]; exact hp))
theorem d_altI {tg e : Expr} {a b : DI} (h : PDI X P W tg e a) (h' : PDI X P W tg e b) : PDI X P W tg e (dAlt a b) := by
  obtain ⟨t, h1, h2⟩ := h
  obtain ⟨u, r1, r2⟩ := h'
  refine ⟨fun σ H Q => t σ H Q ∨ u σ H Q, ⟨fun pins s σ H Q I h => h.elim (h1.run pins s σ H Q I) (r1.run pins s σ H Q I)⟩, ⟨fun B F ρ σ τ H Q pr c hp => ?_⟩⟩
  unfold dAlt at hp
  cases e1 : a ρ with
  | no => rw [e1] at hp; exact .inr (r2.run B F ρ σ τ H Q pr c hp)
  | ok x ρ1 => rw [e1] at hp; exact .inl (h2.run B F ρ σ τ H Q pr c (by rw [e1]; exact hp))
  | ex cc fs ρ1 => rw [e1] at hp; exact .inl (h2.run B F ρ σ τ H Q pr c (by rw [e1]; exact hp))
theorem d_altS {st : Stmt} {a b : DS} (h : PDS X P W st a) (h' : PDS X P W st b) : PDS X P W st (sAlt a b) := by
  obtain ⟨t, h1, h2⟩ := h
  obtain ⟨u, r1, r2⟩ := h'
  refine ⟨fun D σ H => t D σ H ∨ u D σ H, ⟨fun pins s σ H D I h => h.elim (h1.run pins s σ H D I) (r1.run pins s σ H D I)⟩, ⟨fun B F ρ σ τ H D pr c hp => ?_⟩⟩
  unfold sAlt at hp
  cases e1 : a ρ with
  | no => rw [e1] at hp; exact .inr (r2.run B F ρ σ τ H D pr c hp)
  | _ => rw [e1] at hp; exact .inl (h2.run B F ρ σ τ H D pr c (by rw [e1]; exact hp))
end
/-! ### o.m(e, ..) of a built-in type, o not changed -/
def chkQ (T : String) : D → Bool
  | .str _ => decide (T = "str")
  | .lst _ => decide (T = "list")
  | .lk _ => decide (T = "list")
  | .dct _ _ => decide (T = "dict")
  | _ => false
structure OKq (K : PySem.W.Frag) (mg : Str → Option Value) (r : V → List V → Hp → VK → Prop) (f : D → List D → Option RV) : Prop where
  run : ∀ (B : Bs) (F : Hp) (ρ : List SV) (σ : L2.St) (τ : List (SV × V)) (H : Hp) (x : V) (xs : List V) (a : D) (as : List D) (rv : RV) (Q : VK), Cfg K mg B F ρ σ τ H → TV K mg F H a x → TVs K mg F H as xs → f a as = some rv → Got K mg B ρ σ τ rv Q → r x xs H Q
  nb : ∀ a as rv, f a as = some rv → isBor rv = false
def dMeth (T : String) (f : D → List D → Option RV) (o : DE) (a : DA) : DE := fun ρ => (o ρ).bind fun x ρ1 => match rd ρ1 x with
  | some d => if chkQ T d then (a ρ1).bind fun xs ρ2 => match rd ρ2 x, rdL ρ2 xs with
      | some d, some ds => match f d ds with
        | some rv => .ok rv ρ2
        | none => .no
      | _, _ => .no
    else .no
  | none => .no
def dMeth0 (T : String) (f : D → List D → Option RV) (o : DE) : DE := fun ρ => (o ρ).bind fun x ρ1 => match rd ρ1 x with
  | some d => if chkQ T d then match f d [] with
      | some rv => .ok rv ρ1
      | none => .no
    else .no
  | none => .no
section
variable {K : PySem.W.Frag} {mg : Str → Option Value} {P : List Nat} {W : WX}
theorem tv_ty {F H : Hp} {a : D} {x : V} {T : String} (h : TV K mg F H a x) (e : chkQ T a = true) : tyV K T x H := by
  cases h with
  | str => exact of_decide_eq_true (p := T = "str") e
  | lst h1 r => exact .inl ⟨of_decide_eq_true e, _, .of h1⟩
  | lk h1 r => exact .inl ⟨of_decide_eq_true e, _, h1⟩
  | dK h1 r => exact .inr (.inr (.inl ⟨of_decide_eq_true e, .inl ⟨_, h1⟩⟩))
  | dT h1 r => exact .inr (.inr (.inl ⟨of_decide_eq_true e, .inr ⟨_, h1⟩⟩))
  | _ => cases e
theorem se_meth {T : String} {r : V → List V → Hp → VK → Prop} {f : D → List D → Option RV} {to : TE} {t : TA} {o : DE} {a : DA} (ok : OKq K mg r f) (ho : SE K mg P W to o) (ha : SA K mg P W t a) : SE K mg P W (tBM K T r to t) (dMeth T f o a) := by
  refine ⟨fun B F ρ σ τ H Q pr c hp => ?_⟩
  refine ho.bind pr c hp (fun _ _ _ h => h) id fun x ρ1 F1 H1 vx c1 b1 hp1 => ?_
  cases e0 : rd ρ1 x with
  | none => rw [e0] at hp1; exact hp1.elim
  | some d0 =>
    rw [e0] at hp1
    simp only at hp1
    by_cases hc : chkQ T d0 = true
    · rw [if_pos hc] at hp1
      refine ⟨tv_ty (c1.read List.mem_cons_self b1 e0) hc, ?_⟩
      refine ha.bind pr c1 (Post := PostE K mg W B σ τ Q) hp1 (fun cc fs ρ' h F' H' cls dd c' ev => h F' H' cls dd c'.pop ev) id fun xs ρ2 F2 H2 vs c2 b2 hp2 => ?_
      cases e1 : rd ρ2 x with
      | none => rw [e1] at hp2; exact hp2.elim
      | some d =>
        cases e2 : rdL ρ2 xs with
        | none => rw [e1, e2] at hp2; exact hp2.elim
        | some ds =>
          rw [e1, e2] at hp2
          simp only at hp2
          cases e3 : f d ds with
          | none => rw [e3] at hp2; exact hp2.elim
          | some rv =>
            rw [e3] at hp2
            have hm : (x.stk, vx) ∈ stkL xs vs ((x.stk, vx) :: τ) := (sub_stkL xs vs _).subset List.mem_cons_self
            exact ok.run B F2 ρ2 σ τ H2 vx vs d ds rv Q c2.popL.pop (c2.read hm b1 e1) (c2.readL (fun _ h => h) b2 e2) e3 fun F' H' v c' => hp2 F' H' v c' (rvb_nb (ok.nb _ _ _ e3) v)
    · rw [if_neg hc] at hp1; exact hp1.elim
theorem se_meth0 {T : String} {r : V → List V → Hp → VK → Prop} {f : D → List D → Option RV} {to : TE} {o : DE} (ok : OKq K mg r f) (ho : SE K mg P W to o) : SE K mg P W (tBM0 K T r to) (dMeth0 T f o) := by
  refine ⟨fun B F ρ σ τ H Q pr c hp => ?_⟩
  refine ho.bind pr c hp (fun _ _ _ h => h) id fun x ρ1 F1 H1 vx c1 b1 hp1 => ?_
  cases e0 : rd ρ1 x with
  | none => rw [e0] at hp1; exact hp1.elim
  | some d0 =>
    rw [e0] at hp1
    simp only at hp1
    by_cases hc : chkQ T d0 = true
    · rw [if_pos hc] at hp1
      have tv := c1.read List.mem_cons_self b1 e0
      refine ⟨tv_ty tv hc, ?_⟩
      cases e3 : f d0 [] with
      | none => rw [e3] at hp1; exact hp1.elim
      | some rv =>
        rw [e3] at hp1
        exact ok.run B F1 ρ1 σ τ H1 vx [] d0 [] rv Q c1.pop tv .nil e3 fun F' H' v c' => hp1 F' H' v c' (rvb_nb (ok.nb _ _ _ e3) v)
    · rw [if_neg hc] at hp1; exact hp1.elim
end
section
variable {X : Cx} {P : List Nat} {W : WX} {pos apos cpos : Pos} {o e : Expr} {es : List Expr} {m : Str} {od : DE} {a : DA}
theorem d_meth {T : String} {id : String} {r : V → List V → Hp → VK → Prop} {f : D → List D → Option RV} (ok : OKq X.K X.mg r f) (pa : PlainAttrs T) (slot : Slot T m id) (hty : typeOf (.builtin id) = pure (.type "method_descriptor")) (hm : MtR X id r)
    (ho : PD X P W o od) (ha : PDA X P W (e :: es) a) (hb : attributeBase o m X.env (eval o X.env) = eval o X.env := by rfl)
    (h2 : (((backTo cpos (starEach (e :: es) X.env)).all fun x => !x.1) && ((backToKw cpos (keywordEach [] X.env)).all fun x => x.1.isSome) && decide ((e :: es).length + ([] : List Keyword).length + (if ([] : List Keyword).isEmpty then 0 else 1) < 30)) = true := by rfl)
    (h3 : (apos.endLine == cpos.line) = true := by rfl) (he : starEach (e :: es) X.env = (false, eval e X.env) :: starEach es X.env := by rfl) (hpl : (backTo cpos (starEach es X.env)).any (·.1) = false := by rfl) :
    PD X P W (.Call (.Attribute o m apos) (e :: es) [] cpos) (dMeth T f od a) := by
  obtain ⟨t, p1, p2⟩ := ho
  obtain ⟨u, q1, q2⟩ := ha
  exact ⟨_, pe_bm pa slot hty hm p1 q1 hb h2 h3 he hpl, se_meth ok p2 q2⟩
theorem d_meth0 {T : String} {id : String} {r : V → List V → Hp → VK → Prop} {f : D → List D → Option RV} (ok : OKq X.K X.mg r f) (pa : PlainAttrs T) (slot : Slot T m id) (hty : typeOf (.builtin id) = pure (.type "method_descriptor")) (hm : MtR X id r)
    (ho : PD X P W o od) (hb : attributeBase o m X.env (eval o X.env) = eval o X.env := by rfl)
    (h3 : (apos.endLine == cpos.line) = true := by rfl) :
    PD X P W (.Call (.Attribute o m apos) [] [] cpos) (dMeth0 T f od) := by
  obtain ⟨t, p1, p2⟩ := ho
  exact ⟨_, pe_bm0 pa slot hty hm p1 hb h3, se_meth0 ok p2⟩
end
/-! ### xs.count(y) of a list -/
section
variable {X : Cx}
def rCntD (K : PySem.W.Frag) : V → List V → Hp → VK → Prop := fun x xs H Q => ∃ d ds v, xs = [v] ∧ Dp K H v d ∧ Dp K H x (.list ds) ∧ SeqAt.shaped d = true ∧ SeqAt.shaped (.list ds) = true ∧ Q (.int (ds.countP fun z => PyData.eqv z d : Nat)) H
theorem mt_cntD (hu : X.A.units + 65 < cLine) : MtR X "list.count" (rCntD X.K) := by
  intro pins s σ H x xs v us Q I rx rxs h
  obtain ⟨d, ds, y, rfl, hd, he, sd, se, q⟩ := h
  obtain ⟨u, rfl, ru⟩ := rxs.one
  obtain ⟨as, r1⟩ := Dp.reads I d y u hd ru
  obtain ⟨bs, r2⟩ := Dp.reads I (.list ds) x v he rx
  have c1 := SeqAt.canLay_of_shaped se
  cases r2 with
  | @list a o vs n xs as' h1 h2 h3 h4 =>
    obtain ⟨cls, dd, data, sl⟩ := o
    simp only at h2 h3
    subst h2 h3
    refine call_meets PySem.F.slot_list_count ⟨_, h1, rfl⟩ PySem.F.entry_list_count (PySem.F.args_list_count_2 _ _)
      (SeqAt.list_countAt _ _ _ dd sl u (fun y => PyData.eqv (SeqAt.readOf s.heap y) d)) ⟨h1, SeqAt.items_eqAt h4 r1 c1 (SeqAt.canLay_of_shaped sd) (room_in_shaped sd hu), ?_⟩
    refine ⟨.int _, H, I.tok _, ⟨s.toks, ?_⟩, q⟩
    have e1 := SeqAt.readsAll_map _ _ _ c1 h4
    show Value.int _ s.toks = Value.int ((List.countP (fun z => PyData.eqv z d) _ : Nat) : Int) s.toks
    rw [← e1, List.countP_map]
    rfl
end
def cntD : D → List D → Option RV
  | .lst xs, [d] => match toPy d, toPys xs with
    | some p, some ps => if SeqAt.shaped p && SeqAt.shaped (.list ps) then some (.fz (.int (ps.countP fun z => PyData.eqv z p : Nat))) else none
    | _, _ => none
  | _, _ => none
section
variable {K : PySem.W.Frag} {mg : Str → Option Value}
theorem ok_cnt : OKq K mg (rCntD K) cntD := by
  refine ⟨fun B F ρ σ τ H x xs a as rv Q c ha hs e gt => ?_, fun a as rv e => ?_⟩
  · match a, as, hs, e, ha with
    | .lst ys, [d], hs, e, ha =>
      obtain ⟨v, rfl, hv⟩ := hs.inv1
      replace e : (match toPy d, toPys ys with
        | some p, some ps => if SeqAt.shaped p && SeqAt.shaped (.list ps) then some (RV.fz (.int (ps.countP fun z => PyData.eqv z p : Nat))) else none
        | _, _ => none) = some rv := e
      cases e1 : toPy d with
      | none => rw [e1] at e; cases e
      | some p =>
        cases e2 : toPys ys with
        | none => rw [e1, e2] at e; cases e
        | some ps =>
          rw [e1, e2] at e
          obtain ⟨hl, e⟩ := if_some e
          rw [Bool.and_eq_true] at hl
          cases e
          cases ha with
          | lst h1 r1 => exact ⟨p, ps, v, rfl, (hv.dv c.sub).dp e1, .lst (.of h1) ((r1.mono c.sub).dp e2), hl.1, hl.2, gt _ _ _ (c.push .int)⟩
  · unfold cntD at e
    split at e
    · split at e
      · obtain ⟨_, e⟩ := if_some e
        cases e
        rfl
      · cases e
    · cases e
end
end PD
set_option Elab.async false
set_option linter.all false
set_option maxRecDepth 100000
set_option autoImplicit false
set_option maxHeartbeats 4000000
/-! PD: dicts whose keys are tuples: update, comprehensions. -/
namespace PD
open PySem PySem.Spec PyProof.Rows L2

def mergeK (ks ms : List (List Key × V)) : List (List Key × V) := ms.foldl (fun acc p => putK acc p.1 p.2) ks
theorem KT_putAll {H : Hp} : ∀ {ms : List (List Key × V)} {ys : List (List Key × Addr × Value)} {ks : List (List Key × V)} {xs : List (List Key × Addr × Value)}, KT H ks xs → KT H ms ys → KT H (mergeK ks ms) (storedAllH xs ys)
  | _, _, _, _, r, .nil => r
  | _, _, ks, xs, r, .cons h t => by
    rename_i p q ps qs
    obtain ⟨h1, h2, h3⟩ := h
    have r2 := KT.put r p.1 (b := q.2.1) (y := p.2) (u := q.2.2) h2 h3
    have := KT_putAll r2 t
    show KT H (mergeK (putK ks p.1 p.2) ps) (storedAllH (storedH xs q.1 q.2.1 q.2.2) qs)
    rw [← h1]
    exact this
theorem mergeK_length : ∀ (ms ks : List (List Key × V)), (mergeK ks ms).length ≤ ks.length + ms.length
  | [], ks => Nat.le_refl _
  | p :: ms, ks => by
    have := mergeK_length ms (putK ks p.1 p.2)
    have h2 := length_putK ks p.1 p.2
    show (mergeK (putK ks p.1 p.2) ms).length ≤ _
    rw [List.length_cons]
    omega
section
variable {X : Cx}
def rUpdT (w : World) : V → List V → Hp → VK → Prop := fun x vs H Q => ∃ (a b : Addr) (ks ms : List (List Key × V)), x = .ref a ∧ vs = [.ref b] ∧ a ≠ b ∧ H a = some (.dT ks) ∧ Rd H b (.dT ms) ∧ ks.length + ms.length ≤ sizeLine ∧
  (ks ≠ [] ∨ (ms.map fun p => reduceHash (Builtin.Tuple.tupleHashOf (p.1.map (keyH w)))).Nodup) ∧ Q .non (upd H a (.dT (mergeK ks ms)))
theorem keysH_eq {w : World} {H : Hp} {ms : List (List Key × V)} {ys : List (List Key × Addr × Value)} (f : List Key → Int) (r : KT H ms ys) : ys.map (fun y => f y.1) = ms.map fun p => f p.1 := by
  induction r with
  | nil => rfl
  | cons h t ih => rw [List.map_cons, List.map_cons, ih, h.1]
theorem mt_updT (hu : X.A.units + 1 < cLine) : MtR X "dict.update" (rUpdT X.w) := by
  intro pins s σ H x vs v us Q I rx rxs h
  obtain ⟨a, b, ks, ms, rfl, rfl, hab, ha, hb, hz, hap, q⟩ := h
  cases rx
  obtain ⟨u, rfl, ru⟩ := rxs.one
  cases ru
  obtain ⟨z1, l1, xs, r1, d1⟩ := dt_of I.hok ha
  obtain ⟨z2, l2, ys, r2, d2⟩ := dt_rd I.hok hb
  have e1 : ks.length = xs.length := Paired.length r1
  have e2 : ms.length = ys.length := Paired.length r2
  refine PySem.call_update_dictH (knd := tupleKind (mixKind X.prog X.w)) (tupleKind_room_in1 hu) hab l2 d1 d2 ?_ (by omega) fun h' d1' d2' hs => ?_
  · rcases hap with h | h
    · refine .inl fun e => h ?_
      subst e
      exact List.eq_nil_of_length_eq_zero (by rw [e1]; rfl)
    · refine .inr ⟨fun x hx => ?_, ?_⟩
      · obtain ⟨_, _, _, _, _, _, _, his, _⟩ := id d2
        obtain ⟨o, items, n, h1, h2, _⟩ := (show IsTupleKey (mixKind X.prog X.w) s.heap x.1 x.2.1 from his x hx)
        exact ⟨o, h1, h2⟩
      · have := keysH_eq (w := X.w) (fun k => tupleKeyHash (mixKind X.prog X.w) k) r2
        show (ys.map fun x => tupleKeyHash (mixKind X.prog X.w) x.1).Nodup
        rw [this]
        exact h
  · obtain ⟨q', es, ep, hq, h2, h3, h4, _, h5⟩ := d1'
    have I1 : Inv X pins σ (upd H a (.dT (mergeK ks ms))) { s with heap := h' } := by
      refine d_write I (by rw [ha]; exact True.intro) hs ⟨q', hq⟩ ⟨?_, l1, _, (KT_putAll r1 r2).keeps fun c ys ec => ?_, q', es, ep, hq, h2, h3, h4, h5⟩
      · have := mergeK_length ms ks
        omega
      · rw [upd_ne (ne_of ec ha (fun z => nomatch z))]
        exact ec
    exact ⟨.non, _, I1, rfl, q⟩
end
def mergeD (kvs more : List (D × D)) : List (D × D) := more.foldl (fun acc p => match keyD p.1 with
  | some (.inr k) => putD acc (.inr k) p.1 p.2
  | _ => acc) kvs
/-- the hashes of tuples of ints -/
def hashTI (ns : List Int) : Int := reduceHash (Builtin.Tuple.tupleHashOf (ns.map hashInt))
def hashesD : List (D × D) → Option (List Int)
  | [] => some []
  | p :: r => match asTI p.1, hashesD r with
    | some ns, some hs => some (hashTI ns :: hs)
    | _, _ => none
def updD : D → List D → Option (D × RV)
  | .dct true kvs, [.dct true more] => if kvs.length + more.length ≤ 1000000 then
      if !kvs.isEmpty then some (.dct true (mergeD kvs more), .fz .non) else match hashesD more with
        | some hs => if hs.Nodup then some (.dct true (mergeD kvs more), .fz .non) else none
        | none => none
    else none
  | _, _ => none
section
variable {K : PySem.W.Frag} {mg : Str → Option Value} {F H : Hp}
theorem DTs.merge : ∀ {more kvs : List (D × D)} {ms ks : List (List Key × V)}, DTs K mg F kvs ks → DTs K mg F more ms → DTs K mg F (mergeD kvs more) (mergeK ks ms)
  | _, _, _, _, r, .nil => r
  | _, kvs, _, ks, r, .cons (k := k) (d := d) (v := v) (ds := more) (vs := ms) h t => by
    have r2 := DTs.put r k h
    have := DTs.merge r2 t
    show DTs K mg F (mergeD (match keyD (tkD k) with | some (.inr k') => putD kvs (.inr k') (tkD k) d | _ => kvs) more) (mergeK (putK ks k v) ms)
    rw [keyD_tkD]
    exact this
theorem hashesD_eq {w : World} : ∀ {more : List (D × D)} {ms : List (List Key × V)} {hs : List Int}, DTs K mg F more ms → hashesD more = some hs → (ms.map fun p => reduceHash (Builtin.Tuple.tupleHashOf (p.1.map (keyH w)))) = hs
  | _, _, hs, .nil, e => by cases e; rfl
  | _, _, hs, .cons (k := k) (d := d) (v := v) (ds := more) (vs := ms) h t, e => by
    unfold hashesD at e
    cases e1 : asTI (tkD k) with
    | none => simp only [e1] at e; cases e
    | some ns =>
      cases e2 : hashesD more with
      | none => simp only [e1, e2] at e; cases e
      | some hs' =>
        simp only [e1, e2] at e
        cases e
        rw [List.map_cons, hashesD_eq t e2]
        have e3 : k = ns.map Sum.inl := by
          have := asTI_eq e1
          have h1 := congrArg keyD this
          rw [keyD_tkD] at h1
          have h2 : ofTI ns = tkD (ns.map Sum.inl) := by
            show PD.D.tup _ = PD.D.tup _
            rw [List.map_map]
            rfl
          rw [h2, keyD_tkD] at h1
          injection h1 with h1
          injection h1 with h1
        rw [e3, List.map_map]
        rfl
theorem ite_some {p : Prop} [Decidable p] {α : Type} {a : Option α} {b : α} (e : (if p then a else none) = some b) : p ∧ a = some b := by
  by_cases h : p
  · rw [if_pos h] at e; exact ⟨h, e⟩
  · rw [if_neg h] at e; cases e
theorem ok_upd {w : World} : OKm K mg (rUpdT w) updD := by
  refine ⟨fun B F ρ σ τ H p i d d' ds vs rv Q c e1 e2 hd e gt => ?_, fun d ds d' rv e => ?_⟩
  · obtain ⟨q, ho, e3, n, hh, r⟩ := c.own_slot e1
    rw [e2] at e3
    cases e3
    cases r with
    | @dT kvs ks r1 =>
      match ds, hd, e with
      | [.dct true more], hd, e =>
        obtain ⟨v, rfl, hv⟩ := hd.inv1
        cases hv with
        | @dT b _ ms hb r2 =>
          have ne : p ≠ b := fun z => by rw [z, hb] at n; cases n
          have hb' := c.sub _ _ hb
          have l1 := r1.length
          have l2 := r2.length
          replace e : (if kvs.length + more.length ≤ 1000000 then
            if !kvs.isEmpty then some (PD.D.dct true (mergeD kvs more), RV.fz .non) else match hashesD more with
              | some hs => if hs.Nodup then some (PD.D.dct true (mergeD kvs more), RV.fz .non) else none
              | none => none
            else none) = some (d', rv) := e
          obtain ⟨hz, e⟩ := ite_some e
          have fin : d' = .dct true (mergeD kvs more) ∧ rv = .fz .non ∧ (ks ≠ [] ∨ (ms.map fun p => reduceHash (Builtin.Tuple.tupleHashOf (p.1.map (keyH w)))).Nodup) := by
            by_cases hn : (!kvs.isEmpty) = true
            · rw [if_pos hn] at e
              cases e
              refine ⟨rfl, rfl, .inl fun z => ?_⟩
              subst z
              have : kvs = [] := List.eq_nil_of_length_eq_zero (by rw [l1]; rfl)
              subst this
              cases hn
            · rw [if_neg hn] at e
              cases eh : hashesD more with
              | none => rw [eh] at e; cases e
              | some hs =>
                rw [eh] at e
                obtain ⟨hnd, e⟩ := ite_some e
                cases e
                refine ⟨rfl, rfl, .inr ?_⟩
                rw [hashesD_eq r2 eh]
                exact hnd
          obtain ⟨rfl, rfl, hap⟩ := fin
          exact ⟨p, b, ks, ms, rfl, rfl, ne, hh, .of hb', by rw [← l1, ← l2]; exact line_of hz, hap, gt _ _ _ ((c.mutS e1 e2 (.dT (r1.merge r2))).push .non)⟩
    | lst r1 => cases ds with
      | nil => cases e
      | cons _ t => cases e
    | dK r1 => cases ds with
      | nil => cases e
      | cons _ t => cases e
    | ins _ r1 => cases ds with
      | nil => cases e
      | cons _ t => cases e
  · unfold updD at e
    split at e
    · obtain ⟨_, e⟩ := ite_some e
      split at e
      · cases e; rfl
      · split at e
        · obtain ⟨_, e⟩ := ite_some e
          cases e; rfl
        · cases e
    · cases e
end
section
variable {X : Cx} {P : List Nat} {W : WX} {pos apos cpos : Pos} {o e : Expr} {od : DE} {a : DA}
theorem d_update (hu : X.A.units + 1 < cLine) (ho : PD X P W o od) (ha : PDA X P W [e] a) (hb : attributeBase o "update" X.env (eval o X.env) = eval o X.env := by rfl)
    (h2 : (((backTo cpos (starEach [e] X.env)).all fun x => !x.1) && ((backToKw cpos (keywordEach [] X.env)).all fun x => x.1.isSome) && decide ([e].length + ([] : List Keyword).length + (if ([] : List Keyword).isEmpty then 0 else 1) < 30)) = true := by rfl)
    (h3 : (apos.endLine == cpos.line) = true := by rfl) (he : starEach [e] X.env = (false, eval e X.env) :: starEach [] X.env := by rfl) (hpl : (backTo cpos (starEach [] X.env)).any (·.1) = false := by rfl) :
    PD X P W (.Call (.Attribute o "update" apos) [e] [] cpos) (dMut "dict" updD od a) := d_mut (ok_upd (w := X.w)) PySem.F.plainAttrs_dict PySem.F.slot_dict_update PySem.F.type_dict_update (mt_updT hu) ho ha hb h2 h3 he hpl
end
end PD
set_option Elab.async false
set_option linter.all false
set_option maxRecDepth 100000
set_option autoImplicit false
set_option maxHeartbeats 4000000
/-! PD: dict comprehensions. -/
namespace PD
open PySem PySem.Spec PyProof.Rows L2
section
variable {X : Cx}
/-- what a new dict is -/
structure NewD (X : Cx) (u : HO) : Prop where
  made : ∀ {H : Hp} (h : Heap), sysModules < h.objs.size → ObjOk X.prog X.w H (h.push { cls := .type "dict", data := .dict #[] }) h.objs.size u
theorem newK : NewD X (.dK []) := ⟨fun h hb => dk_empty h hb⟩
theorem newT : NewD X (.dT []) := ⟨fun h hb => dt_empty h hb⟩
theorem d_dictSetP {pins : List (Addr × Obj)} {σ : L2.St} {H H' : Hp} {s : Shared} {E : Value → Shared → Prop} {D : Addr} {y v : V} {u r : Value} {Q : Unit → Shared → Prop} (hu : X.A.units + 1 < cLine) (I : Inv X pins σ H s) (g : DPut H D y v H') (ry : RelV y u) (rv : RelV v r)
    (h : ∀ s', Inv X pins σ H' s' → Q () s') : wpAny (model X.prog X.w) X.A (dictSet D u r) Q E s := by
  rcases g with ⟨kvs, k, e, ey, l, eH⟩ | ⟨kvs, k, b, e, ey, eb, l, eH⟩
  · subst ey eH
    obtain ⟨z, hd, vs, rel, dd⟩ := dk_of I.hok e
    have hz : vs.length ≤ sizeLine := by rw [← rel.length]; exact z
    have hl : (putK kvs k v).length ≤ sizeLine := by have := length_putK kvs k v; omega
    refine wpAny_dictSet_pairs (hsz := hz) (kV_is ry) dd fun h' dd' hs => h _ ?_
    exact d_write I (by rw [e]; exact True.intro) hs (let ⟨q, _, _, hq, _⟩ := dd'; ⟨q, hq⟩) (dk_new hl hd (rel.put k rv) dd')
  · subst ey eH
    cases (show u = Value.ref b from ry)
    obtain ⟨z, hd, xs, rel, dd⟩ := dt_of I.hok e
    have hz : xs.length ≤ sizeLine := by rw [← Paired.length rel]; exact z
    have hl : (putK kvs k v).length ≤ sizeLine := by have := length_putK kvs k v; omega
    refine wpAny_dictSet_heap (hsz := hz) (knd := tupleKind (mixKind X.prog X.w)) (show X.A.units < cLine by omega) (key_of I.hok eb) dd fun h' dd' hs => h _ ?_
    obtain ⟨q, es, ep, hq, h2, h3, h4, _, h5⟩ := dd'
    refine d_write I (by rw [e]; exact True.intro) hs ⟨q, hq⟩ ⟨hl, hd, _, (rel.put k eb rv).keeps fun c ys ec => ?_, q, es, ep, hq, h2, h3, h4, h5⟩
    rw [upd_ne (ne_of ec e (fun z => nomatch z))]
    exact ec
/-- a dict comprehension, the new dict of either kind: its place is any, u what a new one is -/
def tDcP (u : HO) (wi : TI) (g : TG) (tt : TT) (tk tv : TE) (vs : List Nat) : TE := fun σ H Q => wi σ H fun J H1 => ∀ D, H1 D = none → ∃ W : Nat → Nat → Hp → Prop, (∃ m, W 0 m (upd H1 D u)) ∧ ∀ i m H, W i m H →
  (J.stop i H ∧ Q (.ref D) H) ∨ (J.go i H ∧ ∃ Nx : Hp → Prop, (∀ H', Nx H' → ∃ m', m' < m ∧ W (i + 1) m' H') ∧ ∀ x H', J.yld i H x H' → g x (wipe σ vs) H' fun σ2 H2 => wipe σ2 vs = wipe σ vs ∧ tt σ2 H2 fun b H3 =>
    if b = true then tk σ2 H3 fun y H4 => tv σ2 H4 fun z H5 => ∃ H6, DPut H5 D y z H6 ∧ Nx H6 else Nx H3)
theorem dc_coreP {u0 : HO} (hu0 : NewD X u0) (hus : X.A.units + 1 < cLine) {pins : List (Addr × Obj)} {s : Shared} {σ : L2.St} {H : Hp} {Q : VK} {kx vx tg iter : Expr} {ifs : List Expr} {scope : Scope} {own : List (Str × Nat)} {pos pos' : Pos} {wi : TI} {g : TG} {tt : TT} {tk tv : TE} {use : Option (Value → Sem Unit)} {Qf : Value → Shared → Prop}
    (hc : X.calm = true) (hN : X.N.Nodup) (I : Inv X pins σ H s) (hi : PI X tg iter wi) (ok : BlkOk X.N X.env.scope scope own)
    (hg : ∀ (s : Shared) (H : Hp) (C : Addr) (cl : List (Str × Addr)) (fp : List Addr), PG (X.blk s H scope (compEnvC scope cl C X.env) fp) tg g) (ht : ∀ (s : Shared) (H : Hp) (C : Addr) (cl : List (Str × Addr)) (fp : List Addr), PTs (X.blk s H scope (compEnvC scope cl C X.env) fp) ifs tt)
    (hk : ∀ (s : Shared) (H : Hp) (C : Addr) (cl : List (Str × Addr)) (fp : List Addr), PE (X.blk s H scope (compEnvC scope cl C X.env) fp) kx tk)
    (he : ∀ (s : Shared) (H : Hp) (C : Addr) (cl : List (Str × Addr)) (fp : List Addr), PE (X.blk s H scope (compEnvC scope cl C X.env) fp) vx tv) (hs : ∀ x, foldedSetIterable iter X.env x = pure x)
    (h : tDcP u0 wi g tt tk tv (own.map (·.2)) σ H Q)
    (hRR : ∀ D C s' m H', Inv X pins σ H' s' → Q (.ref D) H' → s'.heap.Ns C m → FpOk X pins H' C → compPost (model X.prog X.w) X.A X.xe use Qf (.ref D) C (.ok .next) s') :
    wpAny (model X.prog X.w) X.A (comprehension (.DictComp kx vx [⟨tg, iter, ifs, 0⟩] scope pos) scope X.env pos' newDict false (eval iter X.env) use) Qf X.xe s := by
  have hfree : ∀ y ∈ scope.names, y.2 = .free → ∃ c, X.env.cells.lookup y.1 = some c := fun y hy e => by
    rcases ok.free y hy e with k | k
    · exact I.ok.has _ (.inl k)
    · exact I.ok.has _ (.inr k)
  refine wpAny_comprehension_free (use := use) rfl hs (closure_ok hfree) ok.kind (fun y hy e => by rw [ok.uniq y hy, e])
    (thn (hi.run pins s σ H _ I h) fun xv s1 hx => thn hx fun itv s2 h2 => ?_)
  obtain ⟨it, fp, tn, J, H2, e, I2, T, st2, f2, q⟩ := h2
  subst e
  refine wpAny_newObj_type (newEnv_comp ?_)
  generalize hD : s2.heap.objs.size = D
  have hDn : H2 D = none := I2.hok.fresh (Nat.le_of_eq hD)
  obtain ⟨W, ⟨m0, w0⟩, turn⟩ := q D hDn
  -- the new list
  generalize hs3 : ({ s2 with heap := s2.heap.push { cls := .type "dict", data := .dict #[] } } : Shared) = s3
  have I3 : Inv X pins σ (upd H2 D u0) s3 := by
    rw [← hs3]
    refine I2.laid (t' := s2.toks) (fun b o e => Heap.get?_push_of_some _ e) (Nat.le_of_eq hD) ?_
    rw [← hD]
    exact hu0.made s2.heap I2.big
  have h3 : s3.heap = s2.heap.push { cls := .type "dict", data := .dict #[] } := by rw [← hs3]
  have sz : ∀ b ∈ fp, b < s2.heap.objs.size := fun b hb => by
    obtain ⟨o, e, _⟩ := T.obj _ _ st2 b hb
    exact Heap.lt_size e
  have f3 : ∀ b ∈ fp, FpOk X pins (upd H2 D u0) b ∧ b < s3.heap.objs.size := fun b hb => by
    have hlt := sz b hb
    refine ⟨⟨?_, (f2 b hb).2⟩, by rw [h3, Heap.size_push]; exact Nat.lt_succ_of_lt hlt⟩
    rw [upd_ne (by rw [← hD]; exact Nat.ne_of_lt hlt)]
    exact (f2 b hb).1
  have st3 : tn 0 s3.heap := T.keep _ _ _ st2 fun b _ o e => by rw [h3]; exact Heap.get?_push_of_some _ e
  have I4 := block_start I3 ok hN f3
  have pg := hg s3 (upd H2 D u0) s3.heap.objs.size (cellsFrom (s3.heap.objs.size + 1) scope.names (cloFrom X.env.cells scope.names [])) fp
  have pt := ht s3 (upd H2 D u0) s3.heap.objs.size (cellsFrom (s3.heap.objs.size + 1) scope.names (cloFrom X.env.cells scope.names [])) fp
  have pk := hk s3 (upd H2 D u0) s3.heap.objs.size (cellsFrom (s3.heap.objs.size + 1) scope.names (cloFrom X.env.cells scope.names [])) fp
  have pe := he s3 (upd H2 D u0) s3.heap.objs.size (cellsFrom (s3.heap.objs.size + 1) scope.names (cloFrom X.env.cells scope.names [])) fp
  show codeAny _ _ (.compStart (.DictComp kx vx [⟨tg, iter, ifs, 0⟩] scope pos) 0 (.ref it) (.ref D) (compEnvC scope (cellsFrom (s3.heap.objs.size + 1) scope.names (cloFrom X.env.cells scope.names [])) s3.heap.objs.size X.env)) (compPost (model X.prog X.w) X.A X.xe use Qf (.ref D) s3.heap.objs.size) { s3 with heap := pushCells (s3.heap.push { cls := .type "dict", data := .dict #[] }) scope.names }
  have nfp : ∀ b ∈ fp, (upd H2 D u0) b = none := fun b hb => (f3 b hb).1.1
  generalize hce : compEnvC scope (cellsFrom (s3.heap.objs.size + 1) scope.names (cloFrom X.env.cells scope.names [])) s3.heap.objs.size X.env = ce at I4 pg pt pk pe ⊢
  have cL : ce.locals = s3.heap.objs.size := by subst hce; rfl
  generalize hH3 : upd H2 D u0 = H3 at I3 I4 pg pt pk pe w0 nfp f3
  generalize hs4 : ({ s3 with heap := pushCells (s3.heap.push { cls := .type "dict", data := .dict #[] }) scope.names } : Shared) = s4 at I4 ⊢
  have st4 : tn 0 s4.heap := T.keep _ _ _ st3 fun b _ o e => by rw [← hs4]; exact pushCells_keeps _ _ _ _ (Heap.get?_push_of_some _ e)
  have stat : ∀ {σ' : L2.St} {H' : Hp} {s' : Shared}, Inv (X.blk s3 H3 scope ce fp) [] σ' H' s' → (∀ b ∈ fp, H' b = none) → ∀ b ∈ fp, FpOk (X.blk s3 H3 scope ce fp) [] H' b := fun {σ' H' s'} I' hn b hb =>
    ⟨hn b hb, (I'.ok.exf b hb).1, I'.ok.exfs b hb, .inl hb, fun x c e => (I'.ok.exf b hb).2 x c e, fun p hp => absurd (show p ∈ ([] : List (Addr × Obj)) ++ [] from hp) (by simp)⟩
  have loop : codeAny (model X.prog X.w) X.A (.compLoop (.DictComp kx vx [⟨tg, iter, ifs, 0⟩] scope pos) 0 (.ref it) (.ref D) ce) (compPost (model X.prog X.w) X.A X.xe use Qf (.ref D) s3.heap.objs.size) s4 := by
    refine compLoop_anyD (fun n s' => ∃ i H', Inv (X.blk s3 H3 scope ce fp) [] (wipe σ (own.map (·.2))) H' s' ∧ tn i s'.heap ∧ (∀ b ∈ fp, H' b = none) ∧ W i n H') ?_ m0 ⟨0, H3, I4, st4, nfp, w0⟩
    rintro n s5 ⟨i, H5, I5, st5, n5, w5⟩
    rcases turn i n H5 w5 with ⟨stop, qq⟩ | ⟨go, Nx, hNx, step⟩
    · have td := T.done (X.blk s3 H3 scope ce fp) rfl rfl rfl hc i [] s5 _ H5 (fun _ _ => False) I5 (stat I5 n5) st5 stop
      refine thnF td fun r s6 ⟨hr, I6⟩ => ?_
      subst hr
      -- back in the def's context
      have I7 : Inv X pins σ H5 s6 := I3.call' (ch := fp) I6.os I6.base I6.hok I6.bare fun b hb => ⟨(f3 b hb).1.2.2.2.1, (f3 b hb).1.2.1, (f3 b hb).1.2.2.2.2.1, (f3 b hb).1.2.2.2.2.2⟩
      have nC : H5 s3.heap.objs.size = none := by
        have z : H5 ce.locals = none := I6.free
        rw [cL] at z
        exact z
      obtain ⟨m, hn, _⟩ := I6.loc
      have hn : s6.heap.Ns ce.locals m := hn
      rw [cL] at hn
      exact hRR D s3.heap.objs.size s6 m H5 I7 qq hn (I3.fpOk (Nat.le_refl _) nC)
    · have ti := T.item (X.blk s3 H3 scope ce fp) rfl rfl rfl hc i [] s5 _ H5 (fun _ _ => False) I5 (stat I5 n5) st5 go
      refine thnF ti fun r s6 ⟨u, hr, h6⟩ => ?_
      subst hr
      refine thnF h6 fun _ s7 ⟨x, H7, I7, r7, y7, st7, n7⟩ => ?_
      have I7' := I7.pinned (stat I7 n7) (T.obj _ _ st7)
      refine thnF (pg.run _ s7 _ H7 x u _ I7' r7 (step x H7 y7)) fun _ s8 ⟨σ8, H8, I8, hw8, q8⟩ => ?_
      refine thnF (pt.run _ s8 σ8 H8 _ I8 q8) fun b s9 ⟨H9, I9, q9⟩ => ?_
      -- the turn's end
      have fin : ∀ {s' : Shared} {H' : Hp}, Inv (X.blk s3 H3 scope ce fp) ([] ++ pinsAt fp s7.heap) σ8 H' s' → Nx H' → ∃ m, m < n ∧ ∃ i H', Inv (X.blk s3 H3 scope ce fp) [] (wipe σ (own.map (·.2))) H' s' ∧ tn i s'.heap ∧ (∀ b ∈ fp, H' b = none) ∧ W i m H' := fun {s' H'} I' nx => by
        obtain ⟨m', hm, w'⟩ := hNx H' nx
        have pin' : ∀ b ∈ fp, ∀ o, s7.heap.get? b = some o → s'.heap.get? b = some o ∧ H' b = none := fun b hb o e =>
          let z := I'.pin (b, o) (List.mem_append_right _ (List.mem_append_right _ (mem_pinsAt hb e)))
          ⟨z.1, z.2.1⟩
        have hl : (wipe σ (own.map (·.2))).length = σ8.length := by rw [← hw8, wipe_length]
        refine ⟨m', hm, i + 1, H', (I'.unpinned (pins := [])).weak hl (fun j v e => ?_), T.keep _ _ _ st7 fun b hb o e => (pin' b hb o e).1, fun b hb => ?_, w'⟩
        · rw [← hw8] at e
          exact (wipe_some e).1
        · obtain ⟨o, e, _⟩ := T.obj _ _ st7 b hb
          exact (pin' b hb o e).2
      cases b with
      | false =>
        simp only [Bool.false_eq_true, if_false] at q9 ⊢
        exact fin I9 q9
      | true =>
        simp only [if_true] at q9 ⊢
        refine thnF (pk.run _ s9 σ8 H9 _ I9 q9) fun z s10 ⟨yk, H10, I10, r10, q10⟩ => ?_
        refine thnF (pe.run _ s10 σ8 H10 _ I10 q10) fun z2 s11 ⟨yv, H11, I11, r11, H6, pu, nx⟩ => ?_
        exact d_dictSetP (X := X.blk s3 H3 scope ce fp) hus I11 pu r10 r11 fun s12 I12 => fin I12 nx
  exact codeAny_compStart_dict loop (T.self X.A 0 _ _ _ st4 loop)
/-- as a value -/
theorem pe_dcP {u0 : HO} (hu0 : NewD X u0) (hus : X.A.units + 1 < cLine) {kx vx tg iter : Expr} {ifs : List Expr} {scope : Scope} {own : List (Str × Nat)} {pos : Pos} {wi : TI} {g : TG} {tt : TT} {tk tv : TE} (hc : X.calm = true) (hN : X.N.Nodup) (hi : PI X tg iter wi) (ok : BlkOk X.N X.env.scope scope own)
    (hg : ∀ (s : Shared) (H : Hp) (C : Addr) (cl : List (Str × Addr)) (fp : List Addr), PG (X.blk s H scope (compEnvC scope cl C X.env) fp) tg g) (ht : ∀ (s : Shared) (H : Hp) (C : Addr) (cl : List (Str × Addr)) (fp : List Addr), PTs (X.blk s H scope (compEnvC scope cl C X.env) fp) ifs tt)
    (hk : ∀ (s : Shared) (H : Hp) (C : Addr) (cl : List (Str × Addr)) (fp : List Addr), PE (X.blk s H scope (compEnvC scope cl C X.env) fp) kx tk)
    (he : ∀ (s : Shared) (H : Hp) (C : Addr) (cl : List (Str × Addr)) (fp : List Addr), PE (X.blk s H scope (compEnvC scope cl C X.env) fp) vx tv) (hs : ∀ x, foldedSetIterable iter X.env x = pure x := by intro _; rfl) :
    PE X (.DictComp kx vx [⟨tg, iter, ifs, 0⟩] scope pos) (tDcP u0 wi g tt tk tv (own.map (·.2))) := by
  refine ⟨fun pins s σ H Q I h => ?_⟩
  rw [arm_eval_DictComp]
  refine dc_coreP hu0 hus hc hN I hi ok hg ht hk he hs h fun D C s' m H' I' q hn f => ⟨m, hn, fun h'' sb => ?_⟩
  obtain ⟨f0, f1, f2, f3, f4, f5⟩ := f
  exact ⟨.ref D, H', I'.turned (t' := s'.toks) (fun b o hb e => (sb.2 b hb).trans e) f0 f1 f3 f4 f5, rfl, q⟩
end
/-- what a dict is with another entry -/
def dPutD (d dk dx : D) : Option D := match d with
  | .dct _ _ => storeD d dk dx
  | _ => none
def dDcL (g : DG) (tt : DT) (tk tv : DE) (vs : List Nat) : List D → D → List SV → R D
  | [], acc, ρ => .ok acc ρ
  | d :: ds, acc, ρ => match g d ρ with
    | none => .no
    | some ρ1 => match tt ρ1 with
      | .ok true ρ2 => match tk ρ2 with
        | .ok y ρ3 => match fz1 y ρ3 with
          | some (dy, ρ4) => match tv ρ4 with
            | .ok z ρ5 => match fz1 z ρ5 with
              | some (dz, ρ6) => match dPutD acc dy dz with
                | some acc' => dDcL g tt tk tv vs ds acc' (wipeR ρ6 vs)
                | none => .no
              | none => .no
            | _ => .no
          | none => .no
        | _ => .no
      | .ok false ρ2 => dDcL g tt tk tv vs ds acc (wipeR ρ2 vs)
      | _ => .no
def dDc (t : Bool) (it : DI) (g : DG) (tt : DT) (tk tv : DE) (vs : List Nat) : DE := fun ρ => (it ρ).bind fun ds ρ1 => match dDcL g tt tk tv vs ds (.dct t []) (wipeR ρ1 vs) with
  | .ok acc ρ2 => .ok (.own acc) (back ρ1 vs ρ2)
  | _ => .no
def newHO (t : Bool) : HO := match t with | true => .dT [] | false => .dK []
section
variable {K : PySem.W.Frag} {mg : Str → Option Value} {P vs : List Nat} {W : WX} {B : Bs} {F H : Hp} {ρ : List SV} {σ : L2.St} {τ : List (SV × V)}
theorem Cfg.storedT {d d' dk dx : D} {p : Addr} {vk vx : V} (c : Cfg K mg B F ρ σ ((.own d, .ref p) :: τ) H) (rk : DV K mg F dk vk) (rx : DV K mg F dx vx) (e : dPutD d dk dx = some d') :
    ∃ H', DPut H p vk vx H' ∧ Cfg K mg B F ρ σ ((.own d', .ref p) :: τ) H' := by
  obtain ⟨q, ho, eq, n, hh, r⟩ := c.gt _ List.mem_cons_self
  cases eq
  cases r with
  | @dK kvs ks r1 =>
    replace e : (match keyD dk with | some (.inl k) => if kvs.length < 1000000 then some (PD.D.dct false (putD kvs (.inl k) (kD k) dx)) else none | _ => none) = some d' := e
    split at e
    · rename_i kk q
      obtain ⟨hl, e⟩ := ite_some e
      cases e
      have := keyD_inl q
      subst this
      have rk := rk.key
      subst rk
      exact ⟨_, .inl ⟨_, kk, hh, rfl, by rw [← r1.length]; exact lt_line hl, rfl⟩, c.mutT (.dK (r1.put kk rx))⟩
    · cases e
  | @dT kvs ks r1 =>
    replace e : (match keyD dk with | some (.inr k) => if kvs.length < 1000000 then some (PD.D.dct true (putD kvs (.inr k) (tkD k) dx)) else none | _ => none) = some d' := e
    split at e
    · rename_i kk q
      obtain ⟨hl, e⟩ := ite_some e
      cases e
      have := keyD_inr q
      subst this
      obtain ⟨bb, ey, hbb⟩ := rk.tkey
      subst ey
      exact ⟨_, .inr ⟨_, kk, bb, hh, rfl, c.sub _ _ hbb, by rw [← r1.length]; exact lt_line hl, rfl⟩, c.mutT (.dT (r1.put kk rx))⟩
    · cases e
  | lst r1 => cases e
  | ins cc rr => cases e
theorem se_dc (t : Bool) {wi : TI} {g : TG} {tt : TT} {tk tv : TE} {it : DI} {dg : DG} {dt : DT} {dk dv : DE} (hi : SI K mg P W wi it) (hg : SG K mg P vs g dg) (ht : ST K mg P W0 tt dt) (hk : SE K mg P W0 tk dk) (hv : SE K mg P W0 tv dv) (nd : vs.Nodup) (hP : ∀ v ∈ vs, v ∉ P) :
    SE K mg P W (tDcP (newHO t) wi g tt tk tv vs) (dDc t it dg dt dk dv vs) := by
  refine ⟨fun B F ρ σ τ H Q pr c hp => ?_⟩
  refine hi.run B F ρ σ τ H _ pr c ?_
  unfold dDc at hp
  cases e : it ρ with
  | no => rw [e] at hp; exact hp.elim
  | ex cc fs ρ' => rw [e] at hp; exact hp
  | ok ds ρ1 =>
    rw [e] at hp
    intro F1 H1 J src c1 ok Ld hD
    have hp : PostE K mg W B σ τ Q (match dDcL dg dt dk dv vs ds (.dct t []) (wipeR ρ1 vs) with
      | .ok acc ρ2 => .ok (.own acc) (back ρ1 vs ρ2)
      | _ => .no) := hp
    have c2 : Cfg K mg B F1 ρ1 σ ((.own (.dct t []), .ref Ld) :: (src ++ τ)) (upd H1 Ld (newHO t)) := by
      cases t with
      | true => exact c1.allocO hD (.dT .nil)
      | false => exact c1.allocO hD (.dK .nil)
    obtain ⟨hid, c3, bk⟩ := Cfg.away pr vs nd hP c2
    have c4 : Cfg K mg B F1 (wipeR ρ1 vs) (wipe σ vs) (src ++ ((.own (.dct t []), .ref Ld) :: (hid ++ τ))) (upd H1 Ld (newHO t)) := c3.perm (by
      have h1 : (hid ++ (.own (.dct t []), .ref Ld) :: (src ++ τ) : List (SV × V)).Perm ((.own (.dct t []), .ref Ld) :: (hid ++ (src ++ τ))) := List.perm_middle
      have h2 : (hid ++ (src ++ τ)).Perm (src ++ (hid ++ τ)) := by
        rw [← List.append_assoc, ← List.append_assoc]
        exact List.Perm.append_right _ List.perm_append_comm
      exact h1.trans ((List.Perm.cons _ h2).trans List.perm_middle.symm))
    refine ⟨fun i m H => m = ds.length - i ∧ i ≤ ds.length ∧ ∃ F ρ acc, Cfg K mg B F ρ (wipe σ vs) (src ++ ((.own acc, .ref Ld) :: (hid ++ τ))) H ∧
      PostE K mg W B σ τ Q (match dDcL dg dt dk dv vs (ds.drop i) acc ρ with
        | .ok acc ρ2 => .ok (.own acc) (back ρ1 vs ρ2)
        | _ => .no), ⟨_, rfl, Nat.zero_le _, F1, _, .dct t [], c4, hp⟩, ?_⟩
    rintro i m H2 ⟨rfl, hi2, F2, ρ2, acc, c5, hp2⟩
    obtain ⟨o1, o2, o3⟩ := ok B F2 ρ2 (wipe σ vs) _ H2 c5
    by_cases hlt : i < ds.length
    · refine .inr ⟨o1 i hlt, fun H' => ∃ F ρ acc, Cfg K mg B F ρ (wipe σ vs) (src ++ ((.own acc, .ref Ld) :: (hid ++ τ))) H' ∧
        PostE K mg W B σ τ Q (match dDcL dg dt dk dv vs (ds.drop (i + 1)) acc ρ with
          | .ok acc ρ2 => .ok (.own acc) (back ρ1 vs ρ2)
          | _ => .no), fun H' w => ⟨_, by omega, rfl, hlt, w⟩, fun x H3 y => ?_⟩
      have hd : ds[i]? = some ds[i] := by simp [hlt]
      obtain ⟨F3, c6, r3, _⟩ := o3 i x H3 ds[i] y hd
      have hdrop : ds.drop i = ds[i] :: ds.drop (i + 1) := by rw [List.drop_eq_getElem_cons hlt]
      rw [hdrop] at hp2
      unfold dDcL at hp2
      cases eg : dg ds[i] ρ2 with
      | none => simp only [eg] at hp2; exact hp2.elim
      | some ρ3 =>
        simp only [eg] at hp2
        refine hg.run B F3 _ (wipe σ vs) _ H3 x ds[i] ρ3 _ pr c6 r3 eg fun σ4 c8 f4 l4 => ⟨(wipe_frame f4 l4).trans wipe_wipe, ?_⟩
        have ew : wipe σ4 vs = wipe σ vs := (wipe_frame f4 l4).trans wipe_wipe
        have again : ∀ {F' : Hp} {ρ' : List SV} {acc' : PD.D} {H' : Hp}, Cfg K mg B F' ρ' σ4 (src ++ ((.own acc', .ref Ld) :: (hid ++ τ))) H' → Cfg K mg B F' (wipeR ρ' vs) (wipe σ vs) (src ++ ((.own acc', .ref Ld) :: (hid ++ τ))) H' := by
          intro F' ρ' acc' H' c'
          rw [← ew]
          exact c'.forgets pr vs hP
        refine ht.run B F3 ρ3 σ4 _ H3 _ pr c8 ?_
        cases et : dt ρ3 with
        | no => simp only [et] at hp2; exact hp2.elim
        | ex cc fs ρ' => simp only [et] at hp2; exact hp2.elim
        | ok b ρ5 =>
          simp only [et] at hp2
          intro F5 H5 c9
          cases b with
          | false => exact iteF ⟨_, _, _, again c9, hp2⟩
          | true =>
            refine iteT (hk.run B F5 ρ5 σ4 _ H5 _ pr c9 ?_)
            simp only at hp2
            cases ek : dk ρ5 with
            | no => simp only [ek] at hp2; exact hp2.elim
            | ex cc fs ρ' => simp only [ek] at hp2; exact hp2.elim
            | ok yv ρ6 =>
              simp only [ek] at hp2
              intro F6 H6 vy c10 b10
              cases ef : fz1 yv ρ6 with
              | none => simp only [ef] at hp2; exact hp2.elim
              | some p =>
                obtain ⟨dy, ρ7⟩ := p
                simp only [ef] at hp2
                obtain ⟨F7, c11, m7, r7⟩ := c10.fz1 b10 ef
                refine hv.run B F7 ρ7 σ4 _ H6 _ pr (c11.push r7) ?_
                cases ez : dv ρ7 with
                | no => simp only [ez] at hp2; exact hp2.elim
                | ex cc fs ρ' => simp only [ez] at hp2; exact hp2.elim
                | ok zv ρ8 =>
                  simp only [ez] at hp2
                  intro F8 H8 vz c12 b12
                  cases eh : fz1 zv ρ8 with
                  | none => simp only [eh] at hp2; exact hp2.elim
                  | some p =>
                    obtain ⟨dz, ρ9⟩ := p
                    simp only [eh] at hp2
                    obtain ⟨F9, c13, m9, r9⟩ := c12.fz1 b12 eh
                    have r7' := c13.top
                    cases ep : dPutD acc dy dz with
                    | none => simp only [ep] at hp2; exact hp2.elim
                    | some acc' =>
                      simp only [ep] at hp2
                      obtain ⟨H9, pu, c14⟩ := (c13.pop.perm (τ' := (.own acc, .ref Ld) :: (src ++ (hid ++ τ))) List.perm_middle).storedT r7' r9 ep
                      exact ⟨H9, pu, _, _, _, again (c14.perm List.perm_middle.symm), hp2⟩
    · have ei : i = ds.length := by omega
      subst ei
      rw [List.drop_length] at hp2
      refine .inl ⟨o2 _ (Nat.le_refl _) (Nat.le_refl _), ?_⟩
      have hp3 : PostE K mg W B σ τ Q (.ok (.own acc) (back ρ1 vs ρ2)) := hp2
      have c6 := c5.sub' (List.sublist_append_right src _)
      have c7 := bk F2 ρ2 H2 ((.own acc, .ref Ld) :: τ) (c6.perm List.perm_middle.symm)
      exact hp3 F2 H2 (.ref Ld) c7 trivial
end
section
variable {X : Cx} {P : List Nat} {W : WX} {pos : Pos} {kx vx tg iter : Expr} {ifs : List Expr} {scope : Scope} {own : List (Str × Nat)} {it : DI} {b : DG} {dt : DT} {dk dv : DE}
theorem newHO_ok (t : Bool) : NewD X (newHO t) := by
  cases t with
  | true => exact newT
  | false => exact newK
theorem d_dc (t : Bool) (hu : X.A.units + 1 < cLine) (hc : X.calm = true) (hN : X.N.Nodup) (hi : PDI X P W tg iter it) (ok : BlkOk X.N X.env.scope scope own) (nd : (own.map (·.2)).Nodup) (hP : ∀ v ∈ own.map (·.2), v ∉ P)
    {vs : List Nat} (hvs : ∀ v ∈ vs, v ∈ own.map (·.2))
    (hg : ∀ (s : Shared) (H : Hp) (C : Addr) (cl : List (Str × Addr)) (fp : List Addr), PDG (X.blk s H scope (compEnvC scope cl C X.env) fp) P vs tg b)
    (ht : ∀ (s : Shared) (H : Hp) (C : Addr) (cl : List (Str × Addr)) (fp : List Addr), PDTs (X.blk s H scope (compEnvC scope cl C X.env) fp) P W0 ifs dt)
    (hk : ∀ (s : Shared) (H : Hp) (C : Addr) (cl : List (Str × Addr)) (fp : List Addr), PD (X.blk s H scope (compEnvC scope cl C X.env) fp) P W0 kx dk)
    (hv : ∀ (s : Shared) (H : Hp) (C : Addr) (cl : List (Str × Addr)) (fp : List Addr), PD (X.blk s H scope (compEnvC scope cl C X.env) fp) P W0 vx dv) (hs : ∀ x, foldedSetIterable iter X.env x = pure x := by intro _; rfl) :
    PD X P W (.DictComp kx vx [⟨tg, iter, ifs, 0⟩] scope pos) (dDc t it b dt dk dv (own.map (·.2))) := by
  obtain ⟨ti, h1, h2⟩ := hi
  have sg : SG X.K X.mg P (own.map (·.2)) (gE X.K X.mg P vs b) b := ⟨fun B F ρ σ τ H v d ρ' Q pr c hd e hq =>
    sg_canon.run B F ρ σ τ H v d ρ' Q pr c hd e fun σ' c' f l => hq σ' c' (fun j hj => f j fun z => hj (hvs j z)) l⟩
  exact ⟨_, pe_dcP (newHO_ok t) hu (tt := tT X.K X.mg P W0 dt) hc hN h1 ok (fun s H C cl fp => (hg s H C cl fp).canon) (fun s H C cl fp => ht s H C cl fp) (fun s H C cl fp => (hk s H C cl fp).canon) (fun s H C cl fp => (hv s H C cl fp).canon) hs, se_dc t h2 sg st_canon se_canon se_canon nd hP⟩
end
end PD
set_option Elab.async false
set_option linter.all false
set_option maxRecDepth 100000
set_option autoImplicit false
set_option maxHeartbeats 4000000
/-! PD: name = a comprehension, the name's own place. -/
namespace PD
open PySem PySem.Spec PyProof.Rows L2
section
variable {X : Cx}
theorem ps_setDcP {u0 : HO} (hu0 : NewD X u0) (hus : X.A.units + 1 < cLine) {i : Nat} {y : Str} {py : Pos} {kx vx tg iter : Expr} {ifs : List Expr} {scope : Scope} {own : List (Str × Nat)} {pos spos : Pos} {wi : TI} {g : TG} {tt : TT} {tk tv : TE} (hc : X.calm = true) (hN : X.N.Nodup) (hy : X.N[i]? = some y)
    (hyl : X.env.scope.names.lookup y = some .local) (hsw : swapsWith (.DictComp kx vx [⟨tg, iter, ifs, 0⟩] scope pos) (some (.Name y py)) spos.line X.env = pure true) (hi : PI X tg iter wi) (ok : BlkOk X.N X.env.scope scope own)
    (hg : ∀ (s : Shared) (H : Hp) (C : Addr) (cl : List (Str × Addr)) (fp : List Addr), PG (X.blk s H scope (compEnvC scope cl C X.env) fp) tg g) (ht : ∀ (s : Shared) (H : Hp) (C : Addr) (cl : List (Str × Addr)) (fp : List Addr), PTs (X.blk s H scope (compEnvC scope cl C X.env) fp) ifs tt)
    (hk : ∀ (s : Shared) (H : Hp) (C : Addr) (cl : List (Str × Addr)) (fp : List Addr), PE (X.blk s H scope (compEnvC scope cl C X.env) fp) kx tk)
    (he : ∀ (s : Shared) (H : Hp) (C : Addr) (cl : List (Str × Addr)) (fp : List Addr), PE (X.blk s H scope (compEnvC scope cl C X.env) fp) vx tv) (hs : ∀ x, foldedSetIterable iter X.env x = pure x := by intro _; rfl) :
    PS X (.Assign [.Name y py] (.DictComp kx vx [⟨tg, iter, ifs, 0⟩] scope pos) spos) (tAsg (tDcP u0 wi g tt tk tv (own.map (·.2))) (gName i)) := by
  refine ⟨fun pins s σ H D I h => ?_⟩
  rw [exec_Assign_Name_used _ _ _ _ hsw]
  refine wpAny_bind (wpAny_standAt (wpAny_bind ?_))
  show wpAny _ X.A (do let _ ← comprehension (.DictComp kx vx [⟨tg, iter, ifs, 0⟩] scope pos) scope X.env (firstIterPos [⟨tg, iter, ifs, 0⟩] pos) newDict false (eval iter X.env) (some (assign (.Name y py) X.env))) _ _ s
  have h : tDcP u0 wi g tt tk tv (own.map (·.2)) σ H (fun x H1 => gName i x σ H1 D.nx) := h
  refine wpAny_bind (thn (dc_coreP hu0 hus (Qf := fun _ s' => SP X pins D .next s') hc hN I hi ok hg ht hk he hs h fun L C s' m H' I' q hn f => ?_) fun _ s' hq => wpAny_pure (wpAny_pure hq))
  show wpAny _ _ (assign (.Name y py) X.env (.ref L)) _ _ _
  refine wpAny_assign_Name (store_ok2 (v := V.ref L) I' hN hy (.inl hyl) rfl (fun s2 I2 ⟨a, sb, ha⟩ => ?_) (.inr hyl))
  obtain ⟨f0, f1, f2, f3, f4, f5⟩ := f
  have haC : C ≠ a := by
    rcases ha with z | z
    · rw [z]; exact f1
    · exact fun e => f4 y a z e.symm
  exact ⟨m, hn.sameBut sb haC, fun h3 sb3 => ⟨_, H', I2.turned (t' := s2.toks) (fun b o hb e => (sb3.2 b hb).trans e) f0 f1 f3 f4 f5, q⟩⟩
end
section
variable {X : Cx} {P : List Nat} {W : WX} {pos : Pos} {kx vx elt tg iter tg1 iter1 : Expr} {ifs ifs1 : List Expr} {scope : Scope} {own : List (Str × Nat)} {it it1 : DI} {b b1 : DG} {dt dt1 : DT} {dk dv de : DE}
theorem d_setDc (t : Bool) {i : Nat} {y : Str} {py spos : Pos} (hu : X.A.units + 1 < cLine) (hc : X.calm = true) (hN : X.N.Nodup) (hy : X.N[i]? = some y) (hyl : X.env.scope.names.lookup y = some .local) (hiP : i ∉ P)
    (hsw : swapsWith (.DictComp kx vx [⟨tg, iter, ifs, 0⟩] scope pos) (some (.Name y py)) spos.line X.env = pure true)
    (hi : PDI X P W tg iter it) (ok : BlkOk X.N X.env.scope scope own) (nd : (own.map (·.2)).Nodup) (hP : ∀ v ∈ own.map (·.2), v ∉ P)
    {vs : List Nat} (hvs : ∀ v ∈ vs, v ∈ own.map (·.2))
    (hg : ∀ (s : Shared) (H : Hp) (C : Addr) (cl : List (Str × Addr)) (fp : List Addr), PDG (X.blk s H scope (compEnvC scope cl C X.env) fp) P vs tg b)
    (ht : ∀ (s : Shared) (H : Hp) (C : Addr) (cl : List (Str × Addr)) (fp : List Addr), PDTs (X.blk s H scope (compEnvC scope cl C X.env) fp) P W0 ifs dt)
    (hk : ∀ (s : Shared) (H : Hp) (C : Addr) (cl : List (Str × Addr)) (fp : List Addr), PD (X.blk s H scope (compEnvC scope cl C X.env) fp) P W0 kx dk)
    (hv : ∀ (s : Shared) (H : Hp) (C : Addr) (cl : List (Str × Addr)) (fp : List Addr), PD (X.blk s H scope (compEnvC scope cl C X.env) fp) P W0 vx dv) (hs : ∀ x, foldedSetIterable iter X.env x = pure x := by intro _; rfl) :
    PDS X P W (.Assign [.Name y py] (.DictComp kx vx [⟨tg, iter, ifs, 0⟩] scope pos) spos) (dSet i (dDc t it b dt dk dv (own.map (·.2)))) := by
  obtain ⟨ti, h1, h2⟩ := hi
  have sg : SG X.K X.mg P (own.map (·.2)) (gE X.K X.mg P vs b) b := ⟨fun B F ρ σ τ H v d ρ' Q pr c hd e hq =>
    sg_canon.run B F ρ σ τ H v d ρ' Q pr c hd e fun σ' c' f l => hq σ' c' (fun j hj => f j fun z => hj (hvs j z)) l⟩
  exact ⟨_, ps_setDcP (newHO_ok t) hu (tt := tT X.K X.mg P W0 dt) hc hN hy hyl hsw h1 ok (fun s H C cl fp => (hg s H C cl fp).canon) (fun s H C cl fp => ht s H C cl fp) (fun s H C cl fp => (hk s H C cl fp).canon) (fun s H C cl fp => (hv s H C cl fp).canon) hs,
    ss_set (se_dc t h2 sg st_canon se_canon se_canon nd hP) hiP⟩
theorem d_setLc2 {i : Nat} {y : Str} {py spos : Pos} (hc : X.calm = true) (hN : X.N.Nodup) (hy : X.N[i]? = some y) (hyl : X.env.scope.names.lookup y = some .local) (hiP : i ∉ P)
    (hsw : swapsWith (.ListComp elt [⟨tg, iter, ifs, 0⟩, ⟨tg1, iter1, ifs1, 0⟩] scope pos) (some (.Name y py)) spos.line X.env = pure true)
    (hi : PDI X P W tg iter it) (ok : BlkOk X.N X.env.scope scope own) (nd : (own.map (·.2)).Nodup) (hP : ∀ v ∈ own.map (·.2), v ∉ P)
    {vs vs1 : List Nat} (hvs : ∀ v ∈ vs, v ∈ own.map (·.2)) (hv : ∀ v ∈ vs1, v ∈ own.map (·.2))
    (hg : ∀ (s : Shared) (H : Hp) (C : Addr) (cl : List (Str × Addr)) (fp : List Addr), PDG (X.blk s H scope (compEnvC scope cl C X.env) fp) P vs tg b)
    (ht : ∀ (s : Shared) (H : Hp) (C : Addr) (cl : List (Str × Addr)) (fp : List Addr), PDTs (X.blk s H scope (compEnvC scope cl C X.env) fp) P W0 ifs dt)
    (hi1 : ∀ (s : Shared) (H : Hp) (C : Addr) (cl : List (Str × Addr)) (fp : List Addr), PDI (X.blk s H scope (compEnvC scope cl C X.env) fp) P W0 tg1 iter1 it1)
    (hg1 : ∀ (s : Shared) (H : Hp) (C : Addr) (cl : List (Str × Addr)) (fp : List Addr), PDG (X.blk s H scope (compEnvC scope cl C X.env) fp) P vs1 tg1 b1)
    (ht1 : ∀ (s : Shared) (H : Hp) (C : Addr) (cl : List (Str × Addr)) (fp : List Addr), PDTs (X.blk s H scope (compEnvC scope cl C X.env) fp) P W0 ifs1 dt1)
    (he : ∀ (s : Shared) (H : Hp) (C : Addr) (cl : List (Str × Addr)) (fp : List Addr), PD (X.blk s H scope (compEnvC scope cl C X.env) fp) P W0 elt de) (hs : ∀ x, foldedSetIterable iter X.env x = pure x := by intro _; rfl) (hs1 : ∀ env x, foldedSetIterable iter1 env x = pure x := by intro _ _; rfl) :
    PDS X P W (.Assign [.Name y py] (.ListComp elt [⟨tg, iter, ifs, 0⟩, ⟨tg1, iter1, ifs1, 0⟩] scope pos) spos) (dSet i (dLc2 it b dt it1 b1 dt1 de (own.map (·.2)) vs1)) := by
  obtain ⟨t, h1, h2⟩ := hi
  have sg : SG X.K X.mg P (own.map (·.2)) (gE X.K X.mg P vs b) b := ⟨fun B F ρ σ τ H v d ρ' Q pr c hd e hq =>
    sg_canon.run B F ρ σ τ H v d ρ' Q pr c hd e fun σ' c' f l => hq σ' c' (fun j hj => f j fun z => hj (hvs j z)) l⟩
  exact ⟨_, ps_setLc2 (tt := tT X.K X.mg P W0 dt) (tt1 := tT X.K X.mg P W0 dt1) hc hN hy hyl hsw h1 ok hv (fun s H C cl fp => (hg s H C cl fp).canon) (fun s H C cl fp => ht s H C cl fp) (fun s H C cl fp => (hi1 s H C cl fp).canon) (fun s H C cl fp => (hg1 s H C cl fp).canon) (fun s H C cl fp => ht1 s H C cl fp)
    (fun s H C cl fp => (he s H C cl fp).canon) hs hs1, ss_set (se_lc2 h2 sg st_canon si_canon sg_canon st_canon se_canon nd hP hv) hiP⟩
end
end PD
set_option Elab.async false
set_option linter.all false
set_option maxRecDepth 100000
set_option autoImplicit false
set_option maxHeartbeats 4000000
/-! PD: instances of classes. -/
namespace PD
open PySem PySem.Spec PyProof.Rows L2

/-! ### fields -/
def putFD (f : Str) (d : D) : List (Str × D) → List (Str × D)
  | [] => [(f, d)]
  | (g, x) :: r => if g = f then (g, d) :: r else (g, x) :: putFD f d r
section
variable {K : PySem.W.Frag} {mg : Str → Option Value} {F H : Hp} {P : List Nat} {W : WX} {B : Bs} {ρ : List SV} {σ : L2.St} {τ : List (SV × V)}
theorem DFs.put {fs : List (Str × D)} {gs : List (Str × V)} (h : DFs K mg F fs gs) (f : Str) {d : D} {v : V} (hd : DV K mg F d v) : DFs K mg F (putFD f d fs) (putF f v gs) := by
  induction fs generalizing gs with
  | nil => cases h; exact .cons hd .nil
  | cons p r ih =>
    cases h with
    | cons h1 hr =>
      rename_i k d' v' vs
      unfold putFD putF
      by_cases e : k = f
      · rw [if_pos e, if_pos e]; exact .cons hd hr
      · rw [if_neg e, if_neg e]; exact .cons h1 (ih hr)
theorem DFs.look {fs : List (Str × D)} {gs : List (Str × V)} (h : DFs K mg F fs gs) (f : Str) : (fs.lookup f = none ∧ gs.lookup f = none) ∨ ∃ d v, fs.lookup f = some d ∧ gs.lookup f = some v ∧ DV K mg F d v := by
  induction fs generalizing gs with
  | nil => cases h; exact .inl ⟨rfl, rfl⟩
  | cons p r ih =>
    cases h with
    | cons h1 hr =>
      rename_i k d' v' vs
      rw [List.lookup_cons, List.lookup_cons]
      by_cases e : f == k
      · rw [e]; exact .inr ⟨_, _, rfl, rfl, h1⟩
      · rw [show (f == k) = false by simpa using e]; exact ih hr
theorem DFs.length {fs : List (Str × D)} {gs : List (Str × V)} (h : DFs K mg F fs gs) : fs.length = gs.length := by
  induction fs generalizing gs with
  | nil => cases h; rfl
  | cons p r ih => cases h with | cons h1 hr => rw [List.length_cons, List.length_cons, ih hr]
/-- what the class c lets be read and stored as a field -/
def FldOk (K : PySem.W.Frag) (mg : Str → Option Value) (c f : Str) : Prop := ∀ C, mg c = some (.ref C) → Cls K C ∧ NoAttr K C f
def dFld (c f : Str) (o : DE) : DE := fun ρ => (o ρ).bind fun x ρ1 => match rd ρ1 x with
  | some (.ins c' fs) => if c' = c then match fs.lookup f with
      | some d => .ok (.fz d) ρ1
      | none => .no
    else .no
  | _ => .no
theorem se_fld {c f : Str} {to : TE} {o : DE} (hC : FldOk K mg c f) (ho : SE K mg P W to o) : SE K mg P W (tFld K to f) (dFld c f o) := by
  refine ⟨fun B F ρ σ τ H Q pr cc hp => ?_⟩
  refine ho.bind pr cc hp (fun _ _ _ h => h) id fun x ρ1 F1 H1 vx c1 b1 hp1 => ?_
  cases e0 : rd ρ1 x with
  | none => rw [e0] at hp1; exact hp1.elim
  | some d0 =>
    rw [e0] at hp1
    have tv := c1.read List.mem_cons_self b1 e0
    cases tv with
    | @ins a C dx c' fs gs h1 hm hf =>
      simp only at hp1
      by_cases ec : c' = c
      · rw [if_pos ec] at hp1
        subst ec
        obtain ⟨k1, k2⟩ := hC C hm
        rcases hf.look f with ⟨e1, e2⟩ | ⟨d, v, e1, e2, r⟩
        · rw [e1] at hp1; exact hp1.elim
        · rw [e1] at hp1
          exact ⟨a, C, dx, gs, v, rfl, h1, k1, k2, e2, hp1 _ _ _ (c1.pop.push r) trivial⟩
      · rw [if_neg ec] at hp1; exact hp1.elim
    | _ => exact hp1.elim
def dStFld (c f : Str) (e o : DE) : DS := fun ρ => (e ρ).bindS fun y ρ1 => (o ρ1).bindS fun x ρ2 => match x with
  | .bor j => match fz1 y ρ2 with
    | some (dy, ρ3) => match ρ3[j]? with
      | some (.own (.ins c' fs)) => if c' = c ∧ fs.length < 1000 then .nx (ρ3.set j (.own (.ins c' (putFD f dy fs)))) else .no
      | _ => .no
    | none => .no
  | _ => .no
theorem ss_fld {c f : Str} {to te : TE} {o e : DE} (hC : FldOk K mg c f) (ho : SE K mg P W to o) (he : SE K mg P W te e) : SS K mg P W (sFld K to te f) (dStFld c f e o) := by
  refine ⟨fun B F ρ σ τ H D pr cc hp => ?_⟩
  refine he.bindS pr cc hp (fun _ _ _ _ h => h) fun y ρ1 F1 H1 vy c1 b1 hp1 => ?_
  refine ho.bindS pr c1 (D := D) hp1 (fun _ _ _ _ h => h.pop) fun x ρ2 F2 H2 vx c2 b2 hp2 => ?_
  cases x with
  | fz d => exact hp2.elim
  | own d => exact hp2.elim
  | bor j =>
    have b2 : σ[j]? = some (some vx) := b2
    simp only at hp2
    cases e1 : fz1 y ρ2 with
    | none => rw [e1] at hp2; exact hp2.elim
    | some q =>
      obtain ⟨dy, ρ3⟩ := q
      rw [e1] at hp2
      simp only at hp2
      obtain ⟨F3, c3, m3, ry⟩ := (c2.pop).fz1 b1 e1
      cases e2 : ρ3[j]? with
      | none => rw [e2] at hp2; exact hp2.elim
      | some s =>
        rw [e2] at hp2
        cases s with
        | no => exact hp2.elim
        | fz d => exact hp2.elim
        | own d =>
          cases d with
          | ins c' fs =>
            simp only at hp2
            by_cases hc : c' = c ∧ fs.length < 1000
            · rw [if_pos hc] at hp2
              obtain ⟨p, ho', e3, n, hh, r⟩ := c3.own_slot e2
              rw [b2] at e3
              cases e3
              cases r with
              | @ins C dx _ _ gs hm hf =>
                obtain ⟨ec, hl⟩ := hc
                subst ec
                obtain ⟨k1, k2⟩ := hC C hm
                exact ⟨p, C, dx, gs, rfl, hh, k1, k2, by rw [← hf.length]; exact hl, hp2 _ _ _ (c3.mutS e2 b2 (.ins hm (hf.put f ry)))⟩
            · rw [if_neg hc] at hp2; exact hp2.elim
          | _ => exact hp2.elim
end
section
variable {X : Cx} {P : List Nat} {W : WX} {pos pos' : Pos} {o value : Expr} {od vd : DE} {c f : Str}
theorem d_fld (hC : FldOk X.K X.mg c f) (ho : PD X P W o od) (hb : attributeBase o f X.env (eval o X.env) = eval o X.env := by rfl) : PD X P W (.Attribute o f pos) (dFld c f od) := by
  obtain ⟨t, h1, h2⟩ := ho
  exact ⟨_, pe_fld h1 hb, se_fld hC h2⟩
theorem d_stFld (hC : FldOk X.K X.mg c f) (ho : PD X P W o od) (hv : PD X P W value vd) (hs : swapsWith value (some (.Attribute o f pos')) pos.line X.env = pure false := by rfl) : PDS X P W (.Assign [.Attribute o f pos'] value pos) (dStFld c f vd od) := by
  obtain ⟨t, h1, h2⟩ := ho
  obtain ⟨u, r1, r2⟩ := hv
  exact ⟨_, ps_fld h1 r1 hs, ss_fld hC h2 r2⟩
end
end PD
set_option Elab.async false
set_option linter.all false
set_option maxRecDepth 100000
set_option autoImplicit false
set_option maxHeartbeats 4000000
/-! PD: methods, instances made. -/
namespace PD
open PySem PySem.Spec PyProof.Rows L2

def callR (f : FDn) (rs : List RV) (ρ1 : List SV) : R RV := match prep f.io rs ρ1 with
  | none => .no
  | some (svs, ρ2) => match f.run svs with
    | .ret sv as => match toRV sv with
      | some rv => if as.length = svs.length then .ok rv (wb svs rs as ρ2) else .no
      | none => .no
    | .ex c fs as => if as.length = svs.length then .ex c fs (wb svs rs as ρ2) else .no
    | .no => .no
/-- o.m(..) of a class c -/
def dMethU (c m : Str) (f : FDn) (o : DE) (a : DA) : DE := fun ρ => (o ρ).bind fun x ρ1 => match rd ρ1 x with
  | some (.ins c' fs) => if c' = c ∧ fs.lookup m = none then (a ρ1).bind fun xs ρ2 => callR f (x :: xs) ρ2 else .no
  | _ => .no
def tMethS (C : Addr) (m : Str) (sp : Sp) (E : L2.St → XK) (ta : TE) (t : TA) : TE := fun σ H Q => ta σ H fun x H1 => ∃ a dx fs, x = .ref a ∧ H1 a = some (.ins C dx fs) ∧ fs.lookup m = none ∧ t σ H1 fun vs H2 => sp (x :: vs) H2 Q (E σ)
section
variable {X : Cx} {CX : CXT} {k : Nat} {f C : Addr} {fd : FuncData} {ps : List Str} {sp : Sp} {E : L2.St → XK} {m : Str} {pos apos : Pos} {e o : Expr} {es : List Expr} {ta : TE} {t : TA}
theorem pe_methS {pl : Sem Bool} (he : PE X o ta) (c : Cls X.K C) (hm : Meth X.K C m f) (F : FnOk X.prog X.w X.K X.mg X.base CX k f fd ps sp) (hr : Room k X.A) (hb : Binds X.K fd ps []) (hx : ∀ σ, PassesAt CX X σ (E σ)) (ha : PA X (e :: es) t)
    (hst : starEach (e :: es) X.env = (false, eval e X.env) :: starEach es X.env := by rfl) (hpl : (backTo pos (starEach es X.env)).any (·.1) = false := by rfl)
    (ht : eval (.Call (.Attribute o m apos) (e :: es) [] pos) X.env = (do
      let ov ← eval o X.env
      standAt apos.atName
      let (f, first) ← holding [ov] (getMethod ov m pl)
      callWith pos f first (backTo pos (starEach (e :: es) X.env)) (backToKw pos (keywordEach [] X.env))) := by rfl) :
    PE X (.Call (.Attribute o m apos) (e :: es) [] pos) (tMethS C m sp E ta t) := by
  refine ⟨fun pins s σ H Q I h => ?_⟩
  refine PySem.W.methodCall_KW (pl := pl) (thn (he.run pins s σ H _ I h) fun u s1 ⟨x, H1, I1, rx, a, dx, fs, ex, ea, l, q⟩ => ?_) ht
  subst ex
  obtain rfl : u = Value.ref a := rx
  refine getmeth_ok I1 ea c hm l ?_
  refine PySem.W.callWith_K (first := [.ref a]) (h₀ := X.base) I.ok.mod.kin hm.kp (thn (ha.run pos pins s1 σ H1 _ I1 q) fun us s2 ⟨vs, H2, I2, r, q2⟩ => ⟨I2.kIn, ?_⟩) hst hpl
  exact run_fnS (us := .ref a :: us) (vs := .ref a :: vs) F hr hb (hx σ) I2 (.cons rfl r) q2
theorem pe_methS0 {pl : Sem Bool} (he : PE X o ta) (c : Cls X.K C) (hm : Meth X.K C m f) (F : FnOk X.prog X.w X.K X.mg X.base CX k f fd ps sp) (hr : Room k X.A) (hb : Binds X.K fd ps []) (hx : ∀ σ, PassesAt CX X σ (E σ))
    (ht : eval (.Call (.Attribute o m apos) [] [] pos) X.env = (do
      let ov ← eval o X.env
      standAt apos.atName
      let (f, first) ← holding [ov] (getMethod ov m pl)
      callWith pos f first (backTo pos (starEach [] X.env)) (backToKw pos (keywordEach [] X.env))) := by rfl) :
    PE X (.Call (.Attribute o m apos) [] [] pos) (tMethS C m sp E ta tNil) := by
  refine ⟨fun pins s σ H Q I h => ?_⟩
  refine PySem.W.methodCall_KW (pl := pl) (thn (he.run pins s σ H _ I h) fun u s1 ⟨x, H1, I1, rx, a, dx, fs, ex, ea, l, q⟩ => ?_) ht
  subst ex
  obtain rfl : u = Value.ref a := rx
  refine getmeth_ok I1 ea c hm l ?_
  exact PySem.W.callWith_K0 (first := [.ref a]) I1.kIn hm.kp (run_fnS (us := [.ref a]) (vs := [.ref a]) F hr hb (hx σ) I1 (.cons rfl .nil) q)
/-- C(..) -/
def tMakeS (C : Addr) (sp : Sp) (E : L2.St → XK) (t : TA) : TE := fun σ H Q => t σ H fun vs H1 => ∀ x dx, H1 x = none → H1 dx = none → dx ≠ x →
  sp (.ref x :: vs) (upd (upd H1 dx (.own x)) x (.ins C dx [])) (fun v H2 => v = .non ∧ Q (.ref x) H2) (E σ)
theorem run_makeS {pins : List (Addr × Obj)} {σ : L2.St} {H : Hp} {s : Shared} {Q : VK} {us : List Value} {vs : List V} (M : Mk X.K C f) (F : FnOk X.prog X.w X.K X.mg X.base CX k f fd ps sp) (hr : Room (k + 1) X.A) (hb : Binds X.K fd ps [])
    (hx : PassesAt CX X σ (E σ)) (I : Inv X pins σ H s) (r : Vals vs us)
    (h : ∀ x dx, H x = none → H dx = none → dx ≠ x → sp (.ref x :: vs) (upd (upd H dx (.own x)) x (.ins C dx [])) (fun v H2 => v = .non ∧ Q (.ref x) H2) (E σ)) :
    wpAny (model X.prog X.w) X.A (call (.ref C) us) (EP X pins σ Q) X.xe s := by
  have hq := h (s.heap.objs.size + 1) s.heap.objs.size (I.hok.fresh (Nat.le_succ _)) (I.hok.fresh (Nat.le_refl _)) (Nat.ne_of_lt (Nat.lt_succ_self _))
  have I2 := Inv.made (C := C) I
  have r2 : Vals (V.ref (s.heap.objs.size + 1) :: vs) (Value.ref (s.heap.objs.size + 1) :: us) := .cons rfl r
  have hl : (Value.ref (s.heap.objs.size + 1) :: us).length = ps.length := by
    have e := r2.length
    rw [F.len _ _ _ _ hq] at e
    exact e.symm
  have b := hb _ (Value.ref (s.heap.objs.size + 1) :: us) I2.kIn (by rw [List.append_nil]; exact hl)
  rw [List.append_nil] at b
  refine wpAny_call (make_map (f := f) I.kIn M.makes M.init (beq_iff_eq.mp M.fn) (codeAny_mono (F.run _ X.stack _ _ ⟨Value.ref (s.heap.objs.size + 1) :: us, []⟩ (Value.ref (s.heap.objs.size + 1) :: us) _ _ (E σ) (hr.make C us [])
    (I2.env0.make C us []) b r2 hq) fun r s' hq' => ?_))
  cases r with
  | error e => exact hx pins _ _ e s' I2 hq'
  | ok fl =>
    cases fl with
    | ret u =>
      obtain ⟨v, H', I3, rv, ev, q3⟩ := I2.after hq'
      subst ev
      exact ⟨rv, ⟨V.ref (s.heap.objs.size + 1), H', I3, rfl, q3⟩⟩
    | next => exact False.elim hq'
    | brk => exact False.elim hq'
    | cont => exact False.elim hq'
theorem pe_makeS {x : Str} {p : Pos} (M : Mk X.K C f) (F : FnOk X.prog X.w X.K X.mg X.base CX k f fd ps sp) (hr : Room (k + 1) X.A) (hg : Gl X x) (hm : X.mg x = some (.ref C)) (hb : Binds X.K fd ps []) (hx : ∀ σ, PassesAt CX X σ (E σ))
    (ha : PA X (e :: es) t) (hdb : (x == ("__debug__" : Str)) = false := by decide) (he : starEach (e :: es) X.env = (false, eval e X.env) :: starEach es X.env := by rfl) (hpl : (backTo pos (starEach es X.env)).any (·.1) = false := by rfl) :
    PE X (.Call (.Name x p) (e :: es) [] pos) (tMakeS C sp E t) := by
  refine ⟨fun pins s σ H Q I h => ?_⟩
  refine wpAny_Call_Name_kw (ld_glob I hg hm ?_ hdb)
  refine PySem.W.callWith_K (h₀ := X.base) I.ok.mod.kin M.kp (thn (ha.run pos pins s σ H _ I h) fun us s1 ⟨vs, H1, I1, r, q⟩ => ⟨I1.kIn, ?_⟩) he hpl
  exact run_makeS M F hr hb (hx σ) I1 r q
end
/-- C(..): behind it the instance is the stack's own -/
def dMake (c : Str) (f : FDn) (a : DA) : DE := fun ρ => (a ρ).bind fun rs ρ1 => match prep f.io (.own (.ins c []) :: rs) ρ1 with
  | none => .no
  | some (svs, ρ2) => match f.run svs with
    | .ret (.fz .non) (.own d :: as) => if as.length + 1 = svs.length then .ok (.own d) (wb svs.tail rs as ρ2) else .no
    | .ex c fs (.own d :: as) => if as.length + 1 = svs.length then .ex c fs (wb svs.tail rs as ρ2) else .no
    | _ => .no
section
variable {K : PySem.W.Frag} {mg : Str → Option Value} {F H : Hp} {P : List Nat} {W : WX} {B : Bs} {ρ : List SV} {σ : L2.St} {τ : List (SV × V)}
theorem se_methU {c m : Str} {f : FDn} {C : Addr} (hC : mg c = some (.ref C)) {to : TE} {t : TA} {o : DE} {a : DA} (ho : SE K mg P W to o) (ha : SA K mg P W t a) : SE K mg P W (tMethS C m (spD K mg f) (WE W) to t) (dMethU c m f o a) := by
  refine ⟨fun B F ρ σ τ H Q pr cc hp => ?_⟩
  refine ho.bind pr cc hp (fun _ _ _ h => h) id fun x ρ1 F1 H1 vx c1 b1 hp1 => ?_
  cases e0 : rd ρ1 x with
  | none => rw [e0] at hp1; exact hp1.elim
  | some d0 =>
    rw [e0] at hp1
    have tv := c1.read List.mem_cons_self b1 e0
    cases tv with
    | @ins aa C' dx c' fs gs h1 hm hf =>
      simp only at hp1
      by_cases ec : c' = c ∧ fs.lookup m = none
      · rw [if_pos ec] at hp1
        obtain ⟨rfl, hl⟩ := ec
        rw [hC] at hm
        cases hm
        refine ⟨aa, dx, gs, rfl, h1, ?_, ?_⟩
        · rcases hf.look m with ⟨_, e2⟩ | ⟨d, v, e1, _⟩
          · exact e2
          · rw [hl] at e1; cases e1
        refine ha.bind pr c1 (Post := PostE K mg W B σ τ Q) hp1 (fun cc fs ρ' h F' H' cls dd c' ev => h F' H' cls dd c'.pop ev) id fun xs ρ2 F2 H2 vs c2 b2 hp2 => ?_
        exact call_ok (rs := x :: xs) (vs := _ :: vs) c2 (.cons b1 b2) (fun _ _ _ h => h) hp2
      · rw [if_neg ec] at hp1; exact hp1.elim
    | _ => exact hp1.elim
theorem Cfg.allocU {o : HO} {p : Addr} (c : Cfg K mg B F ρ σ τ H) (hp : H p = none) : Cfg K mg B F ρ σ τ (upd H p o) := by
  have keep : ∀ q ho, H q = some ho → upd H p o q = some ho := fun q ho e => by rw [upd_ne (ne_of_none e hp)]; exact e
  have gd : ∀ (sv : SV) (ov : Option V), Gd K mg F H sv ov → Gd K mg F (upd H p o) sv ov := fun sv ov g => by
    cases sv with
    | no => trivial
    | fz d => exact g
    | own d => obtain ⟨q, ho, e1, n, hh, r⟩ := g; exact ⟨q, ho, e1, n, keep _ _ hh, r⟩
  exact { c with
    sub := fun a u e => keep _ _ (c.sub a u e)
    gs := fun i sv e => gd _ _ (c.gs i sv e)
    gt := fun x hx => gd _ _ (c.gt x hx)
    b2 := fun b u e hA => keep _ _ (c.b2 b u e hA) }
theorem se_make {c : Str} {f : FDn} {C : Addr} (hC : mg c = some (.ref C)) {t : TA} {a : DA} (ha : SA K mg P W t a) : SE K mg P W (tMakeS C (spD K mg f) (WE W) t) (dMake c f a) := by
  refine ⟨fun B F ρ σ τ H Q pr cc hp => ?_⟩
  refine ha.bind pr cc hp (fun _ _ _ h => h) id fun rs ρ1 F1 H1 vs c1 b1 hp1 => ?_
  intro x dx hx hdx hne
  have c2 := c1.allocU (o := .own x) hdx
  have hx' : upd H1 dx (.own x) x = none := by rw [upd_ne (Ne.symm hne)]; exact hx
  have c3 := c2.allocO (d := .ins c []) (o := .ins C dx []) hx' (.ins hC .nil)
  have c3' : Cfg K mg B F1 ρ1 σ (((RV.own (.ins c []) :: rs).map RV.stk).zip (V.ref x :: vs) ++ τ) _ := c3.perm (List.Perm.cons _ (stkL_perm b1.length))
  have hb : RBs σ (RV.own (.ins c []) :: rs) (V.ref x :: vs) := .cons trivial b1
  cases e : prep f.io (.own (.ins c []) :: rs) ρ1 with
  | none => rw [e] at hp1; exact hp1.elim
  | some p =>
    obtain ⟨svs, ρ2⟩ := p
    rw [e] at hp1
    simp only at hp1
    obtain ⟨F2, c4, h1, h2⟩ := Cfg.prepL c3' hb e
    obtain ⟨_, k2, k3⟩ := prep_no e
    refine ⟨F2, svs, h2.symm, h1, prep_io e, c4.entry h1, ?_⟩
    have h1s : svs.length = vs.length + 1 := by rw [h1]; rfl
    have h1' : svs.tail.length = vs.length := by
      rw [List.length_tail, h1]
      rfl
    have st : ∀ (as : List SV) (d : D) (F' H' : Hp) (τr : List (SV × V)), as.length + 1 = svs.length → Exit K mg F2 (upd (upd H1 dx (.own x)) x (.ins C dx [])) svs (V.ref x :: vs) F' H' (.own d :: as) τr → Cfg K mg B F' (wb svs.tail rs as ρ2) σ ((.own d, .ref x) :: τ) H' := fun as d F' H' τr hl xx => by
      have c5 := c4.leave xx
      have c6 : Cfg K mg B F' ρ2 σ (as.zip vs ++ ((.own d, .ref x) :: τ)) H' := by
        have c7 : Cfg K mg B F' ρ2 σ ((.own d, .ref x) :: (as.zip vs ++ (τr ++ τ))) H' := c5
        exact (c7.sub' (List.Sublist.cons_cons _ (List.Sublist.append (List.Sublist.refl _) (List.sublist_append_right _ _)))).perm List.perm_middle.symm
      refine Cfg.wbL (svs := svs.tail) c6 b1 (by omega) h1' (fun k i d' e1 e2 => ?_) fun k l i d1 d2 e1 e2 e3 e4 => ?_
      · rw [List.getElem?_tail] at e1
        exact (k2 (k + 1) i d' e1 (by simpa using e2)).1
      · rw [List.getElem?_tail] at e1 e2
        have := k3 (k + 1) (l + 1) i d1 d2 e1 e2 (by simpa using e3) (by simpa using e4)
        omega
    cases er : f.run svs with
    | no => rw [er] at hp1; exact hp1.elim
    | ret sv as =>
      rw [er] at hp1
      intro hl F' H' v xx
      match sv, as, hp1, hl, xx with
      | .fz .non, .own d :: as, hp1, hl, xx =>
        have hl' : as.length + 1 = svs.length := by simpa using hl
        simp only [hl', if_true] at hp1
        have hv : v = .non := by
          have c5 := c4.leave xx
          have g := c5.gt (.fz .non, v) (by simp)
          obtain ⟨w, e1, r⟩ := g
          cases e1
          cases r
          rfl
        exact ⟨hv, hp1 _ _ _ (st as d F' H' _ hl' xx) trivial⟩
    | ex cc fs as =>
      rw [er] at hp1
      intro hl F' H' cls dd xx ev
      match as, hp1, hl, xx with
      | .own d :: as, hp1, hl, xx =>
        have hl' : as.length + 1 = svs.length := by simpa using hl
        simp only [hl', if_true] at hp1
        exact hp1 _ _ _ _ (st as d F' H' _ hl' xx).pop ev
end
section
variable {X : Cx} {P : List Nat} {W : WX} {pos apos p : Pos} {o e : Expr} {es : List Expr} {od : DE} {a : DA} {c m : Str} {k : Nat} {fa C : Addr} {fd : FuncData} {ps : List Str} {f : FDn}
theorem d_methU {pl : Sem Bool} (hC : X.mg c = some (.ref C)) (hc : Cls X.K C) (hm : Meth X.K C m fa) (G : FnOk X.prog X.w X.K X.mg X.base (L2.CX X.prog X.w) k fa fd ps (spD X.K X.mg f)) (hr : Room k X.A) (hb : Binds X.K fd ps []) (tk : Takes X W)
    (ho : PD X P W o od) (ha : PDA X P W (e :: es) a) (hst : starEach (e :: es) X.env = (false, eval e X.env) :: starEach es X.env := by rfl) (hpl : (backTo pos (starEach es X.env)).any (·.1) = false := by rfl)
    (ht : eval (.Call (.Attribute o m apos) (e :: es) [] pos) X.env = (do
      let ov ← eval o X.env
      standAt apos.atName
      let (f, first) ← holding [ov] (getMethod ov m pl)
      callWith pos f first (backTo pos (starEach (e :: es) X.env)) (backToKw pos (keywordEach [] X.env))) := by rfl) :
    PD X P W (.Call (.Attribute o m apos) (e :: es) [] pos) (dMethU c m f od a) := by
  obtain ⟨t, h1, h2⟩ := ho
  obtain ⟨u, r1, r2⟩ := ha
  exact ⟨_, pe_methS h1 hc hm G hr hb (fun σ => passAt tk σ) r1 hst hpl ht, se_methU hC h2 r2⟩
theorem d_methU0 {pl : Sem Bool} (hC : X.mg c = some (.ref C)) (hc : Cls X.K C) (hm : Meth X.K C m fa) (G : FnOk X.prog X.w X.K X.mg X.base (L2.CX X.prog X.w) k fa fd ps (spD X.K X.mg f)) (hr : Room k X.A) (hb : Binds X.K fd ps []) (tk : Takes X W)
    (ho : PD X P W o od)
    (ht : eval (.Call (.Attribute o m apos) [] [] pos) X.env = (do
      let ov ← eval o X.env
      standAt apos.atName
      let (f, first) ← holding [ov] (getMethod ov m pl)
      callWith pos f first (backTo pos (starEach [] X.env)) (backToKw pos (keywordEach [] X.env))) := by rfl) :
    PD X P W (.Call (.Attribute o m apos) [] [] pos) (dMethU c m f od dNil) := by
  obtain ⟨t, h1, h2⟩ := ho
  exact ⟨_, pe_methS0 h1 hc hm G hr hb (fun σ => passAt tk σ) ht, se_methU hC h2 sa_nil⟩
theorem d_make {x : Str} (M : Mk X.K C fa) (G : FnOk X.prog X.w X.K X.mg X.base (L2.CX X.prog X.w) k fa fd ps (spD X.K X.mg f)) (hr : Room (k + 1) X.A) (hg : Gl X x) (hm : X.mg x = some (.ref C)) (hb : Binds X.K fd ps []) (tk : Takes X W)
    (ha : PDA X P W (e :: es) a) (hdb : (x == ("__debug__" : Str)) = false := by decide) (he : starEach (e :: es) X.env = (false, eval e X.env) :: starEach es X.env := by rfl) (hpl : (backTo pos (starEach es X.env)).any (·.1) = false := by rfl) :
    PD X P W (.Call (.Name x p) (e :: es) [] pos) (dMake x f a) := by
  obtain ⟨u, r1, r2⟩ := ha
  exact ⟨_, pe_makeS M G hr hg hm hb (fun σ => passAt tk σ) r1 hdb he hpl, se_make hm r2⟩
end
end PD
set_option Elab.async false
set_option linter.all false
set_option maxRecDepth 100000
set_option autoImplicit false
set_option maxHeartbeats 4000000
/-! PD: defs by their names. -/
namespace PD
open PySem PySem.Spec PyProof.Rows L2

/-- a def that stands under its name, and what it computes -/
structure Cal (P : Program) (w : World) (K : PySem.W.Frag) (mg : Str → Option Value) (base : Heap) (x : Str) (k : Nat) (ps : List Str) (f : FDn) : Prop where
  ex : ∃ fa fd, FnOk P w K mg base (L2.CX P w) k fa fd ps (spD K mg f) ∧ mg x = some (.ref fa) ∧ PySem.W.keepIn K (.ref fa) = true ∧ Binds K fd ps []
/-- a method of the class c -/
structure CalM (P : Program) (w : World) (K : PySem.W.Frag) (mg : Str → Option Value) (base : Heap) (c m : Str) (k : Nat) (ps : List Str) (f : FDn) : Prop where
  ex : ∃ C fa fd, FnOk P w K mg base (L2.CX P w) k fa fd ps (spD K mg f) ∧ mg c = some (.ref C) ∧ Cls K C ∧ Meth K C m fa ∧ Binds K fd ps []
/-- a class that is made -/
structure CalC (P : Program) (w : World) (K : PySem.W.Frag) (mg : Str → Option Value) (base : Heap) (c : Str) (k : Nat) (ps : List Str) (f : FDn) : Prop where
  ex : ∃ C fa fd, FnOk P w K mg base (L2.CX P w) k fa fd ps (spD K mg f) ∧ mg c = some (.ref C) ∧ Mk K C fa ∧ Binds K fd ps []
theorem takes0 {X : Cx} : Takes X W0 := fun u s' ⟨_, _, _, _, _, _, _, _, _, _, _, _, _, _, _, _, h⟩ => h.elim
section
variable {X : Cx} {P : List Nat} {W : WX} {pos apos p : Pos} {x c m : Str} {o e : Expr} {es : List Expr} {d : DA} {od : DE} {k j : Nat} {ps : List Str} {f : FDn}
theorem d_cal (G : Cal X.prog X.w X.K X.mg X.base x k ps f) (hr : Room j X.A) (hj : k ≤ j) (hg : Gl X x) (tk : Takes X W) (h : PDA X P W (e :: es) d) (hdb : (x == ("__debug__" : Str)) = false := by decide) (he : starEach (e :: es) X.env = (false, eval e X.env) :: starEach es X.env := by rfl)
    (hpl : (backTo pos (starEach es X.env)).any (·.1) = false := by rfl) : PD X P W (.Call (.Name x p) (e :: es) [] pos) (dCall f d) := by
  obtain ⟨fa, fd, G, hm, hk, hb⟩ := G.ex
  exact d_call G (hr.mono hj) hg hm hk hb tk h hdb he hpl
theorem d_fnv (G : Cal X.prog X.w X.K X.mg X.base x k ps f) (hg : Gl X x) (hd : (x == ("__debug__" : Str)) = false := by decide) : PD X P W (.Name x pos) (dC (.fn x)) := by
  obtain ⟨fa, fd, G, hm, hk, hb⟩ := G.ex
  exact d_fn hg hm hk hd
theorem d_calM {pl : Sem Bool} (G : CalM X.prog X.w X.K X.mg X.base c m k ps f) (hr : Room j X.A) (hj : k ≤ j) (tk : Takes X W) (ho : PD X P W o od) (ha : PDA X P W (e :: es) d)
    (hst : starEach (e :: es) X.env = (false, eval e X.env) :: starEach es X.env := by rfl) (hpl : (backTo pos (starEach es X.env)).any (·.1) = false := by rfl)
    (ht : eval (.Call (.Attribute o m apos) (e :: es) [] pos) X.env = (do
      let ov ← eval o X.env
      standAt apos.atName
      let (f, first) ← holding [ov] (getMethod ov m pl)
      callWith pos f first (backTo pos (starEach (e :: es) X.env)) (backToKw pos (keywordEach [] X.env))) := by rfl) : PD X P W (.Call (.Attribute o m apos) (e :: es) [] pos) (dMethU c m f od d) := by
  obtain ⟨C, fa, fd, G, hC, hc, hm, hb⟩ := G.ex
  exact d_methU hC hc hm G (hr.mono hj) hb tk ho ha hst hpl ht
theorem d_calM0 {pl : Sem Bool} (G : CalM X.prog X.w X.K X.mg X.base c m k ps f) (hr : Room j X.A) (hj : k ≤ j) (tk : Takes X W) (ho : PD X P W o od)
    (ht : eval (.Call (.Attribute o m apos) [] [] pos) X.env = (do
      let ov ← eval o X.env
      standAt apos.atName
      let (f, first) ← holding [ov] (getMethod ov m pl)
      callWith pos f first (backTo pos (starEach [] X.env)) (backToKw pos (keywordEach [] X.env))) := by rfl) : PD X P W (.Call (.Attribute o m apos) [] [] pos) (dMethU c m f od dNil) := by
  obtain ⟨C, fa, fd, G, hC, hc, hm, hb⟩ := G.ex
  exact d_methU0 hC hc hm G (hr.mono hj) hb tk ho ht
theorem d_calC (G : CalC X.prog X.w X.K X.mg X.base x k ps f) (hr : Room j X.A) (hj : k + 1 ≤ j) (hg : Gl X x) (tk : Takes X W) (ha : PDA X P W (e :: es) d) (hdb : (x == ("__debug__" : Str)) = false := by decide) (he : starEach (e :: es) X.env = (false, eval e X.env) :: starEach es X.env := by rfl)
    (hpl : (backTo pos (starEach es X.env)).any (·.1) = false := by rfl) : PD X P W (.Call (.Name x p) (e :: es) [] pos) (dMake x f d) := by
  obtain ⟨C, fa, fd, G, hm, M, hb⟩ := G.ex
  exact d_make M G (hr.mono hj) hg hm hb tk ha hdb he hpl
end
/-- a def's promise from its body -/
theorem cal_ok {PP : Program} {w : World} {K : PySem.W.Frag} {mg : Str → Option Value} {base : Heap} {x qual : Str} {st : Stmt} {f : Addr} {fd : FuncData} {N ps : List Str} {k : Nat} (io : List Bool) (s : DS)
    (Fn : Fun K x qual st f fd) (hm : mg x = some (.ref f)) (hk : PySem.W.keepIn K (.ref f) = true) (hb : Binds K fd ps []) (S : FnScope N ps (defScope st)) (hio : io.length = ps.length)
    (hbody : ∀ (cdv : Value) (A : Around) (outer : List Env) (sh : Shared) (H : Hp) (E : XK), Room k (A.deeper (envOfC qual (defScope st) sh.heap.objs.size f cdv)) →
      PDSs (cxOf (L2.CX PP w) PP w K mg base N qual (defScope st) f cdv A outer sh H E) (ioP io 0) (fun cls d _ H => E cls d H) (defBody st) s) :
    Cal PP w K mg base x (k + 1) ps (mkF io N.length s) := ⟨f, fd, fn_ok io s Fn S hio hbody, hm, hk, hb⟩
end PD
set_option Elab.async false
set_option linter.all false
set_option maxRecDepth 100000
set_option autoImplicit false
set_option maxHeartbeats 4000000
/-! PD: the rules in short. -/
namespace PD
open PySem PySem.Spec PyProof.Rows L2
section
variable {X : Cx} {P : List Nat} {W : WX} {pos p : Pos} {a b c : Expr} {da db dc : DE} {es : List Expr} {e : Expr} {d : DA}
/-! ### operators -/
theorem q_add (h : PD X P W a da) (h' : PD X P W b db) : PD X P W (.BinOp a .Add b pos) (dOp2 (orD addI (orD catL (orD catT catS))) da db) := d_op (ok_addI.orD (ok_catL.orD (ok_catT.orD ok_catS))) (OpR.or op_add (OpR.or op_cat (OpR.or op_catA op_add_str))) h h'
theorem q_sub (h : PD X P W a da) (h' : PD X P W b db) : PD X P W (.BinOp a .Sub b pos) (dOp2 subD da db) := d_op ok_sub op_sub h h'
theorem q_mul (h : PD X P W a da) (h' : PD X P W b db) : PD X P W (.BinOp a .Mult b pos) (dOp2 (orD mulI repL) da db) := d_op (ok_mulI.orD ok_repL) (OpR.or op_mul op_rep) h h'
theorem q_mod (h : PD X P W a da) (h' : PD X P W b db) : PD X P W (.BinOp a .Mod b pos) (dOp2 modD da db) := d_op ok_mod op_modN h h'
theorem q_fdiv (h : PD X P W a da) (h' : PD X P W b db) : PD X P W (.BinOp a .FloorDiv b pos) (dOp2 fdivD da db) := d_op ok_fdiv op_fdivL h h'
theorem q_pow (h : PD X P W a da) (h' : PD X P W b db) : PD X P W (.BinOp a .Pow b pos) (dOp2 powD da db) := d_op ok_pow op_pow h h'
theorem q_xor (h : PD X P W a da) (h' : PD X P W b db) : PD X P W (.BinOp a .BitXor b pos) (dOp2 xorD da db) := d_op ok_xor op_xor h h'
theorem q_neg (h : PD X P W a da) : PD X P W (.UnaryOp .USub a pos) (dOp1 negD da) := d_un ok_neg un_neg h
theorem q_lt (h : PD X P W a da) (h' : PD X P W b db) : PD X P W (.Compare a [.Lt] [b] pos) (dOp2 ltI da db) := d_cmp ok_lt op_lt h h' (nomark _)
theorem q_le (h : PD X P W a da) (h' : PD X P W b db) : PD X P W (.Compare a [.LtE] [b] pos) (dOp2 leI da db) := d_cmp ok_le op_le h h' (nomark _)
theorem q_gt (h : PD X P W a da) (h' : PD X P W b db) : PD X P W (.Compare a [.Gt] [b] pos) (dOp2 gtI da db) := d_cmp ok_gt op_gt h h' (nomark _)
theorem q_ge (h : PD X P W a da) (h' : PD X P W b db) : PD X P W (.Compare a [.GtE] [b] pos) (dOp2 geI da db) := d_cmp ok_ge op_ge h h' (nomark _)
theorem q_eq (hu : X.A.units + 64 < cLine) (h : PD X P W a da) (h' : PD X P W b db) : PD X P W (.Compare a [.Eq] [b] pos) (dOp2 eqD da db) := d_cmp ok_eq (op_eqD hu) h h' (nomark _)
theorem q_ne (hu : X.A.units + 64 < cLine) (h : PD X P W a da) (h' : PD X P W b db) : PD X P W (.Compare a [.NotEq] [b] pos) (dOp2 neD da db) := d_cmp ok_ne (op_neD hu) h h' (nomark _)
theorem q_isN (h : PD X P W a da) (h' : PD X P W b db) : PD X P W (.Compare a [.Is] [b] pos) (dOp2 isN da db) := d_cmp ok_isN op_isN h h' (nomark _)
theorem q_notN (h : PD X P W a da) (h' : PD X P W b db) : PD X P W (.Compare a [.IsNot] [b] pos) (dOp2 notN da db) := d_cmp ok_notN op_notN h h' (nomark _)
theorem t_lt (h : PD X P W a da) (h' : PD X P W b db) : PDT X P W (.Compare a [.Lt] [b] pos) (dB (dOp2 ltI da db)) := d_cmpT ok_lt op_lt h h' (nomark _)
theorem t_le (h : PD X P W a da) (h' : PD X P W b db) : PDT X P W (.Compare a [.LtE] [b] pos) (dB (dOp2 leI da db)) := d_cmpT ok_le op_le h h' (nomark _)
theorem t_gt (h : PD X P W a da) (h' : PD X P W b db) : PDT X P W (.Compare a [.Gt] [b] pos) (dB (dOp2 gtI da db)) := d_cmpT ok_gt op_gt h h' (nomark _)
theorem t_ge (h : PD X P W a da) (h' : PD X P W b db) : PDT X P W (.Compare a [.GtE] [b] pos) (dB (dOp2 geI da db)) := d_cmpT ok_ge op_ge h h' (nomark _)
theorem t_eq (hu : X.A.units + 64 < cLine) (h : PD X P W a da) (h' : PD X P W b db) : PDT X P W (.Compare a [.Eq] [b] pos) (dB (dOp2 eqD da db)) := d_cmpT ok_eq (op_eqD hu) h h' (nomark _)
theorem t_ne (hu : X.A.units + 64 < cLine) (h : PD X P W a da) (h' : PD X P W b db) : PDT X P W (.Compare a [.NotEq] [b] pos) (dB (dOp2 neD da db)) := d_cmpT ok_ne (op_neD hu) h h' (nomark _)
theorem t_isN (h : PD X P W a da) (h' : PD X P W b db) : PDT X P W (.Compare a [.Is] [b] pos) (dB (dOp2 isN da db)) := d_cmpT ok_isN op_isN h h' (nomark _)
theorem t_notN (h : PD X P W a da) (h' : PD X P W b db) : PDT X P W (.Compare a [.IsNot] [b] pos) (dB (dOp2 notN da db)) := d_cmpT ok_notN op_notN h h' (nomark _)
/-! a < b < c of ints: each of < and <= -/
theorem q_lele (h : PD X P W a da) (h1 : PD X P W b db) (h2 : PD X P W c dc) (hm : lastMarks [.LtE, .LtE] [b, c] = false := by rfl) : PD X P W (.Compare a [.LtE, .LtE] [b, c] pos) (dChain leI leI da db dc) := d_chain ok_le ok_le op_le op_le h h1 h2 hm
theorem q_lelt (h : PD X P W a da) (h1 : PD X P W b db) (h2 : PD X P W c dc) (hm : lastMarks [.LtE, .Lt] [b, c] = false := by rfl) : PD X P W (.Compare a [.LtE, .Lt] [b, c] pos) (dChain leI ltI da db dc) := d_chain ok_le ok_lt op_le op_lt h h1 h2 hm
theorem t_lele (h : PD X P W a da) (h1 : PD X P W b db) (h2 : PD X P W c dc) (hm : lastMarks [.LtE, .LtE] [b, c] = false := by rfl) : PDT X P W (.Compare a [.LtE, .LtE] [b, c] pos) (dB (dChain leI leI da db dc)) := d_chainT ok_le ok_le op_le op_le h h1 h2 hm
theorem t_lelt (h : PD X P W a da) (h1 : PD X P W b db) (h2 : PD X P W c dc) (hm : lastMarks [.LtE, .Lt] [b, c] = false := by rfl) : PDT X P W (.Compare a [.LtE, .Lt] [b, c] pos) (dB (dChain leI ltI da db dc)) := d_chainT ok_le ok_lt op_le op_lt h h1 h2 hm
/-! ### built-in calls -/
theorem q_len (hm : X.mg "len" = none) (h : PDA X P W (e :: es) d) (hg : Gl X "len" := by rfl) (he : starEach (e :: es) X.env = (false, eval e X.env) :: starEach es X.env := by rfl) (hpl : (backTo pos (starEach es X.env)).any (·.1) = false := by rfl) : PD X P W (.Call (.Name "len" p) (e :: es) [] pos) (dOpN lenD d) := d_callB ok_len call_len hg hm boot_len h (he := he) (hpl := hpl)
theorem q_abs (hm : X.mg "abs" = none) (h : PDA X P W (e :: es) d) (hc : X.calm = true := by rfl) (hg : Gl X "abs" := by rfl) (he : starEach (e :: es) X.env = (false, eval e X.env) :: starEach es X.env := by rfl) (hpl : (backTo pos (starEach es X.env)).any (·.1) = false := by rfl) : PD X P W (.Call (.Name "abs" p) (e :: es) [] pos) (dOpN absD d) := d_callB ok_abs call_abs hg hm boot_abs h (he := he) (hpl := hpl)
theorem q_max2 (hm : X.mg "max" = none) (h : PDA X P W (e :: es) d) (hc : X.calm = true := by rfl) (hg : Gl X "max" := by rfl) (he : starEach (e :: es) X.env = (false, eval e X.env) :: starEach es X.env := by rfl) (hpl : (backTo pos (starEach es X.env)).any (·.1) = false := by rfl) : PD X P W (.Call (.Name "max" p) (e :: es) [] pos) (dOpN max2D d) := d_callB ok_max2 (call_max2 hc) hg hm boot_max h (he := he) (hpl := hpl)
theorem q_min2 (hm : X.mg "min" = none) (h : PDA X P W (e :: es) d) (hc : X.calm = true := by rfl) (hg : Gl X "min" := by rfl) (he : starEach (e :: es) X.env = (false, eval e X.env) :: starEach es X.env := by rfl) (hpl : (backTo pos (starEach es X.env)).any (·.1) = false := by rfl) : PD X P W (.Call (.Name "min" p) (e :: es) [] pos) (dOpN min2D d) := d_callB ok_min2 (call_min2 hc) hg hm boot_min h (he := he) (hpl := hpl)
theorem q_min4 (hm : X.mg "min" = none) (h : PDA X P W (e :: es) d) (hc : X.calm = true := by rfl) (hg : Gl X "min" := by rfl) (he : starEach (e :: es) X.env = (false, eval e X.env) :: starEach es X.env := by rfl) (hpl : (backTo pos (starEach es X.env)).any (·.1) = false := by rfl) : PD X P W (.Call (.Name "min" p) (e :: es) [] pos) (dOpN min4D d) := d_callB ok_min4 (call_min4 hc) hg hm boot_min h (he := he) (hpl := hpl)
theorem q_max1 (hm : X.mg "max" = none) (h : PDA X P W (e :: es) d) (hc : X.calm = true := by rfl) (hg : Gl X "max" := by rfl) (he : starEach (e :: es) X.env = (false, eval e X.env) :: starEach es X.env := by rfl) (hpl : (backTo pos (starEach es X.env)).any (·.1) = false := by rfl) : PD X P W (.Call (.Name "max" p) (e :: es) [] pos) (dOpN max1D d) := d_callB ok_max1 (cr_max hc) hg hm boot_max h (he := he) (hpl := hpl)
theorem q_min1 (hm : X.mg "min" = none) (h : PDA X P W (e :: es) d) (hc : X.calm = true := by rfl) (hg : Gl X "min" := by rfl) (he : starEach (e :: es) X.env = (false, eval e X.env) :: starEach es X.env := by rfl) (hpl : (backTo pos (starEach es X.env)).any (·.1) = false := by rfl) : PD X P W (.Call (.Name "min" p) (e :: es) [] pos) (dOpN min1D d) := d_callB ok_min1 (cr_min hc) hg hm boot_min h (he := he) (hpl := hpl)
theorem q_int (hm : X.mg "int" = none) (h : PDA X P W (e :: es) d) (hc : X.calm = true := by rfl) (hg : Gl X "int" := by rfl) (he : starEach (e :: es) X.env = (false, eval e X.env) :: starEach es X.env := by rfl) (hpl : (backTo pos (starEach es X.env)).any (·.1) = false := by rfl) : PD X P W (.Call (.Name "int" p) (e :: es) [] pos) (dOpN intD d) := d_callTy ok_int call_int1 hg hm boot_int h (he := he) (hpl := hpl)
theorem q_sum (hm : X.mg "sum" = none) (h : PDA X P W (e :: es) d) (hc : X.calm = true := by rfl) (hg : Gl X "sum" := by rfl) (he : starEach (e :: es) X.env = (false, eval e X.env) :: starEach es X.env := by rfl) (hpl : (backTo pos (starEach es X.env)).any (·.1) = false := by rfl) : PD X P W (.Call (.Name "sum" p) (e :: es) [] pos) (dOpN sumD d) := d_callB ok_sum (cr_sum hc) hg hm boot_sum h (he := he) (hpl := hpl)
theorem q_all (hm : X.mg "all" = none) (h : PDA X P W (e :: es) d) (hc : X.calm = true := by rfl) (hg : Gl X "all" := by rfl) (he : starEach (e :: es) X.env = (false, eval e X.env) :: starEach es X.env := by rfl) (hpl : (backTo pos (starEach es X.env)).any (·.1) = false := by rfl) : PD X P W (.Call (.Name "all" p) (e :: es) [] pos) (dOpN allD d) := d_callB ok_all (cr_all hc) hg hm boot_all h (he := he) (hpl := hpl)
theorem q_any (hm : X.mg "any" = none) (h : PDA X P W (e :: es) d) (hc : X.calm = true := by rfl) (hg : Gl X "any" := by rfl) (he : starEach (e :: es) X.env = (false, eval e X.env) :: starEach es X.env := by rfl) (hpl : (backTo pos (starEach es X.env)).any (·.1) = false := by rfl) : PD X P W (.Call (.Name "any" p) (e :: es) [] pos) (dOpN anyD d) := d_callB ok_any (cr_any hc) hg hm boot_any h (he := he) (hpl := hpl)
theorem q_tuple (hm : X.mg "tuple" = none) (h : PDA X P W (e :: es) d) (hc : X.calm = true := by rfl) (hg : Gl X "tuple" := by rfl) (he : starEach (e :: es) X.env = (false, eval e X.env) :: starEach es X.env := by rfl) (hpl : (backTo pos (starEach es X.env)).any (·.1) = false := by rfl) : PD X P W (.Call (.Name "tuple" p) (e :: es) [] pos) (dOpN tupleD d) := d_callTy ok_tuple call_tuple_of hg hm boot_tuple h (he := he) (hpl := hpl)
theorem q_list (hm : X.mg "list" = none) (h : PDA X P W (e :: es) d) (hc : X.calm = true := by rfl) (hg : Gl X "list" := by rfl) (he : starEach (e :: es) X.env = (false, eval e X.env) :: starEach es X.env := by rfl) (hpl : (backTo pos (starEach es X.env)).any (·.1) = false := by rfl) : PD X P W (.Call (.Name "list" p) (e :: es) [] pos) (dOpN listD d) := d_callTy ok_list call_list_of hg hm boot_list h (he := he) (hpl := hpl)
theorem q_sorted (hm : X.mg "sorted" = none) (h : PDA X P W (e :: es) d) (hc : X.calm = true := by rfl) (hg : Gl X "sorted" := by rfl) (he : starEach (e :: es) X.env = (false, eval e X.env) :: starEach es X.env := by rfl) (hpl : (backTo pos (starEach es X.env)).any (·.1) = false := by rfl) : PD X P W (.Call (.Name "sorted" p) (e :: es) [] pos) (dOpN srtD d) := d_callB ok_srt (op_srt hc) hg hm boot_sorted h (he := he) (hpl := hpl)
theorem q_isi (hm : X.mg "isinstance" = none) (h : PDA X P W (e :: es) d) (hc : X.calm = true := by rfl) (hg : Gl X "isinstance" := by rfl) (he : starEach (e :: es) X.env = (false, eval e X.env) :: starEach es X.env := by rfl) (hpl : (backTo pos (starEach es X.env)).any (·.1) = false := by rfl) : PD X P W (.Call (.Name "isinstance" p) (e :: es) [] pos) (dOpN isiD d) := d_callB ok_isi op_isi hg hm boot_isinstance h (he := he) (hpl := hpl)
end
end PD
set_option Elab.async false
set_option linter.all false
set_option maxRecDepth 100000
set_option autoImplicit false
set_option maxHeartbeats 4000000
/-! PD: d.pop(k), the key there, a tuple. -/
namespace PD
open PySem PySem.Spec PyProof.Rows L2
section
variable {Kk : Type} [DecidableEq Kk] {prog : Program} {w : World} {knd : HeapKind prog w Kk}
theorem meets_pop1 {d b : Addr} {k : Kk} :
    MeetsIn prog w (Builtin.«dict.pop» ⟨[.ref d, .ref b], []⟩) (fun A R s => ∃ xs, knd.room A.in1 ∧ knd.is s.heap k b ∧ s.heap.DictOfH knd d xs ∧ xs.length ≤ sizeLine ∧ (atKey xs k).isSome = true ∧
      ∀ p, atKey xs k = some p → ∀ h' tk, h'.DictOfH knd d (DT.dropH xs k) → Heap.SameBut d s.heap h' → R (.ok (.ret p.2)) { s with heap := h', toks := tk }) :=
  .of_wp fun A R s ⟨xs, hu, hkey, hm, hsz, hin, hsome⟩ => by
    obtain ⟨o, es, ep, ho, hc, hdat, he, his, hn⟩ := id hm
    have hes : es.size = xs.length := size_of_entries he
    have hpart : (keyPart (Value.ref b)).isSome = false := rfl
    unfold Builtin.«dict.pop»
    refine wpAny_bind ?_
    unfold Builtin.Dict.keyAndDefault
    refine wpAny_bind (wpAny_notOrdered_dict hm.typeIs ?_)
    show wpAny _ _ (pure (d, Value.ref b, none)) _ _ s
    refine wpAny_pure ?_
    simp only [hpart, Bool.false_eq_true, if_false]
    refine wpAny_bind (wpAny_dictEntries ho hdat (wpAny_bind (wpAny_pure ?_)))
    cases hem : es.isEmpty with
    | true =>
      exfalso
      have h0 : xs = [] := by
        have z : es.size = 0 := by simpa using hem
        exact List.length_eq_zero_iff.mp (by omega)
      subst h0
      simp [atKey] at hin
    | false =>
      simp only [Bool.false_eq_true, if_false]
      refine wpAny_bind (DT.takeH hu hkey hm hsz (fun hno => ?_) fun p e hp hev h' hm' hs' => ?_)
      · rw [hno] at hin; cases hin
      · simp only [Option.isNone_some, Bool.false_eq_true, if_false]
        exact wpAny_bind (wpAny_letGo (wpAny_pure ⟨e.val, rfl, by rw [hev]; exact hsome p hp h' _ hm' hs'⟩))
end
section
variable {X : Cx}
def rPop1T : V → List V → Hp → VK → Prop := fun x xs H Q => ∃ (a : Addr) (kvs : List (List L2.Key × V)) (k : List L2.Key) (b : Addr) (v : V), x = .ref a ∧ xs = [.ref b] ∧ H a = some (.dT kvs) ∧ H b = some (.tup (k.map kV)) ∧
  valV kvs k = some v ∧ Q v (upd H a (.dT (dropK kvs k)))
theorem mt_pop1T (hu : X.A.units + 1 < cLine) : MtR X "dict.pop" rPop1T := by
  intro pins s σ H x xs v us Q I rx rxs h
  obtain ⟨a, kvs, k, b, v0, rfl, rfl, ha, hb, hv, q⟩ := h
  cases rx
  obtain ⟨u, rfl, ru⟩ := rxs.one
  cases ru
  obtain ⟨z, hd, xs', rel, dd⟩ := dt_of I.hok ha
  have hz : xs'.length ≤ sizeLine := by rw [← Paired.length rel]; exact z
  have r := rel.val k
  rw [hv] at r
  refine call_meetsIn PySem.F.slot_dict_pop dd.typeIs PySem.F.entry_dict_pop (PySem.F.args_dict_pop_2 _ _) (meets_pop1 (knd := tupleKind (mixKind X.prog X.w)) (k := k))
    ⟨xs', tupleKind_room_in1 hu, key_of I.hok hb, dd, hz, ?_, fun p hp h' tk dd' hs => ?_⟩
  · cases e : atKey xs' k with
    | none => rw [e] at r; exact (show False from r).elim
    | some _ => rfl
  · rw [hp] at r
    obtain ⟨o, es, ep, hq, h2, h3, h4, _, h5⟩ := dd'
    have I2 : Inv X pins σ (upd H a (.dT (dropK kvs k))) { s with heap := h', toks := tk } :=
      d_write I (by rw [ha]; exact True.intro) hs ⟨o, hq⟩ ⟨Nat.le_trans (dropK_le kvs k) z, hd, _, (L2.DX.KT_drop k rel).keeps (fun c ys ec => (by rw [upd_ne (ne_of ec ha (fun z => nomatch z))]; exact ec)), o, es, ep, hq, h2, h3, h4, h5⟩
    show EP X pins σ Q p.2 _
    exact ⟨v0, _, I2, r, q⟩
end
def dropT (kvs : List (D × D)) (k : List Key) : List (D × D) := dropD kvs (.inr k)
def pop1D : D → List D → Option (D × RV)
  | .dct true kvs, [key] => match keyD key with
    | some (.inr k) => match lookD kvs (.inr k) with
      | some d => some (.dct true (dropD kvs (.inr k)), .fz d)
      | none => none
    | _ => none
  | _, _ => none
section
variable {K : PySem.W.Frag} {mg : Str → Option Value} {F H : Hp}
theorem DTs.drop1 {kvs : List (D × D)} {ks : List (List Key × V)} (h : DTs K mg F kvs ks) (k : List Key) : DTs K mg F (dropD kvs (.inr k)) (dropK ks k) := by
  unfold dropD dropK
  induction kvs generalizing ks with
  | nil => cases h; exact .nil
  | cons p r ih =>
    cases h with
    | cons h1 hr =>
      rename_i k' d' v' vs
      by_cases e : k' = k
      · subst e
        rw [List.filter_cons_of_neg (by simp [keyD_tkD]), List.filter_cons_of_neg (by simp)]
        exact ih hr
      · rw [List.filter_cons_of_pos (by simp [keyD_tkD, e]), List.filter_cons_of_pos (by simp [e])]
        exact .cons h1 (ih hr)
theorem ok_pop1 : OKm K mg rPop1T pop1D := by
  refine ⟨fun B F ρ σ τ H p i d d' ds vs rv Q c e1 e2 hd e gt => ?_, fun d ds d' rv e => ?_⟩
  · obtain ⟨q, ho, e3, n, hh, r⟩ := c.own_slot e1
    rw [e2] at e3
    cases e3
    cases r with
    | @dT kvs ks r1 =>
      match ds, hd, e with
      | [key], hd, e =>
        obtain ⟨v, rfl, hv⟩ := hd.inv1
        replace e : (match keyD key with
          | some (.inr k) => match lookD kvs (.inr k) with
            | some d => some (PD.D.dct true (dropD kvs (.inr k)), RV.fz d)
            | none => none
          | _ => none) = some (d', rv) := e
        cases qk : keyD key with
        | none => rw [qk] at e; cases e
        | some kq =>
          rw [qk] at e
          cases kq with
          | inl _ => cases e
          | inr k =>
            simp only at e
            have := keyD_inr qk
            subst this
            obtain ⟨bb, ey, hbb⟩ := hv.tkey
            subst ey
            rcases r1.look k with ⟨a1, a2⟩ | ⟨d1, v1, a1, a2, a3⟩
            · rw [a1] at e; cases e
            · rw [a1] at e
              cases e
              exact ⟨p, ks, k, bb, v1, rfl, rfl, hh, c.sub _ _ hbb, a2, gt _ _ _ ((c.mutS e1 e2 (.dT (r1.drop1 k))).push a3)⟩
    | lst r1 => cases ds <;> cases e
    | dK r1 => cases ds <;> cases e
    | ins _ r1 => cases ds <;> cases e
  · unfold pop1D at e
    split at e
    · split at e
      · split at e <;> (cases e <;> rfl)
      · cases e
    · cases e
end
section
variable {X : Cx} {P : List Nat} {W : WX} {pos apos cpos : Pos} {o e : Expr} {od : DE} {a : DA}
theorem d_popT (hu : X.A.units + 1 < cLine) (ho : PD X P W o od) (ha : PDA X P W [e] a) (hb : attributeBase o "pop" X.env (eval o X.env) = eval o X.env := by rfl)
    (h2 : (((backTo cpos (starEach [e] X.env)).all fun x => !x.1) && ((backToKw cpos (keywordEach [] X.env)).all fun x => x.1.isSome) && decide ([e].length + ([] : List Keyword).length + (if ([] : List Keyword).isEmpty then 0 else 1) < 30)) = true := by rfl)
    (h3 : (apos.endLine == cpos.line) = true := by rfl) (he : starEach [e] X.env = (false, eval e X.env) :: starEach [] X.env := by rfl) (hpl : (backTo cpos (starEach [] X.env)).any (·.1) = false := by rfl) :
    PD X P W (.Call (.Attribute o "pop" apos) [e] [] cpos) (dMut "dict" pop1D od a) := d_mut ok_pop1 PySem.F.plainAttrs_dict PySem.F.slot_dict_pop PySem.F.type_dict_pop (mt_pop1T hu) ho ha hb h2 h3 he hpl
end
end PD
set_option Elab.async false
set_option linter.all false
set_option maxRecDepth 100000
set_option autoImplicit false
set_option maxHeartbeats 4000000
/-! PD: list(zip(a, b)). -/
namespace PD
open PySem PySem.Spec PyProof.Rows L2 PySem.W
section
variable {prog : Program} {w : World} {A : Around} {E : Value → Shared → Prop} {s : Shared} {l m : Bool}
theorem nextS_item {it a : Addr} {i : Nat} {xs : Array Value} {x : Value} {Q : Value → Shared → Prop} (hit : ItS l s.heap it a i) (hl : IsS l s.heap a xs) (hx : xs[i]? = some x)
    (hQ : ∀ h', ItS l h' it a (i + 1) → Heap.SameBut it s.heap h' → Q x { s with heap := h' }) : wpAny (model prog w) A (Builtin.SmallTypes.nextOf (.ref it)) Q E s := by
  cases l with
  | true => exact wpAny_nextOf_list_item hit hl hx hQ
  | false => exact wpAny_nextOf_tuple_item hit hl hx hQ
theorem nextS_end {it a : Addr} {i : Nat} {xs : Array Value} {Q : Value → Shared → Prop} (hh : A.handled = none) (hit : ItS l s.heap it a i) (hl : IsS l s.heap a xs) (hx : xs[i]? = none)
    (hE : ∀ h' e, Heap.ExtBut it s.heap h' → (∃ o, h'.get? e = some o ∧ o.cls = .type "StopIteration") → E (.ref e) { s with heap := h' }) : wpAny (model prog w) A (Builtin.SmallTypes.nextOf (.ref it)) Q E s := by
  cases l with
  | true => exact wpAny_nextOf_list_end hh hit hl hx hE
  | false => exact wpAny_nextOf_tuple_end hh hit hl hx hE
theorem IsS.at' {h h' : Heap} {a : Addr} {xs : Array Value} (hl : IsS l h a xs) (k : ∀ o, h.get? a = some o → h'.get? a = some o) : IsS l h' a xs := by
  cases l with
  | true => exact Heap.IsList.at hl k
  | false => exact Heap.IsTuple.at hl k
/-- the cells of a zip, apart from one another and from what it goes through -/
structure Zp (z TI TO i1 i2 a b : Addr) : Prop where
  S : ZipSep2 z TI TO i1 i2 [i1, a] [i2, b]
  ai : a ≠ i1
  bi : b ≠ i2
  az : a ≠ z
  bz : b ≠ z
  ab : a ≠ i2
  ba : b ≠ i1
  ii : i1 ≠ i2
theorem zipH_item {z TI TO T i1 i2 a b : Addr} {f : Bool} {oT : Obj} {k : Nat} {xs ys : Array Value} {x y : Value} {Q : Option Value → Shared → Prop} (D : Zp z TI TO i1 i2 a b)
    (hz : IsZipHeld s.heap z TI TO T f) (hT : s.heap.get? T = some oT) (hTI : IsTupOf2 s.heap TI (.ref i1) (.ref i2))
    (h1 : ItS l s.heap i1 a k) (h2 : ItS m s.heap i2 b k) (hl1 : IsS l s.heap a xs) (hl2 : IsS m s.heap b ys) (hx : xs[k]? = some x) (hy : ys[k]? = some y)
    (hQ : ∀ h', IsZipHeld h' z TI TO T true → ItS l h' i1 a (k + 1) → ItS m h' i2 b (k + 1) → IsTupOf2 h' s.heap.objs.size x y → h'.objs.size = s.heap.objs.size + 1 →
      (∀ c o, c ≠ z → c ≠ i1 → c ≠ i2 → s.heap.get? c = some o → h'.get? c = some o) → Q (some (.ref s.heap.objs.size)) { s with heap := h' }) :
    wpAny (model prog w) A (pyNext (.ref z)) Q E s := by
  have zi1 := D.S.zi1
  have zi2 := D.S.zi2
  have hTy : s.TypeIs (.ref z) "zip" := ⟨_, hz, rfl⟩
  unfold pyNext
  refine wpAny_bind (wpAny_attempt (wpAny_callSpecial?_slot (name := Str.ofString "__next__") hTy F.slot_zip_next
    (wpAny_call_entry F.slot_zip_next hTy F.entry_zip_next ?_ (F.args_zip_next_1 _))))
  show wpAny _ _ (field (.ref z) 2 >>= _) _ _ _
  refine wpAny_bind (wpAny_field hz rfl (x := .bool false) rfl ?_)
  show wpAny _ _ (field (.ref z) 3 >>= _) _ _ _
  refine wpAny_bind (wpAny_field hz rfl (x := .ref TI) rfl ?_)
  refine wpAny_bind (wpAny_seqItems hTI rfl ?_)
  show wpAny _ _ (Builtin.SmallTypes.ownedTupleIsFree (.ref z) >>= _) _ _ _
  refine wpAny_bind (wpAny_tupleHeld_zip hz hT fun g₁ hz₁ hs₁ => ?_)
  simp only [Bool.false_eq_true, if_false]
  refine wpAny_bind ?_
  rw [← Array.forIn_toList]
  simp only [List.forIn_cons, List.forIn_nil]
  refine wpAny_bind (wpAny_bind (wpAny_holding ?_))
  show wpAny _ _ (Builtin.SmallTypes.nextOf (.ref i1) >>= _) _ _ _
  refine wpAny_bind (nextS_item (s := { s with heap := g₁ }) (h1.at' fun o e => hs₁.extBut _ _ zi1.symm e) (hl1.at' fun o e => hs₁.extBut _ _ D.az e) hx fun g₂ h1₂ hs₂ => wpAny_pure ?_)
  refine wpAny_pure ?_
  refine wpAny_bind (wpAny_bind (wpAny_holding ?_))
  show wpAny _ _ (Builtin.SmallTypes.nextOf (.ref i2) >>= _) _ _ _
  refine wpAny_bind (nextS_item (s := { s with heap := g₂ }) ((h2.at' fun o e => hs₁.extBut _ _ zi2.symm e).at' fun o e => hs₂.extBut _ _ D.ii.symm e) ((hl2.at' fun o e => hs₁.extBut _ _ D.bz e).at' fun o e => hs₂.extBut _ _ D.ba e) hy fun g₃ h2₃ hs₃ => wpAny_pure ?_)
  refine wpAny_pure (wpAny_pure ?_)
  show wpAny _ _ (newTuple [x, y] >>= _) _ _ _
  refine wpAny_bind (wpAny_newTuple ?_)
  have hsz : g₃.objs.size = s.heap.objs.size := by rw [hs₃.1, hs₂.1, hs₁.1]
  have hz₃ : IsZipHeld g₃ z TI TO T true := hs₃.extBut _ _ zi2 (hs₂.extBut _ _ zi1 hz₁)
  have hk : ∀ c o, c ≠ z → c ≠ i1 → c ≠ i2 → s.heap.get? c = some o → g₃.get? c = some o := fun c o c1 c2 c3 e => hs₃.extBut _ _ c3 (hs₂.extBut _ _ c2 (hs₁.extBut _ _ c1 e))
  have h1₃ : ItS l g₃ i1 a (k + 1) := h1₂.at' fun o e => hs₃.extBut _ _ D.ii e
  refine wpAny_pure ⟨_, rfl, wpAny_pure ?_⟩
  show Q (some (.ref g₃.objs.size)) _
  have hp : IsTupOf2 (g₃.push { cls := .type "tuple", data := .seq #[x, y] }) g₃.objs.size x y := Heap.get?_push_size _ rfl
  have hz4 : (g₃.push { cls := .type "tuple", data := .seq #[x, y] }).objs.size = g₃.objs.size + 1 := Heap.size_push ..
  rw [hsz] at hp hz4 ⊢
  exact hQ _ (Heap.get?_push_of_some _ hz₃) (h1₃.at' fun o e => Heap.get?_push_of_some _ e) (h2₃.at' fun o e => Heap.get?_push_of_some _ e) hp hz4 fun c o c1 c2 c3 e => Heap.get?_push_of_some _ (hk c o c1 c2 c3 e)
theorem zipH_end {z TI TO T i1 i2 a b : Addr} {f : Bool} {oT : Obj} {k : Nat} {xs ys : Array Value} {Q : Option Value → Shared → Prop} (hh : A.handled = none) (D : Zp z TI TO i1 i2 a b)
    (hz : IsZipHeld s.heap z TI TO T f) (hT : s.heap.get? T = some oT) (hTI : IsTupOf2 s.heap TI (.ref i1) (.ref i2))
    (h1 : ItS l s.heap i1 a k) (h2 : ItS m s.heap i2 b k) (hl1 : IsS l s.heap a xs) (hl2 : IsS m s.heap b ys) (hend : xs[k]? = none ∨ ys[k]? = none)
    (hQ : ∀ h', (∀ c o, c ≠ z → c ≠ i1 → c ≠ i2 → s.heap.get? c = some o → h'.get? c = some o) → Q none { s with heap := h' }) : wpAny (model prog w) A (pyNext (.ref z)) Q E s := by
  have zi1 := D.S.zi1
  have zi2 := D.S.zi2
  have hTy : s.TypeIs (.ref z) "zip" := ⟨_, hz, rfl⟩
  unfold pyNext
  refine wpAny_bind (wpAny_attempt (wpAny_callSpecial?_slot (name := Str.ofString "__next__") hTy F.slot_zip_next
    (wpAny_call_entry F.slot_zip_next hTy F.entry_zip_next ?_ (F.args_zip_next_1 _))))
  show wpAny _ _ (field (.ref z) 2 >>= _) _ _ _
  refine wpAny_bind (wpAny_field hz rfl (x := .bool false) rfl ?_)
  show wpAny _ _ (field (.ref z) 3 >>= _) _ _ _
  refine wpAny_bind (wpAny_field hz rfl (x := .ref TI) rfl ?_)
  refine wpAny_bind (wpAny_seqItems hTI rfl ?_)
  show wpAny _ _ (Builtin.SmallTypes.ownedTupleIsFree (.ref z) >>= _) _ _ _
  refine wpAny_bind (wpAny_tupleHeld_zip hz hT fun g₁ hz₁ hs₁ => ?_)
  simp only [Bool.false_eq_true, if_false]
  refine wpAny_bind ?_
  rw [← Array.forIn_toList]
  simp only [List.forIn_cons, List.forIn_nil]
  refine wpAny_bind (wpAny_bind (wpAny_holding ?_))
  show wpAny _ _ (Builtin.SmallTypes.nextOf (.ref i1) >>= _) _ _ _
  cases hx : xs[k]? with
  | none =>
    refine wpAny_bind (nextS_end (s := { s with heap := g₁ }) hh (h1.at' fun o e => hs₁.extBut _ _ zi1.symm e) (hl1.at' fun o e => hs₁.extBut _ _ D.az e) hx fun g₂ e hs₂ he => ?_)
    obtain ⟨o, ho, hc⟩ := he
    refine wpAny_bind (wpAny_isInstance (T := "StopIteration") (b := true) ⟨o, ho, hc⟩ isSubtype_stop ?_)
    exact wpAny_pure (hQ g₂ fun c o c1 c2 _ x => hs₂ _ _ c2 (hs₁.extBut _ _ c1 x))
  | some x =>
    have hy : ys[k]? = none := by rcases hend with h | h; rw [hx] at h; cases h; exact h
    refine wpAny_bind (nextS_item (s := { s with heap := g₁ }) (h1.at' fun o e => hs₁.extBut _ _ zi1.symm e) (hl1.at' fun o e => hs₁.extBut _ _ D.az e) hx fun g₂ h1₂ hs₂ => wpAny_pure ?_)
    refine wpAny_pure ?_
    refine wpAny_bind (wpAny_bind (wpAny_holding ?_))
    show wpAny _ _ (Builtin.SmallTypes.nextOf (.ref i2) >>= _) _ _ _
    refine wpAny_bind (nextS_end (s := { s with heap := g₂ }) hh ((h2.at' fun o e => hs₁.extBut _ _ zi2.symm e).at' fun o e => hs₂.extBut _ _ D.ii.symm e) ((hl2.at' fun o e => hs₁.extBut _ _ D.bz e).at' fun o e => hs₂.extBut _ _ D.ba e) hy fun g₃ e hs₃ he => ?_)
    obtain ⟨o, ho, hc⟩ := he
    refine wpAny_bind (wpAny_isInstance (T := "StopIteration") (b := true) ⟨o, ho, hc⟩ isSubtype_stop ?_)
    exact wpAny_pure (hQ g₃ fun c o c1 c2 c3 x => hs₃ _ _ c3 (hs₂.extBut _ _ c2 (hs₁.extBut _ _ c1 x)))
/-- a zip that is gone through by list(): the tuples it gave are held -/
def ZSt (l m : Bool) (z TI TO i1 i2 a b : Addr) (i : Nat) (h : Heap) : Prop :=
  ((IsZip h z TI TO .none ∧ ∃ x y, IsTupOf2 h TO x y) ∨ ∃ T f oT, IsZipHeld h z TI TO T f ∧ h.get? T = some oT ∧ T ≠ z ∧ T ≠ i1 ∧ T ≠ i2) ∧ IsTupOf2 h TI (.ref i1) (.ref i2) ∧ ItS l h i1 a i ∧ ItS m h i2 b i
theorem ZSt.keep {z TI TO i1 i2 a b : Addr} {i : Nat} {h h' : Heap} (st : ZSt l m z TI TO i1 i2 a b i h) (k : ∀ c o, h.get? c = some o → c = z ∨ c = TI ∨ c = TO ∨ c = i1 ∨ c = i2 ∨ (∃ p q, o.data = .seq p q ∧ o.cls = .type "tuple") → h'.get? c = some o) (kt : ∀ T oT, h.get? T = some oT → ∃ o', h'.get? T = some o') : ZSt l m z TI TO i1 i2 a b i h' := by
  obtain ⟨h1, h2, h3, h4⟩ := st
  refine ⟨?_, k _ _ h2 (.inr (.inl rfl)), h3.at' fun o e => k _ _ e (.inr (.inr (.inr (.inl rfl)))), h4.at' fun o e => k _ _ e (.inr (.inr (.inr (.inr (.inl rfl)))))⟩
  rcases h1 with ⟨g1, x, y, g2⟩ | ⟨T, f, oT, g1, g2, g3⟩
  · exact .inl ⟨k _ _ g1 (.inl rfl), x, y, k _ _ g2 (.inr (.inr (.inl rfl)))⟩
  · obtain ⟨o', e⟩ := kt _ _ g2
    exact .inr ⟨T, f, o', k _ _ g1 (.inl rfl), e, g3⟩
theorem nxtZ {z TI TO i1 i2 a b : Addr} {k : Nat} {xs ys : Array Value} {x y : Value} {Q : Option Value → Shared → Prop} (hh : A.handled = none) (D : Zp z TI TO i1 i2 a b) (st : ZSt l m z TI TO i1 i2 a b k s.heap) (hl1 : IsS l s.heap a xs) (hl2 : IsS m s.heap b ys) (hx : xs[k]? = some x) (hy : ys[k]? = some y)
    (hQ : ∀ h' tk, ZSt l m z TI TO i1 i2 a b (k + 1) h' → IsTupOf2 h' s.heap.objs.size x y → h'.objs.size = s.heap.objs.size + 1 →
      (∀ c o, c ≠ z → c ≠ TO → c ≠ i1 → c ≠ i2 → s.heap.get? c = some o → h'.get? c = some o) → Q (some (.ref s.heap.objs.size)) { s with heap := h', toks := tk }) :
    wpAny (model prog w) A (pyNext (.ref z)) Q E s := by
  obtain ⟨h1, hTI, h3, h4⟩ := st
  have zlt : ∀ {c : Addr} {o : Obj}, s.heap.get? c = some o → c < s.heap.objs.size := fun e => Heap.lt_size e
  obtain ⟨o1, e1, _⟩ := h3.obj
  obtain ⟨o2, e2, _⟩ := h4.obj
  rcases h1 with ⟨hz, u, v, hTO⟩ | ⟨T, f, oT, hz, hT, t1, t2, t3⟩
  · have lx : k < xs.size := (Array.getElem?_eq_some_iff.mp hx).1
    have ly : k < ys.size := (Array.getElem?_eq_some_iff.mp hy).1
    refine wpAny_pyNext_zipD2_item D.S (drawsS (A := A.in1) hh l i1 a D.ai xs) (drawsS (A := A.in1) hh m i2 b D.bi ys) hz hTI hTO ⟨h3, hl1⟩ ⟨h4, hl2⟩ lx ly fun x1 x2 h' tk q1 q2 z' TO' st1 st2 hT hsz hk => ?_
    rw [hx] at q1
    rw [hy] at q2
    cases q1
    cases q2
    refine hQ h' tk ⟨.inr ⟨_, false, _, z', hT, Nat.ne_of_gt (zlt hz), Nat.ne_of_gt (zlt e1), Nat.ne_of_gt (zlt e2)⟩, hk _ _ D.S.TIz D.S.TITO D.S.TIi1 D.S.TIi2 hTI, st1.1, st2.1⟩ hT hsz hk
  · refine zipH_item D hz hT hTI h3 h4 hl1 hl2 hx hy fun h' z' g1 g2 hp hsz hk => ?_
    exact hQ h' s.toks ⟨.inr ⟨T, true, oT, z', hk _ _ t1 t2 t3 hT, t1, t2, t3⟩, hk _ _ D.S.TIz D.S.TIi1 D.S.TIi2 hTI, g1, g2⟩ hp hsz fun c o c1 _ c3 c4 e => hk c o c1 c3 c4 e
theorem finZ {z TI TO i1 i2 a b : Addr} {k : Nat} {xs ys : Array Value} {Q : Option Value → Shared → Prop} (hh : A.handled = none) (D : Zp z TI TO i1 i2 a b) (st : ZSt l m z TI TO i1 i2 a b k s.heap) (hl1 : IsS l s.heap a xs) (hl2 : IsS m s.heap b ys) (l1 : k ≤ xs.size) (l2 : k ≤ ys.size) (hend : k = xs.size ∨ k = ys.size)
    (hQ : ∀ h' tk, (∀ c o, c ≠ z → c ≠ TO → c ≠ i1 → c ≠ i2 → s.heap.get? c = some o → h'.get? c = some o) → Q none { s with heap := h', toks := tk }) : wpAny (model prog w) A (pyNext (.ref z)) Q E s := by
  obtain ⟨h1, hTI, h3, h4⟩ := st
  rcases h1 with ⟨hz, u, v, hTO⟩ | ⟨T, f, oT, hz, hT, t1, t2, t3⟩
  · exact wpAny_pyNext_zipD2_end D.S (drawsS (A := A.in1) hh l i1 a D.ai xs) (drawsS (A := A.in1) hh m i2 b D.bi ys) hz hTI hTO ⟨h3, hl1⟩ ⟨h4, hl2⟩ l1 l2 hend hQ
  · refine zipH_end hh D hz hT hTI h3 h4 hl1 hl2 ?_ fun h' hk => hQ h' s.toks fun c o c1 _ c3 c4 e => hk c o c1 c3 c4 e
    rcases hend with e | e
    · exact .inl (by subst e; simp)
    · exact .inr (by subst e; simp)
structure MadeZ (xs ys : Array Value) (lo : Addr) (h : Heap) (as : List Addr) : Prop where
  rise : as.Pairwise (· < ·)
  above : ∀ a ∈ as, lo < a
  pairs : ∀ (j : Nat) (a : Addr), as[j]? = some a → ∃ x y, xs[j]? = some x ∧ ys[j]? = some y ∧ h.get? a = some { cls := .type "tuple", data := .seq #[x, y] }
theorem MadeZ.there {xs ys : Array Value} {lo : Addr} {h : Heap} {as : List Addr} (g : MadeZ xs ys lo h as) {a : Addr} (ha : a ∈ as) : a < h.objs.size := by
  obtain ⟨j, hj⟩ := List.mem_iff_getElem?.mp ha
  obtain ⟨_, _, _, _, e⟩ := g.pairs j a hj
  exact Heap.lt_size e
theorem loopZ {R : Result → Shared → Prop} {S z TI TO i1 i2 a b : Addr} {xs ys : Array Value} {n : Nat} (hh : A.handled = none) (D : Zp z TI TO i1 i2 a b) (lz : z < S) (lTI : TI < S) (lTO : TO < S) (li1 : i1 < S) (li2 : i2 < S) (la : a < S) (lb : b < S) (hn : n ≤ sizeLine) (hn1 : n ≤ xs.size) (hn2 : n ≤ ys.size) (hend : n = xs.size ∨ n = ys.size) (az : a ≠ TO) (bz : b ≠ TO) (res : Value) {h₁ : Heap}
    (hR : ∀ h' tk acc c as, (∀ c o, c ≠ S → c ≠ z → c ≠ TO → c ≠ i1 → c ≠ i2 → h₁.get? c = some o → h'.get? c = some o) → h'.get? S = some { cls := .type "list", dict := none, data := .seq acc c, slots := #[] } → as.length = n → MadeZ xs ys S h' as →
      acc.toList = as.map Value.ref → R (.ok (.ret res)) { s with heap := h', toks := tk }) :
    ∀ (k i : Nat) (h : Heap) (tk c : Nat) (acc : Array Value) (as : List Addr), n - i = k → i ≤ n → ZSt l m z TI TO i1 i2 a b i h → IsS l h a xs → IsS m h b ys → (∀ c o, c ≠ S → c ≠ z → c ≠ TO → c ≠ i1 → c ≠ i2 → h₁.get? c = some o → h.get? c = some o) →
      h.get? S = some { cls := .type "list", dict := none, data := .seq acc c, slots := #[] } → acc.toList = as.map Value.ref → as.length = i → MadeZ xs ys S h as →
      codeAny (model prog w) A (.builtin "list.extend.loop" ⟨[.ref S, .ref z, res], []⟩) R { s with heap := h, toks := tk } := by
  intro k
  induction k with
  | zero =>
    intro i h tk c acc as hk hi hst hl1 hl2 hkeep hS hacc hal hG
    have ei : i = n := by omega
    subst ei
    refine codeAny_builtin PySem.F.entry_extend_loop ?_
    rw [Around.under_plainId PySem.F.plain_extend_loop _]
    show wpAny _ A.in1 (pyNext (.ref z) >>= _) _ _ _
    refine wpAny_bind (finZ (s := { s with heap := h, toks := tk }) (A := A.in1) hh D hst hl1 hl2 hn1 hn2 hend fun h' tk' he => ?_)
    have hup : ∀ c, S ≤ c → ∀ o, h.get? c = some o → h'.get? c = some o := fun c hc o e => he c o (Nat.ne_of_gt (Nat.lt_of_lt_of_le lz hc)) (Nat.ne_of_gt (Nat.lt_of_lt_of_le lTO hc)) (Nat.ne_of_gt (Nat.lt_of_lt_of_le li1 hc)) (Nat.ne_of_gt (Nat.lt_of_lt_of_le li2 hc)) e
    refine wpAny_pure (hR h' tk' acc c as (fun c o h1 h2 h3 h4 h5 e => he c o h2 h3 h4 h5 (hkeep c o h1 h2 h3 h4 h5 e)) (hup S (Nat.le_refl _) _ hS) (by omega) ⟨hG.rise, hG.above, fun j p hj => ?_⟩ hacc)
    obtain ⟨x, y, e1, e2, e3⟩ := hG.pairs j p hj
    exact ⟨x, y, e1, e2, hup p (Nat.le_of_lt (hG.above p (List.mem_of_getElem? hj))) _ e3⟩
  | succ k ih =>
    intro i h tk c acc as hk hi hst hl1 hl2 hkeep hS hacc hal hG
    have hlt : i < n := by omega
    have hx : xs[i]? = some (xs[i]'(by omega)) := Array.getElem?_eq_getElem _
    have hy : ys[i]? = some (ys[i]'(by omega)) := Array.getElem?_eq_getElem _
    have hsz : acc.size = i := by rw [← Array.length_toList, hacc, List.length_map, hal]
    refine codeAny_builtin PySem.F.entry_extend_loop ?_
    rw [Around.under_plainId PySem.F.plain_extend_loop _]
    show wpAny _ A.in1 (pyNext (.ref z) >>= _) _ _ _
    refine wpAny_bind (nxtZ (s := { s with heap := h, toks := tk }) (A := A.in1) hh D hst hl1 hl2 hx hy fun h' tk' hst' ht hz hkp => ?_)
    dsimp only at ht hz hkp ⊢
    have hSl : S < h.objs.size := Heap.lt_size hS
    have hup : ∀ c, S ≤ c → ∀ o, h.get? c = some o → h'.get? c = some o := fun c hc o e => hkp c o (Nat.ne_of_gt (Nat.lt_of_lt_of_le lz hc)) (Nat.ne_of_gt (Nat.lt_of_lt_of_le lTO hc)) (Nat.ne_of_gt (Nat.lt_of_lt_of_le li1 hc)) (Nat.ne_of_gt (Nat.lt_of_lt_of_le li2 hc)) e
    have hS' := hup S (Nat.le_refl _) _ hS
    have up : ∀ b o, b ≠ S → h'.get? b = some o → (h'.update S (Obj.mapSeq (·.push (Value.ref h.objs.size)))).get? b = some o := fun b o hb e => (Heap.get?_update_other _ _ (Ne.symm hb)).trans e
    show wpAny _ A.in1 (updateSeq S (·.push (Value.ref h.objs.size)) >>= _) _ _ _
    refine wpAny_bind ?_
    refine wpAny_updateSeq hS' rfl (wpAny_pure ⟨plainId_quiet PySem.F.plain_extend_loop _, ih (i + 1) _ tk' _ (acc.push (Value.ref h.objs.size)) (as ++ [h.objs.size]) (by omega) hlt ?_ ?_ ?_ ?_ (Heap.get?_update_self _ hS' rfl) (by rw [Array.toList_push, hacc, List.map_append]; rfl) (by rw [List.length_append, hal]; rfl) ⟨?_, ?_, ?_⟩⟩) (by rw [hsz]; omega) (by show (acc.push (Value.ref h.objs.size)).size ≤ sizeLine + 1; rw [Array.size_push, hsz]; omega)
    · refine hst'.keep (fun c o e hc => up c o ?_ e) fun T oT e => ?_
      · rcases hc with h | h | h | h | h | ⟨p, q, h, h2⟩
        · rw [h]; exact Nat.ne_of_lt lz
        · rw [h]; exact Nat.ne_of_lt lTI
        · rw [h]; exact Nat.ne_of_lt lTO
        · rw [h]; exact Nat.ne_of_lt li1
        · rw [h]; exact Nat.ne_of_lt li2
        · intro z
          subst z
          rw [hS'] at e
          cases e
          have c : Value.type "list" = Value.type "tuple" := h2
          injection c with c
          exact absurd c (by decide)
      · by_cases z : T = S
        · subst z; exact ⟨_, Heap.get?_update_self _ hS' rfl⟩
        · exact ⟨_, up T oT z e⟩
    · exact (hl1.at' fun o e => hkp a o D.az az D.ai D.ab e).at' fun o e => up a o (Nat.ne_of_lt la) e
    · exact (hl2.at' fun o e => hkp b o D.bz bz D.ba D.bi e).at' fun o e => up b o (Nat.ne_of_lt lb) e
    · exact fun c o h1 h2 h3 h4 h5 e => up c o h1 (hkp c o h2 h3 h4 h5 (hkeep c o h1 h2 h3 h4 h5 e))
    · refine List.pairwise_append.mpr ⟨hG.rise, List.pairwise_singleton _ _, fun p hp q hq => ?_⟩
      rw [List.mem_singleton.mp hq]
      exact hG.there hp
    · intro p hp
      rcases List.mem_append.mp hp with hp | hp
      · exact hG.above p hp
      · rw [List.mem_singleton.mp hp]; exact hSl
    · intro j p hj
      rcases Nat.lt_trichotomy j as.length with h1 | h1 | h1
      · rw [List.getElem?_append_left h1] at hj
        obtain ⟨x, y, e1, e2, e3⟩ := hG.pairs j p hj
        have hb := hG.above p (List.mem_of_getElem? hj)
        exact ⟨x, y, e1, e2, up p _ (Nat.ne_of_gt hb) (hup p (Nat.le_of_lt hb) _ e3)⟩
      · subst h1
        have hb : h.objs.size = p := by simpa using hj
        subst hb
        subst hal
        exact ⟨_, _, hx, hy, up _ _ (Nat.ne_of_gt hSl) ht⟩
      · have hnone : (as ++ [h.objs.size])[j]? = none := List.getElem?_eq_none (by rw [List.length_append, List.length_singleton]; omega)
        rw [hnone] at hj; cases hj
end
end PD
set_option Elab.async false
set_option linter.all false
set_option maxRecDepth 100000
set_option autoImplicit false
set_option maxHeartbeats 4000000
/-! PD: list(zip(a, b)) as a rule. -/
namespace PD
open PySem PySem.Spec PyProof.Rows L2 PySem.W
theorem nolen_zip : typeLookup (.type "zip") "__len__" = pure none := by rw [typeLookup_type, builtinLookup_eq_fast]; kernel_rfl
theorem nohint_zip : typeLookup (.type "zip") "__length_hint__" = pure none := by rw [typeLookup_type, builtinLookup_eq_fast]; kernel_rfl
section
variable {prog : Program} {w : World} {A : Around} {E : Value → Shared → Prop} {s : Shared} {l m : Bool}
theorem hintZ {z : Addr} {Q : Bool → Shared → Prop} (hT : s.TypeIs (.ref z) "zip") (h : ∀ b, Q b s) : wpAny (model prog w) A (Builtin.List.listLengthHint (.ref z)) Q E s := by
  unfold Builtin.List.listLengthHint
  refine wpAny_bind (wpAny_specialOf hT nolen_zip ?_)
  show wpAny _ _ (specialOf (Value.ref z) (Str.ofString "__length_hint__") >>= _) _ _ _
  refine wpAny_bind (wpAny_specialOf hT nohint_zip ?_)
  exact wpAny_pure (h _)
theorem extZ {R : Result → Shared → Prop} {S z TI TO i1 i2 a b : Addr} {xs ys : Array Value} {n c₀ : Nat} (hh : A.handled = none) (D : Zp z TI TO i1 i2 a b) (lz : z < S) (lTI : TI < S) (lTO : TO < S) (li1 : i1 < S) (li2 : i2 < S) (la : a < S) (lb : b < S) (hn : n ≤ sizeLine) (hn1 : n ≤ xs.size) (hn2 : n ≤ ys.size) (hend : n = xs.size ∨ n = ys.size) (az : a ≠ TO) (bz : b ≠ TO) (res : Value)
    (hz : IsZip s.heap z TI TO .none) (hTO : ∃ x y, IsTupOf2 s.heap TO x y) (hTI : IsTupOf2 s.heap TI (.ref i1) (.ref i2)) (h1 : ItS l s.heap i1 a 0) (h2 : ItS m s.heap i2 b 0) (hl1 : IsS l s.heap a xs) (hl2 : IsS m s.heap b ys)
    (hS : s.heap.get? S = some { cls := .type "list", data := .seq #[] c₀ })
    (hR : ∀ h' tk acc c as, (∀ c o, c ≠ S → c ≠ z → c ≠ TO → c ≠ i1 → c ≠ i2 → s.heap.get? c = some o → h'.get? c = some o) → h'.get? S = some { cls := .type "list", dict := none, data := .seq acc c, slots := #[] } → as.length = n → MadeZ xs ys S h' as →
      acc.toList = as.map Value.ref → R (.ok (.ret res)) { s with heap := h', toks := tk }) :
    wpAny (model prog w) A.in1 (Builtin.List.listExtendWith (.ref S) (.ref z) res)
      (fun fin s' => match fin with | .done f => R (.ok f) s' | .again c' => c'.quiet = true ∧ codeAny (model prog w) A c' R s') (fun e s' => R (.error e) s') s := by
  have key : ∀ (h : Heap) (c₁ tk : Nat), (∀ b o, b ≠ S → s.heap.get? b = some o → h.get? b = some o) →
      h.get? S = some { cls := .type "list", data := .seq #[] c₁ } → codeAny (model prog w) A (.builtin "list.extend.loop" ⟨[.ref S, .ref z, res], []⟩) R { s with heap := h, toks := tk } := by
    intro h c₁ tk hk hS₁
    have st : ZSt l m z TI TO i1 i2 a b 0 s.heap := ⟨.inl ⟨hz, hTO⟩, hTI, h1, h2⟩
    have ne : ∀ {c : Addr}, c < S → c ≠ S := fun h => Nat.ne_of_lt h
    refine loopZ (s := s) (h₁ := s.heap) hh D lz lTI lTO li1 li2 la lb hn hn1 hn2 hend az bz res hR n 0 h tk c₁ #[] [] (Nat.sub_zero _) (Nat.zero_le _) ?_ (hl1.at' fun o e => hk a o (ne la) e) (hl2.at' fun o e => hk b o (ne lb) e) (fun c o hc _ _ _ _ e => hk c o hc e) hS₁ rfl rfl
      ⟨List.Pairwise.nil, (fun _ ha => nomatch ha), (fun j a hj => by simp at hj)⟩
    obtain ⟨x, y, hTO⟩ := hTO
    exact ⟨.inl ⟨hk _ _ (ne lz) hz, x, y, hk _ _ (ne lTO) hTO⟩, hk _ _ (ne lTI) hTI, h1.at' fun o e => hk _ _ (ne li1) e, h2.at' fun o e => hk _ _ (ne li2) e⟩
  unfold Builtin.List.listExtendWith
  refine wpAny_bind (wpAny_typeOf (T := "zip") ⟨_, hz, rfl⟩ ?_)
  have g1 : Builtin.List.listSameRef (.ref S) (.ref z) = false := by simp [Builtin.List.listSameRef, Nat.ne_of_gt lz]
  have g2 : (Value.type "zip" == Value.type "list") = false := by decide
  have g3 : (Value.type "zip" == Value.type "tuple") = false := by decide
  simp only [g1, g2, g3, Bool.or_false, Bool.false_eq_true, if_false]
  refine wpAny_bind (wpAny_pyIter_zip hz ?_)
  refine wpAny_bind (wpAny_holding (hintZ ⟨_, hz, rfl⟩ fun bb => ?_))
  refine wpAny_ite_split (fun _ => ?_) (fun _ => wpAny_pure ⟨plainId_quiet PySem.F.plain_extend_loop _, key _ c₀ _ (fun b o _ e => e) hS⟩)
  refine wpAny_bind (wpAny_rule ?_)
  refine wpAny_bind ?_
  show wpAny _ _ (updateSeq S (·.push .none) >>= fun _ => updateSeq S (·.pop)) _ _ _
  refine wpAny_bind (wpAny_updateSeq hS rfl ?_)
  have hS₂ := Heap.get?_update_self (Obj.mapSeq (·.push Value.none)) hS rfl
  refine wpAny_updateSeq (hz := by seq_fits) hS₂ rfl ?_
  have hS₃ := Heap.get?_update_self (Obj.mapSeq (·.pop)) hS₂ rfl
  refine wpAny_pure ⟨plainId_quiet PySem.F.plain_extend_loop _, key _ _ _ (fun b o hb e => ?_) hS₃⟩
  exact (Heap.get?_update_other _ _ (Ne.symm hb)).trans ((Heap.get?_update_other _ _ (Ne.symm hb)).trans e)
theorem call_listZ {z TI TO i1 i2 a b : Addr} {xs ys : Array Value} {n : Nat} {Q : Value → Shared → Prop} (hh : A.handled = none) (D : Zp z TI TO i1 i2 a b) (lz : z < s.heap.objs.size) (lTI : TI < s.heap.objs.size) (lTO : TO < s.heap.objs.size) (li1 : i1 < s.heap.objs.size) (li2 : i2 < s.heap.objs.size) (la : a < s.heap.objs.size) (lb : b < s.heap.objs.size)
    (hn : n ≤ sizeLine) (hn1 : n ≤ xs.size) (hn2 : n ≤ ys.size) (hend : n = xs.size ∨ n = ys.size) (az : a ≠ TO) (bz : b ≠ TO)
    (hz : IsZip s.heap z TI TO .none) (hTO : ∃ x y, IsTupOf2 s.heap TO x y) (hTI : IsTupOf2 s.heap TI (.ref i1) (.ref i2)) (h1 : ItS l s.heap i1 a 0) (h2 : ItS m s.heap i2 b 0) (hl1 : IsS l s.heap a xs) (hl2 : IsS m s.heap b ys)
    (hQ : ∀ h' tk acc c as, (∀ c o, c ≠ z → c ≠ TO → c ≠ i1 → c ≠ i2 → s.heap.get? c = some o → h'.get? c = some o) → h'.get? s.heap.objs.size = some { cls := .type "list", dict := none, data := .seq acc c, slots := #[] } → as.length = n → MadeZ xs ys s.heap.objs.size h' as →
      acc.toList = as.map Value.ref → Q (.ref s.heap.objs.size) { s with heap := h', toks := tk }) :
    wpAny (model prog w) A (call (.type "list") [.ref z]) Q E s := by
  refine callType_codes (Q₁ := fun obj s₁ => obj = .ref s.heap.objs.size ∧ s₁ = { s with heap := s.heap.push { cls := .type "list", data := .seq #[] } }) PySem.F.called_list (PySem.F.typeCall_list_1 _) PySem.F.entry_list_init
    (code_list_new _ ⟨rfl, rfl⟩) fun obj s₁ h₁ => ?_
  obtain ⟨rfl, rfl⟩ := h₁
  have hS : (s.heap.push { cls := .type "list", data := .seq #[] }).get? s.heap.objs.size = some { cls := .type "list", data := .seq #[] } := Heap.get?_push_size _ rfl
  have up : ∀ c o, s.heap.get? c = some o → (s.heap.push { cls := .type "list", data := .seq #[] }).get? c = some o := fun c o e => Heap.get?_push_of_some _ e
  have oth : ∀ b o, b ≠ s.heap.objs.size → (s.heap.push { cls := .type "list", data := .seq #[] }).get? b = some o → ((s.heap.push { cls := .type "list", data := .seq #[] }).update s.heap.objs.size (Obj.mapSeq (fun _ => (#[] : Array Value)))).get? b = some o :=
    fun b o hb e => (Heap.get?_update_other _ _ (Ne.symm hb)).trans e
  have both : ∀ c o, s.heap.get? c = some o → ((s.heap.push { cls := .type "list", data := .seq #[] }).update s.heap.objs.size (Obj.mapSeq (fun _ => (#[] : Array Value)))).get? c = some o := fun c o e => oth c o (Nat.ne_of_lt (Heap.lt_size e)) (up c o e)
  refine ⟨⟨_, hS, rfl⟩, PySem.F.args_list_init_2 _ _, ?_⟩
  show wpAny _ _ (do let old ← Builtin.List.listItems (.ref s.heap.objs.size); Builtin.List.listUpdate (.ref s.heap.objs.size) (fun _ => #[]); letGo old.toList.reverse; Builtin.List.listExtendWith (.ref s.heap.objs.size) (.ref z) .none) _ _ _
  refine wpAny_bind ?_
  unfold Builtin.List.listItems
  refine wpAny_bind (wpAny_seqItems hS rfl (wpAny_pure ?_))
  show wpAny _ _ (updateSeq s.heap.objs.size (fun _ => #[]) >>= fun _ => letGo (#[] : Array Value).toList.reverse >>= fun _ => Builtin.List.listExtendWith (.ref s.heap.objs.size) (.ref z) .none) _ _ _
  refine wpAny_bind (wpAny_updateSeq hS rfl ?_)
  have hS₂ := Heap.get?_update_self (Obj.mapSeq (fun _ => (#[] : Array Value))) hS rfl
  refine wpAny_bind (wpAny_letGo ?_)
  obtain ⟨x0, y0, hTO⟩ := hTO
  refine extZ (A := A.in1) (s := { s with heap := (s.heap.push { cls := .type "list", data := .seq #[] }).update s.heap.objs.size (Obj.mapSeq (fun _ => (#[] : Array Value))) }) hh D lz lTI lTO li1 li2 la lb hn hn1 hn2 hend az bz .none (both _ _ hz) ⟨x0, y0, both _ _ hTO⟩ (both _ _ hTI) (h1.at' fun o e => both _ _ e) (h2.at' fun o e => both _ _ e) (hl1.at' fun o e => both _ _ e) (hl2.at' fun o e => both _ _ e) hS₂ fun h' tk acc c as hk hS' hl hG hacc => ?_
  exact ⟨rfl, hQ h' tk acc c as (fun c o c1 c2 c3 c4 e => hk c o (Nat.ne_of_lt (Heap.lt_size e)) c1 c2 c3 c4 (both c o e)) hS' hl hG hacc⟩
end
end PD
set_option Elab.async false
set_option linter.all false
set_option maxRecDepth 100000
set_option autoImplicit false
set_option maxHeartbeats 4000000
/-! PD: list(zip(a, b)) in the layer. -/
namespace PD
open PySem PySem.Spec PyProof.Rows L2 PySem.W
def tLstZ (K : PySem.W.Frag) (ta : TA) : TE := fun σ H Q => ta σ H fun vs H1 => ∃ a b xs ys l m, vs = [.ref a, .ref b] ∧ Sq K l H1 a xs ∧ Sq K m H1 b ys ∧
  ∀ (H2 : Hp) (ts : List Addr) (p : Addr), (∀ c o, H1 c = some o → H2 c = some o) → ts.length = min xs.length ys.length → (∀ (j : Nat) (t : Addr), ts[j]? = some t → ∃ x y, xs[j]? = some x ∧ ys[j]? = some y ∧ H2 t = some (.tup [x, y])) → H2 p = none → Q (.ref p) (upd H2 p (.lst (ts.map V.ref)))
section
variable {X : Cx}
theorem inv_sqz {pins : List (Addr × Obj)} {σ : L2.St} {H : Hp} {s : Shared} {a : Addr} {xs : List V} {l : Bool} (I : Inv X pins σ H s) (h : Sq X.K l H a xs) : ∃ its : List Value, Vals xs its ∧ IsS l s.heap a its.toArray ∧ xs.length ≤ sizeLine := by
  cases l with
  | true => obtain ⟨its, r, p, z⟩ := I.list h; exact ⟨its, r, p.isList, z⟩
  | false => obtain ⟨its, r, p, z⟩ := I.tuple h; exact ⟨its, r, p, z⟩
theorem vget : ∀ {xs : List V} {us : List Value} {i : Nat} {u : Value}, Vals xs us → us[i]? = some u → ∃ x, xs[i]? = some x ∧ RelV x u
  | _, _, _, _, .nil, e => by simp at e
  | _, _, 0, _, .cons r _, e => by simp at e; subst e; exact ⟨_, rfl, r⟩
  | _, _, i + 1, u, .cons _ t, e => by
    obtain ⟨x, h1, h2⟩ := vget (i := i) t (by simpa using e)
    exact ⟨x, by simpa using h1, h2⟩
theorem vals_refs : ∀ (ts : List Addr), Vals (ts.map V.ref) (ts.map Value.ref)
  | [] => .nil
  | t :: ts => .cons rfl (vals_refs ts)
theorem pe_listZip {e e2 : Expr} {ta : TA} {p p2 pos pos2 : Pos} (hc : X.calm = true) (hg : Gl X "list") (hm : X.mg "list" = none) (hg2 : Gl X "zip") (hm2 : X.mg "zip" = none) (ha : PA X [e, e2] ta)
    (hs : starEach [e, e2] X.env = (false, eval e X.env) :: starEach [e2] X.env := by rfl) (hpl : (backTo pos2 (starEach [e2] X.env)).any (·.1) = false := by rfl)
    (na : starEach [Expr.Call (.Name "zip" p2) [e, e2] [] pos2] X.env = (false, eval (Expr.Call (.Name "zip" p2) [e, e2] [] pos2) X.env) :: starEach [] X.env := by rfl) :
    PE X (.Call (.Name "list" p) [.Call (.Name "zip" p2) [e, e2] [] pos2] [] pos) (tLstZ X.K ta) := by
  refine ⟨fun pins s σ H Q I h => ?_⟩
  refine Call_ (ld_blt I hg hm boot_list (PyProof.Rows.callWith_type1 (args_cons (Call_ (ld_blt I hg2 hm2 PyProof.Rows.boot_zip (PyProof.Rows.callWith_type1 (thn (ha.run pos2 pins s σ H _ I h) fun us s1 ⟨vs, H1, I1, r1, q1⟩ => ?_) hs hpl))) na) na))
  obtain ⟨a, b, xs, ys, l, m, ex, hqx, hqy, q⟩ := q1
  subst ex
  cases r1 with
  | cons r rr =>
    cases rr with
    | cons r' rr =>
      cases rr
      cases r
      cases r'
      obtain ⟨its, rv, p1, z1⟩ := inv_sqz I1 hqx
      obtain ⟨its2, rv2, p2, z2⟩ := inv_sqz I1 hqy
      have la : a < s1.heap.objs.size := p1.lt
      have lb : b < s1.heap.objs.size := p2.lt
      obtain ⟨o1, B1, b1⟩ := begS l a its.toArray
      obtain ⟨o2, B2, b2⟩ := begS m b its2.toArray
      refine zip_begins2 B1 B2 p1 p2 fun h' hz hTI hTO h1 h2 hsz hk => args_nil ?_
      have I2 : Inv X pins σ H1 { s1 with heap := h' } := I1.kept (t' := s1.toks) hk
      have e1 := rv.length
      have e2 := rv2.length
      have D : Zp (s1.heap.objs.size + 4) (s1.heap.objs.size + 2) (s1.heap.objs.size + 3) s1.heap.objs.size (s1.heap.objs.size + 1) a b := by
        have la' : (a : Nat) < s1.heap.objs.size := la
        have lb' : (b : Nat) < s1.heap.objs.size := lb
        refine ⟨zip_sep2 (fp1 := [a]) (fp2 := [b]) (fun c hc => ?_) (fun c hc => ?_), Nat.ne_of_lt la, ?_, ?_, ?_, ?_, Nat.ne_of_lt lb, ?_⟩
        · have : c = a := by simpa using hc
          rw [this]; exact la
        · have : c = b := by simpa using hc
          rw [this]; exact lb
        · exact Nat.ne_of_lt (Nat.lt_of_lt_of_le lb (Nat.le_add_right _ 1))
        · exact Nat.ne_of_lt (Nat.lt_of_lt_of_le la (Nat.le_add_right _ 4))
        · exact Nat.ne_of_lt (Nat.lt_of_lt_of_le lb (Nat.le_add_right _ 4))
        · exact Nat.ne_of_lt (Nat.lt_of_lt_of_le la (Nat.le_add_right _ 1))
        · exact Nat.ne_of_lt (Nat.lt_succ_self _)
      have lt : ∀ k, k < 5 → (s1.heap.objs.size + k : Nat) < h'.objs.size := fun k hk => by rw [hsz]; omega
      have la2 : (a : Nat) < h'.objs.size := by rw [hsz]; exact Nat.lt_of_lt_of_le la (Nat.le_add_right _ _)
      have lb2 : (b : Nat) < h'.objs.size := by rw [hsz]; exact Nat.lt_of_lt_of_le lb (Nat.le_add_right _ _)
      refine call_listZ (s := { s1 with heap := h' }) (n := min xs.length ys.length) (I2.ok.hd hc) D (lt 4 (by decide)) (lt 2 (by decide)) (lt 3 (by decide)) (lt 0 (by decide)) (lt 1 (by decide)) la2 lb2 (Nat.le_trans (Nat.min_le_left _ _) z1) (by simp; omega) (by simp; omega) (by simp; omega)
        (Nat.ne_of_lt (Nat.lt_of_lt_of_le la (Nat.le_add_right _ 3))) (Nat.ne_of_lt (Nat.lt_of_lt_of_le lb (Nat.le_add_right _ 3))) hz ⟨_, _, hTO⟩ hTI (b1 _ _ h1) (b2 _ _ h2) (IsS.at' p1 fun o e => hk _ _ e) (IsS.at' p2 fun o e => hk _ _ e) fun h2 tk acc c as hk2 hS hl hG hacc => ?_
      -- back in the layer
      have up : ∀ c o, s1.heap.get? c = some o → h2.get? c = some o := fun c o e => by
        have hc : c < s1.heap.objs.size := Heap.lt_size e
        exact hk2 c o (Nat.ne_of_lt (Nat.lt_of_lt_of_le hc (Nat.le_add_right _ 4))) (Nat.ne_of_lt (Nat.lt_of_lt_of_le hc (Nat.le_add_right _ 3))) (Nat.ne_of_lt hc) (Nat.ne_of_lt (Nat.lt_of_lt_of_le hc (Nat.le_add_right _ 1))) (hk c o e)
      have hSlo : s1.heap.objs.size ≤ h'.objs.size := by rw [hsz]; exact Nat.le_add_right _ _
      have hSn : H1 h'.objs.size = none := I1.hok.fresh hSlo
      have hlen : (as.map V.ref).length ≤ sizeLine := by rw [List.length_map, hl]; exact Nat.le_trans (Nat.min_le_left _ _) z1
      have I3 : Inv X pins σ (upd H1 h'.objs.size (.lst (as.map V.ref))) { s1 with heap := h2, toks := tk } := I1.laid (t' := tk) up hSlo ⟨hlen, as.map Value.ref, c, vals_refs as, by rw [← hacc, Array.toArray_toList]; exact hS⟩
      have nd : as.Nodup := List.Pairwise.imp (fun h => Nat.ne_of_lt h) hG.rise
      have gt : ∀ t ∈ as, h'.objs.size < t := fun t ht => hG.above t ht
      have lo : ∀ t ∈ as, s1.heap.objs.size ≤ t := fun t ht => Nat.le_trans hSlo (Nat.le_of_lt (gt t ht))
      obtain ⟨H2, I4, g, qt⟩ := L2.DX.takeT (P := fun t vs => ∃ j x y, as[j]? = some t ∧ xs[j]? = some x ∧ ys[j]? = some y ∧ vs = [x, y]) I1 as _ I3 nd fun t ht => by
        refine ⟨lo t ht, by rw [upd_ne (Nat.ne_of_gt (gt t ht))]; exact I1.hok.fresh (lo t ht), ?_⟩
        obtain ⟨j, hj⟩ := List.mem_iff_getElem?.mp ht
        obtain ⟨u, v, g1, g2, g3⟩ := hG.pairs j t hj
        have g1 : its[j]? = some u := by simpa using g1
        have g2 : its2[j]? = some v := by simpa using g2
        obtain ⟨x, hx, rx⟩ := vget rv g1
        obtain ⟨y, hy, ry⟩ := vget rv2 g2
        exact ⟨[x, y], ⟨j, x, y, hj, hx, hy, rfl⟩, fun H2 => ⟨by show 2 ≤ sizeLine; decide, [u, v], .cons rx (.cons ry .nil), ⟨_, g3, rfl, 0, rfl⟩⟩⟩
      have hp2 : H2 h'.objs.size = some (.lst (as.map V.ref)) := g _ _ upd_same
      have eH : upd (fun d => if d = h'.objs.size then none else H2 d) h'.objs.size (.lst (as.map V.ref)) = H2 := by
        funext d
        by_cases e : d = h'.objs.size
        · subst e; rw [upd_same, hp2]
        · rw [upd_ne e]; exact if_neg e
      have fin := q (fun d => if d = h'.objs.size then none else H2 d) as h'.objs.size (fun d o e => ?_) hl (fun j t hj => ?_) (if_pos rfl)
      · rw [eH] at fin
        exact ⟨.ref h'.objs.size, H2, I4, rfl, fin⟩
      · have ne : d ≠ h'.objs.size := fun z => by rw [z, hSn] at e; cases e
        show (if d = h'.objs.size then none else H2 d) = some o
        rw [if_neg ne]
        exact g d o (by rw [upd_ne ne]; exact e)
      · obtain ⟨vs, ⟨j', x, y, hj', hx, hy, rfl⟩, ht⟩ := qt t (List.mem_of_getElem? hj)
        have ej : j' = j := by
          have l1 := (List.getElem?_eq_some_iff.mp hj).1
          have l2 := (List.getElem?_eq_some_iff.mp hj').1
          exact (List.getElem?_inj l2 nd).mp (hj'.trans hj.symm)
        subst ej
        refine ⟨x, y, hx, hy, ?_⟩
        show (if t = h'.objs.size then none else H2 t) = _
        rw [if_neg (Nat.ne_of_gt (gt t (List.mem_of_getElem? hj)))]
        exact ht
end
def dLstZ (a : DA) : DE := fun ρ => (a ρ).bind fun xs ρ1 => match fzL xs ρ1 with
  | some ([d, e], ρ2) => match seqD d with
    | some ds => match seqD e with
      | some es => .ok (.own (.lst (zipL ds es))) ρ2
      | none => .no
    | none => .no
  | _ => .no
section
variable {K : PySem.W.Frag} {mg : Str → Option Value} {B : Bs} {F H H2 : Hp} {ρ : List SV} {σ : L2.St} {τ : List (SV × V)}
theorem Cfg.grow (c : Cfg K mg B F ρ σ τ H) (g : ∀ a o, H a = some o → H2 a = some o) : Cfg K mg B F ρ σ τ H2 := by
  have gd : ∀ (sv : SV) (ov : Option V), Gd K mg F H sv ov → Gd K mg F H2 sv ov := fun sv ov x => by
    cases sv with
    | no => trivial
    | fz d => exact x
    | own d => obtain ⟨q, ho, e1, n, hh, r⟩ := x; exact ⟨q, ho, e1, n, g _ _ hh, r⟩
  exact { c with
    sub := fun a u e => g _ _ (c.sub a u e)
    gs := fun i sv e => gd _ _ (c.gs i sv e)
    gt := fun x hx => gd _ _ (c.gt x hx)
    b2 := fun b u e hA => g _ _ (c.b2 b u e hA) }
theorem Cfg.adoptZ : ∀ {xs ys : List D} {us vs : List V} {ts : List Addr} {F : Hp}, Cfg K mg B F ρ σ τ H → DVs K mg F xs us → DVs K mg F ys vs → ts.length = min us.length vs.length →
    (∀ (j : Nat) (t : Addr), ts[j]? = some t → ∃ x y, us[j]? = some x ∧ vs[j]? = some y ∧ H t = some (.tup [x, y])) → ∃ F', Cfg K mg B F' ρ σ τ H ∧ (∀ a o, F a = some o → F' a = some o) ∧ DVs K mg F' (zipL xs ys) (ts.map V.ref)
  | [], ys, _, vs, ts, F, c, .nil, _, hl, _ => by
    have : ts = [] := List.eq_nil_of_length_eq_zero (by rw [hl]; exact Nat.zero_min _)
    subst this
    exact ⟨F, c, fun _ _ h => h, by unfold zipL; exact .nil⟩
  | x :: xs, [], us, _, ts, F, c, _, .nil, hl, _ => by
    have : ts = [] := List.eq_nil_of_length_eq_zero (by rw [hl]; exact Nat.min_zero _)
    subst this
    exact ⟨F, c, fun _ _ h => h, by unfold zipL; exact .nil⟩
  | x :: xs, y :: ys, _, _, ts, F, c, .cons (v := u) (vs := us) hx hxs, .cons (v := v) (vs := vs) hy hys, hl, h => by
    match ts, hl, h with
    | [], hl, h => simp at hl
    | t :: ts, hl, h =>
      obtain ⟨x', y', e1, e2, e3⟩ := h 0 t rfl
      cases e1
      cases e2
      obtain ⟨F1, c1, m1, q1⟩ := c.adopt e3
      obtain ⟨F2, c2, m2, r2⟩ := Cfg.adoptZ (F := F1) c1 (hxs.mono m1) (hys.mono m1) (by simp at hl; omega) fun j t' hj => h (j + 1) t' (by simpa using hj)
      exact ⟨F2, c2, fun a o e => m2 a o (m1 a o e), .cons (.tup (m2 _ _ q1) (.cons ((hx.mono m1).mono m2) (.cons ((hy.mono m1).mono m2) .nil))) r2⟩
end
section
variable {X : Cx} {P : List Nat} {W : WX} {pos pos2 p p2 : Pos} {e e2 : Expr} {a : DA}
theorem d_listZip (hc : X.calm = true) (hg : Gl X "list") (hm : X.mg "list" = none) (hg2 : Gl X "zip") (hm2 : X.mg "zip" = none) (h : PDA X P W [e, e2] a)
    (hs : starEach [e, e2] X.env = (false, eval e X.env) :: starEach [e2] X.env := by rfl) (hpl : (backTo pos2 (starEach [e2] X.env)).any (·.1) = false := by rfl)
    (na : starEach [Expr.Call (.Name "zip" p2) [e, e2] [] pos2] X.env = (false, eval (Expr.Call (.Name "zip" p2) [e, e2] [] pos2) X.env) :: starEach [] X.env := by rfl) :
    PD X P W (.Call (.Name "list" p) [.Call (.Name "zip" p2) [e, e2] [] pos2] [] pos) (dLstZ a) := by
  obtain ⟨t, h1, h2⟩ := h
  refine ⟨_, pe_listZip hc hg hm hg2 hm2 h1 hs hpl na, ⟨fun B F ρ σ τ H Q pr c hp => ?_⟩⟩
  refine h2.bind pr c hp (fun _ _ _ h => h) id fun xs ρ1 F1 H1 vs c1 b1 hp1 => ?_
  cases q : fzL xs ρ1 with
  | none => rw [q] at hp1; exact hp1.elim
  | some pp =>
    obtain ⟨ds, ρ2⟩ := pp
    rw [q] at hp1
    obtain ⟨F2, c2, m, r⟩ := c1.fzA b1 q
    match ds, vs, r, hp1 with
    | [d1, d2], [v1, v2], .cons r1 (.cons r2 .nil), hp1 =>
      simp only at hp1
      cases e1 : seqD d1 with
      | none => rw [e1] at hp1; exact hp1.elim
      | some xs1 =>
        rw [e1] at hp1
        simp only at hp1
        cases e2 : seqD d2 with
        | none => rw [e2] at hp1; exact hp1.elim
        | some ys1 =>
          rw [e2] at hp1
          simp only at hp1
          obtain ⟨a1, l1, rfl, k1⟩ := sq_cases r1 e1
          obtain ⟨a2, l2, rfl, k2⟩ := sq_cases r2 e2
          obtain ⟨us1, q1, s1⟩ := k1 _ _ r1 c2.sub
          obtain ⟨us2, q2, s2⟩ := k2 _ _ r2 c2.sub
          refine ⟨a1, a2, us1, us2, l1, l2, rfl, q1, q2, fun H2 ts p g hl ht hn => ?_⟩
          obtain ⟨F3, c3, m3, r3⟩ := (c2.grow g).adoptZ s1 s2 hl ht
          exact hp1 _ _ _ (c3.allocO hn (.lst r3)) trivial
end
end PD
set_option Elab.async false
set_option linter.all false
set_option maxRecDepth 100000
set_option autoImplicit false
set_option maxHeartbeats 4000000
/-! PD: the module's constants; the law itself. -/
namespace PD
open PySem PySem.Spec PyProof.Rows L2
/-- a tuple of the module -/
def KTup (K : PySem.W.Frag) (a : Addr) (xs : List V) : Prop := ∃ (o : Obj) (its : Array Value) (n : Nat), K.lookup a = some o ∧ o.cls = .type "tuple" ∧ o.data = .seq its n ∧ its.size ≤ sizeLine ∧ Vals xs its.toList
section
variable {X : Cx} {P : List Nat} {W : WX} {pos : Pos} {x : Str}
theorem q_kint {n : Int} (h : ∃ t, X.mg x = some (.int n t)) (hg : Gl X x) (hd : (x == ("__debug__" : Str)) = false := by decide) : PD X P W (.Name x pos) (dC (.int n)) := by
  obtain ⟨t, h⟩ := h
  exact d_glob (v := .int n) hg h ⟨t, rfl⟩ (fun _ => .int) hd
theorem q_kstr {z : Str} (h : ∃ t, X.mg x = some (.str z t)) (hg : Gl X x) (hd : (x == ("__debug__" : Str)) = false := by decide) : PD X P W (.Name x pos) (dC (.str z)) := by
  obtain ⟨t, h⟩ := h
  exact d_glob (v := .str z) hg h ⟨t, rfl⟩ (fun _ => .str) hd
theorem dvs_strs {K : PySem.W.Frag} {mg : Str → Option Value} {F : Hp} : ∀ zs : List Str, DVs K mg F (zs.map D.str) (zs.map V.str)
  | [] => .nil
  | _ :: zs => .cons .str (dvs_strs zs)
theorem q_kstrs {zs : List Str} (h : ∃ a, X.mg x = some (.ref a) ∧ KTup X.K a (zs.map V.str)) (hg : Gl X x) (hd : (x == ("__debug__" : Str)) = false := by decide) : PD X P W (.Name x pos) (dC (.kt (zs.map D.str))) := by
  obtain ⟨a, h, hk⟩ := h
  exact d_glob (v := .ref a) hg h rfl (fun _ => .kt (.inr hk) (dvs_strs zs)) hd
end
/-- the law's promise -/
def spLaw (K : PySem.W.Frag) : Sp := fun vs H Q _ => ∃ (a : Addr) (ns : List Int), vs = [.ref a] ∧ SqL K H a (ns.map V.int) ∧ ns.length ≤ 63 ∧ ∀ H', Q (.bl true) H'
/-- the law answers True at every script -/
def Keeps (f : FDn) : Prop := f.io = [true] ∧ ∀ ns : List Int, ns.length ≤ 63 → ∃ a, f.run [.fz (.lk (ns.map D.int))] = .ret (.fz (.bl true)) [a]
theorem spD_law {K : PySem.W.Frag} {mg : Str → Option Value} {f : FDn} (h : Keeps f) {H : Hp} {a : Addr} {ns : List Int} {Q : VK} {E : XK} (hS : SqL K H a (ns.map V.int)) (hl : ns.length ≤ 63) (q : ∀ H', Q (.bl true) H') : spD K mg f [.ref a] H Q E := by
  obtain ⟨hio, hr⟩ := h
  obtain ⟨as, e⟩ := hr ns hl
  let F : Hp := fun c => if c = a then H a else none
  have hF : ∀ c o, F c = some o → H c = some o := fun c o e => by
    have e : (if c = a then H a else none) = some o := e
    by_cases z : c = a
    · rw [if_pos z] at e; rw [z]; exact e
    · rw [if_neg z] at e; cases e
  have hSF : SqL K F a (ns.map V.int) := by
    have fa : F a = H a := if_pos rfl
    rcases hS with (h | ⟨o, h⟩) | h
    · exact .inl (.inl (fa.trans h))
    · exact .inl (.inr ⟨o, fa.trans h⟩)
    · exact .inr h
  have dv : DV K mg F (.lk (ns.map D.int)) (.ref a) := .lk hSF (.of_ints ns)
  refine ⟨F, [.fz (.lk (ns.map D.int))], by rw [hio]; rfl, rfl, by rw [hio]; rfl, ?_, ?_⟩
  · exact {
      len := rfl
      sub := hF
      gs := fun i sv e => by
        cases i with
        | zero => cases e; exact ⟨_, rfl, dv⟩
        | succ i => cases e
      gt := fun x hx => by cases hx
      s1 := fun i j p ⟨d, e, _⟩ => by
        cases i with
        | zero => cases e
        | succ i => cases e
      s2 := fun i p _ ⟨d, t⟩ => by cases t
      s3 := .nil
      b1 := fun c o e => .inl e
      b2 := fun c o e _ => e
      b3 := fun p h => by
        rcases h with ⟨i, d, e, _⟩ | ⟨d, t⟩
        · cases i with
          | zero => cases e
          | succ i => cases e
        · cases t
      b4 := fun c o e => e
      pr := fun x hx => by cases hx
      prH := fun x hx => by cases hx }
  · rw [e]
    intro _ F' H' v x
    have g := x.gt (.fz (.bl true), v) List.mem_cons_self
    obtain ⟨w, e1, r⟩ := g
    cases e1
    cases r
    exact q H'
theorem law_fn {P : Program} {w : World} {K : PySem.W.Frag} {mg : Str → Option Value} {base : Heap} {k : Nat} {fa : Addr} {fd : FuncData} {f : FDn} (G : FnOk P w K mg base (L2.CX P w) k fa fd ["script"] (spD K mg f)) (h : Keeps f) : FnOk P w K mg base (fun _ _ _ _ _ _ => False) k fa fd ["script"] (spLaw K) :=
  ⟨fun vs H Q E ⟨a, ns, e, _⟩ => by rw [e]; rfl, fun A outer s H args us vs Q E hr e0 hb r hs => by
    obtain ⟨a, ns, rfl, hS, hl, q⟩ := hs
    refine codeAny_mono (G.run A outer s H args us _ Q (fun _ _ _ => False) hr e0 hb r (spD_law h hS hl q)) fun r s' hq => ?_
    cases r with
    | error e => obtain ⟨_, _, _, _, _, _, _, _, _, _, _, _, h⟩ := hq; exact h
    | ok fl =>
      cases fl with
      | ret u => exact hq
      | _ => exact hq⟩
theorem walk_law {l : PySem.W.OpenLaw} {k : Nat} {q : Program} {loose : List Str} {XP : (Str → Option Value) → Heap → Prop} {YP : World → Heap → Prop} {d : DefRec} {K : Params → PySem.W.Frag} (hn : l.most = some 63) (hdf : d.params.defaults = []) (hr : Room k callerA)
    (hY : ∀ (w : World) (h : Heap), YP w h → (K w.params).In h)
    (F : ∀ (w : World) (mg : Str → Option Value) (fa : Addr) (h : Heap), (K w.params).In h → h.Ns mainGlobals mg → mg d.name = some (.ref fa) →
      ∃ fd : FuncData, (∀ (s : Shared) (u : Value), BindsTo s fd ⟨[u], []⟩ [("script", u)]) ∧ ∀ base : Heap, (K w.params).In base → base.Ns mainGlobals mg → ∃ f, Keeps f ∧ FnOk l.prog w (K w.params) mg base (L2.CX l.prog w) k fa fd ["script"] (spD (K w.params) mg f)) :
    PySem.W.WalkO q loose XP YP l.row.toRowW d [] (fun f vs => PySem.call f vs) :=
  L2.walk_of (n := 63) (k := k) (x := "script") (CX := fun _ => fun _ _ _ _ _ _ => False) (sp := fun w => spLaw (K w.params)) hn (by decide) hdf hr hY
    (fun w mg fa h KX G hm => by
      obtain ⟨fd, hb, hF⟩ := F w mg fa h KX G hm
      refine ⟨fd, hb, fun base h1 h2 => ?_⟩
      obtain ⟨f, hk, hf⟩ := hF base h1 h2
      exact law_fn hf hk) (fun _ _ a ns hl _ hS => ⟨a, ns, rfl, hS, hl, fun _ => rfl⟩) fun _ _ _ _ _ z => z
/-! ### what the head gives -/
structure FF (K : PySem.W.Frag) (x qual : Str) (st : Stmt) (f : Addr) : Prop where
  ex : ∃ (oc kV doc pm cdv ct : Value) (od an : Option Addr) (osl : Array (Option Value)), K.lookup f = some ⟨oc, od, .func (PySem.W.fnOf x qual (defArgs st) (defBody st) (defScope st) .none kV doc pm an cdv ct), osl⟩ ∧ PySem.W.codeIn K cdv qual = true ∧ PySem.W.keepIn K (.ref f) = true
section
variable {K : PySem.W.Frag} {x qual : Str} {st : Stmt} {f : Addr} {oc kV doc pm cdv ct : Value} {od an : Option Addr} {osl : Array (Option Value)}
theorem ff (l : K.lookup f = some ⟨oc, od, .func (PySem.W.fnOf x qual (defArgs st) (defBody st) (defScope st) .none kV doc pm an cdv ct), osl⟩) (c : PySem.W.codeIn K cdv qual = true) (k : PySem.W.keepIn K (.ref f) = true) : FF K x qual st f :=
  ⟨oc, kV, doc, pm, cdv, ct, od, an, osl, l, c, k⟩
/-- a def as the rules want it -/
def Df (K : PySem.W.Frag) (x qual : Str) (st : Stmt) (f : Addr) (ps : List Str) : Prop := ∃ fd, Fun K x qual st f fd ∧ PySem.W.keepIn K (.ref f) = true ∧ Binds K fd ps []
theorem FF.df (F : FF K x qual st f) {ps : List Str} (h : ∀ (kV doc pm : Value) (an : Option Addr) (cdv ct : Value) (us : List Value), us.length = ps.length → bindArgs (PySem.W.fnOf x qual (defArgs st) (defBody st) (defScope st) .none kV doc pm an cdv ct) ⟨us, []⟩ = pure (ps.zip us)) : Df K x qual st f ps := by
  obtain ⟨oc, kV, doc, pm, cdv, ct, od, an, osl, l, c, k⟩ := F.ex
  exact ⟨_, fun_mk l c k, k, (fun_mk l c k).binds h⟩
end
/-- a class of the module -/
structure CF (K : PySem.W.Frag) (C : Addr) : Prop where
  pg : PySem.W.plainGet K C Str.empty = true
  hd : PySem.W.hasDictIn K C = true
  po : PySem.W.plainOver K C = true
  sa : PySem.W.findIn K (.ref C) "__setattr__" = some (some (.builtin "object.__setattr__"))
  ma : PySem.W.makesIn K C = true
  kc : PySem.W.keepIn K (.ref C) = true
end PD
set_option Elab.async false
set_option linter.all false
set_option maxRecDepth 100000
set_option autoImplicit false
set_option maxHeartbeats 4000000
namespace Lk
open PySem PySem.Spec PyProof.Rows L2 PD
def top (i : Nat) : Stmt := PySem.Challenge.pw_stafftree_k14_worlds_drawn_by_a_seed.main.body.getD i (.Pass ⟨0, 0, 0, 0⟩)
abbrev s_u_law_bag : Stmt := top 22
theorem sc_u_law_bag : FnScope ["script", "cell"] ["script"] (defScope s_u_law_bag) := ⟨rfl, rfl, rfl, by decide +kernel, rfl, by decide +kernel, by decide +kernel⟩
def b_u_law_bag : DS := (dRet (dLst (dCons (dC (.int 0)) (dCons (dC (.int 1234567891)) (dCons (dC (.int 0)) (dCons (dLc (dItS (dSl slD (dVar 0) dNoPart (dPart (dC (.int 63))))) (bName 1) dYes (dOpN absD (dCons (dVar 1) dNil)) [1]) dNil))))))
def f_u_law_bag : FDn := mkF [true] 2 b_u_law_bag
abbrev s_u_law_take : Stmt := top 23
theorem sc_u_law_take : FnScope ["bag", "many", "cell", "stirred", "value", "begin", "second"] ["bag", "many"] (defScope s_u_law_take) := ⟨rfl, rfl, rfl, by decide +kernel, rfl, by decide +kernel, by decide +kernel⟩
def b_u_law_take : DS := (dSeq (dIfS (dB (dOp2 eqD (dOp2 ixA (dVar 0) (dC (.int 0))) (dC (.int 0))))
 (dSeq (dSet 2 (dOp2 ixA (dOp2 (orD addI (orD catL (orD catT catS))) (dSl slD (dOp2 ixA (dVar 0) (dC (.int 3))) (dPart (dOp2 ixA (dVar 0) (dC (.int 2)))) dNoPart) (dLst (dCons (dC (.int 0)) dNil))) (dC (.int 0))))
 (dSeq (dAugS (fun i j => i + j) (dVar 0) (dC (.int 2)) (dC (.int 1)))
 (dSeq (dIfS (dB (dOp2 geI (dVar 2) (dOp2 powD (dC (.int 10)) (dC (.int 18)))))
 (dStore (dVar 2) (dVar 0) (dC (.int 0)))
 dNext)
 (dSeq (dSet 3 (dOp2 (orD addI (orD catL (orD catT catS))) (dOp2 (orD addI (orD catL (orD catT catS))) (dOp2 (orD mulI repL) (dOp2 ixA (dVar 0) (dC (.int 1))) (dC (.int 48271))) (dOp2 modD (dOpN intD (dCons (dVar 2) dNil)) (dC (.int 2147483647)))) (dOp2 (orD mulI repL) (dC (.int 7919)) (dOp2 ixA (dVar 0) (dC (.int 2))))))
 (dStore (dOp2 modD (dOpN intD (dCons (dVar 3) dNil)) (dC (.int 2147483647))) (dVar 0) (dC (.int 1)))))))
 dNext)
 (dSeq (dIfS (dB (dOp2 gtI (dOp2 ixA (dVar 0) (dC (.int 0))) (dC (.int 0))))
 (dSeq (dSet 4 (dOp2 modD (dOpN intD (dCons (dOp2 ixA (dVar 0) (dC (.int 0))) dNil)) (dVar 1)))
 (dSeq (dStore (dOp2 fdivD (dOpN intD (dCons (dOp2 ixA (dVar 0) (dC (.int 0))) dNil)) (dVar 1)) (dVar 0) (dC (.int 0)))
 (dRet (dVar 4))))
 dNext)
 (dSeq (dSet 5 (dOp2 modD (dOpN intD (dCons (dOp2 (orD mulI repL) (dOp2 (orD addI (orD catL (orD catT catS))) (dOp2 ixA (dVar 0) (dC (.int 1))) (dC (.int 1))) (dC (.int 39373))) dNil)) (dC (.int 1000000007))))
 (dSeq (dSet 6 (dOp2 modD (dOpN intD (dCons (dOp2 (orD mulI repL) (dOp2 modD (dOpN intD (dCons (dOp2 (orD mulI repL) (dVar 5) (dVar 5)) dNil)) (dC (.int 998244353))) (dC (.int 30011))) dNil)) (dC (.int 998244353))))
 (dRet (dOp2 modD (dOpN intD (dCons (dOp2 fdivD (dVar 6) (dC (.int 7))) dNil)) (dVar 1)))))))
def f_u_law_take : FDn := mkF [true, true] 7 b_u_law_take
abbrev s_u_law_some : Stmt := top 24
theorem sc_u_law_some : FnScope ["bag", "things"] ["bag", "things"] (defScope s_u_law_some) := ⟨rfl, rfl, rfl, by decide +kernel, rfl, by decide +kernel, by decide +kernel⟩
def b_u_law_some : DS := (dRet (dOp2 ixA (dVar 1) (dCall f_u_law_take (dCons (dVar 0) (dCons (dOpN lenD (dCons (dVar 1) dNil)) dNil)))))
def f_u_law_some : FDn := mkF [true, true] 2 b_u_law_some
abbrev s_DrawsX_initX : Stmt := inClass (top 11) 0
theorem sc_DrawsX_initX : FnScope ["self", "seed"] ["self", "seed"] (defScope s_DrawsX_initX) := ⟨rfl, rfl, rfl, by decide +kernel, rfl, by decide +kernel, by decide +kernel⟩
def b_DrawsX_initX : DS := (dStFld "Draws" "its_state" (dOp2 modD (dVar 1) (dC (.int 2147483647))) (dVar 0))
def f_DrawsX_initX : FDn := mkF [true, true] 2 b_DrawsX_initX
abbrev s_u_law_next : Stmt := top 29
theorem sc_u_law_next : FnScope ["state", "many", "later"] ["state", "many"] (defScope s_u_law_next) := ⟨rfl, rfl, rfl, by decide +kernel, rfl, by decide +kernel, by decide +kernel⟩
def b_u_law_next : DS := (dSeq (dSet 2 (dOp2 modD (dOpN intD (dCons (dOp2 (orD addI (orD catL (orD catT catS))) (dOp2 (orD mulI repL) (dVar 0) (dC (.int 48271))) (dC (.int 11))) dNil)) (dC (.int 2147483647))))
 (dRet (dTup (dCons (dVar 2) (dCons (dOp2 modD (dOpN intD (dCons (dOp2 fdivD (dVar 2) (dC (.int 7))) dNil)) (dVar 1)) dNil)))))
def f_u_law_next : FDn := mkF [true, true] 3 b_u_law_next
abbrev s_u_law_alike : Stmt := top 25
theorem sc_u_law_alike : FnScope ["found", "due", "pairs", "at", "one", "other"] ["found", "due"] (defScope s_u_law_alike) := ⟨rfl, rfl, rfl, by decide +kernel, rfl, by decide +kernel, by decide +kernel⟩
def b_u_law_alike : DS := (dSeq (dPar 2 3 (dCons (dLst (dCons (dTup (dCons (dVar 0) (dCons (dVar 1) dNil))) dNil)) (dCons (dC (.int 0)) dNil)))
 (dSeq (dWhile (dB (dOp2 ltI (dVar 3) (dOpN lenD (dCons (dVar 2) dNil))))
 (dSeq (dAsg (bTup 2 (bCons (bName 4) (bCons (bName 5) bNil))) (dOp2 ixA (dVar 2) (dVar 3)))
 (dSeq (dAug 3 addI (dC (.int 1)))
 (dSeq (dIfS (dOr (dB (dOp2 neD (dOpN isiD (dCons (dVar 4) (dCons (dC (.ty .bool)) dNil))) (dOpN isiD (dCons (dVar 5) (dCons (dC (.ty .bool)) dNil))))) (dB (dOp2 neD (dOpN isiD (dCons (dVar 4) (dCons (dC (.ty .str)) dNil))) (dOpN isiD (dCons (dVar 5) (dCons (dC (.ty .str)) dNil))))))
 (dRet (dC (.bl false)))
 dNext)
 (dSeq (dIfS (dB (dOp2 neD (dOpN isiD (dCons (dVar 4) (dCons (dTup (dCons (dC (.ty .tuple)) (dCons (dC (.ty .list)) dNil))) dNil))) (dOpN isiD (dCons (dVar 5) (dCons (dTup (dCons (dC (.ty .tuple)) (dCons (dC (.ty .list)) dNil))) dNil)))))
 (dRet (dC (.bl false)))
 dNext)
 (dIfS (dTru (dOpN isiD (dCons (dVar 4) (dCons (dTup (dCons (dC (.ty .tuple)) (dCons (dC (.ty .list)) dNil))) dNil))))
 (dSeq (dIfS (dOr (dB (dOp2 neD (dOpN isiD (dCons (dVar 4) (dCons (dC (.ty .tuple)) dNil))) (dOpN isiD (dCons (dVar 5) (dCons (dC (.ty .tuple)) dNil))))) (dB (dOp2 neD (dOpN lenD (dCons (dVar 4) dNil)) (dOpN lenD (dCons (dVar 5) dNil)))))
 (dRet (dC (.bl false)))
 dNext)
 (dDrop (dMut "list" extD (dVar 2) (dCons (dLstZ (dCons (dVar 4) (dCons (dVar 5) dNil))) dNil))))
 (dIfS (dB (dOp2 neD (dVar 4) (dVar 5)))
 (dRet (dC (.bl false)))
 dNext)))))) 1000000)
 (dRet (dC (.bl true)))))
def f_u_law_alike : FDn := mkF [true, true] 6 b_u_law_alike
abbrev s_Draws_take : Stmt := inClass (top 11) 1
theorem sc_Draws_take : FnScope ["self", "many"] ["self", "many"] (defScope s_Draws_take) := ⟨rfl, rfl, rfl, by decide +kernel, rfl, by decide +kernel, by decide +kernel⟩
def b_Draws_take : DS := (dSeq (dStFld "Draws" "its_state" (dOp2 modD (dOp2 (orD addI (orD catL (orD catT catS))) (dOp2 (orD mulI repL) (dFld "Draws" "its_state" (dVar 0)) (dC (.int 48271))) (dC (.int 11))) (dC (.int 2147483647))) (dVar 0))
 (dRet (dOp2 modD (dOp2 fdivD (dFld "Draws" "its_state" (dVar 0)) (dC (.int 7))) (dVar 1))))
def f_Draws_take : FDn := mkF [true, true] 2 b_Draws_take
abbrev s_Draws_state : Stmt := inClass (top 11) 2
theorem sc_Draws_state : FnScope ["self"] ["self"] (defScope s_Draws_state) := ⟨rfl, rfl, rfl, by decide +kernel, rfl, by decide +kernel, by decide +kernel⟩
def b_Draws_state : DS := (dRet (dFld "Draws" "its_state" (dVar 0)))
def f_Draws_state : FDn := mkF [true] 1 b_Draws_state
abbrev s_u_law_drawn_chart : Stmt := top 30
theorem sc_u_law_drawn_chart : FnScope ["state", "many", "found", "one", "number"] ["state", "many"] (defScope s_u_law_drawn_chart) := ⟨rfl, rfl, rfl, by decide +kernel, rfl, by decide +kernel, by decide +kernel⟩
def b_u_law_drawn_chart : DS := (dSeq (dSet 2 (dLst dNil))
 (dSeq (dFor (dRng1 (dCons (dVar 1) dNil)) (bName 3)
 (dSeq (dAsg (bTup 2 (bCons (bName 0) (bCons (bName 4) bNil))) (dCall f_u_law_next (dCons (dVar 0) (dCons (dOp2 (orD addI (orD catL (orD catT catS))) (dVar 3) (dC (.int 1))) dNil))))
 (dDrop (dMut "list" appD (dVar 2) (dCons (dIf (dB (dOp2 eqD (dVar 4) (dC (.int 0)))) (dC .non) (dOp2 subD (dVar 4) (dC (.int 1)))) dNil)))))
 (dRet (dTup (dCons (dVar 0) (dCons (dOpN tupleD (dCons (dVar 2) dNil)) dNil))))))
def f_u_law_drawn_chart : FDn := mkF [false, true] 5 b_u_law_drawn_chart
abbrev s_u_law_up : Stmt := top 27
theorem sc_u_law_up : FnScope ["chart", "one", "found"] ["chart", "one"] (defScope s_u_law_up) := ⟨rfl, rfl, rfl, by decide +kernel, rfl, by decide +kernel, by decide +kernel⟩
def b_u_law_up : DS := (dSeq (dSet 2 (dLst dNil))
 (dSeq (dWhile (dB (dOp2 notN (dOp2 ixA (dVar 0) (dVar 1)) (dC .non)))
 (dSeq (dSet 1 (dOp2 ixA (dVar 0) (dVar 1)))
 (dDrop (dMut "list" appD (dVar 2) (dCons (dVar 1) dNil)))) 1000000)
 (dRet (dVar 2))))
def f_u_law_up : FDn := mkF [true, false] 3 b_u_law_up
abbrev s_u_law_table_of : Stmt := top 28
theorem sc_u_law_table_of : FnScope ["chart", "found", "one", "chief"] ["chart"] (defScope s_u_law_table_of) := ⟨rfl, rfl, rfl, by decide +kernel, rfl, by decide +kernel, by decide +kernel⟩
def b_u_law_table_of : DS := (dSeq (dSet 1 (dLst dNil))
 (dSeq (dFor (dRng1 (dCons (dOpN lenD (dCons (dVar 0) dNil)) dNil)) (bName 2)
 (dDrop (dMut "list" extD (dVar 1) (dCons (dLc (dItS (dCall f_u_law_up (dCons (dVar 0) (dCons (dVar 2) dNil)))) (bName 3) dYes (dTup (dCons (dOpN min2D (dCons (dVar 2) (dCons (dVar 3) dNil))) (dCons (dOpN max2D (dCons (dVar 2) (dCons (dVar 3) dNil))) dNil))) [3]) dNil))))
 (dRet (dTup (dCons (dOpN lenD (dCons (dVar 0) dNil)) (dCons (dOpN tupleD (dCons (dOpN srtD (dCons (dVar 1) dNil)) dNil)) dNil))))))
def f_u_law_table_of : FDn := mkF [true] 4 b_u_law_table_of
abbrev s_chart_by : Stmt := top 12
theorem sc_chart_by : FnScope ["draws", "many", "found", "one", "number"] ["draws", "many"] (defScope s_chart_by) := ⟨rfl, rfl, rfl, by decide +kernel, rfl, by decide +kernel, by decide +kernel⟩
def b_chart_by : DS := (dSeq (dSet 2 (dLst dNil))
 (dSeq (dFor (dRng1 (dCons (dVar 1) dNil)) (bName 3)
 (dSeq (dSet 4 (dMethU "Draws" "take" f_Draws_take (dVar 0) (dCons (dOp2 (orD addI (orD catL (orD catT catS))) (dVar 3) (dC (.int 1))) dNil)))
 (dDrop (dMut "list" appD (dVar 2) (dCons (dIf (dB (dOp2 gtI (dVar 4) (dC (.int 0)))) (dOp2 subD (dVar 4) (dC (.int 1))) (dC .non)) dNil)))))
 (dRet (dOpN tupleD (dCons (dVar 2) dNil)))))
def f_chart_by : FDn := mkF [true, true] 5 b_chart_by
abbrev s_drawn_chart : Stmt := top 13
theorem sc_drawn_chart : FnScope ["seed", "many"] ["seed", "many"] (defScope s_drawn_chart) := ⟨rfl, rfl, rfl, by decide +kernel, rfl, by decide +kernel, by decide +kernel⟩
def b_drawn_chart : DS := (dRet (dCall f_chart_by (dCons (dMake "Draws" f_DrawsX_initX (dCons (dVar 0) dNil)) (dCons (dVar 1) dNil))))
def f_drawn_chart : FDn := mkF [true, true] 2 b_drawn_chart
abbrev s_way_up : Stmt := top 1
theorem sc_way_up : FnScope ["chart", "one", "found"] ["chart", "one"] (defScope s_way_up) := ⟨rfl, rfl, rfl, by decide +kernel, rfl, by decide +kernel, by decide +kernel⟩
def b_way_up : DS := (dSeq (dSet 2 (dLst (dCons (dVar 1) dNil)))
 (dSeq (dWhile (dB (dOp2 notN (dOp2 ixA (dVar 0) (dOp2 ixA (dVar 2) (dOp1 negD (dC (.int 1))))) (dC .non)))
 (dDrop (dMut "list" appD (dVar 2) (dCons (dOp2 ixA (dVar 0) (dOp2 ixA (dVar 2) (dOp1 negD (dC (.int 1))))) dNil))) 1000000)
 (dRet (dVar 2))))
def f_way_up : FDn := mkF [true, true] 3 b_way_up
abbrev s_table_of : Stmt := top 3
theorem sc_table_of : FnScope ["chart", "couples", "one", "chief"] ["chart"] (defScope s_table_of) := ⟨rfl, rfl, rfl, by decide +kernel, rfl, by decide +kernel, by decide +kernel⟩
def b_table_of : DS := (dSeq (dSet 1 (dNewD true))
 (dSeq (dFor (dRng1 (dCons (dOpN lenD (dCons (dVar 0) dNil)) dNil)) (bName 2)
 (dDrop (dMut "dict" updD (dVar 1) (dCons (dDc true (dItS (dSl slD (dCall f_way_up (dCons (dVar 0) (dCons (dVar 2) dNil))) (dPart (dC (.int 1))) dNoPart)) (bName 3) dYes (dTup (dCons (dOpN min2D (dCons (dVar 2) (dCons (dVar 3) dNil))) (dCons (dOpN max2D (dCons (dVar 2) (dCons (dVar 3) dNil))) dNil))) (dC (.bl true)) [3]) dNil))))
 (dRet (dTup (dCons (dOpN lenD (dCons (dVar 0) dNil)) (dCons (dOpN tupleD (dCons (dOpN srtD (dCons (dVar 1) dNil)) dNil)) dNil))))))
def f_table_of : FDn := mkF [true] 4 b_table_of
abbrev s_bent_table : Stmt := top 16
theorem sc_bent_table : FnScope ["seed", "many", "bends", "draws", "couple", "lined", "bend", "a", "b"] ["seed", "many", "bends"] (defScope s_bent_table) := ⟨rfl, rfl, rfl, by decide +kernel, rfl, by decide +kernel, by decide +kernel⟩
def b_bent_table : DS := (dSeq (dSet 3 (dMake "Draws" f_DrawsX_initX (dCons (dVar 0) dNil)))
 (dSeq (dSet 5 (dDc true (dItS (dOp2 ixA (dCall f_table_of (dCons (dCall f_chart_by (dCons (dVar 3) (dCons (dVar 1) dNil))) dNil)) (dC (.int 1)))) (bName 4) dYes (dVar 4) (dC (.bl true)) [4]))
 (dSeq (dFor (dRng1 (dCons (dVar 2) dNil)) (bName 6)
 (dSeq (dPar 7 8 (dCons (dMethU "Draws" "take" f_Draws_take (dVar 3) (dCons (dVar 1) dNil)) (dCons (dMethU "Draws" "take" f_Draws_take (dVar 3) (dCons (dVar 1) dNil)) dNil)))
 (dSeq (dSet 4 (dTup (dCons (dOpN min2D (dCons (dVar 7) (dCons (dVar 8) dNil))) (dCons (dOpN max2D (dCons (dVar 7) (dCons (dVar 8) dNil))) dNil))))
 (dIfS (dB (dOp2 inA (dVar 4) (dVar 5)))
 (dDrop (dMut "dict" pop1D (dVar 5) (dCons (dVar 4) dNil)))
 (dIfS (dB (dOp2 neD (dVar 7) (dVar 8)))
 (dStore (dC (.bl true)) (dVar 5) (dVar 4))
 dNext)))))
 (dRet (dTup (dCons (dVar 1) (dCons (dOpN tupleD (dCons (dOpN srtD (dCons (dVar 5) dNil)) dNil)) dNil)))))))
def f_bent_table : FDn := mkF [true, true, true] 9 b_bent_table
abbrev s_u_law_couples : Stmt := top 26
theorem sc_u_law_couples : FnScope ["many", "found", "a", "b"] ["many"] (defScope s_u_law_couples) := ⟨rfl, rfl, rfl, by decide +kernel, rfl, by decide +kernel, by decide +kernel⟩
def b_u_law_couples : DS := (dSeq (dSet 1 (dLst dNil))
 (dSeq (dFor (dRng1 (dCons (dVar 0) dNil)) (bName 2)
 (dDrop (dMut "list" extD (dVar 1) (dCons (dLc (dRng2 (dCons (dOp2 (orD addI (orD catL (orD catT catS))) (dVar 2) (dC (.int 1))) (dCons (dVar 0) dNil))) (bName 3) dYes (dTup (dCons (dVar 2) (dCons (dVar 3) dNil))) [3]) dNil))))
 (dRet (dVar 1))))
def f_u_law_couples : FDn := mkF [true] 4 b_u_law_couples
abbrev s_all_couples : Stmt := top 14
theorem sc_all_couples : FnScope ["many", "a", "b"] ["many"] (defScope s_all_couples) := ⟨rfl, rfl, rfl, by decide +kernel, rfl, by decide +kernel, by decide +kernel⟩
def b_all_couples : DS := (dRet (dLc2 (dRng1 (dCons (dVar 0) dNil)) (bName 1) dYes (dRng2 (dCons (dOp2 (orD addI (orD catL (orD catT catS))) (dVar 1) (dC (.int 1))) (dCons (dVar 0) dNil))) (bName 2) dYes (dTup (dCons (dVar 1) (dCons (dVar 2) dNil))) [1, 2] [2]))
def f_all_couples : FDn := mkF [true] 3 b_all_couples
abbrev s_drawn_table : Stmt := top 15
theorem sc_drawn_table : FnScope ["seed", "many", "draws", "told", "couple", "number"] ["seed", "many"] (defScope s_drawn_table) := ⟨rfl, rfl, rfl, by decide +kernel, rfl, by decide +kernel, by decide +kernel⟩
def b_drawn_table : DS := (dSeq (dSet 2 (dMake "Draws" f_DrawsX_initX (dCons (dVar 0) dNil)))
 (dSeq (dSet 3 (dLc (dItS (dCall f_all_couples (dCons (dVar 1) dNil))) (bName 4) dYes (dTup (dCons (dVar 4) (dCons (dMethU "Draws" "take" f_Draws_take (dVar 2) (dCons (dC (.int 2)) dNil)) dNil))) [4]))
 (dRet (dTup (dCons (dVar 1) (dCons (dOpN tupleD (dCons (dLc (dItS (dVar 3)) (bTup 2 (bCons (bName 4) (bCons (bName 5) bNil))) (dB (dOp2 eqD (dVar 5) (dC (.int 1)))) (dVar 4) [4, 5]) dNil)) dNil))))))
def f_drawn_table : FDn := mkF [true, true] 6 b_drawn_table
abbrev s_drawn_names : Stmt := top 17
theorem sc_drawn_names : FnScope ["seed", "many", "draws", "left", "found", "one", "other"] ["seed", "many"] (defScope s_drawn_names) := ⟨rfl, rfl, rfl, by decide +kernel, rfl, by decide +kernel, by decide +kernel⟩
def b_drawn_names : DS := (dSeq (dPar3 2 3 4 (dCons (dMake "Draws" f_DrawsX_initX (dCons (dVar 0) dNil)) (dCons (dLstRg (dRng1 (dCons (dVar 1) dNil))) (dCons (dLst dNil) dNil))))
 (dSeq (dWhile (dTru (dVar 3))
 (dSeq (dSet 5 (dOp2 ixA (dVar 3) (dMethU "Draws" "take" f_Draws_take (dVar 2) (dCons (dOpN lenD (dCons (dVar 3) dNil)) dNil))))
 (dSeq (dSet 3 (dLc (dItS (dVar 3)) (bName 6) (dB (dOp2 neD (dVar 6) (dVar 5))) (dVar 6) [6]))
 (dDrop (dMut "list" appD (dVar 4) (dCons (dVar 5) dNil))))) 1000000)
 (dRet (dOpN tupleD (dCons (dVar 4) dNil)))))
def f_drawn_names : FDn := mkF [true, true] 7 b_drawn_names
abbrev s_drawn_lot : Stmt := top 18
theorem sc_drawn_lot : FnScope ["seed", "many", "draws", "told", "one", "number"] ["seed", "many"] (defScope s_drawn_lot) := ⟨rfl, rfl, rfl, by decide +kernel, rfl, by decide +kernel, by decide +kernel⟩
def b_drawn_lot : DS := (dSeq (dSet 2 (dMake "Draws" f_DrawsX_initX (dCons (dVar 0) dNil)))
 (dSeq (dSet 3 (dLc (dRng1 (dCons (dVar 1) dNil)) (bName 4) dYes (dTup (dCons (dVar 4) (dCons (dMethU "Draws" "take" f_Draws_take (dVar 2) (dCons (dC (.int 2)) dNil)) dNil))) [4]))
 (dRet (dOpN tupleD (dCons (dLc (dItS (dVar 3)) (bTup 2 (bCons (bName 4) (bCons (bName 5) bNil))) (dB (dOp2 eqD (dVar 5) (dC (.int 1)))) (dVar 4) [4, 5]) dNil)))))
def f_drawn_lot : FDn := mkF [true, true] 6 b_drawn_lot
abbrev s_deed_by : Stmt := top 19
theorem sc_deed_by : FnScope ["draws", "way", "a", "b"] ["draws"] (defScope s_deed_by) := ⟨rfl, rfl, rfl, by decide +kernel, rfl, by decide +kernel, by decide +kernel⟩
def b_deed_by : DS := (dSeq (dSet 1 (dOp2 ixA (dC (.kt ((["join", "join", "join", "join", "line", "line", "line", "apart", "apart", "forget", "forget", "day"] : List Str).map D.str))) (dMethU "Draws" "take" f_Draws_take (dVar 0) (dCons (dOpN lenD (dCons (dC (.kt ((["join", "join", "join", "join", "line", "line", "line", "apart", "apart", "forget", "forget", "day"] : List Str).map D.str))) dNil)) dNil))))
 (dSeq (dPar 2 3 (dCons (dOp2 ixA (dC (.kt ((["ash", "bea", "cid", "dot", "eli"] : List Str).map D.str))) (dMethU "Draws" "take" f_Draws_take (dVar 0) (dCons (dOpN lenD (dCons (dC (.kt ((["ash", "bea", "cid", "dot", "eli"] : List Str).map D.str))) dNil)) dNil))) (dCons (dOp2 ixA (dC (.kt ((["ash", "bea", "cid", "dot", "eli"] : List Str).map D.str))) (dMethU "Draws" "take" f_Draws_take (dVar 0) (dCons (dOpN lenD (dCons (dC (.kt ((["ash", "bea", "cid", "dot", "eli"] : List Str).map D.str))) dNil)) dNil))) dNil)))
 (dSeq (dIfS (dB (dOp2 eqD (dVar 1) (dC (.str "join"))))
 (dRet (dTup (dCons (dVar 1) (dCons (dVar 2) dNil))))
 dNext)
 (dRet (dIf (dB (dOp2 eqD (dVar 1) (dC (.str "day")))) (dTup (dCons (dVar 1) dNil)) (dTup (dCons (dVar 1) (dCons (dVar 2) (dCons (dVar 3) dNil)))))))))
def f_deed_by : FDn := mkF [true] 4 b_deed_by
abbrev s_deeds_of : Stmt := top 20
theorem sc_deeds_of : FnScope ["seed", "many", "draws", "deed"] ["seed", "many"] (defScope s_deeds_of) := ⟨rfl, rfl, rfl, by decide +kernel, rfl, by decide +kernel, by decide +kernel⟩
def b_deeds_of : DS := (dSeq (dSet 2 (dMake "Draws" f_DrawsX_initX (dCons (dVar 0) dNil)))
 (dRet (dOpN tupleD (dCons (dLc (dRng1 (dCons (dVar 1) dNil)) (bName 3) dYes (dCall f_deed_by (dCons (dVar 2) dNil)) [3]) dNil))))
def f_deeds_of : FDn := mkF [true, true] 4 b_deeds_of
abbrev s_law : Stmt := top 31
theorem sc_law : FnScope ["script", "bag", "turn", "seed", "many", "first", "draws", "state", "step", "size", "number", "chart", "lined", "bends", "bend", "a", "b", "couple", "one", "found", "left", "row", "lot", "deeds", "way", "other", "word"] ["script"] (defScope s_law) := ⟨rfl, rfl, rfl, by decide +kernel, rfl, by decide +kernel, by decide +kernel⟩
def b_law : DS := (dSeq (dSet 1 (dCall f_u_law_bag (dCons (dVar 0) dNil)))
 (dSeq (dFor (dRng1 (dCons (dC (.int 4)) dNil)) (bName 2)
 (dSeq (dPar 3 4 (dCons (dCall f_u_law_some (dCons (dVar 1) (dCons (dLst (dCons (dCall f_u_law_take (dCons (dVar 1) (dCons (dC (.int 100)) dNil))) (dCons (dCall f_u_law_take (dCons (dVar 1) (dCons (dOp2 powD (dC (.int 10)) (dC (.int 12))) dNil))) (dCons (dC (.int 2147483647)) (dCons (dC (.int 0)) dNil))))) dNil))) (dCons (dOp2 (orD addI (orD catL (orD catT catS))) (dC (.int 1)) (dCall f_u_law_take (dCons (dVar 1) (dCons (dC (.int 10)) dNil)))) dNil)))
 (dSeq (dSet 5 (dOp2 modD (dOpN intD (dCons (dVar 3) dNil)) (dC (.int 2147483647))))
 (dSeq (dPar 6 7 (dCons (dMake "Draws" f_DrawsX_initX (dCons (dVar 3) dNil)) (dCons (dVar 5) dNil)))
 (dSeq (dFor (dRng1 (dCons (dOp2 (orD addI (orD catL (orD catT catS))) (dC (.int 1)) (dCall f_u_law_take (dCons (dVar 1) (dCons (dC (.int 5)) dNil)))) dNil)) (bName 8)
 (dSeq (dSet 9 (dOp2 (orD addI (orD catL (orD catT catS))) (dC (.int 1)) (dCall f_u_law_take (dCons (dVar 1) (dCons (dC (.int 40)) dNil)))))
 (dSeq (dAsg (bTup 2 (bCons (bName 7) (bCons (bName 10) bNil))) (dCall f_u_law_next (dCons (dVar 7) (dCons (dVar 9) dNil))))
 (dIfS (dNot (dTru (dCall f_u_law_alike (dCons (dLst (dCons (dMethU "Draws" "take" f_Draws_take (dVar 6) (dCons (dVar 9) dNil)) (dCons (dMethU "Draws" "state" f_Draws_state (dVar 6) dNil) dNil))) (dCons (dLst (dCons (dVar 10) (dCons (dVar 7) dNil))) dNil)))))
 (dRet (dC (.bl false)))
 dNext))))
 (dSeq (dAsg (bTup 2 (bCons (bName 7) (bCons (bName 11) bNil))) (dCall f_u_law_drawn_chart (dCons (dVar 5) (dCons (dVar 4) dNil))))
 (dSeq (dSet 12 (dOpN listD (dCons (dOp2 ixA (dCall f_u_law_table_of (dCons (dVar 11) dNil)) (dC (.int 1))) dNil)))
 (dSeq (dSet 13 (dCall f_u_law_take (dCons (dVar 1) (dCons (dC (.int 21)) dNil))))
 (dSeq (dFor (dRng1 (dCons (dVar 13) dNil)) (bName 14)
 (dSeq (dAsg (bTup 2 (bCons (bName 7) (bCons (bName 15) bNil))) (dCall f_u_law_next (dCons (dVar 7) (dCons (dVar 4) dNil))))
 (dSeq (dAsg (bTup 2 (bCons (bName 7) (bCons (bName 16) bNil))) (dCall f_u_law_next (dCons (dVar 7) (dCons (dVar 4) dNil))))
 (dSeq (dSet 17 (dTup (dCons (dOpN min2D (dCons (dVar 15) (dCons (dVar 16) dNil))) (dCons (dOpN max2D (dCons (dVar 15) (dCons (dVar 16) dNil))) dNil))))
 (dIfS (dB (dOp2 neD (dVar 15) (dVar 16)))
 (dSet 12 (dIf (dB (dOp2 inA (dVar 17) (dVar 12))) (dLc (dItS (dVar 12)) (bName 18) (dB (dOp2 neD (dVar 18) (dVar 17))) (dVar 18) [18]) (dOp2 (orD addI (orD catL (orD catT catS))) (dVar 12) (dLst (dCons (dVar 17) dNil)))))
 dNext)))))
 (dSeq (dIfS (dNot (dTru (dCall f_u_law_alike (dCons (dLst (dCons (dCall f_drawn_chart (dCons (dVar 3) (dCons (dVar 4) dNil))) (dCons (dCall f_bent_table (dCons (dVar 3) (dCons (dVar 4) (dCons (dVar 13) dNil)))) dNil))) (dCons (dLst (dCons (dVar 11) (dCons (dTup (dCons (dVar 4) (dCons (dOpN tupleD (dCons (dOpN srtD (dCons (dVar 12) dNil)) dNil)) dNil))) dNil))) dNil)))))
 (dRet (dC (.bl false)))
 dNext)
 (dSeq (dPar 7 19 (dCons (dVar 5) (dCons (dLst dNil) dNil)))
 (dSeq (dFor (dItS (dCall f_u_law_couples (dCons (dVar 4) dNil))) (bName 17)
 (dSeq (dAsg (bTup 2 (bCons (bName 7) (bCons (bName 10) bNil))) (dCall f_u_law_next (dCons (dVar 7) (dCons (dC (.int 2)) dNil))))
 (dSet 19 (dOp2 (orD addI (orD catL (orD catT catS))) (dVar 19) (dOp2 (orD mulI repL) (dLst (dCons (dVar 17) dNil)) (dVar 10))))))
 (dSeq (dIfS (dNot (dTru (dCall f_u_law_alike (dCons (dCall f_drawn_table (dCons (dVar 3) (dCons (dVar 4) dNil))) (dCons (dTup (dCons (dVar 4) (dCons (dOpN tupleD (dCons (dVar 19) dNil)) dNil))) dNil)))))
 (dRet (dC (.bl false)))
 dNext)
 (dSeq (dPar3 7 20 21 (dCons (dVar 5) (dCons (dLstRg (dRng1 (dCons (dVar 4) dNil))) (dCons (dLst dNil) dNil))))
 (dSeq (dFor (dRng1 (dCons (dVar 4) dNil)) (bName 8)
 (dSeq (dAsg (bTup 2 (bCons (bName 7) (bCons (bName 10) bNil))) (dCall f_u_law_next (dCons (dVar 7) (dCons (dOpN lenD (dCons (dVar 20) dNil)) dNil))))
 (dSeq (dDrop (dMut "list" appD (dVar 21) (dCons (dOp2 ixA (dVar 20) (dVar 10)) dNil)))
 (dSet 20 (dOp2 (orD addI (orD catL (orD catT catS))) (dSl slD (dVar 20) dNoPart (dPart (dVar 10))) (dSl slD (dVar 20) (dPart (dOp2 (orD addI (orD catL (orD catT catS))) (dVar 10) (dC (.int 1)))) dNoPart))))))
 (dSeq (dPar 7 22 (dCons (dVar 5) (dCons (dLst dNil) dNil)))
 (dSeq (dFor (dRng1 (dCons (dVar 4) dNil)) (bName 18)
 (dSeq (dAsg (bTup 2 (bCons (bName 7) (bCons (bName 10) bNil))) (dCall f_u_law_next (dCons (dVar 7) (dCons (dC (.int 2)) dNil))))
 (dSet 22 (dOp2 (orD addI (orD catL (orD catT catS))) (dVar 22) (dOp2 (orD mulI repL) (dLst (dCons (dVar 18) dNil)) (dVar 10))))))
 (dSeq (dIfS (dNot (dTru (dCall f_u_law_alike (dCons (dLst (dCons (dCall f_drawn_names (dCons (dVar 3) (dCons (dVar 4) dNil))) (dCons (dCall f_drawn_lot (dCons (dVar 3) (dCons (dVar 4) dNil))) dNil))) (dCons (dLst (dCons (dOpN tupleD (dCons (dVar 21) dNil)) (dCons (dOpN tupleD (dCons (dVar 22) dNil)) dNil))) dNil)))))
 (dRet (dC (.bl false)))
 dNext)
 (dSeq (dPar3 7 23 9 (dCons (dVar 5) (dCons (dLst dNil) (dCons (dCall f_u_law_take (dCons (dVar 1) (dCons (dC (.int 12)) dNil))) dNil))))
 (dSeq (dFor (dRng1 (dCons (dVar 9) dNil)) (bName 8)
 (dSeq (dAsg (bTup 2 (bCons (bName 7) (bCons (bName 24) bNil))) (dCall f_u_law_next (dCons (dVar 7) (dCons (dC (.int 12)) dNil))))
 (dSeq (dAsg (bTup 2 (bCons (bName 7) (bCons (bName 18) bNil))) (dCall f_u_law_next (dCons (dVar 7) (dCons (dC (.int 5)) dNil))))
 (dSeq (dAsg (bTup 2 (bCons (bName 7) (bCons (bName 25) bNil))) (dCall f_u_law_next (dCons (dVar 7) (dCons (dC (.int 5)) dNil))))
 (dSeq (dPar 15 16 (dCons (dOp2 ixA (dLst (dCons (dC (.str "ash")) (dCons (dC (.str "bea")) (dCons (dC (.str "cid")) (dCons (dC (.str "dot")) (dCons (dC (.str "eli")) dNil)))))) (dVar 18)) (dCons (dOp2 ixA (dLst (dCons (dC (.str "ash")) (dCons (dC (.str "bea")) (dCons (dC (.str "cid")) (dCons (dC (.str "dot")) (dCons (dC (.str "eli")) dNil)))))) (dVar 25)) dNil)))
 (dSeq (dSet 26 (dIf (dB (dOp2 ltI (dVar 24) (dC (.int 7)))) (dC (.str "line")) (dIf (dB (dOp2 ltI (dVar 24) (dC (.int 9)))) (dC (.str "apart")) (dC (.str "forget")))))
 (dDrop (dMut "list" appD (dVar 23) (dCons (dIf (dB (dOp2 ltI (dVar 24) (dC (.int 4)))) (dTup (dCons (dC (.str "join")) (dCons (dVar 15) dNil))) (dIf (dB (dOp2 eqD (dVar 24) (dC (.int 11)))) (dTup (dCons (dC (.str "day")) dNil)) (dTup (dCons (dVar 26) (dCons (dVar 15) (dCons (dVar 16) dNil)))))) dNil)))))))))
 (dIfS (dNot (dTru (dCall f_u_law_alike (dCons (dCall f_deeds_of (dCons (dVar 3) (dCons (dVar 9) dNil))) (dCons (dOpN tupleD (dCons (dVar 23) dNil)) dNil)))))
 (dRet (dC (.bl false)))
 dNext)))))))))))))))))))))
 (dRet (dC (.bl true)))))
def f_law : FDn := mkF [true] 27 b_law
structure Txt (K : PySem.W.Frag) (mg : Str → Option Value) : Prop where
  b_abs : mg "abs" = none
  b_bool : mg "bool" = none
  b_int : mg "int" = none
  b_isinstance : mg "isinstance" = none
  b_len : mg "len" = none
  b_list : mg "list" = none
  b_max : mg "max" = none
  b_min : mg "min" = none
  b_range : mg "range" = none
  b_sorted : mg "sorted" = none
  b_str : mg "str" = none
  b_tuple : mg "tuple" = none
  b_zip : mg "zip" = none
  f_Draws_its_state : FldOk K mg "Draws" "its_state"
  k_CUT : ∃ t, mg "CUT" = some (.int 7 t)
  k_FACTOR : ∃ t, mg "FACTOR" = some (.int 48271 t)
  k_MODULUS : ∃ t, mg "MODULUS" = some (.int 2147483647 t)
  k_NAMES : ∃ a, mg "NAMES" = some (.ref a) ∧ KTup K a ((["ash", "bea", "cid", "dot", "eli"] : List Str).map V.str)
  k_SUMMAND : ∃ t, mg "SUMMAND" = some (.int 11 t)
  k_WAYS : ∃ a, mg "WAYS" = some (.ref a) ∧ KTup K a ((["join", "join", "join", "join", "line", "line", "line", "apart", "apart", "forget", "forget", "day"] : List Str).map V.str)
section
variable {P : Program} {w : World} {K : PySem.W.Frag} {mg : Str → Option Value} {base : Heap}
theorem ok_u_law_bag (T : Txt K mg)  {fa : Addr} {fd : FuncData} (F : Fun K "_law_bag" "_law_bag" s_u_law_bag fa fd) : FnOk P w K mg base (L2.CX P w) 1 fa fd ["script"] (spD K mg f_u_law_bag) := by
  refine fn_ok (N := ["script", "cell"]) (k := 0) [true] b_u_law_bag F sc_u_law_bag rfl ?_
  intro cdv A outer sh H E hr
  have hu := hu_of hr
  have hu64 := hr.units
  have hu65 : (A.deeper (envOfC "_law_bag" (defScope s_u_law_bag) sh.heap.objs.size fa cdv)).units + 65 < cLine := by have := hr.un; omega
  exact (d_sOne (d_ret (d_lst (d_cons d_int (d_cons d_int (d_cons d_int (d_cons (d_lc (own := [("cell", 1)]) rfl sc_u_law_bag.nd (d_iSeq (d_sl (d_var 0) d_oNone (d_oSome d_int))) (blkOk_by (by rfl)) (by decide) (by decide) (vs := [1]) (by decide) (fun _ _ _ _ _ => (d_gname sc_u_law_bag.nd rfl (by (first | exact Or.inl rfl | exact Or.inr rfl | exact Or.inr (Or.inl rfl) | exact Or.inr (Or.inr rfl) | rfl)) (by decide))) (fun _ _ _ _ _ => d_ifs0) (fun _ _ _ _ _ => (q_abs T.b_abs (d_cons (d_var 1) d_nil)))) d_nil)))))))
theorem ok_u_law_take (T : Txt K mg)  {fa : Addr} {fd : FuncData} (F : Fun K "_law_take" "_law_take" s_u_law_take fa fd) : FnOk P w K mg base (L2.CX P w) 1 fa fd ["bag", "many"] (spD K mg f_u_law_take) := by
  refine fn_ok (N := ["bag", "many", "cell", "stirred", "value", "begin", "second"]) (k := 0) [true, true] b_u_law_take F sc_u_law_take rfl ?_
  intro cdv A outer sh H E hr
  have hu := hu_of hr
  have hu64 := hr.units
  have hu65 : (A.deeper (envOfC "_law_take" (defScope s_u_law_take) sh.heap.objs.size fa cdv)).units + 65 < cLine := by have := hr.un; omega
  exact (d_sCons (d_if (t_eq hu64 (d_ixA hu (d_var 0) d_int) d_int) (d_sCons (d_set sc_u_law_take.nd rfl (by (first | exact Or.inl rfl | exact Or.inr rfl | exact Or.inr (Or.inl rfl) | exact Or.inr (Or.inr rfl) | rfl)) (by decide) (d_ixA hu (q_add (d_sl (d_ixA hu (d_var 0) d_int) (d_oSome (d_ixA hu (d_var 0) d_int)) d_oNone) (d_lst (d_cons d_int d_nil))) d_int))
 (d_sCons (d_augSA hu (d_var 0) d_int d_int)
 (d_sCons (d_if (t_ge (d_var 2) (q_pow d_int d_int)) (d_sOne (d_store hu (d_var 2) (d_var 0) d_int)) d_sNil)
 (d_sCons (d_set sc_u_law_take.nd rfl (by (first | exact Or.inl rfl | exact Or.inr rfl | exact Or.inr (Or.inl rfl) | exact Or.inr (Or.inr rfl) | rfl)) (by decide) (q_add (q_add (q_mul (d_ixA hu (d_var 0) d_int) d_int) (q_mod (q_int T.b_int (d_cons (d_var 2) d_nil)) d_int)) (q_mul d_int (d_ixA hu (d_var 0) d_int))))
 (d_sOne (d_store hu (q_mod (q_int T.b_int (d_cons (d_var 3) d_nil)) d_int) (d_var 0) d_int)))))) d_sNil)
 (d_sCons (d_if (t_gt (d_ixA hu (d_var 0) d_int) d_int) (d_sCons (d_set sc_u_law_take.nd rfl (by (first | exact Or.inl rfl | exact Or.inr rfl | exact Or.inr (Or.inl rfl) | exact Or.inr (Or.inr rfl) | rfl)) (by decide) (q_mod (q_int T.b_int (d_cons (d_ixA hu (d_var 0) d_int) d_nil)) (d_var 1)))
 (d_sCons (d_store hu (q_fdiv (q_int T.b_int (d_cons (d_ixA hu (d_var 0) d_int) d_nil)) (d_var 1)) (d_var 0) d_int)
 (d_sOne (d_ret (d_var 4))))) d_sNil)
 (d_sCons (d_set sc_u_law_take.nd rfl (by (first | exact Or.inl rfl | exact Or.inr rfl | exact Or.inr (Or.inl rfl) | exact Or.inr (Or.inr rfl) | rfl)) (by decide) (q_mod (q_int T.b_int (d_cons (q_mul (q_add (d_ixA hu (d_var 0) d_int) d_int) d_int) d_nil)) d_int))
 (d_sCons (d_set sc_u_law_take.nd rfl (by (first | exact Or.inl rfl | exact Or.inr rfl | exact Or.inr (Or.inl rfl) | exact Or.inr (Or.inr rfl) | rfl)) (by decide) (q_mod (q_int T.b_int (d_cons (q_mul (q_mod (q_int T.b_int (d_cons (q_mul (d_var 5) (d_var 5)) d_nil)) d_int) d_int) d_nil)) d_int))
 (d_sOne (d_ret (q_mod (q_int T.b_int (d_cons (q_fdiv (d_var 6) d_int) d_nil)) (d_var 1))))))))
theorem ok_u_law_some (T : Txt K mg) (G_u_law_take : Cal P w K mg base "_law_take" 1 ["bag", "many"] f_u_law_take) {fa : Addr} {fd : FuncData} (F : Fun K "_law_some" "_law_some" s_u_law_some fa fd) : FnOk P w K mg base (L2.CX P w) 2 fa fd ["bag", "things"] (spD K mg f_u_law_some) := by
  refine fn_ok (N := ["bag", "things"]) (k := 1) [true, true] b_u_law_some F sc_u_law_some rfl ?_
  intro cdv A outer sh H E hr
  have hu := hu_of hr
  have hu64 := hr.units
  have hu65 : (A.deeper (envOfC "_law_some" (defScope s_u_law_some) sh.heap.objs.size fa cdv)).units + 65 < cLine := by have := hr.un; omega
  exact (d_sOne (d_ret (d_ixA hu (d_var 1) (d_cal G_u_law_take hr (by decide) (by rfl) (takes_of rfl rfl rfl rfl) (d_cons (d_var 0) (d_cons (q_len T.b_len (d_cons (d_var 1) d_nil)) d_nil))))))
theorem ok_DrawsX_initX (T : Txt K mg)  {fa : Addr} {fd : FuncData} (F : Fun K "__init__" "Draws.__init__" s_DrawsX_initX fa fd) : FnOk P w K mg base (L2.CX P w) 1 fa fd ["self", "seed"] (spD K mg f_DrawsX_initX) := by
  refine fn_ok (N := ["self", "seed"]) (k := 0) [true, true] b_DrawsX_initX F sc_DrawsX_initX rfl ?_
  intro cdv A outer sh H E hr
  have hu := hu_of hr
  have hu64 := hr.units
  have hu65 : (A.deeper (envOfC "Draws.__init__" (defScope s_DrawsX_initX) sh.heap.objs.size fa cdv)).units + 65 < cLine := by have := hr.un; omega
  exact (d_sOne (d_stFld T.f_Draws_its_state (d_var 0) (q_mod (d_var 1) (q_kint T.k_MODULUS (by rfl)))))
theorem ok_u_law_next (T : Txt K mg)  {fa : Addr} {fd : FuncData} (F : Fun K "_law_next" "_law_next" s_u_law_next fa fd) : FnOk P w K mg base (L2.CX P w) 1 fa fd ["state", "many"] (spD K mg f_u_law_next) := by
  refine fn_ok (N := ["state", "many", "later"]) (k := 0) [true, true] b_u_law_next F sc_u_law_next rfl ?_
  intro cdv A outer sh H E hr
  have hu := hu_of hr
  have hu64 := hr.units
  have hu65 : (A.deeper (envOfC "_law_next" (defScope s_u_law_next) sh.heap.objs.size fa cdv)).units + 65 < cLine := by have := hr.un; omega
  exact (d_sCons (d_set sc_u_law_next.nd rfl (by (first | exact Or.inl rfl | exact Or.inr rfl | exact Or.inr (Or.inl rfl) | exact Or.inr (Or.inr rfl) | rfl)) (by decide) (q_mod (q_int T.b_int (d_cons (q_add (q_mul (d_var 0) d_int) d_int) d_nil)) d_int))
 (d_sOne (d_ret (d_tup (d_cons (d_var 2) (d_cons (q_mod (q_int T.b_int (d_cons (q_fdiv (d_var 2) d_int) d_nil)) (d_var 1)) d_nil))))))
theorem ok_u_law_alike (T : Txt K mg)  {fa : Addr} {fd : FuncData} (F : Fun K "_law_alike" "_law_alike" s_u_law_alike fa fd) : FnOk P w K mg base (L2.CX P w) 1 fa fd ["found", "due"] (spD K mg f_u_law_alike) := by
  refine fn_ok (N := ["found", "due", "pairs", "at", "one", "other"]) (k := 0) [true, true] b_u_law_alike F sc_u_law_alike rfl ?_
  intro cdv A outer sh H E hr
  have hu := hu_of hr
  have hu64 := hr.units
  have hu65 : (A.deeper (envOfC "_law_alike" (defScope s_u_law_alike) sh.heap.objs.size fa cdv)).units + 65 < cLine := by have := hr.un; omega
  exact (d_sCons (d_par rfl sc_u_law_alike.nd rfl rfl (by decide) (by decide) (by decide) rfl rfl (d_cons (d_lst (d_cons (d_tup (d_cons (d_var 0) (d_cons (d_var 1) d_nil))) d_nil)) (d_cons d_int d_nil)) rfl)
 (d_sCons (d_while 1000000 (passes_of rfl) (t_lt (d_var 3) (q_len T.b_len (d_cons (d_var 2) d_nil))) (d_sCons (d_asg (d_ixA hu (d_var 2) (d_var 3)) (d_gtup rfl (d_gcons (d_gname sc_u_law_alike.nd rfl (by (first | exact Or.inl rfl | exact Or.inr rfl | exact Or.inr (Or.inl rfl) | exact Or.inr (Or.inr rfl) | rfl)) (by decide)) (d_gcons (d_gname sc_u_law_alike.nd rfl (by (first | exact Or.inl rfl | exact Or.inr rfl | exact Or.inr (Or.inl rfl) | exact Or.inr (Or.inr rfl) | rfl)) (by decide)) d_gnil))))
 (d_sCons (d_augAdd sc_u_law_alike.nd rfl (by (first | exact Or.inl rfl | exact Or.inr rfl | exact Or.inr (Or.inl rfl) | exact Or.inr (Or.inr rfl) | rfl)) (by decide) d_int)
 (d_sCons (d_if (d_pt (d_or (t_ne hu64 (q_isi T.b_isinstance (d_cons (d_var 4) (d_cons (d_ty .bool (by rfl) T.b_bool boot_bool) d_nil))) (q_isi T.b_isinstance (d_cons (d_var 5) (d_cons (d_ty .bool (by rfl) T.b_bool boot_bool) d_nil)))) (d_or1 (t_ne hu64 (q_isi T.b_isinstance (d_cons (d_var 4) (d_cons (d_ty .str (by rfl) T.b_str boot_str) d_nil))) (q_isi T.b_isinstance (d_cons (d_var 5) (d_cons (d_ty .str (by rfl) T.b_str boot_str) d_nil))))))) (d_sOne (d_ret d_bl)) d_sNil)
 (d_sCons (d_if (t_ne hu64 (q_isi T.b_isinstance (d_cons (d_var 4) (d_cons (d_tup (d_cons (d_ty .tuple (by rfl) T.b_tuple boot_tuple) (d_cons (d_ty .list (by rfl) T.b_list boot_list) d_nil))) d_nil))) (q_isi T.b_isinstance (d_cons (d_var 5) (d_cons (d_tup (d_cons (d_ty .tuple (by rfl) T.b_tuple boot_tuple) (d_cons (d_ty .list (by rfl) T.b_list boot_list) d_nil))) d_nil)))) (d_sOne (d_ret d_bl)) d_sNil)
 (d_sOne (d_if (d_tru (q_isi T.b_isinstance (d_cons (d_var 4) (d_cons (d_tup (d_cons (d_ty .tuple (by rfl) T.b_tuple boot_tuple) (d_cons (d_ty .list (by rfl) T.b_list boot_list) d_nil))) d_nil)))) (d_sCons (d_if (d_pt (d_or (t_ne hu64 (q_isi T.b_isinstance (d_cons (d_var 4) (d_cons (d_ty .tuple (by rfl) T.b_tuple boot_tuple) d_nil))) (q_isi T.b_isinstance (d_cons (d_var 5) (d_cons (d_ty .tuple (by rfl) T.b_tuple boot_tuple) d_nil)))) (d_or1 (t_ne hu64 (q_len T.b_len (d_cons (d_var 4) d_nil)) (q_len T.b_len (d_cons (d_var 5) d_nil)))))) (d_sOne (d_ret d_bl)) d_sNil)
 (d_sOne (d_expr (d_extend (d_var 2) (d_cons (d_listZip (by rfl) (by rfl) T.b_list (by rfl) T.b_zip (d_cons (d_var 4) (d_cons (d_var 5) d_nil))) d_nil))))) (d_sOne (d_if (t_ne hu64 (d_var 4) (d_var 5)) (d_sOne (d_ret d_bl)) d_sNil)))))))))
 (d_sOne (d_ret d_bl))))
theorem ok_Draws_take (T : Txt K mg)  {fa : Addr} {fd : FuncData} (F : Fun K "take" "Draws.take" s_Draws_take fa fd) : FnOk P w K mg base (L2.CX P w) 1 fa fd ["self", "many"] (spD K mg f_Draws_take) := by
  refine fn_ok (N := ["self", "many"]) (k := 0) [true, true] b_Draws_take F sc_Draws_take rfl ?_
  intro cdv A outer sh H E hr
  have hu := hu_of hr
  have hu64 := hr.units
  have hu65 : (A.deeper (envOfC "Draws.take" (defScope s_Draws_take) sh.heap.objs.size fa cdv)).units + 65 < cLine := by have := hr.un; omega
  exact (d_sCons (d_stFld T.f_Draws_its_state (d_var 0) (q_mod (q_add (q_mul (d_fld T.f_Draws_its_state (d_var 0)) (q_kint T.k_FACTOR (by rfl))) (q_kint T.k_SUMMAND (by rfl))) (q_kint T.k_MODULUS (by rfl))))
 (d_sOne (d_ret (q_mod (q_fdiv (d_fld T.f_Draws_its_state (d_var 0)) (q_kint T.k_CUT (by rfl))) (d_var 1)))))
theorem ok_Draws_state (T : Txt K mg)  {fa : Addr} {fd : FuncData} (F : Fun K "state" "Draws.state" s_Draws_state fa fd) : FnOk P w K mg base (L2.CX P w) 1 fa fd ["self"] (spD K mg f_Draws_state) := by
  refine fn_ok (N := ["self"]) (k := 0) [true] b_Draws_state F sc_Draws_state rfl ?_
  intro cdv A outer sh H E hr
  have hu := hu_of hr
  have hu64 := hr.units
  have hu65 : (A.deeper (envOfC "Draws.state" (defScope s_Draws_state) sh.heap.objs.size fa cdv)).units + 65 < cLine := by have := hr.un; omega
  exact (d_sOne (d_ret (d_fld T.f_Draws_its_state (d_var 0))))
theorem ok_u_law_drawn_chart (T : Txt K mg) (G_u_law_next : Cal P w K mg base "_law_next" 1 ["state", "many"] f_u_law_next) {fa : Addr} {fd : FuncData} (F : Fun K "_law_drawn_chart" "_law_drawn_chart" s_u_law_drawn_chart fa fd) : FnOk P w K mg base (L2.CX P w) 2 fa fd ["state", "many"] (spD K mg f_u_law_drawn_chart) := by
  refine fn_ok (N := ["state", "many", "found", "one", "number"]) (k := 1) [false, true] b_u_law_drawn_chart F sc_u_law_drawn_chart rfl ?_
  intro cdv A outer sh H E hr
  have hu := hu_of hr
  have hu64 := hr.units
  have hu65 : (A.deeper (envOfC "_law_drawn_chart" (defScope s_u_law_drawn_chart) sh.heap.objs.size fa cdv)).units + 65 < cLine := by have := hr.un; omega
  exact (d_sCons (d_set sc_u_law_drawn_chart.nd rfl (by (first | exact Or.inl rfl | exact Or.inr rfl | exact Or.inr (Or.inl rfl) | exact Or.inr (Or.inr rfl) | rfl)) (by decide) (d_lst d_nil))
 (d_sCons (d_for (passes_of rfl) rfl (d_iRng1 (by rfl) T.b_range (d_cons (d_var 1) d_nil)) (d_gname sc_u_law_drawn_chart.nd rfl (by (first | exact Or.inl rfl | exact Or.inr rfl | exact Or.inr (Or.inl rfl) | exact Or.inr (Or.inr rfl) | rfl)) (by decide)) (d_sCons (d_asg (d_cal G_u_law_next hr (by decide) (by rfl) (takes_of rfl rfl rfl rfl) (d_cons (d_var 0) (d_cons (q_add (d_var 3) d_int) d_nil))) (d_gtup rfl (d_gcons (d_gname sc_u_law_drawn_chart.nd rfl (by (first | exact Or.inl rfl | exact Or.inr rfl | exact Or.inr (Or.inl rfl) | exact Or.inr (Or.inr rfl) | rfl)) (by decide)) (d_gcons (d_gname sc_u_law_drawn_chart.nd rfl (by (first | exact Or.inl rfl | exact Or.inr rfl | exact Or.inr (Or.inl rfl) | exact Or.inr (Or.inr rfl) | rfl)) (by decide)) d_gnil))))
 (d_sOne (d_expr (d_append (d_var 2) (d_cons (d_ifE (t_eq hu64 (d_var 4) d_int) d_non (q_sub (d_var 4) d_int)) d_nil))))))
 (d_sOne (d_ret (d_tup (d_cons (d_var 0) (d_cons (q_tuple T.b_tuple (d_cons (d_var 2) d_nil)) d_nil)))))))
theorem ok_u_law_up (T : Txt K mg)  {fa : Addr} {fd : FuncData} (F : Fun K "_law_up" "_law_up" s_u_law_up fa fd) : FnOk P w K mg base (L2.CX P w) 1 fa fd ["chart", "one"] (spD K mg f_u_law_up) := by
  refine fn_ok (N := ["chart", "one", "found"]) (k := 0) [true, false] b_u_law_up F sc_u_law_up rfl ?_
  intro cdv A outer sh H E hr
  have hu := hu_of hr
  have hu64 := hr.units
  have hu65 : (A.deeper (envOfC "_law_up" (defScope s_u_law_up) sh.heap.objs.size fa cdv)).units + 65 < cLine := by have := hr.un; omega
  exact (d_sCons (d_set sc_u_law_up.nd rfl (by (first | exact Or.inl rfl | exact Or.inr rfl | exact Or.inr (Or.inl rfl) | exact Or.inr (Or.inr rfl) | rfl)) (by decide) (d_lst d_nil))
 (d_sCons (d_while 1000000 (passes_of rfl) (t_notN (d_ixA hu (d_var 0) (d_var 1)) d_non) (d_sCons (d_set sc_u_law_up.nd rfl (by (first | exact Or.inl rfl | exact Or.inr rfl | exact Or.inr (Or.inl rfl) | exact Or.inr (Or.inr rfl) | rfl)) (by decide) (d_ixA hu (d_var 0) (d_var 1)))
 (d_sOne (d_expr (d_append (d_var 2) (d_cons (d_var 1) d_nil))))))
 (d_sOne (d_ret (d_var 2)))))
theorem ok_u_law_table_of (T : Txt K mg) (G_u_law_up : Cal P w K mg base "_law_up" 1 ["chart", "one"] f_u_law_up) {fa : Addr} {fd : FuncData} (F : Fun K "_law_table_of" "_law_table_of" s_u_law_table_of fa fd) : FnOk P w K mg base (L2.CX P w) 2 fa fd ["chart"] (spD K mg f_u_law_table_of) := by
  refine fn_ok (N := ["chart", "found", "one", "chief"]) (k := 1) [true] b_u_law_table_of F sc_u_law_table_of rfl ?_
  intro cdv A outer sh H E hr
  have hu := hu_of hr
  have hu64 := hr.units
  have hu65 : (A.deeper (envOfC "_law_table_of" (defScope s_u_law_table_of) sh.heap.objs.size fa cdv)).units + 65 < cLine := by have := hr.un; omega
  exact (d_sCons (d_set sc_u_law_table_of.nd rfl (by (first | exact Or.inl rfl | exact Or.inr rfl | exact Or.inr (Or.inl rfl) | exact Or.inr (Or.inr rfl) | rfl)) (by decide) (d_lst d_nil))
 (d_sCons (d_for (passes_of rfl) rfl (d_iRng1 (by rfl) T.b_range (d_cons (q_len T.b_len (d_cons (d_var 0) d_nil)) d_nil)) (d_gname sc_u_law_table_of.nd rfl (by (first | exact Or.inl rfl | exact Or.inr rfl | exact Or.inr (Or.inl rfl) | exact Or.inr (Or.inr rfl) | rfl)) (by decide)) (d_sOne (d_expr (d_extend (d_var 1) (d_cons (d_lc (own := [("chief", 3)]) rfl sc_u_law_table_of.nd (d_iSeq (d_cal G_u_law_up hr (by decide) (by rfl) (takes_of rfl rfl rfl rfl) (d_cons (d_var 0) (d_cons (d_var 2) d_nil)))) (blkOk_by (by rfl)) (by decide) (by decide) (vs := [3]) (by decide) (fun _ _ _ _ _ => (d_gname sc_u_law_table_of.nd rfl (by (first | exact Or.inl rfl | exact Or.inr rfl | exact Or.inr (Or.inl rfl) | exact Or.inr (Or.inr rfl) | rfl)) (by decide))) (fun _ _ _ _ _ => d_ifs0) (fun _ _ _ _ _ => (d_tup (d_cons (q_min2 T.b_min (d_cons (d_var 2) (d_cons (d_var 3) d_nil))) (d_cons (q_max2 T.b_max (d_cons (d_var 2) (d_cons (d_var 3) d_nil))) d_nil))))) d_nil)))))
 (d_sOne (d_ret (d_tup (d_cons (q_len T.b_len (d_cons (d_var 0) d_nil)) (d_cons (q_tuple T.b_tuple (d_cons (q_sorted T.b_sorted (d_cons (d_var 1) d_nil)) d_nil)) d_nil)))))))
theorem ok_chart_by (T : Txt K mg) (G_Draws_take : CalM P w K mg base "Draws" "take" 1 ["self", "many"] f_Draws_take) {fa : Addr} {fd : FuncData} (F : Fun K "chart_by" "chart_by" s_chart_by fa fd) : FnOk P w K mg base (L2.CX P w) 2 fa fd ["draws", "many"] (spD K mg f_chart_by) := by
  refine fn_ok (N := ["draws", "many", "found", "one", "number"]) (k := 1) [true, true] b_chart_by F sc_chart_by rfl ?_
  intro cdv A outer sh H E hr
  have hu := hu_of hr
  have hu64 := hr.units
  have hu65 : (A.deeper (envOfC "chart_by" (defScope s_chart_by) sh.heap.objs.size fa cdv)).units + 65 < cLine := by have := hr.un; omega
  exact (d_sCons (d_set sc_chart_by.nd rfl (by (first | exact Or.inl rfl | exact Or.inr rfl | exact Or.inr (Or.inl rfl) | exact Or.inr (Or.inr rfl) | rfl)) (by decide) (d_lst d_nil))
 (d_sCons (d_for (passes_of rfl) rfl (d_iRng1 (by rfl) T.b_range (d_cons (d_var 1) d_nil)) (d_gname sc_chart_by.nd rfl (by (first | exact Or.inl rfl | exact Or.inr rfl | exact Or.inr (Or.inl rfl) | exact Or.inr (Or.inr rfl) | rfl)) (by decide)) (d_sCons (d_set sc_chart_by.nd rfl (by (first | exact Or.inl rfl | exact Or.inr rfl | exact Or.inr (Or.inl rfl) | exact Or.inr (Or.inr rfl) | rfl)) (by decide) (d_calM (pl := _) G_Draws_take hr (by decide) (takes_of rfl rfl rfl rfl) (d_var 0) (d_cons (q_add (d_var 3) d_int) d_nil)))
 (d_sOne (d_expr (d_append (d_var 2) (d_cons (d_ifE (t_gt (d_var 4) d_int) (q_sub (d_var 4) d_int) d_non) d_nil))))))
 (d_sOne (d_ret (q_tuple T.b_tuple (d_cons (d_var 2) d_nil))))))
theorem ok_drawn_chart (T : Txt K mg) (G_chart_by : Cal P w K mg base "chart_by" 2 ["draws", "many"] f_chart_by) (GC_Draws : CalC P w K mg base "Draws" 1 ["self", "seed"] f_DrawsX_initX) {fa : Addr} {fd : FuncData} (F : Fun K "drawn_chart" "drawn_chart" s_drawn_chart fa fd) : FnOk P w K mg base (L2.CX P w) 3 fa fd ["seed", "many"] (spD K mg f_drawn_chart) := by
  refine fn_ok (N := ["seed", "many"]) (k := 2) [true, true] b_drawn_chart F sc_drawn_chart rfl ?_
  intro cdv A outer sh H E hr
  have hu := hu_of hr
  have hu64 := hr.units
  have hu65 : (A.deeper (envOfC "drawn_chart" (defScope s_drawn_chart) sh.heap.objs.size fa cdv)).units + 65 < cLine := by have := hr.un; omega
  exact (d_sOne (d_ret (d_cal G_chart_by hr (by decide) (by rfl) (takes_of rfl rfl rfl rfl) (d_cons (d_calC GC_Draws hr (by decide) (by rfl) (takes_of rfl rfl rfl rfl) (d_cons (d_var 0) d_nil)) (d_cons (d_var 1) d_nil)))))
theorem ok_way_up (T : Txt K mg)  {fa : Addr} {fd : FuncData} (F : Fun K "way_up" "way_up" s_way_up fa fd) : FnOk P w K mg base (L2.CX P w) 1 fa fd ["chart", "one"] (spD K mg f_way_up) := by
  refine fn_ok (N := ["chart", "one", "found"]) (k := 0) [true, true] b_way_up F sc_way_up rfl ?_
  intro cdv A outer sh H E hr
  have hu := hu_of hr
  have hu64 := hr.units
  have hu65 : (A.deeper (envOfC "way_up" (defScope s_way_up) sh.heap.objs.size fa cdv)).units + 65 < cLine := by have := hr.un; omega
  exact (d_sCons (d_set sc_way_up.nd rfl (by (first | exact Or.inl rfl | exact Or.inr rfl | exact Or.inr (Or.inl rfl) | exact Or.inr (Or.inr rfl) | rfl)) (by decide) (d_lst (d_cons (d_var 1) d_nil)))
 (d_sCons (d_while 1000000 (passes_of rfl) (t_notN (d_ixA hu (d_var 0) (d_ixA hu (d_var 2) (q_neg d_int))) d_non) (d_sOne (d_expr (d_append (d_var 2) (d_cons (d_ixA hu (d_var 0) (d_ixA hu (d_var 2) (q_neg d_int))) d_nil)))))
 (d_sOne (d_ret (d_var 2)))))
theorem ok_table_of (T : Txt K mg) (G_way_up : Cal P w K mg base "way_up" 1 ["chart", "one"] f_way_up) {fa : Addr} {fd : FuncData} (F : Fun K "table_of" "table_of" s_table_of fa fd) : FnOk P w K mg base (L2.CX P w) 2 fa fd ["chart"] (spD K mg f_table_of) := by
  refine fn_ok (N := ["chart", "couples", "one", "chief"]) (k := 1) [true] b_table_of F sc_table_of rfl ?_
  intro cdv A outer sh H E hr
  have hu := hu_of hr
  have hu64 := hr.units
  have hu65 : (A.deeper (envOfC "table_of" (defScope s_table_of) sh.heap.objs.size fa cdv)).units + 65 < cLine := by have := hr.un; omega
  exact (d_sCons (d_set sc_table_of.nd rfl (by (first | exact Or.inl rfl | exact Or.inr rfl | exact Or.inr (Or.inl rfl) | exact Or.inr (Or.inr rfl) | rfl)) (by decide) d_newT)
 (d_sCons (d_for (passes_of rfl) rfl (d_iRng1 (by rfl) T.b_range (d_cons (q_len T.b_len (d_cons (d_var 0) d_nil)) d_nil)) (d_gname sc_table_of.nd rfl (by (first | exact Or.inl rfl | exact Or.inr rfl | exact Or.inr (Or.inl rfl) | exact Or.inr (Or.inr rfl) | rfl)) (by decide)) (d_sOne (d_expr (d_update hu (d_var 1) (d_cons (d_dc (own := [("chief", 3)]) true hu rfl sc_table_of.nd (d_iSeq (d_sl (d_cal G_way_up hr (by decide) (by rfl) (takes_of rfl rfl rfl rfl) (d_cons (d_var 0) (d_cons (d_var 2) d_nil))) (d_oSome d_int) d_oNone)) (blkOk_by (by rfl)) (by decide) (by decide) (vs := [3]) (by decide) (fun _ _ _ _ _ => (d_gname sc_table_of.nd rfl (by (first | exact Or.inl rfl | exact Or.inr rfl | exact Or.inr (Or.inl rfl) | exact Or.inr (Or.inr rfl) | rfl)) (by decide))) (fun _ _ _ _ _ => d_ifs0) (fun _ _ _ _ _ => (d_tup (d_cons (q_min2 T.b_min (d_cons (d_var 2) (d_cons (d_var 3) d_nil))) (d_cons (q_max2 T.b_max (d_cons (d_var 2) (d_cons (d_var 3) d_nil))) d_nil)))) (fun _ _ _ _ _ => d_bl)) d_nil)))))
 (d_sOne (d_ret (d_tup (d_cons (q_len T.b_len (d_cons (d_var 0) d_nil)) (d_cons (q_tuple T.b_tuple (d_cons (q_sorted T.b_sorted (d_cons (d_var 1) d_nil)) d_nil)) d_nil)))))))
theorem ok_bent_table (T : Txt K mg) (GC_Draws : CalC P w K mg base "Draws" 1 ["self", "seed"] f_DrawsX_initX) (G_table_of : Cal P w K mg base "table_of" 2 ["chart"] f_table_of) (G_chart_by : Cal P w K mg base "chart_by" 2 ["draws", "many"] f_chart_by) (G_Draws_take : CalM P w K mg base "Draws" "take" 1 ["self", "many"] f_Draws_take) {fa : Addr} {fd : FuncData} (F : Fun K "bent_table" "bent_table" s_bent_table fa fd) : FnOk P w K mg base (L2.CX P w) 3 fa fd ["seed", "many", "bends"] (spD K mg f_bent_table) := by
  refine fn_ok (N := ["seed", "many", "bends", "draws", "couple", "lined", "bend", "a", "b"]) (k := 2) [true, true, true] b_bent_table F sc_bent_table rfl ?_
  intro cdv A outer sh H E hr
  have hu := hu_of hr
  have hu64 := hr.units
  have hu65 : (A.deeper (envOfC "bent_table" (defScope s_bent_table) sh.heap.objs.size fa cdv)).units + 65 < cLine := by have := hr.un; omega
  exact (d_sCons (d_set sc_bent_table.nd rfl (by (first | exact Or.inl rfl | exact Or.inr rfl | exact Or.inr (Or.inl rfl) | exact Or.inr (Or.inr rfl) | rfl)) (by decide) (d_calC GC_Draws hr (by decide) (by rfl) (takes_of rfl rfl rfl rfl) (d_cons (d_var 0) d_nil)))
 (d_sCons (d_setDc (own := [("couple", 4)]) true hu rfl sc_bent_table.nd rfl rfl (by decide) (by rfl) (d_iSeq (d_ixA hu (d_cal G_table_of hr (by decide) (by rfl) (takes_of rfl rfl rfl rfl) (d_cons (d_cal G_chart_by hr (by decide) (by rfl) (takes_of rfl rfl rfl rfl) (d_cons (d_var 3) (d_cons (d_var 1) d_nil))) d_nil)) d_int)) (blkOk_by (by rfl)) (by decide) (by decide) (vs := [4]) (by decide) (fun _ _ _ _ _ => (d_gname sc_bent_table.nd rfl (by (first | exact Or.inl rfl | exact Or.inr rfl | exact Or.inr (Or.inl rfl) | exact Or.inr (Or.inr rfl) | rfl)) (by decide))) (fun _ _ _ _ _ => d_ifs0) (fun _ _ _ _ _ => (d_var 4)) (fun _ _ _ _ _ => d_bl))
 (d_sCons (d_for (passes_of rfl) rfl (d_iRng1 (by rfl) T.b_range (d_cons (d_var 2) d_nil)) (d_gname sc_bent_table.nd rfl (by (first | exact Or.inl rfl | exact Or.inr rfl | exact Or.inr (Or.inl rfl) | exact Or.inr (Or.inr rfl) | rfl)) (by decide)) (d_sCons (d_par rfl sc_bent_table.nd rfl rfl (by decide) (by decide) (by decide) rfl rfl (d_cons (d_calM (pl := _) G_Draws_take hr (by decide) (takes_of rfl rfl rfl rfl) (d_var 3) (d_cons (d_var 1) d_nil)) (d_cons (d_calM (pl := _) G_Draws_take hr (by decide) (takes_of rfl rfl rfl rfl) (d_var 3) (d_cons (d_var 1) d_nil)) d_nil)) rfl)
 (d_sCons (d_set sc_bent_table.nd rfl (by (first | exact Or.inl rfl | exact Or.inr rfl | exact Or.inr (Or.inl rfl) | exact Or.inr (Or.inr rfl) | rfl)) (by decide) (d_tup (d_cons (q_min2 T.b_min (d_cons (d_var 7) (d_cons (d_var 8) d_nil))) (d_cons (q_max2 T.b_max (d_cons (d_var 7) (d_cons (d_var 8) d_nil))) d_nil))))
 (d_sOne (d_if (d_inT hu65 (d_var 4) (d_var 5)) (d_sOne (d_expr (d_popT hu (d_var 5) (d_cons (d_var 4) d_nil)))) (d_sOne (d_if (t_ne hu64 (d_var 7) (d_var 8)) (d_sOne (d_store hu d_bl (d_var 5) (d_var 4))) d_sNil)))))))
 (d_sOne (d_ret (d_tup (d_cons (d_var 1) (d_cons (q_tuple T.b_tuple (d_cons (q_sorted T.b_sorted (d_cons (d_var 5) d_nil)) d_nil)) d_nil))))))))
theorem ok_u_law_couples (T : Txt K mg)  {fa : Addr} {fd : FuncData} (F : Fun K "_law_couples" "_law_couples" s_u_law_couples fa fd) : FnOk P w K mg base (L2.CX P w) 1 fa fd ["many"] (spD K mg f_u_law_couples) := by
  refine fn_ok (N := ["many", "found", "a", "b"]) (k := 0) [true] b_u_law_couples F sc_u_law_couples rfl ?_
  intro cdv A outer sh H E hr
  have hu := hu_of hr
  have hu64 := hr.units
  have hu65 : (A.deeper (envOfC "_law_couples" (defScope s_u_law_couples) sh.heap.objs.size fa cdv)).units + 65 < cLine := by have := hr.un; omega
  exact (d_sCons (d_set sc_u_law_couples.nd rfl (by (first | exact Or.inl rfl | exact Or.inr rfl | exact Or.inr (Or.inl rfl) | exact Or.inr (Or.inr rfl) | rfl)) (by decide) (d_lst d_nil))
 (d_sCons (d_for (passes_of rfl) rfl (d_iRng1 (by rfl) T.b_range (d_cons (d_var 0) d_nil)) (d_gname sc_u_law_couples.nd rfl (by (first | exact Or.inl rfl | exact Or.inr rfl | exact Or.inr (Or.inl rfl) | exact Or.inr (Or.inr rfl) | rfl)) (by decide)) (d_sOne (d_expr (d_extend (d_var 1) (d_cons (d_lc (own := [("b", 3)]) rfl sc_u_law_couples.nd (d_iRng2 (by rfl) T.b_range (d_cons (q_add (d_var 2) d_int) (d_cons (d_var 0) d_nil))) (blkOk_by (by rfl)) (by decide) (by decide) (vs := [3]) (by decide) (fun _ _ _ _ _ => (d_gname sc_u_law_couples.nd rfl (by (first | exact Or.inl rfl | exact Or.inr rfl | exact Or.inr (Or.inl rfl) | exact Or.inr (Or.inr rfl) | rfl)) (by decide))) (fun _ _ _ _ _ => d_ifs0) (fun _ _ _ _ _ => (d_tup (d_cons (d_var 2) (d_cons (d_var 3) d_nil))))) d_nil)))))
 (d_sOne (d_ret (d_var 1)))))
theorem ok_all_couples (T : Txt K mg)  {fa : Addr} {fd : FuncData} (F : Fun K "all_couples" "all_couples" s_all_couples fa fd) : FnOk P w K mg base (L2.CX P w) 1 fa fd ["many"] (spD K mg f_all_couples) := by
  refine fn_ok (N := ["many", "a", "b"]) (k := 0) [true] b_all_couples F sc_all_couples rfl ?_
  intro cdv A outer sh H E hr
  have hu := hu_of hr
  have hu64 := hr.units
  have hu65 : (A.deeper (envOfC "all_couples" (defScope s_all_couples) sh.heap.objs.size fa cdv)).units + 65 < cLine := by have := hr.un; omega
  exact (d_sOne (d_ret (d_lc2 (own := [("a", 1), ("b", 2)]) rfl sc_all_couples.nd (d_iRng1 (by rfl) T.b_range (d_cons (d_var 0) d_nil)) (blkOk_by (by rfl)) (by decide) (by decide) (vs := [1]) (vs1 := [2]) (by decide) (by decide) (fun _ _ _ _ _ => (d_gname sc_all_couples.nd rfl (by (first | exact Or.inl rfl | exact Or.inr rfl | exact Or.inr (Or.inl rfl) | exact Or.inr (Or.inr rfl) | rfl)) (by decide))) (fun _ _ _ _ _ => d_ifs0) (fun _ _ _ _ _ => (d_iRng2 (by rfl) T.b_range (d_cons (q_add (d_var 1) d_int) (d_cons (d_var 0) d_nil)))) (fun _ _ _ _ _ => (d_gname sc_all_couples.nd rfl (by (first | exact Or.inl rfl | exact Or.inr rfl | exact Or.inr (Or.inl rfl) | exact Or.inr (Or.inr rfl) | rfl)) (by decide))) (fun _ _ _ _ _ => d_ifs0) (fun _ _ _ _ _ => (d_tup (d_cons (d_var 1) (d_cons (d_var 2) d_nil)))))))
theorem ok_drawn_table (T : Txt K mg) (GC_Draws : CalC P w K mg base "Draws" 1 ["self", "seed"] f_DrawsX_initX) (G_all_couples : Cal P w K mg base "all_couples" 1 ["many"] f_all_couples) (G_Draws_take : CalM P w K mg base "Draws" "take" 1 ["self", "many"] f_Draws_take) {fa : Addr} {fd : FuncData} (F : Fun K "drawn_table" "drawn_table" s_drawn_table fa fd) : FnOk P w K mg base (L2.CX P w) 3 fa fd ["seed", "many"] (spD K mg f_drawn_table) := by
  refine fn_ok (N := ["seed", "many", "draws", "told", "couple", "number"]) (k := 2) [true, true] b_drawn_table F sc_drawn_table rfl ?_
  intro cdv A outer sh H E hr
  have hu := hu_of hr
  have hu64 := hr.units
  have hu65 : (A.deeper (envOfC "drawn_table" (defScope s_drawn_table) sh.heap.objs.size fa cdv)).units + 65 < cLine := by have := hr.un; omega
  exact (d_sCons (d_set sc_drawn_table.nd rfl (by (first | exact Or.inl rfl | exact Or.inr rfl | exact Or.inr (Or.inl rfl) | exact Or.inr (Or.inr rfl) | rfl)) (by decide) (d_calC GC_Draws hr (by decide) (by rfl) (takes_of rfl rfl rfl rfl) (d_cons (d_var 0) d_nil)))
 (d_sCons (d_setLc (own := [("couple", 4)]) rfl sc_drawn_table.nd rfl rfl (by decide) (by rfl) (d_iSeq (d_cal G_all_couples hr (by decide) (by rfl) (takes_of rfl rfl rfl rfl) (d_cons (d_var 1) d_nil))) (blkOk_by (by rfl)) (by decide) (by decide) (vs := [4]) (by decide) (fun _ _ _ _ _ => (d_gname sc_drawn_table.nd rfl (by (first | exact Or.inl rfl | exact Or.inr rfl | exact Or.inr (Or.inl rfl) | exact Or.inr (Or.inr rfl) | rfl)) (by decide))) (fun _ _ _ _ _ => d_ifs0) (fun _ _ _ _ _ => (d_tup (d_cons (d_var 4) (d_cons (d_calM (pl := _) G_Draws_take hr (by decide) PD.takes0 (d_var 2) (d_cons d_int d_nil)) d_nil)))))
 (d_sOne (d_ret (d_tup (d_cons (d_var 1) (d_cons (q_tuple T.b_tuple (d_cons (d_lc (own := [("couple", 4), ("number", 5)]) rfl sc_drawn_table.nd (d_iSeq (d_var 3)) (blkOk_by (by rfl)) (by decide) (by decide) (vs := [4, 5]) (by decide) (fun _ _ _ _ _ => (d_gtup rfl (d_gcons (d_gname sc_drawn_table.nd rfl (by (first | exact Or.inl rfl | exact Or.inr rfl | exact Or.inr (Or.inl rfl) | exact Or.inr (Or.inr rfl) | rfl)) (by decide)) (d_gcons (d_gname sc_drawn_table.nd rfl (by (first | exact Or.inl rfl | exact Or.inr rfl | exact Or.inr (Or.inl rfl) | exact Or.inr (Or.inr rfl) | rfl)) (by decide)) d_gnil)))) (fun _ _ _ _ _ => (d_ifs1 (t_eq hu64 (d_var 5) d_int))) (fun _ _ _ _ _ => (d_var 4))) d_nil)) d_nil)))))))
theorem ok_drawn_names (T : Txt K mg) (GC_Draws : CalC P w K mg base "Draws" 1 ["self", "seed"] f_DrawsX_initX) (G_Draws_take : CalM P w K mg base "Draws" "take" 1 ["self", "many"] f_Draws_take) {fa : Addr} {fd : FuncData} (F : Fun K "drawn_names" "drawn_names" s_drawn_names fa fd) : FnOk P w K mg base (L2.CX P w) 3 fa fd ["seed", "many"] (spD K mg f_drawn_names) := by
  refine fn_ok (N := ["seed", "many", "draws", "left", "found", "one", "other"]) (k := 2) [true, true] b_drawn_names F sc_drawn_names rfl ?_
  intro cdv A outer sh H E hr
  have hu := hu_of hr
  have hu64 := hr.units
  have hu65 : (A.deeper (envOfC "drawn_names" (defScope s_drawn_names) sh.heap.objs.size fa cdv)).units + 65 < cLine := by have := hr.un; omega
  exact (d_sCons (d_par3 rfl sc_drawn_names.nd rfl rfl rfl (by decide) (by decide) (by decide) (by decide) (by decide) (by decide) rfl rfl rfl (d_cons (d_calC GC_Draws hr (by decide) (by rfl) (takes_of rfl rfl rfl rfl) (d_cons (d_var 0) d_nil)) (d_cons (d_listRg1 (by rfl) (by rfl) T.b_list (by rfl) T.b_range (d_var 1)) (d_cons (d_lst d_nil) d_nil))) rfl)
 (d_sCons (d_while 1000000 (passes_of rfl) (d_tru (d_var 3)) (d_sCons (d_set sc_drawn_names.nd rfl (by (first | exact Or.inl rfl | exact Or.inr rfl | exact Or.inr (Or.inl rfl) | exact Or.inr (Or.inr rfl) | rfl)) (by decide) (d_ixA hu (d_var 3) (d_calM (pl := _) G_Draws_take hr (by decide) (takes_of rfl rfl rfl rfl) (d_var 2) (d_cons (q_len T.b_len (d_cons (d_var 3) d_nil)) d_nil))))
 (d_sCons (d_setLc (own := [("other", 6)]) rfl sc_drawn_names.nd rfl rfl (by decide) (by rfl) (d_iSeq (d_var 3)) (blkOk_by (by rfl)) (by decide) (by decide) (vs := [6]) (by decide) (fun _ _ _ _ _ => (d_gname sc_drawn_names.nd rfl (by (first | exact Or.inl rfl | exact Or.inr rfl | exact Or.inr (Or.inl rfl) | exact Or.inr (Or.inr rfl) | rfl)) (by decide))) (fun _ _ _ _ _ => (d_ifs1 (t_ne hu64 (d_var 6) (d_var 5)))) (fun _ _ _ _ _ => (d_var 6)))
 (d_sOne (d_expr (d_append (d_var 4) (d_cons (d_var 5) d_nil)))))))
 (d_sOne (d_ret (q_tuple T.b_tuple (d_cons (d_var 4) d_nil))))))
theorem ok_drawn_lot (T : Txt K mg) (GC_Draws : CalC P w K mg base "Draws" 1 ["self", "seed"] f_DrawsX_initX) (G_Draws_take : CalM P w K mg base "Draws" "take" 1 ["self", "many"] f_Draws_take) {fa : Addr} {fd : FuncData} (F : Fun K "drawn_lot" "drawn_lot" s_drawn_lot fa fd) : FnOk P w K mg base (L2.CX P w) 3 fa fd ["seed", "many"] (spD K mg f_drawn_lot) := by
  refine fn_ok (N := ["seed", "many", "draws", "told", "one", "number"]) (k := 2) [true, true] b_drawn_lot F sc_drawn_lot rfl ?_
  intro cdv A outer sh H E hr
  have hu := hu_of hr
  have hu64 := hr.units
  have hu65 : (A.deeper (envOfC "drawn_lot" (defScope s_drawn_lot) sh.heap.objs.size fa cdv)).units + 65 < cLine := by have := hr.un; omega
  exact (d_sCons (d_set sc_drawn_lot.nd rfl (by (first | exact Or.inl rfl | exact Or.inr rfl | exact Or.inr (Or.inl rfl) | exact Or.inr (Or.inr rfl) | rfl)) (by decide) (d_calC GC_Draws hr (by decide) (by rfl) (takes_of rfl rfl rfl rfl) (d_cons (d_var 0) d_nil)))
 (d_sCons (d_setLc (own := [("one", 4)]) rfl sc_drawn_lot.nd rfl rfl (by decide) (by rfl) (d_iRng1 (by rfl) T.b_range (d_cons (d_var 1) d_nil)) (blkOk_by (by rfl)) (by decide) (by decide) (vs := [4]) (by decide) (fun _ _ _ _ _ => (d_gname sc_drawn_lot.nd rfl (by (first | exact Or.inl rfl | exact Or.inr rfl | exact Or.inr (Or.inl rfl) | exact Or.inr (Or.inr rfl) | rfl)) (by decide))) (fun _ _ _ _ _ => d_ifs0) (fun _ _ _ _ _ => (d_tup (d_cons (d_var 4) (d_cons (d_calM (pl := _) G_Draws_take hr (by decide) PD.takes0 (d_var 2) (d_cons d_int d_nil)) d_nil)))))
 (d_sOne (d_ret (q_tuple T.b_tuple (d_cons (d_lc (own := [("one", 4), ("number", 5)]) rfl sc_drawn_lot.nd (d_iSeq (d_var 3)) (blkOk_by (by rfl)) (by decide) (by decide) (vs := [4, 5]) (by decide) (fun _ _ _ _ _ => (d_gtup rfl (d_gcons (d_gname sc_drawn_lot.nd rfl (by (first | exact Or.inl rfl | exact Or.inr rfl | exact Or.inr (Or.inl rfl) | exact Or.inr (Or.inr rfl) | rfl)) (by decide)) (d_gcons (d_gname sc_drawn_lot.nd rfl (by (first | exact Or.inl rfl | exact Or.inr rfl | exact Or.inr (Or.inl rfl) | exact Or.inr (Or.inr rfl) | rfl)) (by decide)) d_gnil)))) (fun _ _ _ _ _ => (d_ifs1 (t_eq hu64 (d_var 5) d_int))) (fun _ _ _ _ _ => (d_var 4))) d_nil))))))
theorem ok_deed_by (T : Txt K mg) (G_Draws_take : CalM P w K mg base "Draws" "take" 1 ["self", "many"] f_Draws_take) {fa : Addr} {fd : FuncData} (F : Fun K "deed_by" "deed_by" s_deed_by fa fd) : FnOk P w K mg base (L2.CX P w) 2 fa fd ["draws"] (spD K mg f_deed_by) := by
  refine fn_ok (N := ["draws", "way", "a", "b"]) (k := 1) [true] b_deed_by F sc_deed_by rfl ?_
  intro cdv A outer sh H E hr
  have hu := hu_of hr
  have hu64 := hr.units
  have hu65 : (A.deeper (envOfC "deed_by" (defScope s_deed_by) sh.heap.objs.size fa cdv)).units + 65 < cLine := by have := hr.un; omega
  exact (d_sCons (d_set sc_deed_by.nd rfl (by (first | exact Or.inl rfl | exact Or.inr rfl | exact Or.inr (Or.inl rfl) | exact Or.inr (Or.inr rfl) | rfl)) (by decide) (d_ixA hu (q_kstrs T.k_WAYS (by rfl)) (d_calM (pl := _) G_Draws_take hr (by decide) (takes_of rfl rfl rfl rfl) (d_var 0) (d_cons (q_len T.b_len (d_cons (q_kstrs T.k_WAYS (by rfl)) d_nil)) d_nil))))
 (d_sCons (d_par rfl sc_deed_by.nd rfl rfl (by decide) (by decide) (by decide) rfl rfl (d_cons (d_ixA hu (q_kstrs T.k_NAMES (by rfl)) (d_calM (pl := _) G_Draws_take hr (by decide) (takes_of rfl rfl rfl rfl) (d_var 0) (d_cons (q_len T.b_len (d_cons (q_kstrs T.k_NAMES (by rfl)) d_nil)) d_nil))) (d_cons (d_ixA hu (q_kstrs T.k_NAMES (by rfl)) (d_calM (pl := _) G_Draws_take hr (by decide) (takes_of rfl rfl rfl rfl) (d_var 0) (d_cons (q_len T.b_len (d_cons (q_kstrs T.k_NAMES (by rfl)) d_nil)) d_nil))) d_nil)) rfl)
 (d_sCons (d_if (t_eq hu64 (d_var 1) d_str) (d_sOne (d_ret (d_tup (d_cons (d_var 1) (d_cons (d_var 2) d_nil))))) d_sNil)
 (d_sOne (d_ret (d_ifE (t_eq hu64 (d_var 1) d_str) (d_tup (d_cons (d_var 1) d_nil)) (d_tup (d_cons (d_var 1) (d_cons (d_var 2) (d_cons (d_var 3) d_nil))))))))))
theorem ok_deeds_of (T : Txt K mg) (GC_Draws : CalC P w K mg base "Draws" 1 ["self", "seed"] f_DrawsX_initX) (G_deed_by : Cal P w K mg base "deed_by" 2 ["draws"] f_deed_by) {fa : Addr} {fd : FuncData} (F : Fun K "deeds_of" "deeds_of" s_deeds_of fa fd) : FnOk P w K mg base (L2.CX P w) 3 fa fd ["seed", "many"] (spD K mg f_deeds_of) := by
  refine fn_ok (N := ["seed", "many", "draws", "deed"]) (k := 2) [true, true] b_deeds_of F sc_deeds_of rfl ?_
  intro cdv A outer sh H E hr
  have hu := hu_of hr
  have hu64 := hr.units
  have hu65 : (A.deeper (envOfC "deeds_of" (defScope s_deeds_of) sh.heap.objs.size fa cdv)).units + 65 < cLine := by have := hr.un; omega
  exact (d_sCons (d_set sc_deeds_of.nd rfl (by (first | exact Or.inl rfl | exact Or.inr rfl | exact Or.inr (Or.inl rfl) | exact Or.inr (Or.inr rfl) | rfl)) (by decide) (d_calC GC_Draws hr (by decide) (by rfl) (takes_of rfl rfl rfl rfl) (d_cons (d_var 0) d_nil)))
 (d_sOne (d_ret (q_tuple T.b_tuple (d_cons (d_lc (own := [("deed", 3)]) rfl sc_deeds_of.nd (d_iRng1 (by rfl) T.b_range (d_cons (d_var 1) d_nil)) (blkOk_by (by rfl)) (by decide) (by decide) (vs := [3]) (by decide) (fun _ _ _ _ _ => (d_gname sc_deeds_of.nd rfl (by (first | exact Or.inl rfl | exact Or.inr rfl | exact Or.inr (Or.inl rfl) | exact Or.inr (Or.inr rfl) | rfl)) (by decide))) (fun _ _ _ _ _ => d_ifs0) (fun _ _ _ _ _ => (d_cal G_deed_by hr (by decide) (by rfl) PD.takes0 (d_cons (d_var 2) d_nil)))) d_nil)))))
theorem ok_law (T : Txt K mg) (G_u_law_bag : Cal P w K mg base "_law_bag" 1 ["script"] f_u_law_bag) (G_u_law_some : Cal P w K mg base "_law_some" 2 ["bag", "things"] f_u_law_some) (G_u_law_take : Cal P w K mg base "_law_take" 1 ["bag", "many"] f_u_law_take) (GC_Draws : CalC P w K mg base "Draws" 1 ["self", "seed"] f_DrawsX_initX) (G_u_law_next : Cal P w K mg base "_law_next" 1 ["state", "many"] f_u_law_next) (G_u_law_alike : Cal P w K mg base "_law_alike" 1 ["found", "due"] f_u_law_alike) (G_Draws_take : CalM P w K mg base "Draws" "take" 1 ["self", "many"] f_Draws_take) (G_Draws_state : CalM P w K mg base "Draws" "state" 1 ["self"] f_Draws_state) (G_u_law_drawn_chart : Cal P w K mg base "_law_drawn_chart" 2 ["state", "many"] f_u_law_drawn_chart) (G_u_law_table_of : Cal P w K mg base "_law_table_of" 2 ["chart"] f_u_law_table_of) (G_drawn_chart : Cal P w K mg base "drawn_chart" 3 ["seed", "many"] f_drawn_chart) (G_bent_table : Cal P w K mg base "bent_table" 3 ["seed", "many", "bends"] f_bent_table) (G_u_law_couples : Cal P w K mg base "_law_couples" 1 ["many"] f_u_law_couples) (G_drawn_table : Cal P w K mg base "drawn_table" 3 ["seed", "many"] f_drawn_table) (G_drawn_names : Cal P w K mg base "drawn_names" 3 ["seed", "many"] f_drawn_names) (G_drawn_lot : Cal P w K mg base "drawn_lot" 3 ["seed", "many"] f_drawn_lot) (G_deeds_of : Cal P w K mg base "deeds_of" 3 ["seed", "many"] f_deeds_of) {fa : Addr} {fd : FuncData} (F : Fun K "law" "law" s_law fa fd) : FnOk P w K mg base (L2.CX P w) 4 fa fd ["script"] (spD K mg f_law) := by
  refine fn_ok (N := ["script", "bag", "turn", "seed", "many", "first", "draws", "state", "step", "size", "number", "chart", "lined", "bends", "bend", "a", "b", "couple", "one", "found", "left", "row", "lot", "deeds", "way", "other", "word"]) (k := 3) [true] b_law F sc_law rfl ?_
  intro cdv A outer sh H E hr
  have hu := hu_of hr
  have hu64 := hr.units
  have hu65 : (A.deeper (envOfC "law" (defScope s_law) sh.heap.objs.size fa cdv)).units + 65 < cLine := by have := hr.un; omega
  exact (d_sCons (d_set sc_law.nd rfl (by (first | exact Or.inl rfl | exact Or.inr rfl | exact Or.inr (Or.inl rfl) | exact Or.inr (Or.inr rfl) | rfl)) (by decide) (d_cal G_u_law_bag hr (by decide) (by rfl) (takes_of rfl rfl rfl rfl) (d_cons (d_var 0) d_nil)))
 (d_sCons (d_for (passes_of rfl) rfl (d_iRng1 (by rfl) T.b_range (d_cons d_int d_nil)) (d_gname sc_law.nd rfl (by (first | exact Or.inl rfl | exact Or.inr rfl | exact Or.inr (Or.inl rfl) | exact Or.inr (Or.inr rfl) | rfl)) (by decide)) (d_sCons (d_par rfl sc_law.nd rfl rfl (by decide) (by decide) (by decide) rfl rfl (d_cons (d_cal G_u_law_some hr (by decide) (by rfl) (takes_of rfl rfl rfl rfl) (d_cons (d_var 1) (d_cons (d_lst (d_cons (d_cal G_u_law_take hr (by decide) (by rfl) (takes_of rfl rfl rfl rfl) (d_cons (d_var 1) (d_cons d_int d_nil))) (d_cons (d_cal G_u_law_take hr (by decide) (by rfl) (takes_of rfl rfl rfl rfl) (d_cons (d_var 1) (d_cons (q_pow d_int d_int) d_nil))) (d_cons d_int (d_cons d_int d_nil))))) d_nil))) (d_cons (q_add d_int (d_cal G_u_law_take hr (by decide) (by rfl) (takes_of rfl rfl rfl rfl) (d_cons (d_var 1) (d_cons d_int d_nil)))) d_nil)) rfl)
 (d_sCons (d_set sc_law.nd rfl (by (first | exact Or.inl rfl | exact Or.inr rfl | exact Or.inr (Or.inl rfl) | exact Or.inr (Or.inr rfl) | rfl)) (by decide) (q_mod (q_int T.b_int (d_cons (d_var 3) d_nil)) d_int))
 (d_sCons (d_par rfl sc_law.nd rfl rfl (by decide) (by decide) (by decide) rfl rfl (d_cons (d_calC GC_Draws hr (by decide) (by rfl) (takes_of rfl rfl rfl rfl) (d_cons (d_var 3) d_nil)) (d_cons (d_var 5) d_nil)) rfl)
 (d_sCons (d_for (passes_of rfl) rfl (d_iRng1 (by rfl) T.b_range (d_cons (q_add d_int (d_cal G_u_law_take hr (by decide) (by rfl) (takes_of rfl rfl rfl rfl) (d_cons (d_var 1) (d_cons d_int d_nil)))) d_nil)) (d_gname sc_law.nd rfl (by (first | exact Or.inl rfl | exact Or.inr rfl | exact Or.inr (Or.inl rfl) | exact Or.inr (Or.inr rfl) | rfl)) (by decide)) (d_sCons (d_set sc_law.nd rfl (by (first | exact Or.inl rfl | exact Or.inr rfl | exact Or.inr (Or.inl rfl) | exact Or.inr (Or.inr rfl) | rfl)) (by decide) (q_add d_int (d_cal G_u_law_take hr (by decide) (by rfl) (takes_of rfl rfl rfl rfl) (d_cons (d_var 1) (d_cons d_int d_nil)))))
 (d_sCons (d_asg (d_cal G_u_law_next hr (by decide) (by rfl) (takes_of rfl rfl rfl rfl) (d_cons (d_var 7) (d_cons (d_var 9) d_nil))) (d_gtup rfl (d_gcons (d_gname sc_law.nd rfl (by (first | exact Or.inl rfl | exact Or.inr rfl | exact Or.inr (Or.inl rfl) | exact Or.inr (Or.inr rfl) | rfl)) (by decide)) (d_gcons (d_gname sc_law.nd rfl (by (first | exact Or.inl rfl | exact Or.inr rfl | exact Or.inr (Or.inl rfl) | exact Or.inr (Or.inr rfl) | rfl)) (by decide)) d_gnil))))
 (d_sOne (d_if (d_not (d_tru (d_cal G_u_law_alike hr (by decide) (by rfl) (takes_of rfl rfl rfl rfl) (d_cons (d_lst (d_cons (d_calM (pl := _) G_Draws_take hr (by decide) (takes_of rfl rfl rfl rfl) (d_var 6) (d_cons (d_var 9) d_nil)) (d_cons (d_calM0 (pl := _) G_Draws_state hr (by decide) (takes_of rfl rfl rfl rfl) (d_var 6)) d_nil))) (d_cons (d_lst (d_cons (d_var 10) (d_cons (d_var 7) d_nil))) d_nil))))) (d_sOne (d_ret d_bl)) d_sNil)))))
 (d_sCons (d_asg (d_cal G_u_law_drawn_chart hr (by decide) (by rfl) (takes_of rfl rfl rfl rfl) (d_cons (d_var 5) (d_cons (d_var 4) d_nil))) (d_gtup rfl (d_gcons (d_gname sc_law.nd rfl (by (first | exact Or.inl rfl | exact Or.inr rfl | exact Or.inr (Or.inl rfl) | exact Or.inr (Or.inr rfl) | rfl)) (by decide)) (d_gcons (d_gname sc_law.nd rfl (by (first | exact Or.inl rfl | exact Or.inr rfl | exact Or.inr (Or.inl rfl) | exact Or.inr (Or.inr rfl) | rfl)) (by decide)) d_gnil))))
 (d_sCons (d_set sc_law.nd rfl (by (first | exact Or.inl rfl | exact Or.inr rfl | exact Or.inr (Or.inl rfl) | exact Or.inr (Or.inr rfl) | rfl)) (by decide) (q_list T.b_list (d_cons (d_ixA hu (d_cal G_u_law_table_of hr (by decide) (by rfl) (takes_of rfl rfl rfl rfl) (d_cons (d_var 11) d_nil)) d_int) d_nil)))
 (d_sCons (d_set sc_law.nd rfl (by (first | exact Or.inl rfl | exact Or.inr rfl | exact Or.inr (Or.inl rfl) | exact Or.inr (Or.inr rfl) | rfl)) (by decide) (d_cal G_u_law_take hr (by decide) (by rfl) (takes_of rfl rfl rfl rfl) (d_cons (d_var 1) (d_cons d_int d_nil))))
 (d_sCons (d_for (passes_of rfl) rfl (d_iRng1 (by rfl) T.b_range (d_cons (d_var 13) d_nil)) (d_gname sc_law.nd rfl (by (first | exact Or.inl rfl | exact Or.inr rfl | exact Or.inr (Or.inl rfl) | exact Or.inr (Or.inr rfl) | rfl)) (by decide)) (d_sCons (d_asg (d_cal G_u_law_next hr (by decide) (by rfl) (takes_of rfl rfl rfl rfl) (d_cons (d_var 7) (d_cons (d_var 4) d_nil))) (d_gtup rfl (d_gcons (d_gname sc_law.nd rfl (by (first | exact Or.inl rfl | exact Or.inr rfl | exact Or.inr (Or.inl rfl) | exact Or.inr (Or.inr rfl) | rfl)) (by decide)) (d_gcons (d_gname sc_law.nd rfl (by (first | exact Or.inl rfl | exact Or.inr rfl | exact Or.inr (Or.inl rfl) | exact Or.inr (Or.inr rfl) | rfl)) (by decide)) d_gnil))))
 (d_sCons (d_asg (d_cal G_u_law_next hr (by decide) (by rfl) (takes_of rfl rfl rfl rfl) (d_cons (d_var 7) (d_cons (d_var 4) d_nil))) (d_gtup rfl (d_gcons (d_gname sc_law.nd rfl (by (first | exact Or.inl rfl | exact Or.inr rfl | exact Or.inr (Or.inl rfl) | exact Or.inr (Or.inr rfl) | rfl)) (by decide)) (d_gcons (d_gname sc_law.nd rfl (by (first | exact Or.inl rfl | exact Or.inr rfl | exact Or.inr (Or.inl rfl) | exact Or.inr (Or.inr rfl) | rfl)) (by decide)) d_gnil))))
 (d_sCons (d_set sc_law.nd rfl (by (first | exact Or.inl rfl | exact Or.inr rfl | exact Or.inr (Or.inl rfl) | exact Or.inr (Or.inr rfl) | rfl)) (by decide) (d_tup (d_cons (q_min2 T.b_min (d_cons (d_var 15) (d_cons (d_var 16) d_nil))) (d_cons (q_max2 T.b_max (d_cons (d_var 15) (d_cons (d_var 16) d_nil))) d_nil))))
 (d_sOne (d_if (t_ne hu64 (d_var 15) (d_var 16)) (d_sOne (d_set sc_law.nd rfl (by (first | exact Or.inl rfl | exact Or.inr rfl | exact Or.inr (Or.inl rfl) | exact Or.inr (Or.inr rfl) | rfl)) (by decide) (d_ifE (d_inT hu65 (d_var 17) (d_var 12)) (d_lc (own := [("one", 18)]) rfl sc_law.nd (d_iSeq (d_var 12)) (blkOk_by (by rfl)) (by decide) (by decide) (vs := [18]) (by decide) (fun _ _ _ _ _ => (d_gname sc_law.nd rfl (by (first | exact Or.inl rfl | exact Or.inr rfl | exact Or.inr (Or.inl rfl) | exact Or.inr (Or.inr rfl) | rfl)) (by decide))) (fun _ _ _ _ _ => (d_ifs1 (t_ne hu64 (d_var 18) (d_var 17)))) (fun _ _ _ _ _ => (d_var 18))) (q_add (d_var 12) (d_lst (d_cons (d_var 17) d_nil)))))) d_sNil))))))
 (d_sCons (d_if (d_not (d_tru (d_cal G_u_law_alike hr (by decide) (by rfl) (takes_of rfl rfl rfl rfl) (d_cons (d_lst (d_cons (d_cal G_drawn_chart hr (by decide) (by rfl) (takes_of rfl rfl rfl rfl) (d_cons (d_var 3) (d_cons (d_var 4) d_nil))) (d_cons (d_cal G_bent_table hr (by decide) (by rfl) (takes_of rfl rfl rfl rfl) (d_cons (d_var 3) (d_cons (d_var 4) (d_cons (d_var 13) d_nil)))) d_nil))) (d_cons (d_lst (d_cons (d_var 11) (d_cons (d_tup (d_cons (d_var 4) (d_cons (q_tuple T.b_tuple (d_cons (q_sorted T.b_sorted (d_cons (d_var 12) d_nil)) d_nil)) d_nil))) d_nil))) d_nil))))) (d_sOne (d_ret d_bl)) d_sNil)
 (d_sCons (d_par rfl sc_law.nd rfl rfl (by decide) (by decide) (by decide) rfl rfl (d_cons (d_var 5) (d_cons (d_lst d_nil) d_nil)) rfl)
 (d_sCons (d_for (passes_of rfl) rfl (d_iSeq (d_cal G_u_law_couples hr (by decide) (by rfl) (takes_of rfl rfl rfl rfl) (d_cons (d_var 4) d_nil))) (d_gname sc_law.nd rfl (by (first | exact Or.inl rfl | exact Or.inr rfl | exact Or.inr (Or.inl rfl) | exact Or.inr (Or.inr rfl) | rfl)) (by decide)) (d_sCons (d_asg (d_cal G_u_law_next hr (by decide) (by rfl) (takes_of rfl rfl rfl rfl) (d_cons (d_var 7) (d_cons d_int d_nil))) (d_gtup rfl (d_gcons (d_gname sc_law.nd rfl (by (first | exact Or.inl rfl | exact Or.inr rfl | exact Or.inr (Or.inl rfl) | exact Or.inr (Or.inr rfl) | rfl)) (by decide)) (d_gcons (d_gname sc_law.nd rfl (by (first | exact Or.inl rfl | exact Or.inr rfl | exact Or.inr (Or.inl rfl) | exact Or.inr (Or.inr rfl) | rfl)) (by decide)) d_gnil))))
 (d_sOne (d_set sc_law.nd rfl (by (first | exact Or.inl rfl | exact Or.inr rfl | exact Or.inr (Or.inl rfl) | exact Or.inr (Or.inr rfl) | rfl)) (by decide) (q_add (d_var 19) (q_mul (d_lst (d_cons (d_var 17) d_nil)) (d_var 10)))))))
 (d_sCons (d_if (d_not (d_tru (d_cal G_u_law_alike hr (by decide) (by rfl) (takes_of rfl rfl rfl rfl) (d_cons (d_cal G_drawn_table hr (by decide) (by rfl) (takes_of rfl rfl rfl rfl) (d_cons (d_var 3) (d_cons (d_var 4) d_nil))) (d_cons (d_tup (d_cons (d_var 4) (d_cons (q_tuple T.b_tuple (d_cons (d_var 19) d_nil)) d_nil))) d_nil))))) (d_sOne (d_ret d_bl)) d_sNil)
 (d_sCons (d_par3 rfl sc_law.nd rfl rfl rfl (by decide) (by decide) (by decide) (by decide) (by decide) (by decide) rfl rfl rfl (d_cons (d_var 5) (d_cons (d_listRg1 (by rfl) (by rfl) T.b_list (by rfl) T.b_range (d_var 4)) (d_cons (d_lst d_nil) d_nil))) rfl)
 (d_sCons (d_for (passes_of rfl) rfl (d_iRng1 (by rfl) T.b_range (d_cons (d_var 4) d_nil)) (d_gname sc_law.nd rfl (by (first | exact Or.inl rfl | exact Or.inr rfl | exact Or.inr (Or.inl rfl) | exact Or.inr (Or.inr rfl) | rfl)) (by decide)) (d_sCons (d_asg (d_cal G_u_law_next hr (by decide) (by rfl) (takes_of rfl rfl rfl rfl) (d_cons (d_var 7) (d_cons (q_len T.b_len (d_cons (d_var 20) d_nil)) d_nil))) (d_gtup rfl (d_gcons (d_gname sc_law.nd rfl (by (first | exact Or.inl rfl | exact Or.inr rfl | exact Or.inr (Or.inl rfl) | exact Or.inr (Or.inr rfl) | rfl)) (by decide)) (d_gcons (d_gname sc_law.nd rfl (by (first | exact Or.inl rfl | exact Or.inr rfl | exact Or.inr (Or.inl rfl) | exact Or.inr (Or.inr rfl) | rfl)) (by decide)) d_gnil))))
 (d_sCons (d_expr (d_append (d_var 21) (d_cons (d_ixA hu (d_var 20) (d_var 10)) d_nil)))
 (d_sOne (d_set sc_law.nd rfl (by (first | exact Or.inl rfl | exact Or.inr rfl | exact Or.inr (Or.inl rfl) | exact Or.inr (Or.inr rfl) | rfl)) (by decide) (q_add (d_sl (d_var 20) d_oNone (d_oSome (d_var 10))) (d_sl (d_var 20) (d_oSome (q_add (d_var 10) d_int)) d_oNone)))))))
 (d_sCons (d_par rfl sc_law.nd rfl rfl (by decide) (by decide) (by decide) rfl rfl (d_cons (d_var 5) (d_cons (d_lst d_nil) d_nil)) rfl)
 (d_sCons (d_for (passes_of rfl) rfl (d_iRng1 (by rfl) T.b_range (d_cons (d_var 4) d_nil)) (d_gname sc_law.nd rfl (by (first | exact Or.inl rfl | exact Or.inr rfl | exact Or.inr (Or.inl rfl) | exact Or.inr (Or.inr rfl) | rfl)) (by decide)) (d_sCons (d_asg (d_cal G_u_law_next hr (by decide) (by rfl) (takes_of rfl rfl rfl rfl) (d_cons (d_var 7) (d_cons d_int d_nil))) (d_gtup rfl (d_gcons (d_gname sc_law.nd rfl (by (first | exact Or.inl rfl | exact Or.inr rfl | exact Or.inr (Or.inl rfl) | exact Or.inr (Or.inr rfl) | rfl)) (by decide)) (d_gcons (d_gname sc_law.nd rfl (by (first | exact Or.inl rfl | exact Or.inr rfl | exact Or.inr (Or.inl rfl) | exact Or.inr (Or.inr rfl) | rfl)) (by decide)) d_gnil))))
 (d_sOne (d_set sc_law.nd rfl (by (first | exact Or.inl rfl | exact Or.inr rfl | exact Or.inr (Or.inl rfl) | exact Or.inr (Or.inr rfl) | rfl)) (by decide) (q_add (d_var 22) (q_mul (d_lst (d_cons (d_var 18) d_nil)) (d_var 10)))))))
 (d_sCons (d_if (d_not (d_tru (d_cal G_u_law_alike hr (by decide) (by rfl) (takes_of rfl rfl rfl rfl) (d_cons (d_lst (d_cons (d_cal G_drawn_names hr (by decide) (by rfl) (takes_of rfl rfl rfl rfl) (d_cons (d_var 3) (d_cons (d_var 4) d_nil))) (d_cons (d_cal G_drawn_lot hr (by decide) (by rfl) (takes_of rfl rfl rfl rfl) (d_cons (d_var 3) (d_cons (d_var 4) d_nil))) d_nil))) (d_cons (d_lst (d_cons (q_tuple T.b_tuple (d_cons (d_var 21) d_nil)) (d_cons (q_tuple T.b_tuple (d_cons (d_var 22) d_nil)) d_nil))) d_nil))))) (d_sOne (d_ret d_bl)) d_sNil)
 (d_sCons (d_par3 rfl sc_law.nd rfl rfl rfl (by decide) (by decide) (by decide) (by decide) (by decide) (by decide) rfl rfl rfl (d_cons (d_var 5) (d_cons (d_lst d_nil) (d_cons (d_cal G_u_law_take hr (by decide) (by rfl) (takes_of rfl rfl rfl rfl) (d_cons (d_var 1) (d_cons d_int d_nil))) d_nil))) rfl)
 (d_sCons (d_for (passes_of rfl) rfl (d_iRng1 (by rfl) T.b_range (d_cons (d_var 9) d_nil)) (d_gname sc_law.nd rfl (by (first | exact Or.inl rfl | exact Or.inr rfl | exact Or.inr (Or.inl rfl) | exact Or.inr (Or.inr rfl) | rfl)) (by decide)) (d_sCons (d_asg (d_cal G_u_law_next hr (by decide) (by rfl) (takes_of rfl rfl rfl rfl) (d_cons (d_var 7) (d_cons d_int d_nil))) (d_gtup rfl (d_gcons (d_gname sc_law.nd rfl (by (first | exact Or.inl rfl | exact Or.inr rfl | exact Or.inr (Or.inl rfl) | exact Or.inr (Or.inr rfl) | rfl)) (by decide)) (d_gcons (d_gname sc_law.nd rfl (by (first | exact Or.inl rfl | exact Or.inr rfl | exact Or.inr (Or.inl rfl) | exact Or.inr (Or.inr rfl) | rfl)) (by decide)) d_gnil))))
 (d_sCons (d_asg (d_cal G_u_law_next hr (by decide) (by rfl) (takes_of rfl rfl rfl rfl) (d_cons (d_var 7) (d_cons d_int d_nil))) (d_gtup rfl (d_gcons (d_gname sc_law.nd rfl (by (first | exact Or.inl rfl | exact Or.inr rfl | exact Or.inr (Or.inl rfl) | exact Or.inr (Or.inr rfl) | rfl)) (by decide)) (d_gcons (d_gname sc_law.nd rfl (by (first | exact Or.inl rfl | exact Or.inr rfl | exact Or.inr (Or.inl rfl) | exact Or.inr (Or.inr rfl) | rfl)) (by decide)) d_gnil))))
 (d_sCons (d_asg (d_cal G_u_law_next hr (by decide) (by rfl) (takes_of rfl rfl rfl rfl) (d_cons (d_var 7) (d_cons d_int d_nil))) (d_gtup rfl (d_gcons (d_gname sc_law.nd rfl (by (first | exact Or.inl rfl | exact Or.inr rfl | exact Or.inr (Or.inl rfl) | exact Or.inr (Or.inr rfl) | rfl)) (by decide)) (d_gcons (d_gname sc_law.nd rfl (by (first | exact Or.inl rfl | exact Or.inr rfl | exact Or.inr (Or.inl rfl) | exact Or.inr (Or.inr rfl) | rfl)) (by decide)) d_gnil))))
 (d_sCons (d_par rfl sc_law.nd rfl rfl (by decide) (by decide) (by decide) rfl rfl (d_cons (d_ixA hu (d_lst (d_cons d_str (d_cons d_str (d_cons d_str (d_cons d_str (d_cons d_str d_nil)))))) (d_var 18)) (d_cons (d_ixA hu (d_lst (d_cons d_str (d_cons d_str (d_cons d_str (d_cons d_str (d_cons d_str d_nil)))))) (d_var 25)) d_nil)) rfl)
 (d_sCons (d_set sc_law.nd rfl (by (first | exact Or.inl rfl | exact Or.inr rfl | exact Or.inr (Or.inl rfl) | exact Or.inr (Or.inr rfl) | rfl)) (by decide) (d_ifE (t_lt (d_var 24) d_int) d_str (d_ifE (t_lt (d_var 24) d_int) d_str d_str)))
 (d_sOne (d_expr (d_append (d_var 23) (d_cons (d_ifE (t_lt (d_var 24) d_int) (d_tup (d_cons d_str (d_cons (d_var 15) d_nil))) (d_ifE (t_eq hu64 (d_var 24) d_int) (d_tup (d_cons d_str d_nil)) (d_tup (d_cons (d_var 26) (d_cons (d_var 15) (d_cons (d_var 16) d_nil)))))) d_nil))))))))))
 (d_sOne (d_if (d_not (d_tru (d_cal G_u_law_alike hr (by decide) (by rfl) (takes_of rfl rfl rfl rfl) (d_cons (d_cal G_deeds_of hr (by decide) (by rfl) (takes_of rfl rfl rfl rfl) (d_cons (d_var 3) (d_cons (d_var 9) d_nil))) (d_cons (q_tuple T.b_tuple (d_cons (d_var 23) d_nil)) d_nil))))) (d_sOne (d_ret d_bl)) d_sNil))))))))))))))))))))))
 (d_sOne (d_ret d_bl))))
/-- all of it, the law last -/
theorem all_ok (T : Txt K mg)
    (d_u_law_bag : ∃ fa, mg "_law_bag" = some (.ref fa) ∧ Df K "_law_bag" "_law_bag" s_u_law_bag fa ["script"])
    (d_u_law_take : ∃ fa, mg "_law_take" = some (.ref fa) ∧ Df K "_law_take" "_law_take" s_u_law_take fa ["bag", "many"])
    (d_u_law_some : ∃ fa, mg "_law_some" = some (.ref fa) ∧ Df K "_law_some" "_law_some" s_u_law_some fa ["bag", "things"])
    (d_DrawsX_initX : ∃ C fa, mg "Draws" = some (.ref C) ∧ CF K C ∧ PySem.W.findIn K (.ref C) "__init__" = some (some (.ref fa)) ∧ PySem.W.isFn K (.ref fa) = true ∧ Df K "__init__" "Draws.__init__" s_DrawsX_initX fa ["self", "seed"])
    (d_u_law_next : ∃ fa, mg "_law_next" = some (.ref fa) ∧ Df K "_law_next" "_law_next" s_u_law_next fa ["state", "many"])
    (d_u_law_alike : ∃ fa, mg "_law_alike" = some (.ref fa) ∧ Df K "_law_alike" "_law_alike" s_u_law_alike fa ["found", "due"])
    (d_Draws_take : ∃ C fa, mg "Draws" = some (.ref C) ∧ CF K C ∧ PySem.W.findIn K (.ref C) "take" = some (some (.ref fa)) ∧ PySem.W.isFn K (.ref fa) = true ∧ Df K "take" "Draws.take" s_Draws_take fa ["self", "many"])
    (d_Draws_state : ∃ C fa, mg "Draws" = some (.ref C) ∧ CF K C ∧ PySem.W.findIn K (.ref C) "state" = some (some (.ref fa)) ∧ PySem.W.isFn K (.ref fa) = true ∧ Df K "state" "Draws.state" s_Draws_state fa ["self"])
    (d_u_law_drawn_chart : ∃ fa, mg "_law_drawn_chart" = some (.ref fa) ∧ Df K "_law_drawn_chart" "_law_drawn_chart" s_u_law_drawn_chart fa ["state", "many"])
    (d_u_law_up : ∃ fa, mg "_law_up" = some (.ref fa) ∧ Df K "_law_up" "_law_up" s_u_law_up fa ["chart", "one"])
    (d_u_law_table_of : ∃ fa, mg "_law_table_of" = some (.ref fa) ∧ Df K "_law_table_of" "_law_table_of" s_u_law_table_of fa ["chart"])
    (d_chart_by : ∃ fa, mg "chart_by" = some (.ref fa) ∧ Df K "chart_by" "chart_by" s_chart_by fa ["draws", "many"])
    (d_drawn_chart : ∃ fa, mg "drawn_chart" = some (.ref fa) ∧ Df K "drawn_chart" "drawn_chart" s_drawn_chart fa ["seed", "many"])
    (d_way_up : ∃ fa, mg "way_up" = some (.ref fa) ∧ Df K "way_up" "way_up" s_way_up fa ["chart", "one"])
    (d_table_of : ∃ fa, mg "table_of" = some (.ref fa) ∧ Df K "table_of" "table_of" s_table_of fa ["chart"])
    (d_bent_table : ∃ fa, mg "bent_table" = some (.ref fa) ∧ Df K "bent_table" "bent_table" s_bent_table fa ["seed", "many", "bends"])
    (d_u_law_couples : ∃ fa, mg "_law_couples" = some (.ref fa) ∧ Df K "_law_couples" "_law_couples" s_u_law_couples fa ["many"])
    (d_all_couples : ∃ fa, mg "all_couples" = some (.ref fa) ∧ Df K "all_couples" "all_couples" s_all_couples fa ["many"])
    (d_drawn_table : ∃ fa, mg "drawn_table" = some (.ref fa) ∧ Df K "drawn_table" "drawn_table" s_drawn_table fa ["seed", "many"])
    (d_drawn_names : ∃ fa, mg "drawn_names" = some (.ref fa) ∧ Df K "drawn_names" "drawn_names" s_drawn_names fa ["seed", "many"])
    (d_drawn_lot : ∃ fa, mg "drawn_lot" = some (.ref fa) ∧ Df K "drawn_lot" "drawn_lot" s_drawn_lot fa ["seed", "many"])
    (d_deed_by : ∃ fa, mg "deed_by" = some (.ref fa) ∧ Df K "deed_by" "deed_by" s_deed_by fa ["draws"])
    (d_deeds_of : ∃ fa, mg "deeds_of" = some (.ref fa) ∧ Df K "deeds_of" "deeds_of" s_deeds_of fa ["seed", "many"])
    {fa : Addr} {fd : FuncData} (F : Fun K "law" "law" s_law fa fd) : FnOk P w K mg base (L2.CX P w) 4 fa fd ["script"] (spD K mg f_law) := by
  have G_u_law_bag : Cal P w K mg base "_law_bag" 1 ["script"] f_u_law_bag := by
    obtain ⟨fa, hm, fd, F, hk, hb⟩ := d_u_law_bag
    exact ⟨fa, fd, ok_u_law_bag T  F, hm, hk, hb⟩
  have G_u_law_take : Cal P w K mg base "_law_take" 1 ["bag", "many"] f_u_law_take := by
    obtain ⟨fa, hm, fd, F, hk, hb⟩ := d_u_law_take
    exact ⟨fa, fd, ok_u_law_take T  F, hm, hk, hb⟩
  have G_u_law_some : Cal P w K mg base "_law_some" 2 ["bag", "things"] f_u_law_some := by
    obtain ⟨fa, hm, fd, F, hk, hb⟩ := d_u_law_some
    exact ⟨fa, fd, ok_u_law_some T G_u_law_take F, hm, hk, hb⟩
  have GC_Draws : CalC P w K mg base "Draws" 1 ["self", "seed"] f_DrawsX_initX := by
    obtain ⟨C, fa, hm, c, hf, hi, fd, F, hk, hb⟩ := d_DrawsX_initX
    exact ⟨C, fa, fd, ok_DrawsX_initX T  F, hm, ⟨c.ma, hf, hi, c.kc⟩, hb⟩
  have G_DrawsX_initX : CalM P w K mg base "Draws" "__init__" 1 ["self", "seed"] f_DrawsX_initX := by
    obtain ⟨C, fa, hm, c, hf, hi, fd, F, hk, hb⟩ := d_DrawsX_initX
    exact ⟨C, fa, fd, ok_DrawsX_initX T  F, hm, ⟨c.pg, c.hd, c.po, c.sa⟩, ⟨hf, hi, hk⟩, hb⟩
  have G_u_law_next : Cal P w K mg base "_law_next" 1 ["state", "many"] f_u_law_next := by
    obtain ⟨fa, hm, fd, F, hk, hb⟩ := d_u_law_next
    exact ⟨fa, fd, ok_u_law_next T  F, hm, hk, hb⟩
  have G_u_law_alike : Cal P w K mg base "_law_alike" 1 ["found", "due"] f_u_law_alike := by
    obtain ⟨fa, hm, fd, F, hk, hb⟩ := d_u_law_alike
    exact ⟨fa, fd, ok_u_law_alike T  F, hm, hk, hb⟩
  have G_Draws_take : CalM P w K mg base "Draws" "take" 1 ["self", "many"] f_Draws_take := by
    obtain ⟨C, fa, hm, c, hf, hi, fd, F, hk, hb⟩ := d_Draws_take
    exact ⟨C, fa, fd, ok_Draws_take T  F, hm, ⟨c.pg, c.hd, c.po, c.sa⟩, ⟨hf, hi, hk⟩, hb⟩
  have G_Draws_state : CalM P w K mg base "Draws" "state" 1 ["self"] f_Draws_state := by
    obtain ⟨C, fa, hm, c, hf, hi, fd, F, hk, hb⟩ := d_Draws_state
    exact ⟨C, fa, fd, ok_Draws_state T  F, hm, ⟨c.pg, c.hd, c.po, c.sa⟩, ⟨hf, hi, hk⟩, hb⟩
  have G_u_law_drawn_chart : Cal P w K mg base "_law_drawn_chart" 2 ["state", "many"] f_u_law_drawn_chart := by
    obtain ⟨fa, hm, fd, F, hk, hb⟩ := d_u_law_drawn_chart
    exact ⟨fa, fd, ok_u_law_drawn_chart T G_u_law_next F, hm, hk, hb⟩
  have G_u_law_up : Cal P w K mg base "_law_up" 1 ["chart", "one"] f_u_law_up := by
    obtain ⟨fa, hm, fd, F, hk, hb⟩ := d_u_law_up
    exact ⟨fa, fd, ok_u_law_up T  F, hm, hk, hb⟩
  have G_u_law_table_of : Cal P w K mg base "_law_table_of" 2 ["chart"] f_u_law_table_of := by
    obtain ⟨fa, hm, fd, F, hk, hb⟩ := d_u_law_table_of
    exact ⟨fa, fd, ok_u_law_table_of T G_u_law_up F, hm, hk, hb⟩
  have G_chart_by : Cal P w K mg base "chart_by" 2 ["draws", "many"] f_chart_by := by
    obtain ⟨fa, hm, fd, F, hk, hb⟩ := d_chart_by
    exact ⟨fa, fd, ok_chart_by T G_Draws_take F, hm, hk, hb⟩
  have G_drawn_chart : Cal P w K mg base "drawn_chart" 3 ["seed", "many"] f_drawn_chart := by
    obtain ⟨fa, hm, fd, F, hk, hb⟩ := d_drawn_chart
    exact ⟨fa, fd, ok_drawn_chart T G_chart_by GC_Draws F, hm, hk, hb⟩
  have G_way_up : Cal P w K mg base "way_up" 1 ["chart", "one"] f_way_up := by
    obtain ⟨fa, hm, fd, F, hk, hb⟩ := d_way_up
    exact ⟨fa, fd, ok_way_up T  F, hm, hk, hb⟩
  have G_table_of : Cal P w K mg base "table_of" 2 ["chart"] f_table_of := by
    obtain ⟨fa, hm, fd, F, hk, hb⟩ := d_table_of
    exact ⟨fa, fd, ok_table_of T G_way_up F, hm, hk, hb⟩
  have G_bent_table : Cal P w K mg base "bent_table" 3 ["seed", "many", "bends"] f_bent_table := by
    obtain ⟨fa, hm, fd, F, hk, hb⟩ := d_bent_table
    exact ⟨fa, fd, ok_bent_table T GC_Draws G_table_of G_chart_by G_Draws_take F, hm, hk, hb⟩
  have G_u_law_couples : Cal P w K mg base "_law_couples" 1 ["many"] f_u_law_couples := by
    obtain ⟨fa, hm, fd, F, hk, hb⟩ := d_u_law_couples
    exact ⟨fa, fd, ok_u_law_couples T  F, hm, hk, hb⟩
  have G_all_couples : Cal P w K mg base "all_couples" 1 ["many"] f_all_couples := by
    obtain ⟨fa, hm, fd, F, hk, hb⟩ := d_all_couples
    exact ⟨fa, fd, ok_all_couples T  F, hm, hk, hb⟩
  have G_drawn_table : Cal P w K mg base "drawn_table" 3 ["seed", "many"] f_drawn_table := by
    obtain ⟨fa, hm, fd, F, hk, hb⟩ := d_drawn_table
    exact ⟨fa, fd, ok_drawn_table T GC_Draws G_all_couples G_Draws_take F, hm, hk, hb⟩
  have G_drawn_names : Cal P w K mg base "drawn_names" 3 ["seed", "many"] f_drawn_names := by
    obtain ⟨fa, hm, fd, F, hk, hb⟩ := d_drawn_names
    exact ⟨fa, fd, ok_drawn_names T GC_Draws G_Draws_take F, hm, hk, hb⟩
  have G_drawn_lot : Cal P w K mg base "drawn_lot" 3 ["seed", "many"] f_drawn_lot := by
    obtain ⟨fa, hm, fd, F, hk, hb⟩ := d_drawn_lot
    exact ⟨fa, fd, ok_drawn_lot T GC_Draws G_Draws_take F, hm, hk, hb⟩
  have G_deed_by : Cal P w K mg base "deed_by" 2 ["draws"] f_deed_by := by
    obtain ⟨fa, hm, fd, F, hk, hb⟩ := d_deed_by
    exact ⟨fa, fd, ok_deed_by T G_Draws_take F, hm, hk, hb⟩
  have G_deeds_of : Cal P w K mg base "deeds_of" 3 ["seed", "many"] f_deeds_of := by
    obtain ⟨fa, hm, fd, F, hk, hb⟩ := d_deeds_of
    exact ⟨fa, fd, ok_deeds_of T GC_Draws G_deed_by F, hm, hk, hb⟩
  exact ok_law T G_u_law_bag G_u_law_some G_u_law_take GC_Draws G_u_law_next G_u_law_alike G_Draws_take G_Draws_state G_u_law_drawn_chart G_u_law_table_of G_drawn_chart G_bent_table G_u_law_couples G_drawn_table G_drawn_names G_drawn_lot G_deeds_of F
end
section
variable {l : PySem.W.OpenLaw} {w : World} {K : PySem.W.Frag} {h : Heap} {mg : Str → Option Value}
theorem all_mk {C_Draws F_u_law_bag F_u_law_take F_u_law_some F_DrawsX_initX F_u_law_next F_u_law_alike F_Draws_take F_Draws_state F_u_law_drawn_chart F_u_law_up F_u_law_table_of F_chart_by F_drawn_chart F_way_up F_table_of F_bent_table F_u_law_couples F_all_couples F_drawn_table F_drawn_names F_drawn_lot F_deed_by F_deeds_of F_law A_NAMES A_WAYS : Addr} {t_CUT : Tok} {t_FACTOR : Tok} {t_MODULUS : Tok} {dd_NAMES : Option Addr} {its_NAMES : Array Value} {nn_NAMES : Nat} {sl_NAMES : Array (Option Value)} {t_SUMMAND : Tok} {dd_WAYS : Option Addr} {its_WAYS : Array Value} {nn_WAYS : Nat} {sl_WAYS : Array (Option Value)} (X : K.In h) (G : h.Ns mainGlobals mg) {fa : Addr} (hfa : mg "law" = some (.ref fa))
    (z_abs : PySem.W.nsIn K mainGlobals "abs" = some none)
    (z_bool : PySem.W.nsIn K mainGlobals "bool" = some none)
    (z_int : PySem.W.nsIn K mainGlobals "int" = some none)
    (z_isinstance : PySem.W.nsIn K mainGlobals "isinstance" = some none)
    (z_len : PySem.W.nsIn K mainGlobals "len" = some none)
    (z_list : PySem.W.nsIn K mainGlobals "list" = some none)
    (z_max : PySem.W.nsIn K mainGlobals "max" = some none)
    (z_min : PySem.W.nsIn K mainGlobals "min" = some none)
    (z_range : PySem.W.nsIn K mainGlobals "range" = some none)
    (z_sorted : PySem.W.nsIn K mainGlobals "sorted" = some none)
    (z_str : PySem.W.nsIn K mainGlobals "str" = some none)
    (z_tuple : PySem.W.nsIn K mainGlobals "tuple" = some none)
    (z_zip : PySem.W.nsIn K mainGlobals "zip" = some none)
    (c_Draws : PySem.W.nsIn K mainGlobals "Draws" = some (some (.ref C_Draws)))
    (pg_Draws : PySem.W.plainGet K C_Draws Str.empty = true)
    (hd_Draws : PySem.W.hasDictIn K C_Draws = true)
    (po_Draws : PySem.W.plainOver K C_Draws = true)
    (sa_Draws : PySem.W.findIn K (.ref C_Draws) "__setattr__" = some (some (.builtin "object.__setattr__")))
    (ma_Draws : PySem.W.makesIn K C_Draws = true)
    (kc_Draws : PySem.W.keepIn K (.ref C_Draws) = true)
    (n_Draws_its_state : PySem.W.findIn K (.ref C_Draws) "its_state" = some none)
    (a_u_law_bag : PySem.W.nsIn K mainGlobals "_law_bag" = some (some (.ref F_u_law_bag)))
    (e_u_law_bag : FF K "_law_bag" "_law_bag" s_u_law_bag F_u_law_bag)
    (a_u_law_take : PySem.W.nsIn K mainGlobals "_law_take" = some (some (.ref F_u_law_take)))
    (e_u_law_take : FF K "_law_take" "_law_take" s_u_law_take F_u_law_take)
    (a_u_law_some : PySem.W.nsIn K mainGlobals "_law_some" = some (some (.ref F_u_law_some)))
    (e_u_law_some : FF K "_law_some" "_law_some" s_u_law_some F_u_law_some)
    (a_DrawsX_initX : PySem.W.findIn K (.ref C_Draws) "__init__" = some (some (.ref F_DrawsX_initX)))
    (i_DrawsX_initX : PySem.W.isFn K (.ref F_DrawsX_initX) = true)
    (e_DrawsX_initX : FF K "__init__" "Draws.__init__" s_DrawsX_initX F_DrawsX_initX)
    (a_u_law_next : PySem.W.nsIn K mainGlobals "_law_next" = some (some (.ref F_u_law_next)))
    (e_u_law_next : FF K "_law_next" "_law_next" s_u_law_next F_u_law_next)
    (a_u_law_alike : PySem.W.nsIn K mainGlobals "_law_alike" = some (some (.ref F_u_law_alike)))
    (e_u_law_alike : FF K "_law_alike" "_law_alike" s_u_law_alike F_u_law_alike)
    (a_Draws_take : PySem.W.findIn K (.ref C_Draws) "take" = some (some (.ref F_Draws_take)))
    (i_Draws_take : PySem.W.isFn K (.ref F_Draws_take) = true)
    (e_Draws_take : FF K "take" "Draws.take" s_Draws_take F_Draws_take)
    (a_Draws_state : PySem.W.findIn K (.ref C_Draws) "state" = some (some (.ref F_Draws_state)))
    (i_Draws_state : PySem.W.isFn K (.ref F_Draws_state) = true)
    (e_Draws_state : FF K "state" "Draws.state" s_Draws_state F_Draws_state)
    (a_u_law_drawn_chart : PySem.W.nsIn K mainGlobals "_law_drawn_chart" = some (some (.ref F_u_law_drawn_chart)))
    (e_u_law_drawn_chart : FF K "_law_drawn_chart" "_law_drawn_chart" s_u_law_drawn_chart F_u_law_drawn_chart)
    (a_u_law_up : PySem.W.nsIn K mainGlobals "_law_up" = some (some (.ref F_u_law_up)))
    (e_u_law_up : FF K "_law_up" "_law_up" s_u_law_up F_u_law_up)
    (a_u_law_table_of : PySem.W.nsIn K mainGlobals "_law_table_of" = some (some (.ref F_u_law_table_of)))
    (e_u_law_table_of : FF K "_law_table_of" "_law_table_of" s_u_law_table_of F_u_law_table_of)
    (a_chart_by : PySem.W.nsIn K mainGlobals "chart_by" = some (some (.ref F_chart_by)))
    (e_chart_by : FF K "chart_by" "chart_by" s_chart_by F_chart_by)
    (a_drawn_chart : PySem.W.nsIn K mainGlobals "drawn_chart" = some (some (.ref F_drawn_chart)))
    (e_drawn_chart : FF K "drawn_chart" "drawn_chart" s_drawn_chart F_drawn_chart)
    (a_way_up : PySem.W.nsIn K mainGlobals "way_up" = some (some (.ref F_way_up)))
    (e_way_up : FF K "way_up" "way_up" s_way_up F_way_up)
    (a_table_of : PySem.W.nsIn K mainGlobals "table_of" = some (some (.ref F_table_of)))
    (e_table_of : FF K "table_of" "table_of" s_table_of F_table_of)
    (a_bent_table : PySem.W.nsIn K mainGlobals "bent_table" = some (some (.ref F_bent_table)))
    (e_bent_table : FF K "bent_table" "bent_table" s_bent_table F_bent_table)
    (a_u_law_couples : PySem.W.nsIn K mainGlobals "_law_couples" = some (some (.ref F_u_law_couples)))
    (e_u_law_couples : FF K "_law_couples" "_law_couples" s_u_law_couples F_u_law_couples)
    (a_all_couples : PySem.W.nsIn K mainGlobals "all_couples" = some (some (.ref F_all_couples)))
    (e_all_couples : FF K "all_couples" "all_couples" s_all_couples F_all_couples)
    (a_drawn_table : PySem.W.nsIn K mainGlobals "drawn_table" = some (some (.ref F_drawn_table)))
    (e_drawn_table : FF K "drawn_table" "drawn_table" s_drawn_table F_drawn_table)
    (a_drawn_names : PySem.W.nsIn K mainGlobals "drawn_names" = some (some (.ref F_drawn_names)))
    (e_drawn_names : FF K "drawn_names" "drawn_names" s_drawn_names F_drawn_names)
    (a_drawn_lot : PySem.W.nsIn K mainGlobals "drawn_lot" = some (some (.ref F_drawn_lot)))
    (e_drawn_lot : FF K "drawn_lot" "drawn_lot" s_drawn_lot F_drawn_lot)
    (a_deed_by : PySem.W.nsIn K mainGlobals "deed_by" = some (some (.ref F_deed_by)))
    (e_deed_by : FF K "deed_by" "deed_by" s_deed_by F_deed_by)
    (a_deeds_of : PySem.W.nsIn K mainGlobals "deeds_of" = some (some (.ref F_deeds_of)))
    (e_deeds_of : FF K "deeds_of" "deeds_of" s_deeds_of F_deeds_of)
    (a_law : PySem.W.nsIn K mainGlobals "law" = some (some (.ref F_law)))
    (e_law : FF K "law" "law" s_law F_law)
    (k_CUT : PySem.W.nsIn K mainGlobals "CUT" = some (some (.int 7 t_CUT)))
    (k_FACTOR : PySem.W.nsIn K mainGlobals "FACTOR" = some (some (.int 48271 t_FACTOR)))
    (k_MODULUS : PySem.W.nsIn K mainGlobals "MODULUS" = some (some (.int 2147483647 t_MODULUS)))
    (k_NAMES : PySem.W.nsIn K mainGlobals "NAMES" = some (some (.ref A_NAMES)))
    (o_NAMES : K.lookup A_NAMES = some ⟨.type "tuple", dd_NAMES, .seq its_NAMES nn_NAMES, sl_NAMES⟩) (s_NAMES : its_NAMES.size ≤ sizeLine) (v_NAMES : Vals ((["ash", "bea", "cid", "dot", "eli"] : List Str).map V.str) its_NAMES.toList)
    (k_SUMMAND : PySem.W.nsIn K mainGlobals "SUMMAND" = some (some (.int 11 t_SUMMAND)))
    (k_WAYS : PySem.W.nsIn K mainGlobals "WAYS" = some (some (.ref A_WAYS)))
    (o_WAYS : K.lookup A_WAYS = some ⟨.type "tuple", dd_WAYS, .seq its_WAYS nn_WAYS, sl_WAYS⟩) (s_WAYS : its_WAYS.size ≤ sizeLine) (v_WAYS : Vals ((["join", "join", "join", "join", "line", "line", "line", "apart", "apart", "forget", "forget", "day"] : List Str).map V.str) its_WAYS.toList)
    (keeps : PD.Keeps Lk.f_law) : ∃ fd : FuncData, (∀ (s : Shared) (v : Value), BindsTo s fd ⟨[v], []⟩ [("script", v)]) ∧ ∀ base : Heap, K.In base → base.Ns mainGlobals mg → ∃ f, PD.Keeps f ∧ FnOk l.prog w K mg base (L2.CX l.prog w) 4 fa fd ["script"] (spD K mg f) := by
  have e := hfa.symm.trans (PySem.W.mg_of X G a_law)
  cases e
  have T : Txt K mg := {
    b_abs := PySem.W.mg_none_of X G z_abs
    b_bool := PySem.W.mg_none_of X G z_bool
    b_int := PySem.W.mg_none_of X G z_int
    b_isinstance := PySem.W.mg_none_of X G z_isinstance
    b_len := PySem.W.mg_none_of X G z_len
    b_list := PySem.W.mg_none_of X G z_list
    b_max := PySem.W.mg_none_of X G z_max
    b_min := PySem.W.mg_none_of X G z_min
    b_range := PySem.W.mg_none_of X G z_range
    b_sorted := PySem.W.mg_none_of X G z_sorted
    b_str := PySem.W.mg_none_of X G z_str
    b_tuple := PySem.W.mg_none_of X G z_tuple
    b_zip := PySem.W.mg_none_of X G z_zip
    f_Draws_its_state := fun C hC => by have e := hC.symm.trans (PySem.W.mg_of X G c_Draws); cases e; exact ⟨⟨pg_Draws, hd_Draws, po_Draws, sa_Draws⟩, n_Draws_its_state⟩
    k_CUT := ⟨_, PySem.W.mg_of X G k_CUT⟩
    k_FACTOR := ⟨_, PySem.W.mg_of X G k_FACTOR⟩
    k_MODULUS := ⟨_, PySem.W.mg_of X G k_MODULUS⟩
    k_NAMES := ⟨_, PySem.W.mg_of X G k_NAMES, ⟨_, _, _, o_NAMES, rfl, rfl, s_NAMES, v_NAMES⟩⟩
    k_SUMMAND := ⟨_, PySem.W.mg_of X G k_SUMMAND⟩
    k_WAYS := ⟨_, PySem.W.mg_of X G k_WAYS, ⟨_, _, _, o_WAYS, rfl, rfl, s_WAYS, v_WAYS⟩⟩ }
  have d_u_law_bag : ∃ fa, mg "_law_bag" = some (.ref fa) ∧ Df K "_law_bag" "_law_bag" s_u_law_bag fa ["script"] := ⟨_, PySem.W.mg_of X G a_u_law_bag, e_u_law_bag.df (fun _ _ _ _ _ _ us hl => match us, hl with | [_], _ => rfl)⟩
  have d_u_law_take : ∃ fa, mg "_law_take" = some (.ref fa) ∧ Df K "_law_take" "_law_take" s_u_law_take fa ["bag", "many"] := ⟨_, PySem.W.mg_of X G a_u_law_take, e_u_law_take.df (fun _ _ _ _ _ _ us hl => match us, hl with | [_, _], _ => rfl)⟩
  have d_u_law_some : ∃ fa, mg "_law_some" = some (.ref fa) ∧ Df K "_law_some" "_law_some" s_u_law_some fa ["bag", "things"] := ⟨_, PySem.W.mg_of X G a_u_law_some, e_u_law_some.df (fun _ _ _ _ _ _ us hl => match us, hl with | [_, _], _ => rfl)⟩
  have d_DrawsX_initX : ∃ C fa, mg "Draws" = some (.ref C) ∧ CF K C ∧ PySem.W.findIn K (.ref C) "__init__" = some (some (.ref fa)) ∧ PySem.W.isFn K (.ref fa) = true ∧ Df K "__init__" "Draws.__init__" s_DrawsX_initX fa ["self", "seed"] := ⟨_, _, PySem.W.mg_of X G c_Draws, ⟨pg_Draws, hd_Draws, po_Draws, sa_Draws, ma_Draws, kc_Draws⟩, a_DrawsX_initX, i_DrawsX_initX, e_DrawsX_initX.df (fun _ _ _ _ _ _ us hl => match us, hl with | [_, _], _ => rfl)⟩
  have d_u_law_next : ∃ fa, mg "_law_next" = some (.ref fa) ∧ Df K "_law_next" "_law_next" s_u_law_next fa ["state", "many"] := ⟨_, PySem.W.mg_of X G a_u_law_next, e_u_law_next.df (fun _ _ _ _ _ _ us hl => match us, hl with | [_, _], _ => rfl)⟩
  have d_u_law_alike : ∃ fa, mg "_law_alike" = some (.ref fa) ∧ Df K "_law_alike" "_law_alike" s_u_law_alike fa ["found", "due"] := ⟨_, PySem.W.mg_of X G a_u_law_alike, e_u_law_alike.df (fun _ _ _ _ _ _ us hl => match us, hl with | [_, _], _ => rfl)⟩
  have d_Draws_take : ∃ C fa, mg "Draws" = some (.ref C) ∧ CF K C ∧ PySem.W.findIn K (.ref C) "take" = some (some (.ref fa)) ∧ PySem.W.isFn K (.ref fa) = true ∧ Df K "take" "Draws.take" s_Draws_take fa ["self", "many"] := ⟨_, _, PySem.W.mg_of X G c_Draws, ⟨pg_Draws, hd_Draws, po_Draws, sa_Draws, ma_Draws, kc_Draws⟩, a_Draws_take, i_Draws_take, e_Draws_take.df (fun _ _ _ _ _ _ us hl => match us, hl with | [_, _], _ => rfl)⟩
  have d_Draws_state : ∃ C fa, mg "Draws" = some (.ref C) ∧ CF K C ∧ PySem.W.findIn K (.ref C) "state" = some (some (.ref fa)) ∧ PySem.W.isFn K (.ref fa) = true ∧ Df K "state" "Draws.state" s_Draws_state fa ["self"] := ⟨_, _, PySem.W.mg_of X G c_Draws, ⟨pg_Draws, hd_Draws, po_Draws, sa_Draws, ma_Draws, kc_Draws⟩, a_Draws_state, i_Draws_state, e_Draws_state.df (fun _ _ _ _ _ _ us hl => match us, hl with | [_], _ => rfl)⟩
  have d_u_law_drawn_chart : ∃ fa, mg "_law_drawn_chart" = some (.ref fa) ∧ Df K "_law_drawn_chart" "_law_drawn_chart" s_u_law_drawn_chart fa ["state", "many"] := ⟨_, PySem.W.mg_of X G a_u_law_drawn_chart, e_u_law_drawn_chart.df (fun _ _ _ _ _ _ us hl => match us, hl with | [_, _], _ => rfl)⟩
  have d_u_law_up : ∃ fa, mg "_law_up" = some (.ref fa) ∧ Df K "_law_up" "_law_up" s_u_law_up fa ["chart", "one"] := ⟨_, PySem.W.mg_of X G a_u_law_up, e_u_law_up.df (fun _ _ _ _ _ _ us hl => match us, hl with | [_, _], _ => rfl)⟩
  have d_u_law_table_of : ∃ fa, mg "_law_table_of" = some (.ref fa) ∧ Df K "_law_table_of" "_law_table_of" s_u_law_table_of fa ["chart"] := ⟨_, PySem.W.mg_of X G a_u_law_table_of, e_u_law_table_of.df (fun _ _ _ _ _ _ us hl => match us, hl with | [_], _ => rfl)⟩
  have d_chart_by : ∃ fa, mg "chart_by" = some (.ref fa) ∧ Df K "chart_by" "chart_by" s_chart_by fa ["draws", "many"] := ⟨_, PySem.W.mg_of X G a_chart_by, e_chart_by.df (fun _ _ _ _ _ _ us hl => match us, hl with | [_, _], _ => rfl)⟩
  have d_drawn_chart : ∃ fa, mg "drawn_chart" = some (.ref fa) ∧ Df K "drawn_chart" "drawn_chart" s_drawn_chart fa ["seed", "many"] := ⟨_, PySem.W.mg_of X G a_drawn_chart, e_drawn_chart.df (fun _ _ _ _ _ _ us hl => match us, hl with | [_, _], _ => rfl)⟩
  have d_way_up : ∃ fa, mg "way_up" = some (.ref fa) ∧ Df K "way_up" "way_up" s_way_up fa ["chart", "one"] := ⟨_, PySem.W.mg_of X G a_way_up, e_way_up.df (fun _ _ _ _ _ _ us hl => match us, hl with | [_, _], _ => rfl)⟩
  have d_table_of : ∃ fa, mg "table_of" = some (.ref fa) ∧ Df K "table_of" "table_of" s_table_of fa ["chart"] := ⟨_, PySem.W.mg_of X G a_table_of, e_table_of.df (fun _ _ _ _ _ _ us hl => match us, hl with | [_], _ => rfl)⟩
  have d_bent_table : ∃ fa, mg "bent_table" = some (.ref fa) ∧ Df K "bent_table" "bent_table" s_bent_table fa ["seed", "many", "bends"] := ⟨_, PySem.W.mg_of X G a_bent_table, e_bent_table.df (fun _ _ _ _ _ _ us hl => match us, hl with | [_, _, _], _ => rfl)⟩
  have d_u_law_couples : ∃ fa, mg "_law_couples" = some (.ref fa) ∧ Df K "_law_couples" "_law_couples" s_u_law_couples fa ["many"] := ⟨_, PySem.W.mg_of X G a_u_law_couples, e_u_law_couples.df (fun _ _ _ _ _ _ us hl => match us, hl with | [_], _ => rfl)⟩
  have d_all_couples : ∃ fa, mg "all_couples" = some (.ref fa) ∧ Df K "all_couples" "all_couples" s_all_couples fa ["many"] := ⟨_, PySem.W.mg_of X G a_all_couples, e_all_couples.df (fun _ _ _ _ _ _ us hl => match us, hl with | [_], _ => rfl)⟩
  have d_drawn_table : ∃ fa, mg "drawn_table" = some (.ref fa) ∧ Df K "drawn_table" "drawn_table" s_drawn_table fa ["seed", "many"] := ⟨_, PySem.W.mg_of X G a_drawn_table, e_drawn_table.df (fun _ _ _ _ _ _ us hl => match us, hl with | [_, _], _ => rfl)⟩
  have d_drawn_names : ∃ fa, mg "drawn_names" = some (.ref fa) ∧ Df K "drawn_names" "drawn_names" s_drawn_names fa ["seed", "many"] := ⟨_, PySem.W.mg_of X G a_drawn_names, e_drawn_names.df (fun _ _ _ _ _ _ us hl => match us, hl with | [_, _], _ => rfl)⟩
  have d_drawn_lot : ∃ fa, mg "drawn_lot" = some (.ref fa) ∧ Df K "drawn_lot" "drawn_lot" s_drawn_lot fa ["seed", "many"] := ⟨_, PySem.W.mg_of X G a_drawn_lot, e_drawn_lot.df (fun _ _ _ _ _ _ us hl => match us, hl with | [_, _], _ => rfl)⟩
  have d_deed_by : ∃ fa, mg "deed_by" = some (.ref fa) ∧ Df K "deed_by" "deed_by" s_deed_by fa ["draws"] := ⟨_, PySem.W.mg_of X G a_deed_by, e_deed_by.df (fun _ _ _ _ _ _ us hl => match us, hl with | [_], _ => rfl)⟩
  have d_deeds_of : ∃ fa, mg "deeds_of" = some (.ref fa) ∧ Df K "deeds_of" "deeds_of" s_deeds_of fa ["seed", "many"] := ⟨_, PySem.W.mg_of X G a_deeds_of, e_deeds_of.df (fun _ _ _ _ _ _ us hl => match us, hl with | [_, _], _ => rfl)⟩
  obtain ⟨oc, kV, doc, pm, cdv, ct, od, an, osl, lk, cd, kp⟩ := e_law.ex
  exact ⟨_, fun s v => .of_eq rfl, fun base _ _ => ⟨_, keeps, all_ok T d_u_law_bag d_u_law_take d_u_law_some d_DrawsX_initX d_u_law_next d_u_law_alike d_Draws_take d_Draws_state d_u_law_drawn_chart d_u_law_up d_u_law_table_of d_chart_by d_drawn_chart d_way_up d_table_of d_bent_table d_u_law_couples d_all_couples d_drawn_table d_drawn_names d_drawn_lot d_deed_by d_deeds_of (fun_mk lk cd kp)⟩⟩
end
end Lk
set_option Elab.async false
set_option linter.all false
set_option maxRecDepth 100000
set_option autoImplicit false
namespace PD
end PD
set_option Elab.async false
set_option linter.all false
set_option maxRecDepth 100000
set_option autoImplicit false
namespace Lk
open PySem PySem.Spec PyProof.Rows L2 PD
/-- the next state -/
def nx (s : Int) : Int := (s * 48271 + 11).fmod 2147483647
def dr (s m : Int) : Int := (nx s |>.fdiv 7).fmod m
theorem run_next (s m : Int) (hm : 0 < m) : f_u_law_next.run [.fz (.int s), .fz (.int m)] = .ret (.fz (.tup [.int (nx s), .int (dr s m)])) [.no, .no] := by
  have h : m ≠ 0 := by omega
  simp [PD.mkF, PD.dSeq, PD.dNext, PD.dSet, PD.dRet, PD.dRetN, PD.dIfS, PD.dDrop, PD.dTup, PD.dLst, PD.dCons, PD.dNil, PD.dOpN, PD.dOp2, PD.dOp1, PD.dVar, PD.dC, PD.R.bind, PD.R.bindS, PD.rd, PD.rdL, PD.intD, PD.orD, PD.mulI, PD.addI, PD.subD, PD.modD, PD.fdivD, PD.fI, PD.fB, PD.ltI, PD.leI, PD.gtI, PD.geI, PD.pick, PD.fzL, PD.fz1, PD.inR, PD.outR, PD.yes2, PD.dCall, PD.prep, PD.prep1, PD.wb, PD.toRV, PD.dB, PD.dTru, PD.truD, PD.dNot, PD.dAnd, PD.dOr, PD.dIf, PD.dNotV, PD.dAndV, PD.dOrV, PD.dPar, PD.dPar3, PD.isN, PD.notN, PD.ixA, PD.ixD, PD.ixDct, L2.atI, L2.ixN, PD.lenD, PD.min2D, PD.max2D, PD.absD, PD.tupleD, PD.listD, PD.dAsg, PD.bName, PD.bTup, PD.bCons, PD.bNil, PD.dStore, PD.storeD, PD.dAugS, PD.getS, PD.dFld, PD.dStFld, PD.putFD, PD.dMethU, PD.callR, PD.dMake, PD.wipeR, PD.back, List.lookup, PD.ioP, f_u_law_next, b_u_law_next, h, nx, dr]
def obj (s : Int) : D := .ins "Draws" [("its_state", .int s)]
theorem run_init (seed : Int) : f_DrawsX_initX.run [.own (.ins "Draws" []), .fz (.int seed)] = .ret (.fz .non) [.own (obj (seed.fmod 2147483647)), .no] := by
  simp [PD.mkF, PD.dSeq, PD.dNext, PD.dSet, PD.dRet, PD.dRetN, PD.dIfS, PD.dDrop, PD.dTup, PD.dLst, PD.dCons, PD.dNil, PD.dOpN, PD.dOp2, PD.dOp1, PD.dVar, PD.dC, PD.R.bind, PD.R.bindS, PD.rd, PD.rdL, PD.intD, PD.orD, PD.mulI, PD.addI, PD.subD, PD.modD, PD.fdivD, PD.fI, PD.fB, PD.ltI, PD.leI, PD.gtI, PD.geI, PD.pick, PD.fzL, PD.fz1, PD.inR, PD.outR, PD.yes2, PD.dCall, PD.prep, PD.prep1, PD.wb, PD.toRV, PD.dB, PD.dTru, PD.truD, PD.dNot, PD.dAnd, PD.dOr, PD.dIf, PD.dNotV, PD.dAndV, PD.dOrV, PD.dPar, PD.dPar3, PD.isN, PD.notN, PD.ixA, PD.ixD, PD.ixDct, L2.atI, L2.ixN, PD.lenD, PD.min2D, PD.max2D, PD.absD, PD.tupleD, PD.listD, PD.dAsg, PD.bName, PD.bTup, PD.bCons, PD.bNil, PD.dStore, PD.storeD, PD.dAugS, PD.getS, PD.dFld, PD.dStFld, PD.putFD, PD.dMethU, PD.callR, PD.dMake, PD.wipeR, PD.back, List.lookup, PD.ioP, f_DrawsX_initX, b_DrawsX_initX, obj]
theorem run_take (s m : Int) (hm : 0 < m) : f_Draws_take.run [.own (obj s), .fz (.int m)] = .ret (.fz (.int (dr s m))) [.own (obj (nx s)), .no] := by
  have h : m ≠ 0 := by omega
  simp [PD.mkF, PD.dSeq, PD.dNext, PD.dSet, PD.dRet, PD.dRetN, PD.dIfS, PD.dDrop, PD.dTup, PD.dLst, PD.dCons, PD.dNil, PD.dOpN, PD.dOp2, PD.dOp1, PD.dVar, PD.dC, PD.R.bind, PD.R.bindS, PD.rd, PD.rdL, PD.intD, PD.orD, PD.mulI, PD.addI, PD.subD, PD.modD, PD.fdivD, PD.fI, PD.fB, PD.ltI, PD.leI, PD.gtI, PD.geI, PD.pick, PD.fzL, PD.fz1, PD.inR, PD.outR, PD.yes2, PD.dCall, PD.prep, PD.prep1, PD.wb, PD.toRV, PD.dB, PD.dTru, PD.truD, PD.dNot, PD.dAnd, PD.dOr, PD.dIf, PD.dNotV, PD.dAndV, PD.dOrV, PD.dPar, PD.dPar3, PD.isN, PD.notN, PD.ixA, PD.ixD, PD.ixDct, L2.atI, L2.ixN, PD.lenD, PD.min2D, PD.max2D, PD.absD, PD.tupleD, PD.listD, PD.dAsg, PD.bName, PD.bTup, PD.bCons, PD.bNil, PD.dStore, PD.storeD, PD.dAugS, PD.getS, PD.dFld, PD.dStFld, PD.putFD, PD.dMethU, PD.callR, PD.dMake, PD.wipeR, PD.back, List.lookup, PD.ioP, f_Draws_take, b_Draws_take, obj, h, nx, dr]
theorem run_state (s : Int) : f_Draws_state.run [.own (obj s)] = .ret (.fz (.int s)) [.own (obj s)] := by
  simp [PD.mkF, PD.dSeq, PD.dNext, PD.dSet, PD.dRet, PD.dRetN, PD.dIfS, PD.dDrop, PD.dTup, PD.dLst, PD.dCons, PD.dNil, PD.dOpN, PD.dOp2, PD.dOp1, PD.dVar, PD.dC, PD.R.bind, PD.R.bindS, PD.rd, PD.rdL, PD.intD, PD.orD, PD.mulI, PD.addI, PD.subD, PD.modD, PD.fdivD, PD.fI, PD.fB, PD.ltI, PD.leI, PD.gtI, PD.geI, PD.pick, PD.fzL, PD.fz1, PD.inR, PD.outR, PD.yes2, PD.dCall, PD.prep, PD.prep1, PD.wb, PD.toRV, PD.dB, PD.dTru, PD.truD, PD.dNot, PD.dAnd, PD.dOr, PD.dIf, PD.dNotV, PD.dAndV, PD.dOrV, PD.dPar, PD.dPar3, PD.isN, PD.notN, PD.ixA, PD.ixD, PD.ixDct, L2.atI, L2.ixN, PD.lenD, PD.min2D, PD.max2D, PD.absD, PD.tupleD, PD.listD, PD.dAsg, PD.bName, PD.bTup, PD.bCons, PD.bNil, PD.dStore, PD.storeD, PD.dAugS, PD.getS, PD.dFld, PD.dStFld, PD.putFD, PD.dMethU, PD.callR, PD.dMake, PD.wipeR, PD.back, List.lookup, PD.ioP, f_Draws_state, b_Draws_state, obj]
end Lk
set_option Elab.async false
set_option linter.all false
set_option maxRecDepth 100000
set_option autoImplicit false
namespace Lk
open PySem PySem.Spec PyProof.Rows L2 PD
theorem he (v w : Int) : PD.eqD (.int v) (.int w) = some (.fz (.bl (decide (v = w)))) := by
  simp only [PD.eqD, PD.eqR, PD.toPy, SeqAt.shaped, PyData.eqv]
  simp
  refine ⟨⟨⟨rfl, ?_⟩, rfl, ?_⟩, ?_⟩
  · exact Nat.zero_le _
  · exact Nat.zero_le _
  · rfl
theorem upto_succ (lo : Int) (n : Nat) : upto lo (n + 1) = upto lo n ++ [.int (lo + n)] := by
  unfold upto
  rw [List.range_succ, List.map_append]
  rfl
/-- a loop over range: st says the slots ahead of turn i -/
theorem forL_upto {g : DG} {b : DS} (st : Nat → List SV) (lo : Int) : ∀ n, (∀ i, i < n → ∃ ρ1, g (.int (lo + (i : Nat))) (st i) = some ρ1 ∧ (b ρ1 = .nx (st (i + 1)) ∨ b ρ1 = .ct (st (i + 1)))) → dForL g b (upto lo n) (st 0) = .nx (st n)
  | n, h => by
    have key : ∀ k i, i + k = n → dForL g b ((List.range' i k).map fun j => D.int (lo + (j : Nat))) (st i) = .nx (st n) := by
      intro k
      induction k with
      | zero => intro i hi; rw [show i = n by omega]; rfl
      | succ k ih =>
        intro i hi
        obtain ⟨ρ1, h1, h2⟩ := h i (by omega)
        rw [List.range'_succ, List.map_cons]
        unfold dForL
        rw [h1]
        rcases h2 with h2 | h2 <;> (simp only [h2]; exact ih (i + 1) (by omega))
    have := key n 0 (by omega)
    unfold upto
    rw [List.range_eq_range']
    exact this

def adv (s : Int) : Nat → Int
  | 0 => s
  | n + 1 => nx (adv s n)
/-- who is above, drawn -/
def mem1 (v : Int) : D := if v = 0 then .non else .int (v - 1)
def chartL (s : Int) : Nat → List D
  | 0 => []
  | n + 1 => chartL s n ++ [mem1 (dr (adv s n) (n + 1))]
theorem chartL_length (s : Int) : ∀ n, (chartL s n).length = n
  | 0 => rfl
  | n + 1 => by simp [chartL, chartL_length s n]
theorem dr_range (s : Int) {m : Int} (h : 0 < m) : 0 ≤ dr s m ∧ dr s m < m := by
  unfold dr
  rw [Int.fmod_eq_emod_of_nonneg _ (Int.le_of_lt h)]
  exact ⟨Int.emod_nonneg _ (by omega), Int.emod_lt_of_pos _ h⟩

theorem sm62 {n : Nat} (h : n ≤ 1000) : small62 (n : Int) = true := by
  unfold small62
  simp
  omega
/-- the body of drawn_chart's loop -/
def dcB : DS := (dSeq (dAsg (bTup 2 (bCons (bName 0) (bCons (bName 4) bNil))) (dCall f_u_law_next (dCons (dVar 0) (dCons (dOp2 (orD addI (orD catL (orD catT catS))) (dVar 3) (dC (.int 1))) dNil))))
 (dDrop (dMut "list" appD (dVar 2) (dCons (dIf (dB (dOp2 eqD (dVar 4) (dC (.int 0)))) (dC .non) (dOp2 subD (dVar 4) (dC (.int 1)))) dNil))))
theorem dcB_run (s : Int) (n i : Nat) (L : List D) (x : SV) (hx : L.length < 1000000) :
    dcB [.fz (.int s), .fz (.int n), .own (.lst L), .fz (.int i), x] = .nx [.fz (.int (nx s)), .fz (.int n), .own (.lst (L ++ [mem1 (dr s (i + 1))])), .fz (.int i), .fz (.int (dr s (i + 1)))] := by
  have hp : (0 : Int) < (i : Int) + 1 := by omega
  have hr := run_next s (i + 1) hp
  have hio : f_u_law_next.io = [true, true] := rfl
  by_cases hv : dr s (↑i + 1) = 0
  · simp [PD.mkF, PD.dSeq, PD.dNext, PD.dSet, PD.dRet, PD.dRetN, PD.dIfS, PD.dDrop, PD.dTup, PD.dLst, PD.dCons, PD.dNil, PD.dOpN, PD.dOp2, PD.dOp1, PD.dVar, PD.dC, PD.R.bind, PD.R.bindS, PD.rd, PD.rdL, PD.intD, PD.orD, PD.mulI, PD.addI, PD.subD, PD.modD, PD.fdivD, PD.fI, PD.fB, PD.ltI, PD.leI, PD.gtI, PD.geI, PD.pick, PD.fzL, PD.fz1, PD.inR, PD.outR, PD.yes2, PD.dCall, PD.prep, PD.prep1, PD.wb, PD.toRV, PD.dB, PD.dTru, PD.truD, PD.dNot, PD.dAnd, PD.dOr, PD.dIf, PD.dNotV, PD.dAndV, PD.dOrV, PD.dPar, PD.dPar3, PD.isN, PD.notN, PD.ixA, PD.ixD, PD.ixDct, L2.atI, L2.ixN, PD.lenD, PD.min2D, PD.max2D, PD.absD, PD.tupleD, PD.listD, PD.dAsg, PD.bName, PD.bTup, PD.bCons, PD.bNil, PD.dStore, PD.storeD, PD.dAugS, PD.getS, PD.dFld, PD.dStFld, PD.putFD, PD.dMethU, PD.callR, PD.dMake, PD.wipeR, PD.back, List.lookup, PD.ioP, dcB, hr, hio, he, dMut, chkT, isLst, isDct, appD, hv, mem1, hx]
  · simp [PD.mkF, PD.dSeq, PD.dNext, PD.dSet, PD.dRet, PD.dRetN, PD.dIfS, PD.dDrop, PD.dTup, PD.dLst, PD.dCons, PD.dNil, PD.dOpN, PD.dOp2, PD.dOp1, PD.dVar, PD.dC, PD.R.bind, PD.R.bindS, PD.rd, PD.rdL, PD.intD, PD.orD, PD.mulI, PD.addI, PD.subD, PD.modD, PD.fdivD, PD.fI, PD.fB, PD.ltI, PD.leI, PD.gtI, PD.geI, PD.pick, PD.fzL, PD.fz1, PD.inR, PD.outR, PD.yes2, PD.dCall, PD.prep, PD.prep1, PD.wb, PD.toRV, PD.dB, PD.dTru, PD.truD, PD.dNot, PD.dAnd, PD.dOr, PD.dIf, PD.dNotV, PD.dAndV, PD.dOrV, PD.dPar, PD.dPar3, PD.isN, PD.notN, PD.ixA, PD.ixD, PD.ixDct, L2.atI, L2.ixN, PD.lenD, PD.min2D, PD.max2D, PD.absD, PD.tupleD, PD.listD, PD.dAsg, PD.bName, PD.bTup, PD.bCons, PD.bNil, PD.dStore, PD.storeD, PD.dAugS, PD.getS, PD.dFld, PD.dStFld, PD.putFD, PD.dMethU, PD.callR, PD.dMake, PD.wipeR, PD.back, List.lookup, PD.ioP, dcB, hr, hio, he, dMut, chkT, isLst, isDct, appD, hv, mem1, hx]
end Lk
set_option Elab.async false
set_option linter.all false
set_option maxRecDepth 100000
set_option autoImplicit false
namespace Lk
open PySem PySem.Spec PyProof.Rows L2 PD
theorem dc_loop (s : Int) (n : Nat) (hn : n ≤ 1000) :
    dForL (bName 3) dcB (upto 0 n) [.fz (.int s), .fz (.int n), .own (.lst []), .no, .no] = .nx [.fz (.int (adv s n)), .fz (.int n), .own (.lst (chartL s n)), if n = 0 then .no else .fz (.int (n - 1 : Nat)), if n = 0 then .no else .fz (.int (dr (adv s (n - 1)) n))] := by
  refine forL_upto (g := bName 3) (b := dcB) (fun i => [.fz (.int (adv s i)), .fz (.int n), .own (.lst (chartL s i)), if i = 0 then .no else .fz (.int (i - 1 : Nat)), if i = 0 then .no else .fz (.int (dr (adv s (i - 1)) i))]) 0 n fun i hi => ?_
  have hl := chartL_length s i
  refine ⟨[.fz (.int (adv s i)), .fz (.int n), .own (.lst (chartL s i)), .fz (.int i), if i = 0 then .no else .fz (.int (dr (adv s (i - 1)) i))], by simp [bName], .inl ?_⟩
  rw [dcB_run _ _ _ _ _ (by omega)]
  rfl
theorem dc_b : b_u_law_drawn_chart = (dSeq (dSet 2 (dLst dNil))
    (dSeq (dFor (dRng1 (dCons (dVar 1) dNil)) (bName 3) dcB)
    (dRet (dTup (dCons (dVar 0) (dCons (dOpN tupleD (dCons (dVar 2) dNil)) dNil)))))) := rfl
theorem for_rng (k : Nat) (B : DS) (g : DG) (j : Int) (h62 : small62 j = true) (ρ : List SV) (hk : ρ[k]? = some (.fz (.int j))) :
   dFor (dRng1 (dCons (dVar k) dNil)) g B ρ = dForL g B (upto 0 j.toNat) ρ := by
  unfold dFor dRng1
  simp only [dCons, dVar, dNil, R.bind, R.bindS, rd, hk]
  simp only [h62, if_true]
theorem for_rng1 (k : Nat) (B : DS) (g : DG) (n : Nat) (h62 : small62 (n : Int) = true) (ρ : List SV) (hk : ρ[k]? = some (.fz (.int n))) :
   dFor (dRng1 (dCons (dVar k) dNil)) g B ρ = dForL g B (upto 0 n) ρ := for_rng k B g n h62 ρ hk
theorem dc_run (FF : DS) (s : Int) (j : Int) (L : List D) (x y : SV) (t : Int)
   (hf : FF [.fz (.int s), .fz (.int j), .own (.lst []), .no, .no] = .nx [.fz (.int t), .fz (.int j), .own (.lst L), x, y]) :
   (dSeq (dSet 2 (dLst dNil))
    (dSeq FF
    (dRet (dTup (dCons (dVar 0) (dCons (dOpN tupleD (dCons (dVar 2) dNil)) dNil)))))) [.fz (.int s), .fz (.int j), .no, .no, .no] = .rt (.fz (.tup [.int t, .tup L])) [.fz (.int t), .fz (.int j), .own (.lst L), x, y] := by
  simp [PD.mkF, PD.dSeq, PD.dNext, PD.dSet, PD.dRet, PD.dRetN, PD.dIfS, PD.dDrop, PD.dTup, PD.dLst, PD.dCons, PD.dNil, PD.dOpN, PD.dOp2, PD.dOp1, PD.dVar, PD.dC, PD.R.bind, PD.R.bindS, PD.rd, PD.rdL, PD.intD, PD.orD, PD.mulI, PD.addI, PD.subD, PD.modD, PD.fdivD, PD.fI, PD.fB, PD.ltI, PD.leI, PD.gtI, PD.geI, PD.pick, PD.fzL, PD.fz1, PD.inR, PD.outR, PD.yes2, PD.dCall, PD.prep, PD.prep1, PD.wb, PD.toRV, PD.dB, PD.dTru, PD.truD, PD.dNot, PD.dAnd, PD.dOr, PD.dIf, PD.dNotV, PD.dAndV, PD.dOrV, PD.dPar, PD.dPar3, PD.isN, PD.notN, PD.ixA, PD.ixD, PD.ixDct, L2.atI, L2.ixN, PD.lenD, PD.min2D, PD.max2D, PD.absD, PD.tupleD, PD.listD, PD.dAsg, PD.bName, PD.bTup, PD.bCons, PD.bNil, PD.dStore, PD.storeD, PD.dAugS, PD.getS, PD.dFld, PD.dStFld, PD.putFD, PD.dMethU, PD.callR, PD.dMake, PD.wipeR, PD.back, List.lookup, PD.ioP, hf]
theorem mkF_rt {io : List Bool} {n : Nat} {body : DS} {svs ρ0 ρ : List SV} {sv : SV} (e : svs ++ List.replicate (n - svs.length) .no = ρ0) (h : body ρ0 = .rt sv ρ) : (mkF io n body).run svs = .ret sv (pick svs ρ) := by
  unfold mkF
  simp only [e, h]
theorem run_drawn_chart (s : Int) (n : Nat) (hn : n ≤ 1000) : f_u_law_drawn_chart.run [.fz (.int s), .fz (.int n)] = .ret (.fz (.tup [.int (adv s n), .tup (chartL s n)])) [.no, .no] := by
  have hf := for_rng1 1 dcB (bName 3) n (sm62 hn) [.fz (.int s), .fz (.int n), .own (.lst []), .no, .no] rfl
  have hl := dc_loop s n hn
  generalize hj : (n : Int) = j at hf hl ⊢
  rw [hl] at hf
  have h := dc_run _ s j _ _ _ _ hf
  have e := mkF_rt (io := [false, true]) (n := 5) (body := b_u_law_drawn_chart) (svs := [.fz (.int s), .fz (.int j)]) rfl (by rw [dc_b]; exact h)
  exact e
end Lk
set_option Elab.async false
set_option linter.all false
set_option maxRecDepth 100000
set_option autoImplicit false
namespace Lk
open PySem PySem.Spec PyProof.Rows L2 PD
def cbB : DS := (dSeq (dSet 4 (dMethU "Draws" "take" f_Draws_take (dVar 0) (dCons (dOp2 (orD addI (orD catL (orD catT catS))) (dVar 3) (dC (.int 1))) dNil)))
 (dDrop (dMut "list" appD (dVar 2) (dCons (dIf (dB (dOp2 gtI (dVar 4) (dC (.int 0)))) (dOp2 subD (dVar 4) (dC (.int 1))) (dC .non)) dNil))))
theorem cb_b : b_chart_by = (dSeq (dSet 2 (dLst dNil))
 (dSeq (dFor (dRng1 (dCons (dVar 1) dNil)) (bName 3) cbB)
 (dRet (dOpN tupleD (dCons (dVar 2) dNil))))) := rfl
theorem cbB_run (s : Int) (n i : Nat) (L : List D) (x : SV) (hx : L.length < 1000000) :
    cbB [.own (obj s), .fz (.int n), .own (.lst L), .fz (.int i), x] = .nx [.own (obj (nx s)), .fz (.int n), .own (.lst (L ++ [mem1 (dr s (i + 1))])), .fz (.int i), .fz (.int (dr s (i + 1)))] := by
  have hp : (0 : Int) < (i : Int) + 1 := by omega
  have hr := run_take s (i + 1) hp
  have hio : f_Draws_take.io = [true, true] := rfl
  have hv0 := (dr_range s hp).1
  generalize dr s (↑i + 1) = v at hv0 hr ⊢
  unfold obj at hr ⊢
  have hne : (Str.ofString "take" == Str.ofString "its_state") = false := by decide +kernel
  by_cases hv : v = 0
  · subst hv
    simp [PD.mkF, PD.dSeq, PD.dNext, PD.dSet, PD.dRet, PD.dRetN, PD.dIfS, PD.dDrop, PD.dTup, PD.dLst, PD.dCons, PD.dNil, PD.dOpN, PD.dOp2, PD.dOp1, PD.dVar, PD.dC, PD.R.bind, PD.R.bindS, PD.rd, PD.rdL, PD.intD, PD.orD, PD.mulI, PD.addI, PD.subD, PD.modD, PD.fdivD, PD.fI, PD.fB, PD.ltI, PD.leI, PD.gtI, PD.geI, PD.pick, PD.fzL, PD.fz1, PD.inR, PD.outR, PD.yes2, PD.dCall, PD.prep, PD.prep1, PD.wb, PD.toRV, PD.dB, PD.dTru, PD.truD, PD.dNot, PD.dAnd, PD.dOr, PD.dIf, PD.dNotV, PD.dAndV, PD.dOrV, PD.dPar, PD.dPar3, PD.isN, PD.notN, PD.ixA, PD.ixD, PD.ixDct, L2.atI, L2.ixN, PD.lenD, PD.min2D, PD.max2D, PD.absD, PD.tupleD, PD.listD, PD.dAsg, PD.bName, PD.bTup, PD.bCons, PD.bNil, PD.dStore, PD.storeD, PD.dAugS, PD.getS, PD.dFld, PD.dStFld, PD.putFD, PD.dMethU, PD.callR, PD.dMake, PD.wipeR, PD.back, List.lookup, PD.ioP, cbB, hr, hio, he, dMut, chkT, isLst, isDct, appD, mem1, hx, hne]
  · have h2 : 0 < v := by omega
    simp [PD.mkF, PD.dSeq, PD.dNext, PD.dSet, PD.dRet, PD.dRetN, PD.dIfS, PD.dDrop, PD.dTup, PD.dLst, PD.dCons, PD.dNil, PD.dOpN, PD.dOp2, PD.dOp1, PD.dVar, PD.dC, PD.R.bind, PD.R.bindS, PD.rd, PD.rdL, PD.intD, PD.orD, PD.mulI, PD.addI, PD.subD, PD.modD, PD.fdivD, PD.fI, PD.fB, PD.ltI, PD.leI, PD.gtI, PD.geI, PD.pick, PD.fzL, PD.fz1, PD.inR, PD.outR, PD.yes2, PD.dCall, PD.prep, PD.prep1, PD.wb, PD.toRV, PD.dB, PD.dTru, PD.truD, PD.dNot, PD.dAnd, PD.dOr, PD.dIf, PD.dNotV, PD.dAndV, PD.dOrV, PD.dPar, PD.dPar3, PD.isN, PD.notN, PD.ixA, PD.ixD, PD.ixDct, L2.atI, L2.ixN, PD.lenD, PD.min2D, PD.max2D, PD.absD, PD.tupleD, PD.listD, PD.dAsg, PD.bName, PD.bTup, PD.bCons, PD.bNil, PD.dStore, PD.storeD, PD.dAugS, PD.getS, PD.dFld, PD.dStFld, PD.putFD, PD.dMethU, PD.callR, PD.dMake, PD.wipeR, PD.back, List.lookup, PD.ioP, cbB, hr, hio, he, dMut, chkT, isLst, isDct, appD, hv, mem1, hx, h2, hne]
theorem cb_loop (s : Int) (n : Nat) (hn : n ≤ 1000) :
    dForL (bName 3) cbB (upto 0 n) [.own (obj s), .fz (.int n), .own (.lst []), .no, .no] = .nx [.own (obj (adv s n)), .fz (.int n), .own (.lst (chartL s n)), if n = 0 then .no else .fz (.int (n - 1 : Nat)), if n = 0 then .no else .fz (.int (dr (adv s (n - 1)) n))] := by
  refine forL_upto (g := bName 3) (b := cbB) (fun i => [.own (obj (adv s i)), .fz (.int n), .own (.lst (chartL s i)), if i = 0 then .no else .fz (.int (i - 1 : Nat)), if i = 0 then .no else .fz (.int (dr (adv s (i - 1)) i))]) 0 n fun i hi => ?_
  have hl := chartL_length s i
  refine ⟨[.own (obj (adv s i)), .fz (.int n), .own (.lst (chartL s i)), .fz (.int i), if i = 0 then .no else .fz (.int (dr (adv s (i - 1)) i))], by simp [bName], .inl ?_⟩
  rw [cbB_run _ _ _ _ _ (by omega)]
  rfl
theorem cb_run (FF : DS) (s t : D) (j : Int) (L : List D) (x y : SV)
   (hf : FF [.own s, .fz (.int j), .own (.lst []), .no, .no] = .nx [.own t, .fz (.int j), .own (.lst L), x, y]) :
   (dSeq (dSet 2 (dLst dNil))
    (dSeq FF
    (dRet (dOpN tupleD (dCons (dVar 2) dNil))))) [.own s, .fz (.int j), .no, .no, .no] = .rt (.fz (.tup L)) [.own t, .fz (.int j), .own (.lst L), x, y] := by
  simp [PD.mkF, PD.dSeq, PD.dNext, PD.dSet, PD.dRet, PD.dRetN, PD.dIfS, PD.dDrop, PD.dTup, PD.dLst, PD.dCons, PD.dNil, PD.dOpN, PD.dOp2, PD.dOp1, PD.dVar, PD.dC, PD.R.bind, PD.R.bindS, PD.rd, PD.rdL, PD.intD, PD.orD, PD.mulI, PD.addI, PD.subD, PD.modD, PD.fdivD, PD.fI, PD.fB, PD.ltI, PD.leI, PD.gtI, PD.geI, PD.pick, PD.fzL, PD.fz1, PD.inR, PD.outR, PD.yes2, PD.dCall, PD.prep, PD.prep1, PD.wb, PD.toRV, PD.dB, PD.dTru, PD.truD, PD.dNot, PD.dAnd, PD.dOr, PD.dIf, PD.dNotV, PD.dAndV, PD.dOrV, PD.dPar, PD.dPar3, PD.isN, PD.notN, PD.ixA, PD.ixD, PD.ixDct, L2.atI, L2.ixN, PD.lenD, PD.min2D, PD.max2D, PD.absD, PD.tupleD, PD.listD, PD.dAsg, PD.bName, PD.bTup, PD.bCons, PD.bNil, PD.dStore, PD.storeD, PD.dAugS, PD.getS, PD.dFld, PD.dStFld, PD.putFD, PD.dMethU, PD.callR, PD.dMake, PD.wipeR, PD.back, List.lookup, PD.ioP, hf]
theorem run_chart_by (s : Int) (n : Nat) (hn : n ≤ 1000) : f_chart_by.run [.own (obj s), .fz (.int n)] = .ret (.fz (.tup (chartL s n))) [.own (obj (adv s n)), .no] := by
  have hf := for_rng1 1 cbB (bName 3) n (sm62 hn) [.own (obj s), .fz (.int n), .own (.lst []), .no, .no] rfl
  have hl := cb_loop s n hn
  generalize hj : (n : Int) = j at hf hl ⊢
  rw [hl] at hf
  have h := cb_run _ _ _ j _ _ _ hf
  have e := mkF_rt (io := [true, true]) (n := 5) (body := b_chart_by) (svs := [.own (obj s), .fz (.int j)]) rfl (by rw [cb_b]; exact h)
  exact e
end Lk
set_option Elab.async false
set_option linter.all false
set_option maxRecDepth 100000
set_option autoImplicit false
namespace Lk
open PySem PySem.Spec PyProof.Rows L2 PD
theorem dch_run (seed j : Int) (L : List D) (t : D) (h : f_chart_by.run [.own (obj (seed.fmod 2147483647)), .fz (.int j)] = .ret (.fz (.tup L)) [.own t, .no]) :
   b_drawn_chart [.fz (.int seed), .fz (.int j)] = .rt (.fz (.tup L)) [.fz (.int seed), .fz (.int j)] := by
  have hr := run_init seed
  have hio : f_DrawsX_initX.io = [true, true] := rfl
  have hio2 : f_chart_by.io = [true, true] := rfl
  simp [PD.mkF, PD.dSeq, PD.dNext, PD.dSet, PD.dRet, PD.dRetN, PD.dIfS, PD.dDrop, PD.dTup, PD.dLst, PD.dCons, PD.dNil, PD.dOpN, PD.dOp2, PD.dOp1, PD.dVar, PD.dC, PD.R.bind, PD.R.bindS, PD.rd, PD.rdL, PD.intD, PD.orD, PD.mulI, PD.addI, PD.subD, PD.modD, PD.fdivD, PD.fI, PD.fB, PD.ltI, PD.leI, PD.gtI, PD.geI, PD.pick, PD.fzL, PD.fz1, PD.inR, PD.outR, PD.yes2, PD.dCall, PD.prep, PD.prep1, PD.wb, PD.toRV, PD.dB, PD.dTru, PD.truD, PD.dNot, PD.dAnd, PD.dOr, PD.dIf, PD.dNotV, PD.dAndV, PD.dOrV, PD.dPar, PD.dPar3, PD.isN, PD.notN, PD.ixA, PD.ixD, PD.ixDct, L2.atI, L2.ixN, PD.lenD, PD.min2D, PD.max2D, PD.absD, PD.tupleD, PD.listD, PD.dAsg, PD.bName, PD.bTup, PD.bCons, PD.bNil, PD.dStore, PD.storeD, PD.dAugS, PD.getS, PD.dFld, PD.dStFld, PD.putFD, PD.dMethU, PD.callR, PD.dMake, PD.wipeR, PD.back, List.lookup, PD.ioP, b_drawn_chart, hr, hio, hio2, h]
theorem run_drawn_chart2 (seed : Int) (n : Nat) (hn : n ≤ 1000) : f_drawn_chart.run [.fz (.int seed), .fz (.int n)] = .ret (.fz (.tup (chartL (seed.fmod 2147483647) n))) [.no, .no] := by
  have h := run_chart_by (seed.fmod 2147483647) n hn
  generalize hj : (n : Int) = j at h ⊢
  exact mkF_rt (io := [true, true]) (n := 2) (body := b_drawn_chart) rfl (dch_run seed j _ _ h)
end Lk
set_option Elab.async false
set_option linter.all false
set_option maxRecDepth 100000
set_option autoImplicit false
namespace Lk
open PySem PySem.Spec PyProof.Rows L2 PD
/-- the way up from i -/
inductive Up (c : List D) : Int → List Int → Prop
  | top {i : Int} : ixA (.tup c) (.int i) = some (.fz .non) → Up c i []
  | step {i j : Int} {ws : List Int} : ixA (.tup c) (.int i) = some (.fz (.int j)) → Up c j ws → Up c i (j :: ws)
theorem up_c0 (IX : D → D → Option RV) (c : D) (i : Int) (L : SV) (h : IX c (.int i) = some (.fz .non)) :
    dB (dOp2 notN (dOp2 IX (dVar 0) (dVar 1)) (dC .non)) [.fz c, .fz (.int i), L] = .ok false [.fz c, .fz (.int i), L] := by
  simp [PD.mkF, PD.dSeq, PD.dNext, PD.dSet, PD.dRet, PD.dRetN, PD.dIfS, PD.dDrop, PD.dTup, PD.dLst, PD.dCons, PD.dNil, PD.dOpN, PD.dOp2, PD.dOp1, PD.dVar, PD.dC, PD.R.bind, PD.R.bindS, PD.rd, PD.rdL, PD.intD, PD.orD, PD.mulI, PD.addI, PD.subD, PD.modD, PD.fdivD, PD.fI, PD.fB, PD.ltI, PD.leI, PD.gtI, PD.geI, PD.pick, PD.fzL, PD.fz1, PD.inR, PD.outR, PD.yes2, PD.dCall, PD.prep, PD.prep1, PD.wb, PD.toRV, PD.dB, PD.dTru, PD.truD, PD.dNot, PD.dAnd, PD.dOr, PD.dIf, PD.dNotV, PD.dAndV, PD.dOrV, PD.dPar, PD.dPar3, PD.isN, PD.notN, PD.ixA, PD.ixD, PD.ixDct, L2.atI, L2.ixN, PD.lenD, PD.min2D, PD.max2D, PD.absD, PD.tupleD, PD.listD, PD.dAsg, PD.bName, PD.bTup, PD.bCons, PD.bNil, PD.dStore, PD.storeD, PD.dAugS, PD.getS, PD.dFld, PD.dStFld, PD.putFD, PD.dMethU, PD.callR, PD.dMake, PD.wipeR, PD.back, List.lookup, PD.ioP, h]
theorem up_c1 (IX : D → D → Option RV) (c : D) (i j : Int) (L : SV) (h : IX c (.int i) = some (.fz (.int j))) :
    dB (dOp2 notN (dOp2 IX (dVar 0) (dVar 1)) (dC .non)) [.fz c, .fz (.int i), L] = .ok true [.fz c, .fz (.int i), L] := by
  simp [PD.mkF, PD.dSeq, PD.dNext, PD.dSet, PD.dRet, PD.dRetN, PD.dIfS, PD.dDrop, PD.dTup, PD.dLst, PD.dCons, PD.dNil, PD.dOpN, PD.dOp2, PD.dOp1, PD.dVar, PD.dC, PD.R.bind, PD.R.bindS, PD.rd, PD.rdL, PD.intD, PD.orD, PD.mulI, PD.addI, PD.subD, PD.modD, PD.fdivD, PD.fI, PD.fB, PD.ltI, PD.leI, PD.gtI, PD.geI, PD.pick, PD.fzL, PD.fz1, PD.inR, PD.outR, PD.yes2, PD.dCall, PD.prep, PD.prep1, PD.wb, PD.toRV, PD.dB, PD.dTru, PD.truD, PD.dNot, PD.dAnd, PD.dOr, PD.dIf, PD.dNotV, PD.dAndV, PD.dOrV, PD.dPar, PD.dPar3, PD.isN, PD.notN, PD.ixA, PD.ixD, PD.ixDct, L2.atI, L2.ixN, PD.lenD, PD.min2D, PD.max2D, PD.absD, PD.tupleD, PD.listD, PD.dAsg, PD.bName, PD.bTup, PD.bCons, PD.bNil, PD.dStore, PD.storeD, PD.dAugS, PD.getS, PD.dFld, PD.dStFld, PD.putFD, PD.dMethU, PD.callR, PD.dMake, PD.wipeR, PD.back, List.lookup, PD.ioP, h]
theorem up_b (IX : D → D → Option RV) (c : D) (i j : Int) (L : List D) (hl : L.length < 1000000) (h : IX c (.int i) = some (.fz (.int j))) :
    (dSeq (dSet 1 (dOp2 IX (dVar 0) (dVar 1))) (dDrop (dMut "list" appD (dVar 2) (dCons (dVar 1) dNil)))) [.fz c, .fz (.int i), .own (.lst L)] = .nx [.fz c, .fz (.int j), .own (.lst (L ++ [.int j]))] := by
  simp [PD.mkF, PD.dSeq, PD.dNext, PD.dSet, PD.dRet, PD.dRetN, PD.dIfS, PD.dDrop, PD.dTup, PD.dLst, PD.dCons, PD.dNil, PD.dOpN, PD.dOp2, PD.dOp1, PD.dVar, PD.dC, PD.R.bind, PD.R.bindS, PD.rd, PD.rdL, PD.intD, PD.orD, PD.mulI, PD.addI, PD.subD, PD.modD, PD.fdivD, PD.fI, PD.fB, PD.ltI, PD.leI, PD.gtI, PD.geI, PD.pick, PD.fzL, PD.fz1, PD.inR, PD.outR, PD.yes2, PD.dCall, PD.prep, PD.prep1, PD.wb, PD.toRV, PD.dB, PD.dTru, PD.truD, PD.dNot, PD.dAnd, PD.dOr, PD.dIf, PD.dNotV, PD.dAndV, PD.dOrV, PD.dPar, PD.dPar3, PD.isN, PD.notN, PD.ixA, PD.ixD, PD.ixDct, L2.atI, L2.ixN, PD.lenD, PD.min2D, PD.max2D, PD.absD, PD.tupleD, PD.listD, PD.dAsg, PD.bName, PD.bTup, PD.bCons, PD.bNil, PD.dStore, PD.storeD, PD.dAugS, PD.getS, PD.dFld, PD.dStFld, PD.putFD, PD.dMethU, PD.callR, PD.dMake, PD.wipeR, PD.back, List.lookup, PD.ioP, h, dMut, chkT, isLst, isDct, appD, hl]
def lastI (i : Int) : List Int → Int
  | [] => i
  | j :: ws => lastI j ws
theorem up_loop (c : List D) : ∀ (ws : List Int) (i : Int) (L : List D) (fuel : Nat), Up c i ws → ws.length < fuel → L.length + ws.length < 1000000 →
    dWhile (dB (dOp2 notN (dOp2 ixA (dVar 0) (dVar 1)) (dC .non))) (dSeq (dSet 1 (dOp2 ixA (dVar 0) (dVar 1))) (dDrop (dMut "list" appD (dVar 2) (dCons (dVar 1) dNil)))) fuel [.fz (.tup c), .fz (.int i), .own (.lst L)]
      = .nx [.fz (.tup c), .fz (.int (lastI i ws)), .own (.lst (L ++ ws.map D.int))]
  | [], i, L, fuel + 1, .top h, _, _ => by
    unfold dWhile
    rw [up_c0 ixA _ _ _ h]
    simp [R.bindS, lastI]
  | j :: ws, i, L, fuel + 1, .step h hu, hf, hl => by
    simp only [List.length_cons] at hf hl
    unfold dWhile
    rw [up_c1 ixA _ _ _ _ h]
    simp only [R.bindS, if_true]
    rw [up_b ixA _ _ _ _ (by omega) h]
    have := up_loop c ws j (L ++ [.int j]) fuel hu (by omega) (by simp only [List.length_append, List.length_cons, List.length_nil]; omega)
    simp only [this]
    simp [lastI]
end Lk
set_option Elab.async false
set_option linter.all false
set_option maxRecDepth 100000
set_option autoImplicit false
namespace Lk
open PySem PySem.Spec PyProof.Rows L2 PD
theorem upx (W : DS) (c : D) (i l : Int) (L : List D) (hw : W [.fz c, .fz (.int i), .own (.lst [])] = .nx [.fz c, .fz (.int l), .own (.lst L)]) :
   (dSeq (dSet 2 (dLst dNil)) (dSeq W (dRet (dVar 2)))) [.fz c, .fz (.int i), .no] = .rt (.own (.lst L)) [.fz c, .fz (.int l), .no] := by
  simp [PD.mkF, PD.dSeq, PD.dNext, PD.dSet, PD.dRet, PD.dRetN, PD.dIfS, PD.dDrop, PD.dTup, PD.dLst, PD.dCons, PD.dNil, PD.dOpN, PD.dOp2, PD.dOp1, PD.dVar, PD.dC, PD.R.bind, PD.R.bindS, PD.rd, PD.rdL, PD.intD, PD.orD, PD.mulI, PD.addI, PD.subD, PD.modD, PD.fdivD, PD.fI, PD.fB, PD.ltI, PD.leI, PD.gtI, PD.geI, PD.pick, PD.fzL, PD.fz1, PD.inR, PD.outR, PD.yes2, PD.dCall, PD.prep, PD.prep1, PD.wb, PD.toRV, PD.dB, PD.dTru, PD.truD, PD.dNot, PD.dAnd, PD.dOr, PD.dIf, PD.dNotV, PD.dAndV, PD.dOrV, PD.dPar, PD.dPar3, PD.isN, PD.notN, PD.ixA, PD.ixD, PD.ixDct, L2.atI, L2.ixN, PD.lenD, PD.min2D, PD.max2D, PD.absD, PD.tupleD, PD.listD, PD.dAsg, PD.bName, PD.bTup, PD.bCons, PD.bNil, PD.dStore, PD.storeD, PD.dAugS, PD.getS, PD.dFld, PD.dStFld, PD.putFD, PD.dMethU, PD.callR, PD.dMake, PD.wipeR, PD.back, List.lookup, PD.ioP, hw]
theorem run_up (c : List D) (i : Int) (ws : List Int) (h : Up c i ws) (hl : ws.length < 1000000) : f_u_law_up.run [.fz (.tup c), .fz (.int i)] = .ret (.own (.lst (ws.map D.int))) [.no, .no] := by
  have hw := up_loop c ws i [] 1000000 h hl (by simpa using hl)
  have := upx _ (.tup c) i _ _ hw
  exact mkF_rt (io := [true, false]) (n := 3) (body := b_u_law_up) rfl this
end Lk
set_option Elab.async false
set_option linter.all false
set_option maxRecDepth 100000
set_option autoImplicit false
namespace Lk
open PySem PySem.Spec PyProof.Rows L2 PD
abbrev lastE : DE := dOp2 ixA (dVar 2) (dOp1 negD (dC (.int 1)))
theorem lastE_run (x y : SV) (L : List D) (i : Int) : lastE [x, y, .own (.lst (L ++ [.int i]))] = .ok (.fz (.int i)) [x, y, .own (.lst (L ++ [.int i]))] := by
  have h : L2.atI (L ++ [D.int i]) (-1) = some (.int i) := by
    simp [L2.atI, L2.ixN]
    rw [if_pos (by omega), show (-1 + ((L.length : Int) + 1)).toNat = L.length by omega]
    simp
  simp [lastE, dOp2, dVar, dOp1, dC, negD, R.bind, rd, ixA, orD, ixD, h]
theorem wu_b (E : DE) (IX : D → D → Option RV) (c : D) (y : SV) (i j : Int) (L : List D) (hl : L.length + 1 < 1000000) (h : IX c (.int i) = some (.fz (.int j)))
    (hE : ∀ L i, E [.fz c, y, .own (.lst (L ++ [.int i]))] = .ok (.fz (.int i)) [.fz c, y, .own (.lst (L ++ [.int i]))]) :
    (dDrop (dMut "list" appD (dVar 2) (dCons (dOp2 IX (dVar 0) E) dNil))) [.fz c, y, .own (.lst (L ++ [.int i]))] = .nx [.fz c, y, .own (.lst (L ++ [.int i] ++ [.int j]))] := by
  have := hE L i
  simp [PD.mkF, PD.dSeq, PD.dNext, PD.dSet, PD.dRet, PD.dRetN, PD.dIfS, PD.dDrop, PD.dTup, PD.dLst, PD.dCons, PD.dNil, PD.dOpN, PD.dOp2, PD.dOp1, PD.dVar, PD.dC, PD.R.bind, PD.R.bindS, PD.rd, PD.rdL, PD.intD, PD.orD, PD.mulI, PD.addI, PD.subD, PD.modD, PD.fdivD, PD.fI, PD.fB, PD.ltI, PD.leI, PD.gtI, PD.geI, PD.pick, PD.fzL, PD.fz1, PD.inR, PD.outR, PD.yes2, PD.dCall, PD.prep, PD.prep1, PD.wb, PD.toRV, PD.dB, PD.dTru, PD.truD, PD.dNot, PD.dAnd, PD.dOr, PD.dIf, PD.dNotV, PD.dAndV, PD.dOrV, PD.dPar, PD.dPar3, PD.isN, PD.notN, PD.ixA, PD.ixD, PD.ixDct, L2.atI, L2.ixN, PD.lenD, PD.min2D, PD.max2D, PD.absD, PD.tupleD, PD.listD, PD.dAsg, PD.bName, PD.bTup, PD.bCons, PD.bNil, PD.dStore, PD.storeD, PD.dAugS, PD.getS, PD.dFld, PD.dStFld, PD.putFD, PD.dMethU, PD.callR, PD.dMake, PD.wipeR, PD.back, List.lookup, PD.ioP, h, dMut, chkT, isLst, isDct, appD, hl, this]
theorem wu_c (E : DE) (IX : D → D → Option RV) (c : D) (y : SV) (i : Int) (L : List D) (d : D) (h : IX c (.int i) = some (.fz d)) (b : Bool) (hb : notN d .non = some (.fz (.bl b)))
    (hE : ∀ L i, E [.fz c, y, .own (.lst (L ++ [.int i]))] = .ok (.fz (.int i)) [.fz c, y, .own (.lst (L ++ [.int i]))]) :
    dB (dOp2 notN (dOp2 IX (dVar 0) E) (dC .non)) [.fz c, y, .own (.lst (L ++ [.int i]))] = .ok b [.fz c, y, .own (.lst (L ++ [.int i]))] := by
  have := hE L i
  simp [dB, dOp2, dVar, dC, R.bind, rd, this, h, hb]
end Lk
set_option Elab.async false
set_option linter.all false
set_option maxRecDepth 100000
set_option autoImplicit false
namespace Lk
open PySem PySem.Spec PyProof.Rows L2 PD
theorem wu_loop (c : List D) (y : SV) : ∀ (ws : List Int) (i : Int) (L : List D) (fuel : Nat), Up c i ws → ws.length < fuel → L.length + 1 + ws.length < 1000000 →
    dWhile (dB (dOp2 notN (dOp2 ixA (dVar 0) lastE) (dC .non))) (dDrop (dMut "list" appD (dVar 2) (dCons (dOp2 ixA (dVar 0) lastE) dNil))) fuel [.fz (.tup c), y, .own (.lst (L ++ [.int i]))]
      = .nx [.fz (.tup c), y, .own (.lst (L ++ (i :: ws).map D.int))]
  | [], i, L, fuel + 1, .top h, _, _ => by
    unfold dWhile
    rw [wu_c lastE ixA _ _ _ _ _ h false (by rfl) (lastE_run _ _)]
    simp [R.bindS]
  | j :: ws, i, L, fuel + 1, .step h hu, hf, hl => by
    simp only [List.length_cons] at hf hl
    unfold dWhile
    rw [wu_c lastE ixA _ _ _ _ _ h true (by rfl) (lastE_run _ _)]
    simp only [R.bindS, if_true]
    rw [wu_b lastE ixA _ _ _ _ _ (by omega) h (lastE_run _ _)]
    have := wu_loop c y ws j (L ++ [.int i]) fuel hu (by omega) (by simp only [List.length_append, List.length_cons, List.length_nil]; omega)
    simp only [this]
    simp
theorem wux (W : DS) (c : D) (i : Int) (L : List D) (hw : W [.fz c, .fz (.int i), .own (.lst [.int i])] = .nx [.fz c, .fz (.int i), .own (.lst L)]) :
   (dSeq (dSet 2 (dLst (dCons (dVar 1) dNil))) (dSeq W (dRet (dVar 2)))) [.fz c, .fz (.int i), .no] = .rt (.own (.lst L)) [.fz c, .fz (.int i), .no] := by
  simp [PD.mkF, PD.dSeq, PD.dNext, PD.dSet, PD.dRet, PD.dRetN, PD.dIfS, PD.dDrop, PD.dTup, PD.dLst, PD.dCons, PD.dNil, PD.dOpN, PD.dOp2, PD.dOp1, PD.dVar, PD.dC, PD.R.bind, PD.R.bindS, PD.rd, PD.rdL, PD.intD, PD.orD, PD.mulI, PD.addI, PD.subD, PD.modD, PD.fdivD, PD.fI, PD.fB, PD.ltI, PD.leI, PD.gtI, PD.geI, PD.pick, PD.fzL, PD.fz1, PD.inR, PD.outR, PD.yes2, PD.dCall, PD.prep, PD.prep1, PD.wb, PD.toRV, PD.dB, PD.dTru, PD.truD, PD.dNot, PD.dAnd, PD.dOr, PD.dIf, PD.dNotV, PD.dAndV, PD.dOrV, PD.dPar, PD.dPar3, PD.isN, PD.notN, PD.ixA, PD.ixD, PD.ixDct, L2.atI, L2.ixN, PD.lenD, PD.min2D, PD.max2D, PD.absD, PD.tupleD, PD.listD, PD.dAsg, PD.bName, PD.bTup, PD.bCons, PD.bNil, PD.dStore, PD.storeD, PD.dAugS, PD.getS, PD.dFld, PD.dStFld, PD.putFD, PD.dMethU, PD.callR, PD.dMake, PD.wipeR, PD.back, List.lookup, PD.ioP, hw]
theorem run_way_up (c : List D) (i : Int) (ws : List Int) (h : Up c i ws) (hl : ws.length + 1 < 1000000) : f_way_up.run [.fz (.tup c), .fz (.int i)] = .ret (.own (.lst ((i :: ws).map D.int))) [.no, .no] := by
  have hw := wu_loop c (.fz (.int i)) ws i [] 1000000 h (by omega) (by simp only [List.length_nil]; omega)
  have := wux _ (.tup c) i _ hw
  exact mkF_rt (io := [true, true]) (n := 3) (body := b_way_up) rfl this
end Lk
set_option Elab.async false
set_option linter.all false
set_option maxRecDepth 100000
set_option autoImplicit false
namespace Lk
open PySem PySem.Spec PyProof.Rows L2 PD
theorem chartL_get (s : Int) (i : Nat) : ∀ n, i < n → (chartL s n)[i]? = some (mem1 (dr (adv s i) (i + 1)))
  | n + 1, h => by
    unfold chartL
    by_cases hi : i < n
    · rw [List.getElem?_append_left (by rw [chartL_length]; exact hi)]
      exact chartL_get s i n hi
    · have : i = n := by omega
      subst this
      rw [List.getElem?_append_right (by rw [chartL_length]; omega)]
      simp [chartL_length]
theorem ixA_tup (c : List D) (i : Nat) (d : D) (h : c[i]? = some d) : ixA (.tup c) (.int i) = some (.fz d) := by
  have h' : L2.atI c (i : Int) = some d := by
    have hl : i < c.length := by
      obtain ⟨h2, _⟩ := List.getElem?_eq_some_iff.1 h
      exact h2
    simp [L2.atI, L2.ixN, hl]
    rw [List.getElem?_eq_some_iff] at h
    exact h.2
  simp [ixA, orD, ixD, h']
/-- the ways of a drawn chart: every one goes to lower numbers -/
theorem up_chart (s : Int) (n : Nat) : ∀ (k i : Nat), i < k → i < n → ∃ ws : List Int, Up (chartL s n) i ws ∧ ws.length ≤ i ∧ ∀ w ∈ ws, 0 ≤ w ∧ w < i
  | k + 1, i, hk, hi => by
    have hg := ixA_tup _ i _ (chartL_get s i n hi)
    have hr := dr_range (adv s i) (m := (i : Int) + 1) (by omega)
    generalize dr (adv s i) (i + 1) = v at hg hr
    by_cases hv : v = 0
    · subst hv
      exact ⟨[], .top hg, by simp, by simp⟩
    · obtain ⟨j, hj⟩ : ∃ j : Nat, (j : Int) = v - 1 := ⟨(v - 1).toNat, by omega⟩
      have e : mem1 v = .int j := by unfold mem1; rw [if_neg hv, hj]
      rw [e] at hg
      obtain ⟨ws, hu, hl, hw⟩ := up_chart s n k j (by omega) (by omega)
      refine ⟨j :: ws, .step hg hu, by simp only [List.length_cons]; omega, fun w hm => ?_⟩
      rcases List.mem_cons.1 hm with rfl | hm
      · omega
      · have := hw w hm
        omega
end Lk
set_option Elab.async false
set_option linter.all false
set_option maxRecDepth 100000
set_option autoImplicit false
namespace Lk
open PySem PySem.Spec PyProof.Rows L2 PD
abbrev cplE : DE := dTup (dCons (dOpN min2D (dCons (dVar 2) (dCons (dVar 3) dNil))) (dCons (dOpN max2D (dCons (dVar 2) (dCons (dVar 3) dNil))) dNil))
def cpl (i w : Int) : D := .tup [.int w, .int i]
theorem cplE_run (x y : SV) (i w : Int) (h : w < i) : cplE [x, y, .fz (.int i), .fz (.int w)] = .ok (.fz (cpl i w)) [x, y, .fz (.int i), .fz (.int w)] := by
  have h2 : ¬ i < w := by omega
  simp [PD.mkF, PD.dSeq, PD.dNext, PD.dSet, PD.dRet, PD.dRetN, PD.dIfS, PD.dDrop, PD.dTup, PD.dLst, PD.dCons, PD.dNil, PD.dOpN, PD.dOp2, PD.dOp1, PD.dVar, PD.dC, PD.R.bind, PD.R.bindS, PD.rd, PD.rdL, PD.intD, PD.orD, PD.mulI, PD.addI, PD.subD, PD.modD, PD.fdivD, PD.fI, PD.fB, PD.ltI, PD.leI, PD.gtI, PD.geI, PD.pick, PD.fzL, PD.fz1, PD.inR, PD.outR, PD.yes2, PD.dCall, PD.prep, PD.prep1, PD.wb, PD.toRV, PD.dB, PD.dTru, PD.truD, PD.dNot, PD.dAnd, PD.dOr, PD.dIf, PD.dNotV, PD.dAndV, PD.dOrV, PD.dPar, PD.dPar3, PD.isN, PD.notN, PD.ixA, PD.ixD, PD.ixDct, L2.atI, L2.ixN, PD.lenD, PD.min2D, PD.max2D, PD.absD, PD.tupleD, PD.listD, PD.dAsg, PD.bName, PD.bTup, PD.bCons, PD.bNil, PD.dStore, PD.storeD, PD.dAugS, PD.getS, PD.dFld, PD.dStFld, PD.putFD, PD.dMethU, PD.callR, PD.dMake, PD.wipeR, PD.back, List.lookup, PD.ioP, cplE, cpl, h, h2]
theorem lc_cpl (x y : SV) (i : Int) : ∀ (ws : List Int) (acc : List D), (∀ w ∈ ws, w < i) → acc.length + ws.length < 1000000 →
    dLcL (bName 3) dYes cplE [3] (ws.map D.int) acc [x, y, .fz (.int i), .no] = .ok (acc ++ ws.map (cpl i)) [x, y, .fz (.int i), .no]
  | [], acc, _, _ => by simp [dLcL]
  | w :: ws, acc, hw, hl => by
    simp only [List.length_cons] at hl
    have h1 := cplE_run x y i w (hw w List.mem_cons_self)
    have ih := lc_cpl x y i ws (acc ++ [cpl i w]) (fun w h => hw w (List.mem_cons_of_mem _ h)) (by simp only [List.length_append, List.length_cons, List.length_nil]; omega)
    have hb : bName 3 (.int w) [x, y, .fz (.int i), .no] = some [x, y, .fz (.int i), .fz (.int w)] := by simp [bName]
    have hz : fz1 (.fz (cpl i w)) [x, y, .fz (.int i), .fz (.int w)] = some (cpl i w, [x, y, .fz (.int i), .fz (.int w)]) := by simp [fz1]
    have ha : acc.length < 1000000 := by omega
    rw [List.map_cons]
    unfold dLcL
    rw [hb]
    simp only [dYes, h1, hz, ha, if_true, wipeR]
    simp only [List.set]
    rw [ih]
    simp
end Lk
set_option Elab.async false
set_option linter.all false
set_option maxRecDepth 100000
set_option autoImplicit false
namespace Lk
open PySem PySem.Spec PyProof.Rows L2 PD
theorem okLen_le {n : Nat} (h : n ≤ 600000) : PD.okLen n = true := by
  unfold PD.okLen
  simp
  omega
def toB : DS := (dDrop (dMut "list" extD (dVar 1) (dCons (dLc (dItS (dCall f_u_law_up (dCons (dVar 0) (dCons (dVar 2) dNil)))) (bName 3) dYes (dTup (dCons (dOpN min2D (dCons (dVar 2) (dCons (dVar 3) dNil))) (dCons (dOpN max2D (dCons (dVar 2) (dCons (dVar 3) dNil))) dNil))) [3]) dNil)))
theorem toB_lc (c : List D) (i : Int) (ws : List Int) (F : D) (h : Up c i ws) (hw : ∀ w ∈ ws, w < i) (hl : ws.length < 1000000) :
    dLc (dItS (dCall f_u_law_up (dCons (dVar 0) (dCons (dVar 2) dNil)))) (bName 3) dYes cplE [3] [.fz (.tup c), .own F, .fz (.int i), .no] = .ok (.own (.lst (ws.map (cpl i)))) [.fz (.tup c), .own F, .fz (.int i), .no] := by
  have hr := run_up c i ws h hl
  have hio : f_u_law_up.io = [true, false] := rfl
  have hit : dItS (dCall f_u_law_up (dCons (dVar 0) (dCons (dVar 2) dNil))) [.fz (.tup c), .own F, .fz (.int i), .no] = .ok (ws.map D.int) [.fz (.tup c), .own F, .fz (.int i), .no] := by
    simp [PD.mkF, PD.dSeq, PD.dNext, PD.dSet, PD.dRet, PD.dRetN, PD.dIfS, PD.dDrop, PD.dTup, PD.dLst, PD.dCons, PD.dNil, PD.dOpN, PD.dOp2, PD.dOp1, PD.dVar, PD.dC, PD.R.bind, PD.R.bindS, PD.rd, PD.rdL, PD.intD, PD.orD, PD.mulI, PD.addI, PD.subD, PD.modD, PD.fdivD, PD.fI, PD.fB, PD.ltI, PD.leI, PD.gtI, PD.geI, PD.pick, PD.fzL, PD.fz1, PD.inR, PD.outR, PD.yes2, PD.dCall, PD.prep, PD.prep1, PD.wb, PD.toRV, PD.dB, PD.dTru, PD.truD, PD.dNot, PD.dAnd, PD.dOr, PD.dIf, PD.dNotV, PD.dAndV, PD.dOrV, PD.dPar, PD.dPar3, PD.isN, PD.notN, PD.ixA, PD.ixD, PD.ixDct, L2.atI, L2.ixN, PD.lenD, PD.min2D, PD.max2D, PD.absD, PD.tupleD, PD.listD, PD.dAsg, PD.bName, PD.bTup, PD.bCons, PD.bNil, PD.dStore, PD.storeD, PD.dAugS, PD.getS, PD.dFld, PD.dStFld, PD.putFD, PD.dMethU, PD.callR, PD.dMake, PD.wipeR, PD.back, List.lookup, PD.ioP, dItS, hr, hio]
  have hlc := lc_cpl (.fz (.tup c)) (.own F) i ws [] hw (by simpa using hl)
  unfold dLc
  simp only [hit, R.bind, wipeR, List.set, hlc, back]
  simp
end Lk
set_option Elab.async false
set_option linter.all false
set_option maxRecDepth 100000
set_option autoImplicit false
namespace Lk
open PySem PySem.Spec PyProof.Rows L2 PD
theorem ext_run (E : DE) (x : SV) (i : Int) (L M : List D) (hE : E [x, .own (.lst L), .fz (.int i), .no] = .ok (.own (.lst M)) [x, .own (.lst L), .fz (.int i), .no]) (hk : PD.okLen (L.length + M.length) = true) :
    (dDrop (dMut "list" extD (dVar 1) (dCons E dNil))) [x, .own (.lst L), .fz (.int i), .no] = .nx [x, .own (.lst (L ++ M)), .fz (.int i), .no] := by
  simp [PD.mkF, PD.dSeq, PD.dNext, PD.dSet, PD.dRet, PD.dRetN, PD.dIfS, PD.dDrop, PD.dTup, PD.dLst, PD.dCons, PD.dNil, PD.dOpN, PD.dOp2, PD.dOp1, PD.dVar, PD.dC, PD.R.bind, PD.R.bindS, PD.rd, PD.rdL, PD.intD, PD.orD, PD.mulI, PD.addI, PD.subD, PD.modD, PD.fdivD, PD.fI, PD.fB, PD.ltI, PD.leI, PD.gtI, PD.geI, PD.pick, PD.fzL, PD.fz1, PD.inR, PD.outR, PD.yes2, PD.dCall, PD.prep, PD.prep1, PD.wb, PD.toRV, PD.dB, PD.dTru, PD.truD, PD.dNot, PD.dAnd, PD.dOr, PD.dIf, PD.dNotV, PD.dAndV, PD.dOrV, PD.dPar, PD.dPar3, PD.isN, PD.notN, PD.ixA, PD.ixD, PD.ixDct, L2.atI, L2.ixN, PD.lenD, PD.min2D, PD.max2D, PD.absD, PD.tupleD, PD.listD, PD.dAsg, PD.bName, PD.bTup, PD.bCons, PD.bNil, PD.dStore, PD.storeD, PD.dAugS, PD.getS, PD.dFld, PD.dStFld, PD.putFD, PD.dMethU, PD.callR, PD.dMake, PD.wipeR, PD.back, List.lookup, PD.ioP, hE, dMut, chkT, isLst, isDct, extD, hk]
theorem toB_run (c : List D) (i : Int) (ws : List Int) (L : List D) (h : Up c i ws) (hw : ∀ w ∈ ws, w < i) (hl : L.length + ws.length ≤ 600000) :
    toB [.fz (.tup c), .own (.lst L), .fz (.int i), .no] = .nx [.fz (.tup c), .own (.lst (L ++ ws.map (cpl i))), .fz (.int i), .no] :=
  ext_run _ _ i L _ (toB_lc c i ws (.lst L) h hw (by omega)) (okLen_le (by simpa using hl))
end Lk
set_option Elab.async false
set_option linter.all false
set_option maxRecDepth 100000
set_option autoImplicit false
namespace Lk
open PySem PySem.Spec PyProof.Rows L2 PD
theorem ways (s : Int) (n i : Nat) : ∃ ws : List Int, i < n → Up (chartL s n) i ws ∧ ws.length ≤ i ∧ ∀ w ∈ ws, 0 ≤ w ∧ w < i :=
  if h : i < n then (by obtain ⟨ws, h2⟩ := up_chart s n (i + 1) i (by omega) h; exact ⟨ws, fun _ => h2⟩) else ⟨[], fun h2 => absurd h2 h⟩
noncomputable def wayC (s : Int) (n i : Nat) : List Int := (ways s n i).choose
theorem wayC_spec (s : Int) (n i : Nat) (h : i < n) : Up (chartL s n) i (wayC s n i) ∧ (wayC s n i).length ≤ i ∧ ∀ w ∈ wayC s n i, 0 ≤ w ∧ w < i := (ways s n i).choose_spec h
noncomputable def tabL (s : Int) (n : Nat) : Nat → List D
  | 0 => []
  | k + 1 => tabL s n k ++ (wayC s n k).map (cpl k)
theorem tabL_len (s : Int) (n : Nat) : ∀ k, k ≤ n → (tabL s n k).length ≤ k * n
  | 0, _ => by simp [tabL]
  | k + 1, h => by
    have h1 := tabL_len s n k (by omega)
    have h2 := (wayC_spec s n k (by omega)).2.1
    simp only [tabL, List.length_append, List.length_map, Nat.add_mul]
    omega
theorem to_loop (s : Int) (n : Nat) (hn : n ≤ 100) :
    dForL (bName 2) toB (upto 0 n) [.fz (.tup (chartL s n)), .own (.lst []), .no, .no] = .nx [.fz (.tup (chartL s n)), .own (.lst (tabL s n n)), if n = 0 then .no else .fz (.int (n - 1 : Nat)), .no] := by
  refine forL_upto (g := bName 2) (b := toB) (fun k => [.fz (.tup (chartL s n)), .own (.lst (tabL s n k)), if k = 0 then .no else .fz (.int (k - 1 : Nat)), .no]) 0 n fun i hi => ?_
  obtain ⟨h1, h2, h3⟩ := wayC_spec s n i hi
  have hl := tabL_len s n i (by omega)
  have hm : i * n ≤ 100 * 100 := Nat.mul_le_mul (by omega) hn
  refine ⟨[.fz (.tup (chartL s n)), .own (.lst (tabL s n i)), .fz (.int i), .no], by simp [bName], .inl ?_⟩
  rw [toB_run _ _ _ _ h1 (fun w h => (h3 w h).2) (by omega)]
  rfl
end Lk
set_option Elab.async false
set_option linter.all false
set_option maxRecDepth 100000
set_option autoImplicit false
namespace Lk
open PySem PySem.Spec PyProof.Rows L2 PD
theorem lto_run (FF : DS) (SRT : List D → Option RV) (c L M : List D) (x y : SV) (hf : FF [.fz (.tup c), .own (.lst []), .no, .no] = .nx [.fz (.tup c), .own (.lst L), x, y]) (hs : SRT [.lst L] = some (.own (.lst M))) :
   (dSeq (dSet 1 (dLst dNil)) (dSeq FF
 (dRet (dTup (dCons (dOpN lenD (dCons (dVar 0) dNil)) (dCons (dOpN tupleD (dCons (dOpN SRT (dCons (dVar 1) dNil)) dNil)) dNil)))))) [.fz (.tup c), .no, .no, .no] = .rt (.fz (.tup [.int c.length, .tup M])) [.fz (.tup c), .own (.lst L), x, y] := by
  simp [PD.mkF, PD.dSeq, PD.dNext, PD.dSet, PD.dRet, PD.dRetN, PD.dIfS, PD.dDrop, PD.dTup, PD.dLst, PD.dCons, PD.dNil, PD.dOpN, PD.dOp2, PD.dOp1, PD.dVar, PD.dC, PD.R.bind, PD.R.bindS, PD.rd, PD.rdL, PD.intD, PD.orD, PD.mulI, PD.addI, PD.subD, PD.modD, PD.fdivD, PD.fI, PD.fB, PD.ltI, PD.leI, PD.gtI, PD.geI, PD.pick, PD.fzL, PD.fz1, PD.inR, PD.outR, PD.yes2, PD.dCall, PD.prep, PD.prep1, PD.wb, PD.toRV, PD.dB, PD.dTru, PD.truD, PD.dNot, PD.dAnd, PD.dOr, PD.dIf, PD.dNotV, PD.dAndV, PD.dOrV, PD.dPar, PD.dPar3, PD.isN, PD.notN, PD.ixA, PD.ixD, PD.ixDct, L2.atI, L2.ixN, PD.lenD, PD.min2D, PD.max2D, PD.absD, PD.tupleD, PD.listD, PD.dAsg, PD.bName, PD.bTup, PD.bCons, PD.bNil, PD.dStore, PD.storeD, PD.dAugS, PD.getS, PD.dFld, PD.dStFld, PD.putFD, PD.dMethU, PD.callR, PD.dMake, PD.wipeR, PD.back, List.lookup, PD.ioP, hf, hs]
end Lk
set_option Elab.async false
set_option linter.all false
set_option maxRecDepth 100000
set_option autoImplicit false
namespace Lk
open PySem PySem.Spec PyProof.Rows L2 PD
/-- a turn of table_of's loop: the dict is added to -/
theorem mut_upd (E : DE) (x : SV) (i : Int) (t : Bool) (kvs : List (D × D)) (M L' : D) (hE : E [x, .own (.dct t kvs), .fz (.int i), .no] = .ok (.own M) [x, .own (.dct t kvs), .fz (.int i), .no]) (hk : updD (.dct t kvs) [M] = some (L', .fz .non)) :
    (dDrop (dMut "dict" updD (dVar 1) (dCons E dNil))) [x, .own (.dct t kvs), .fz (.int i), .no] = .nx [x, .own L', .fz (.int i), .no] := by
  simp [PD.mkF, PD.dSeq, PD.dNext, PD.dSet, PD.dRet, PD.dRetN, PD.dIfS, PD.dDrop, PD.dTup, PD.dLst, PD.dCons, PD.dNil, PD.dOpN, PD.dOp2, PD.dOp1, PD.dVar, PD.dC, PD.R.bind, PD.R.bindS, PD.rd, PD.rdL, PD.intD, PD.orD, PD.mulI, PD.addI, PD.subD, PD.modD, PD.fdivD, PD.fI, PD.fB, PD.ltI, PD.leI, PD.gtI, PD.geI, PD.pick, PD.fzL, PD.fz1, PD.inR, PD.outR, PD.yes2, PD.dCall, PD.prep, PD.prep1, PD.wb, PD.toRV, PD.dB, PD.dTru, PD.truD, PD.dNot, PD.dAnd, PD.dOr, PD.dIf, PD.dNotV, PD.dAndV, PD.dOrV, PD.dPar, PD.dPar3, PD.isN, PD.notN, PD.ixA, PD.ixD, PD.ixDct, L2.atI, L2.ixN, PD.lenD, PD.min2D, PD.max2D, PD.absD, PD.tupleD, PD.listD, PD.dAsg, PD.bName, PD.bTup, PD.bCons, PD.bNil, PD.dStore, PD.storeD, PD.dAugS, PD.getS, PD.dFld, PD.dStFld, PD.putFD, PD.dMethU, PD.callR, PD.dMake, PD.wipeR, PD.back, List.lookup, PD.ioP, hE, dMut, chkT, isLst, isDct, hk]
end Lk
set_option Elab.async false
set_option linter.all false
set_option maxRecDepth 100000
set_option autoImplicit false
namespace Lk
open PySem PySem.Spec PyProof.Rows L2 PD
theorem keyD_cpl (i w : Int) : keyD (cpl i w) = some (.inr [.inl w, .inl i]) := rfl
theorem tkD_cpl (i w : Int) : tkD [.inl w, .inl i] = cpl i w := rfl
/-- a new couple goes to the end -/
theorem putD_new (kvs : List (D × D)) (i w : Int) (key d : D) (h : ∀ p ∈ kvs, keyD p.1 ≠ some (.inr [.inl w, .inl i])) :
    putD kvs (.inr [.inl w, .inl i]) key d = kvs ++ [(key, d)] := by
  unfold putD
  rw [if_neg]
  intro h2
  obtain ⟨p, hp, e⟩ := List.any_eq_true.1 h2
  exact h p hp (of_decide_eq_true e)
theorem dPutD_new (kvs : List (D × D)) (i w : Int) (d : D) (hl : kvs.length < 1000000) (h : ∀ p ∈ kvs, keyD p.1 ≠ some (.inr [.inl w, .inl i])) :
    dPutD (.dct true kvs) (cpl i w) d = some (.dct true (kvs ++ [(cpl i w, d)])) := by
  simp only [dPutD, storeD, keyD_cpl, hl, if_true]
  rw [putD_new kvs i w _ d h, tkD_cpl]
end Lk
set_option Elab.async false
set_option linter.all false
set_option maxRecDepth 100000
set_option autoImplicit false
namespace Lk
open PySem PySem.Spec PyProof.Rows L2 PD
def pr1 (i w : Int) : D × D := (cpl i w, .bl true)
theorem dc_cpl (x y : SV) (i : Int) : ∀ (ws : List Int) (kvs : List (D × D)), (∀ w ∈ ws, w < i) → kvs.length + ws.length < 1000000 → ws.Nodup → (∀ w ∈ ws, ∀ p ∈ kvs, keyD p.1 ≠ some (.inr [.inl w, .inl i])) →
    dDcL (bName 3) dYes cplE (dC (.bl true)) [3] (ws.map D.int) (.dct true kvs) [x, y, .fz (.int i), .no] = .ok (.dct true (kvs ++ ws.map (pr1 i))) [x, y, .fz (.int i), .no]
  | [], kvs, _, _, _, _ => by simp [dDcL]
  | w :: ws, kvs, hw, hl, hn, hk => by
    simp only [List.length_cons] at hl
    have h1 := cplE_run x y i w (hw w List.mem_cons_self)
    have hp := dPutD_new kvs i w (.bl true) (by omega) (hk w List.mem_cons_self)
    obtain ⟨hn1, hn2⟩ := List.nodup_cons.1 hn
    have ih := dc_cpl x y i ws (kvs ++ [pr1 i w]) (fun w h => hw w (List.mem_cons_of_mem _ h)) (by simp only [List.length_append, List.length_cons, List.length_nil]; omega) hn2 (fun w' h' p hp e => by
      rcases List.mem_append.1 hp with hp | hp
      · exact hk w' (List.mem_cons_of_mem _ h') p hp e
      · rw [List.mem_singleton.1 hp] at e
        have e2 : (some (.inr [.inl w, .inl i]) : Option (Key ⊕ List Key)) = some (.inr [.inl w', .inl i]) := e
        injection e2 with e2; injection e2 with e2; injection e2 with e2; injection e2 with e2
        subst e2
        exact hn1 h')
    have hb : bName 3 (.int w) [x, y, .fz (.int i), .no] = some [x, y, .fz (.int i), .fz (.int w)] := by simp [bName]
    have hz : fz1 (.fz (cpl i w)) [x, y, .fz (.int i), .fz (.int w)] = some (cpl i w, [x, y, .fz (.int i), .fz (.int w)]) := by simp [fz1]
    have hz2 : fz1 (.fz (.bl true)) [x, y, .fz (.int i), .fz (.int w)] = some (.bl true, [x, y, .fz (.int i), .fz (.int w)]) := by simp [fz1]
    rw [List.map_cons]
    unfold dDcL
    rw [hb]
    simp only [dYes, h1, hz, dC, hz2, hp, wipeR]
    simp only [List.set]
    unfold pr1 at ih ⊢
    rw [ih]
    simp
end Lk
set_option Elab.async false
set_option linter.all false
set_option maxRecDepth 100000
set_option autoImplicit false
namespace Lk
open PySem PySem.Spec PyProof.Rows L2 PD
/-- a chart in which everybody's chief has a lower number: the way up goes down in numbers -/
theorem Up.down {c : List D} (hc : ∀ (i j : Int), ixA (.tup c) (.int i) = some (.fz (.int j)) → 0 ≤ i → 0 ≤ j ∧ j < i) : ∀ {ws : List Int} {i : Int}, Up c i ws → 0 ≤ i → (∀ w ∈ ws, 0 ≤ w ∧ w < i) ∧ ws.Nodup
  | [], i, _, _ => by simp
  | j :: ws, i, .step h hu, hi => by
    obtain ⟨h1, h2⟩ := hc i j h hi
    obtain ⟨h3, h4⟩ := hu.down hc h1
    refine ⟨fun w hw => ?_, List.nodup_cons.2 ⟨fun hj => ?_, h4⟩⟩
    · rcases List.mem_cons.1 hw with rfl | hw
      · exact ⟨h1, h2⟩
      · have := h3 w hw
        omega
    · have := h3 j hj
      omega
end Lk
set_option Elab.async false
set_option linter.all false
set_option maxRecDepth 100000
set_option autoImplicit false
namespace Lk
open PySem PySem.Spec PyProof.Rows L2 PD
/-- who is above in a drawn chart has a lower number -/
theorem chart_low (s : Int) (n : Nat) (i j : Int) (h : ixA (.tup (chartL s n)) (.int i) = some (.fz (.int j))) (hi : 0 ≤ i) : 0 ≤ j ∧ j < i := by
  obtain ⟨k, rfl⟩ : ∃ k : Nat, i = k := ⟨i.toNat, by omega⟩
  by_cases hk : k < n
  · rw [ixA_tup _ _ _ (chartL_get s k n hk)] at h
    have hr := dr_range (adv s k) (m := (k : Int) + 1) (by omega)
    generalize dr (adv s k) (k + 1) = v at h hr
    unfold mem1 at h
    by_cases hv : v = 0
    · rw [if_pos hv] at h; simp at h
    · rw [if_neg hv] at h; simp at h; omega
  · have h' : L2.atI (chartL s n) (k : Int) = none := by
      simp [L2.atI, L2.ixN, chartL_length, hk]
    simp [ixA, orD, ixD, h', ixDct, dgetD] at h
end Lk
set_option Elab.async false
set_option linter.all false
set_option maxRecDepth 100000
set_option autoImplicit false
namespace Lk
open PySem PySem.Spec PyProof.Rows L2 PD
theorem asTI_cpl (i w : Int) : asTI (cpl i w) = some [w, i] := rfl
theorem hashes_cpl (i : Int) : ∀ ws : List Int, hashesD (ws.map (pr1 i)) = some (ws.map fun w => hashTI [w, i])
  | [] => rfl
  | w :: ws => by
    rw [List.map_cons]
    unfold hashesD
    rw [hashes_cpl i ws, show asTI (pr1 i w).1 = some [w, i] from rfl]
    rfl
end Lk
set_option Elab.async false
set_option linter.all false
set_option maxRecDepth 100000
set_option autoImplicit false
namespace Lk
open PySem PySem.Spec PyProof.Rows L2 PD
theorem merge_cpl (i : Int) : ∀ (ws : List Int) (kvs : List (D × D)), ws.Nodup → (∀ w ∈ ws, ∀ p ∈ kvs, keyD p.1 ≠ some (.inr [.inl w, .inl i])) → mergeD kvs (ws.map (pr1 i)) = kvs ++ ws.map (pr1 i)
  | [], kvs, _, _ => by simp [mergeD]
  | w :: ws, kvs, hn, hk => by
    obtain ⟨hn1, hn2⟩ := List.nodup_cons.1 hn
    have ih := merge_cpl i ws (kvs ++ [pr1 i w]) hn2 (fun w' h' p hp e => by
      rcases List.mem_append.1 hp with hp | hp
      · exact hk w' (List.mem_cons_of_mem _ h') p hp e
      · rw [List.mem_singleton.1 hp] at e
        have e2 : (some (.inr [.inl w, .inl i]) : Option (Key ⊕ List Key)) = some (.inr [.inl w', .inl i]) := e
        injection e2 with e2; injection e2 with e2; injection e2 with e2; injection e2 with e2
        subst e2
        exact hn1 h')
    have hp := putD_new kvs i w (pr1 i w).1 (pr1 i w).2 (hk w List.mem_cons_self)
    unfold mergeD at ih ⊢
    rw [List.map_cons, List.foldl_cons]
    simp only [show keyD (pr1 i w).1 = some (.inr [.inl w, .inl i]) from rfl, hp]
    rw [show ((pr1 i w).1, (pr1 i w).2) = pr1 i w from rfl, ih]
    simp
end Lk
set_option Elab.async false
set_option linter.all false
set_option maxRecDepth 100000
set_option autoImplicit false
namespace Lk
open PySem PySem.Spec PyProof.Rows L2 PD
/-- the dict of table_of takes the couples of a way -/
theorem upd_cpl (i : Int) (ws : List Int) (kvs : List (D × D)) (hn : ws.Nodup) (hk : ∀ w ∈ ws, ∀ p ∈ kvs, keyD p.1 ≠ some (.inr [.inl w, .inl i])) (hl : kvs.length + ws.length ≤ 1000000) (h0 : kvs = [] → ws.length ≤ 1) :
    updD (.dct true kvs) [.dct true (ws.map (pr1 i))] = some (.dct true (kvs ++ ws.map (pr1 i)), .fz .non) := by
  have hm := merge_cpl i ws kvs hn hk
  unfold updD
  simp only [List.length_map, hl, if_true]
  cases kvs with
  | cons a r => simp [hm]
  | nil =>
    rw [hashes_cpl]
    have : (ws.map fun w => hashTI [w, i]).Nodup := by
      match ws, h0 rfl with
      | [], _ => simp
      | [w], _ => simp
    simp [this, hm]
end Lk
set_option Elab.async false
set_option linter.all false
set_option maxRecDepth 100000
set_option autoImplicit false
namespace Lk
open PySem PySem.Spec PyProof.Rows L2 PD
theorem cutD_1 (d : D) (xs : List D) : PD.cutD (d :: xs) (some 1) none = xs := by
  simp [PD.cutD, HT.sIx]
theorem way_it (c : List D) (i : Int) (ws : List Int) (F : D) (h : Up c i ws) (hl : ws.length + 1 < 1000000) :
    dItS (dSl slD (dCall f_way_up (dCons (dVar 0) (dCons (dVar 2) dNil))) (dPart (dC (.int 1))) dNoPart) [.fz (.tup c), .own F, .fz (.int i), .no] = .ok (ws.map D.int) [.fz (.tup c), .own F, .fz (.int i), .no] := by
  have hr := run_way_up c i ws h hl
  have hio : f_way_up.io = [true, true] := rfl
  have hc := cutD_1 (.int i) (ws.map D.int)
  rw [List.map_cons] at hr
  simp [PD.mkF, PD.dSeq, PD.dNext, PD.dSet, PD.dRet, PD.dRetN, PD.dIfS, PD.dDrop, PD.dTup, PD.dLst, PD.dCons, PD.dNil, PD.dOpN, PD.dOp2, PD.dOp1, PD.dVar, PD.dC, PD.R.bind, PD.R.bindS, PD.rd, PD.rdL, PD.intD, PD.orD, PD.mulI, PD.addI, PD.subD, PD.modD, PD.fdivD, PD.fI, PD.fB, PD.ltI, PD.leI, PD.gtI, PD.geI, PD.pick, PD.fzL, PD.fz1, PD.inR, PD.outR, PD.yes2, PD.dCall, PD.prep, PD.prep1, PD.wb, PD.toRV, PD.dB, PD.dTru, PD.truD, PD.dNot, PD.dAnd, PD.dOr, PD.dIf, PD.dNotV, PD.dAndV, PD.dOrV, PD.dPar, PD.dPar3, PD.isN, PD.notN, PD.ixA, PD.ixD, PD.ixDct, L2.atI, L2.ixN, PD.lenD, PD.min2D, PD.max2D, PD.absD, PD.tupleD, PD.listD, PD.dAsg, PD.bName, PD.bTup, PD.bCons, PD.bNil, PD.dStore, PD.storeD, PD.dAugS, PD.getS, PD.dFld, PD.dStFld, PD.putFD, PD.dMethU, PD.callR, PD.dMake, PD.wipeR, PD.back, List.lookup, PD.ioP, dItS, dSl, slD, dPart, dNoPart, hr, hio, hc]
end Lk
set_option Elab.async false
set_option linter.all false
set_option maxRecDepth 100000
set_option autoImplicit false
namespace Lk
open PySem PySem.Spec PyProof.Rows L2 PD
def ptB : DS := (dDrop (dMut "dict" updD (dVar 1) (dCons (dDc true (dItS (dSl slD (dCall f_way_up (dCons (dVar 0) (dCons (dVar 2) dNil))) (dPart (dC (.int 1))) dNoPart)) (bName 3) dYes cplE (dC (.bl true)) [3]) dNil)))
theorem ptB_dc (c : List D) (i : Int) (ws : List Int) (F : D) (h : Up c i ws) (hw : ∀ w ∈ ws, w < i) (hn : ws.Nodup) (hl : ws.length + 1 < 1000000) :
    dDc true (dItS (dSl slD (dCall f_way_up (dCons (dVar 0) (dCons (dVar 2) dNil))) (dPart (dC (.int 1))) dNoPart)) (bName 3) dYes cplE (dC (.bl true)) [3] [.fz (.tup c), .own F, .fz (.int i), .no] = .ok (.own (.dct true (ws.map (pr1 i)))) [.fz (.tup c), .own F, .fz (.int i), .no] := by
  have hlc := dc_cpl (.fz (.tup c)) (.own F) i ws [] hw (by simp only [List.length_nil]; omega) hn (by simp)
  unfold dDc
  simp only [way_it c i ws F h hl, R.bind, wipeR, List.set, hlc, back]
  simp
theorem ptB_run (c : List D) (i : Int) (ws : List Int) (kvs : List (D × D)) (h : Up c i ws) (hw : ∀ w ∈ ws, w < i) (hn : ws.Nodup) (hk : ∀ w ∈ ws, ∀ p ∈ kvs, keyD p.1 ≠ some (.inr [.inl w, .inl i])) (hl : kvs.length + ws.length ≤ 600000) (h0 : kvs = [] → ws.length ≤ 1) :
    ptB [.fz (.tup c), .own (.dct true kvs), .fz (.int i), .no] = .nx [.fz (.tup c), .own (.dct true (kvs ++ ws.map (pr1 i))), .fz (.int i), .no] :=
  mut_upd _ _ i true kvs _ _ (ptB_dc c i ws _ h hw hn (by omega)) (upd_cpl i ws kvs hn hk (by omega) h0)
end Lk
set_option Elab.async false
set_option linter.all false
set_option maxRecDepth 100000
set_option autoImplicit false
namespace Lk
open PySem PySem.Spec PyProof.Rows L2 PD
theorem Up.uniq {c : List D} : ∀ {ws vs : List Int} {i : Int}, Up c i ws → Up c i vs → ws = vs
  | [], [], _, _, _ => rfl
  | [], _ :: _, _, .top h, .step h2 _ => by rw [h] at h2; simp at h2
  | _ :: _, [], _, .step h _, .top h2 => by rw [h] at h2; simp at h2
  | j :: ws, k :: vs, _, .step h hu, .step h2 hu2 => by
    rw [h] at h2
    have e : j = k := by simpa using h2
    subst e
    rw [hu.uniq hu2]
noncomputable def kvL (s : Int) (n : Nat) : Nat → List (D × D)
  | 0 => []
  | k + 1 => kvL s n k ++ (wayC s n k).map (pr1 k)
theorem kvL_keys (s : Int) (n : Nat) : ∀ k, (kvL s n k).map (·.1) = tabL s n k
  | 0 => rfl
  | k + 1 => by simp [kvL, tabL, kvL_keys s n k, pr1]
theorem kvL_mem (s : Int) (n : Nat) : ∀ k p, p ∈ kvL s n k → ∃ (i : Nat) (w : Int), i < k ∧ p = pr1 i w
  | k + 1, p, h => by
    rcases List.mem_append.1 h with h | h
    · obtain ⟨i, w, h1, h2⟩ := kvL_mem s n k p h
      exact ⟨i, w, by omega, h2⟩
    · obtain ⟨w, _, rfl⟩ := List.mem_map.1 h
      exact ⟨k, w, by omega, rfl⟩
theorem kvL_nil (s : Int) (n : Nat) : ∀ k, kvL s n k = [] → ∀ j, j < k → wayC s n j = []
  | k + 1, h, j, hj => by
    obtain ⟨h1, h2⟩ := List.append_eq_nil_iff.1 h
    by_cases e : j = k
    · subst e; exact List.map_eq_nil_iff.1 h2
    · exact kvL_nil s n k h1 j (by omega)
end Lk
set_option Elab.async false
set_option linter.all false
set_option maxRecDepth 100000
set_option autoImplicit false
namespace Lk
open PySem PySem.Spec PyProof.Rows L2 PD
theorem kvL_len (s : Int) (n k : Nat) : (kvL s n k).length = (tabL s n k).length := by
  rw [← kvL_keys]; simp
theorem way_one (s : Int) (n i : Nat) (hi : i < n) (h : kvL s n i = []) : (wayC s n i).length ≤ 1 := by
  obtain ⟨h1, h2, h3⟩ := wayC_spec s n i hi
  generalize hw : wayC s n i = ws at h1 h2 h3
  match ws, h1, h3 with
  | [], _, _ => simp
  | j :: vs, .step hx hu, h3 =>
    obtain ⟨h4, h5⟩ := h3 j List.mem_cons_self
    obtain ⟨m, rfl⟩ : ∃ m : Nat, j = m := ⟨j.toNat, by omega⟩
    have he := kvL_nil s n i h m (by omega)
    have hu2 := (wayC_spec s n m (by omega)).1
    rw [he] at hu2
    rw [hu.uniq hu2]
    simp
theorem pt_loop (s : Int) (n : Nat) (hn : n ≤ 100) :
    dForL (bName 2) ptB (upto 0 n) [.fz (.tup (chartL s n)), .own (.dct true []), .no, .no] = .nx [.fz (.tup (chartL s n)), .own (.dct true (kvL s n n)), if n = 0 then .no else .fz (.int (n - 1 : Nat)), .no] := by
  refine forL_upto (g := bName 2) (b := ptB) (fun k => [.fz (.tup (chartL s n)), .own (.dct true (kvL s n k)), if k = 0 then .no else .fz (.int (k - 1 : Nat)), .no]) 0 n fun i hi => ?_
  obtain ⟨h1, h2, h3⟩ := wayC_spec s n i hi
  have hnd := (h1.down (chart_low s n) (by omega)).2
  have hl := tabL_len s n i (by omega)
  have hm : i * n ≤ 100 * 100 := Nat.mul_le_mul (by omega) hn
  rw [← kvL_len] at hl
  refine ⟨[.fz (.tup (chartL s n)), .own (.dct true (kvL s n i)), .fz (.int i), .no], by simp [bName], .inl ?_⟩
  rw [ptB_run _ _ _ _ h1 (fun w h => (h3 w h).2) hnd (fun w hw p hp e => by
    obtain ⟨k, v, hk, rfl⟩ := kvL_mem s n i p hp
    have e2 : (some (.inr [.inl v, .inl (k : Int)]) : Option (Key ⊕ List Key)) = some (.inr [.inl w, .inl (i : Int)]) := e
    simp at e2
    omega) (by omega) (fun h => way_one s n i hi h)]
  rfl
end Lk
set_option Elab.async false
set_option linter.all false
set_option maxRecDepth 100000
set_option autoImplicit false
namespace Lk
open PySem PySem.Spec PyProof.Rows L2 PD
noncomputable def tabN (s : Int) (n : Nat) : Nat → List (List Int)
  | 0 => []
  | k + 1 => tabN s n k ++ (wayC s n k).map fun w => [w, (k : Int)]
theorem tabN_of (s : Int) (n : Nat) : ∀ k, tabL s n k = (tabN s n k).map ofTI
  | 0 => rfl
  | k + 1 => by
    simp only [tabL, tabN, List.map_append, tabN_of s n k, List.map_map]
    rfl
theorem tabN_2 (s : Int) (n : Nat) : ∀ k, ∀ ns ∈ tabN s n k, ns.length = 2
  | k + 1, ns, h => by
    rcases List.mem_append.1 h with h | h
    · exact tabN_2 s n k ns h
    · obtain ⟨w, _, rfl⟩ := List.mem_map.1 h
      rfl
theorem asInts_ints : ∀ ns : List Int, asInts (ns.map D.int) = some ns
  | [] => rfl
  | n :: ns => by
    have := asInts_ints ns
    simp [asInts, this]
theorem asTL_of (m : Nat) : ∀ nss : List (List Int), (∀ ns ∈ nss, ns.length = m) → asTL m (nss.map ofTI) = some nss
  | [], _ => rfl
  | ns :: nss, h => by
    have ih := asTL_of m nss fun x hx => h x (List.mem_cons_of_mem _ hx)
    have h1 : asTI (ofTI ns) = some ns := asInts_ints ns
    rw [List.map_cons]
    unfold asTL
    simp [h1, h ns List.mem_cons_self, ih]
theorem asTLs_of (nss : List (List Int)) (h : ∀ ns ∈ nss, ns.length = 2) : asTLs (nss.map ofTI) = some nss := by
  cases nss with
  | nil => rfl
  | cons ns r =>
    have h2 := h ns List.mem_cons_self
    have h3 := asTL_of 2 (ns :: r) h
    have h1 : asTI (ofTI ns) = some ns := asInts_ints ns
    rw [List.map_cons] at h3 ⊢
    unfold asTLs
    match ns, h2 with
    | [a, b], _ =>
      simp only [h1]
      exact h3
theorem srt_lst (nss : List (List Int)) (h : ∀ ns ∈ nss, ns.length = 2) : srtD [.lst (nss.map ofTI)] = some (.own (.lst ((sortL nss).map ofTI))) := by
  have h2 := asTLs_of nss h
  cases nss with
  | nil => rfl
  | cons ns r =>
    unfold srtD
    simp only [show asInts ((ns :: r).map ofTI) = none from rfl, h2]
theorem srt_dct (kvs : List (D × D)) (nss : List (List Int)) (e : kvs.map (·.1) = nss.map ofTI) (h : ∀ ns ∈ nss, ns.length = 2) : srtD [.dct true kvs] = some (.own (.lst ((sortL nss).map ofTI))) := by
  have h2 := asTLs_of nss h
  unfold srtD
  simp only [e, h2]
end Lk
set_option Elab.async false
set_option linter.all false
set_option maxRecDepth 100000
set_option autoImplicit false
namespace Lk
open PySem PySem.Spec PyProof.Rows L2 PD
theorem dSeq_nx {A B : DS} {ρ ρ1 : List SV} (h : A ρ = .nx ρ1) : dSeq A B ρ = B ρ1 := by unfold dSeq; rw [h]
theorem dSeq_as {A B C : DS} {ρ ρ1 : List SV} (h : dSeq A B ρ = .nx ρ1) : dSeq A (dSeq B C) ρ = C ρ1 := by
  unfold dSeq at h ⊢
  cases e : A ρ with
  | nx ρ2 => rw [e] at h; simp only at h ⊢; rw [h]
  | _ => rw [e] at h; cases h
/-- a loop by an invariant over what is still to come -/
theorem forL_list {g : DG} {b : DS} (I : List D → List SV → Prop) (h : ∀ d ds ρ, I (d :: ds) ρ → ∃ ρ1 ρ2, g d ρ = some ρ1 ∧ (b ρ1 = .nx ρ2 ∨ b ρ1 = .ct ρ2) ∧ I ds ρ2) : ∀ ds ρ, I ds ρ → ∃ ρ', dForL g b ds ρ = .nx ρ' ∧ I [] ρ'
  | [], ρ, hi => ⟨ρ, rfl, hi⟩
  | d :: ds, ρ, hi => by
    obtain ⟨ρ1, ρ2, h1, h2, h3⟩ := h d ds ρ hi
    obtain ⟨ρ', h4, h5⟩ := forL_list I h ds ρ2 h3
    refine ⟨ρ', ?_, h5⟩
    unfold dForL
    rw [h1]
    rcases h2 with h2 | h2 <;> (simp only [h2]; exact h4)
/-- a loop over range by an invariant -/
theorem forL_inv {g : DG} {b : DS} (I : Nat → List SV → Prop) (n : Nat) (h : ∀ i ρ, i < n → I i ρ → ∃ ρ1 ρ2, g (.int (i : Nat)) ρ = some ρ1 ∧ (b ρ1 = .nx ρ2 ∨ b ρ1 = .ct ρ2) ∧ I (i + 1) ρ2) (ρ : List SV) (h0 : I 0 ρ) : ∃ ρ', dForL g b (upto 0 n) ρ = .nx ρ' ∧ I n ρ' := by
  have key : ∀ k i ρ, i + k = n → I i ρ → ∃ ρ', dForL g b ((List.range' i k).map fun j => D.int (0 + (j : Nat))) ρ = .nx ρ' ∧ I n ρ' := by
    intro k
    induction k with
    | zero => intro i ρ hi hI; rw [show n = i by omega]; exact ⟨ρ, rfl, hI⟩
    | succ k ih =>
      intro i ρ hi hI
      obtain ⟨ρ1, ρ2, h1, h2, h3⟩ := h i ρ (by omega) hI
      obtain ⟨ρ', h4, h5⟩ := ih (i + 1) ρ2 (by omega) h3
      refine ⟨ρ', ?_, h5⟩
      rw [List.range'_succ, List.map_cons]
      unfold dForL
      rw [Int.zero_add, h1]
      rcases h2 with h2 | h2 <;> (simp only [h2]; exact h4)
  have := key n 0 ρ (by omega) h0
  unfold upto
  rw [List.range_eq_range']
  exact this
/-! tuples of ints as plain data -/
def tiP (ns : List Int) : PyData := .tuple (ns.map .int)
theorem toPys_ints : ∀ ns : List Int, toPys (ns.map D.int) = some (ns.map PyData.int)
  | [] => rfl
  | n :: ns => by simp only [List.map_cons, toPys, toPy, toPys_ints ns]
theorem toPy_ofTI (ns : List Int) : toPy (ofTI ns) = some (tiP ns) := by
  unfold ofTI tiP
  rw [toPy, toPys_ints]
  rfl
theorem toPys_ofTI : ∀ nss : List (List Int), toPys (nss.map ofTI) = some (nss.map tiP)
  | [] => rfl
  | ns :: nss => by simp only [List.map_cons, toPys, toPy_ofTI, toPys_ofTI nss]
theorem eqvAll_ints : ∀ xs ys : List Int, PyData.eqvAll (xs.map .int) (ys.map .int) = decide (xs = ys)
  | [], [] => by simp [PyData.eqvAll]
  | [], _ :: _ => by simp [PyData.eqvAll]
  | _ :: _, [] => by simp [PyData.eqvAll]
  | x :: xs, y :: ys => by
    rw [List.map_cons, List.map_cons, PyData.eqvAll, PyData.eqv, eqvAll_ints xs ys, Bool.eq_iff_iff]
    simp
theorem eqv_tiP (a b : List Int) : PyData.eqv (tiP a) (tiP b) = decide (a = b) := by
  unfold tiP
  rw [PyData.eqv, eqvAll_ints]
theorem canLay_ints : ∀ ns : List Int, PyData.canLayAll0 (ns.map .int) = true
  | [] => by simp [PyData.canLayAll0]
  | n :: ns => by simp [PyData.canLayAll0, PyData.canLay0, canLay_ints ns]
theorem depthAll_ints : ∀ ns : List Int, PyData.depthAll (ns.map .int) = 0
  | [] => by simp [PyData.depthAll]
  | n :: ns => by simp [PyData.depthAll, PyData.depth, depthAll_ints ns]
theorem canLay_tiP (ns : List Int) : (tiP ns).canLay0 = true := by unfold tiP; rw [PyData.canLay0]; exact canLay_ints ns
theorem depth_tiP (ns : List Int) : (tiP ns).depth = 1 := by unfold tiP; rw [PyData.depth, depthAll_ints]
theorem shaped_tiP (ns : List Int) : SeqAt.shaped (tiP ns) = true := by
  unfold SeqAt.shaped
  rw [canLay_tiP, depth_tiP]
  rfl
theorem canLay_tiPs : ∀ nss : List (List Int), PyData.canLayAll0 (nss.map tiP) = true
  | [] => by simp [PyData.canLayAll0]
  | n :: ns => by simp [PyData.canLayAll0, canLay_tiP, canLay_tiPs ns]
theorem depthAll_tiPs : ∀ nss : List (List Int), PyData.depthAll (nss.map tiP) ≤ 1
  | [] => by simp [PyData.depthAll]
  | n :: ns => by
    rw [List.map_cons, PyData.depthAll, depth_tiP]
    exact Nat.max_le.2 ⟨Nat.le_refl _, depthAll_tiPs ns⟩
theorem shaped_tiPs (nss : List (List Int)) : SeqAt.shaped (.list (nss.map tiP)) = true := by
  unfold SeqAt.shaped
  rw [PyData.canLay0, canLay_tiPs, PyData.depth]
  have := depthAll_tiPs nss
  simp
  omega
theorem eq_ti (a b : List Int) : PD.eqD (ofTI a) (ofTI b) = some (.fz (.bl (decide (a = b)))) := by
  unfold PD.eqD PD.eqR
  rw [toPy_ofTI, toPy_ofTI]
  simp only [shaped_tiP, eqv_tiP]
  simp
theorem ne_ti (a b : List Int) : neD (ofTI a) (ofTI b) = some (.fz (.bl (decide (a ≠ b)))) := by
  unfold neD PD.eqR
  rw [toPy_ofTI, toPy_ofTI]
  simp only [shaped_tiP, eqv_tiP]
  simp
theorem ne_int (v w : Int) : neD (.int v) (.int w) = some (.fz (.bl (decide (v ≠ w)))) := by
  have h := he v w
  unfold PD.eqD PD.eqR at h
  unfold neD PD.eqR
  simp only [PD.toPy] at h ⊢
  split at h
  · rename_i h2
    rw [if_pos h2]
    simp at h ⊢
    rw [h]
  · cases h
theorem any_tiP (a : List Int) (l : List (List Int)) : ((l.map tiP).any fun z => PyData.eqv z (tiP a)) = decide (a ∈ l) := by
  rw [List.any_map, Bool.eq_iff_iff, List.any_eq_true, decide_eq_true_eq]
  constructor
  · rintro ⟨y, hy, e⟩
    have e' : PyData.eqv (tiP y) (tiP a) = true := e
    rw [eqv_tiP, decide_eq_true_eq] at e'
    exact e' ▸ hy
  · intro hx
    refine ⟨a, hx, ?_⟩
    show PyData.eqv (tiP a) (tiP a) = true
    rw [eqv_tiP, decide_eq_true_eq]
theorem in_ti (a : List Int) (l : List (List Int)) : inA (ofTI a) (.lst (l.map ofTI)) = some (.fz (.bl (decide (a ∈ l)))) := by
  unfold inA orD inD inR0
  simp only [toPy_ofTI, toPys_ofTI, shaped_tiP, shaped_tiPs, any_tiP]
  simp
/-! dicts whose keys are tuples of ints -/
def kvT (ns : List Int) : D × D := (ofTI ns, .bl true)
theorem keys1_ints : ∀ ns : List Int, keyD.keys1 (ns.map D.int) = some (ns.map Sum.inl)
  | [] => rfl
  | n :: ns => by simp [keyD.keys1, keys1_ints ns]
theorem keyD_ti (ns : List Int) : keyD (ofTI ns) = some (.inr (ns.map Sum.inl)) := by
  unfold ofTI
  simp [keyD, keys1_ints]
theorem tkD_ti (ns : List Int) : tkD (ns.map Sum.inl) = ofTI ns := by
  unfold tkD ofTI
  rw [List.map_map]
  rfl
theorem inl_inj (a b : List Int) : (some (.inr (a.map Sum.inl)) : Option (Key ⊕ List Key)) = some (.inr (b.map Sum.inl)) ↔ a = b := by
  constructor
  · intro h
    injection h with h
    injection h with h
    exact (List.map_inj_right (fun x y e => by injection e)).1 h
  · rintro rfl; rfl
theorem key_is (a b : List Int) : decide (keyD (kvT a).1 = some (.inr (b.map Sum.inl))) = decide (a = b) := by
  unfold kvT
  rw [keyD_ti]
  exact decide_eq_decide.2 (inl_inj a b)
theorem look_ti (l : List (List Int)) (a : List Int) : lookD (l.map kvT) (.inr (a.map Sum.inl)) = if a ∈ l then some (.bl true) else none := by
  induction l with
  | nil => simp [lookD]
  | cons b l ih =>
    unfold lookD at ih ⊢
    rw [List.map_cons, List.find?_cons, key_is]
    by_cases e : b = a
    · subst e; simp [kvT]
    · have e2 : ¬ a = b := fun h => e h.symm
      simp only [e, decide_false]
      rw [ih]
      simp [e2]
theorem in_dct (a : List Int) (l : List (List Int)) : inA (ofTI a) (.dct true (l.map kvT)) = some (.fz (.bl (decide (a ∈ l)))) := by
  have h1 : inD (ofTI a) (.dct true (l.map kvT)) = none := rfl
  unfold inA orD
  rw [h1]
  simp only [inDct, dgetD, keyD_ti, look_ti]
  by_cases h : a ∈ l <;> simp [h]
theorem pop_ti (a : List Int) (l : List (List Int)) (h : a ∈ l) : pop1D (.dct true (l.map kvT)) [ofTI a] = some (.dct true ((l.filter fun b => decide (b ≠ a)).map kvT), .fz (.bl true)) := by
  unfold pop1D
  simp only [keyD_ti, look_ti, h, if_true]
  unfold dropD
  rw [List.filter_map]
  congr 4
  refine List.filter_congr fun b _ => ?_
  have := key_is b a
  show decide (keyD (kvT b).1 ≠ _) = _
  rw [decide_not, this, decide_not]
theorem put_ti (a : List Int) (l : List (List Int)) (h : a ∉ l) (d : D) : putD (l.map kvT) (.inr (a.map Sum.inl)) (tkD (a.map Sum.inl)) (.bl true) = (l ++ [a]).map kvT := by
  unfold putD
  rw [if_neg, tkD_ti]
  · simp [kvT]
  · intro h2
    obtain ⟨p, hp, e⟩ := List.any_eq_true.1 h2
    obtain ⟨b, hb, rfl⟩ := List.mem_map.1 hp
    rw [key_is] at e
    exact h (of_decide_eq_true e ▸ hb)
end Lk
set_option Elab.async false
set_option linter.all false
set_option maxRecDepth 100000
set_option autoImplicit false
namespace Lk
open PySem PySem.Spec PyProof.Rows L2 PD
/-! a draw below 2 for each of a list -/
def bitsL : Int → List D → List D
  | _, [] => []
  | s, x :: xs => (if dr s 2 = 1 then [x] else []) ++ bitsL (nx s) xs
def toldL : Int → List D → List D
  | _, [] => []
  | s, x :: xs => .tup [x, .int (dr s 2)] :: toldL (nx s) xs
theorem toldL_len : ∀ xs s, (toldL s xs).length = xs.length
  | [], _ => rfl
  | x :: xs, s => by simp [toldL, toldL_len xs]
theorem bitsL_len : ∀ xs s, (bitsL s xs).length ≤ xs.length
  | [], _ => Nat.le_refl _
  | x :: xs, s => by
    have := bitsL_len xs (nx s)
    unfold bitsL
    split <;> simp <;> omega
def adl (s : Int) : List D → Int
  | [] => s
  | _ :: xs => adl (nx s) xs
def tkE : DE := dTup (dCons (dVar 4) (dCons (dMethU "Draws" "take" f_Draws_take (dVar 2) (dCons (dC (.int 2)) dNil)) dNil))
theorem tkE_run (x0 x1 x3 x5 : SV) (s : Int) (x : D) : tkE [x0, x1, .own (obj s), x3, .fz x, x5] = .ok (.fz (.tup [x, .int (dr s 2)])) [x0, x1, .own (obj (nx s)), x3, .fz x, x5] := by
  have hr := run_take s 2 (by omega)
  have hio : f_Draws_take.io = [true, true] := rfl
  generalize dr s 2 = a at hr ⊢
  generalize nx s = s1 at hr ⊢
  unfold obj at hr ⊢
  have hne : (Str.ofString "take" == Str.ofString "its_state") = false := by decide +kernel
  simp [PD.mkF, PD.dSeq, PD.dNext, PD.dSet, PD.dRet, PD.dRetN, PD.dIfS, PD.dDrop, PD.dTup, PD.dLst, PD.dCons, PD.dNil, PD.dOpN, PD.dOp2, PD.dOp1, PD.dVar, PD.dC, PD.R.bind, PD.R.bindS, PD.rd, PD.rdL, PD.intD, PD.orD, PD.mulI, PD.addI, PD.subD, PD.modD, PD.fdivD, PD.fI, PD.fB, PD.ltI, PD.leI, PD.gtI, PD.geI, PD.pick, PD.fzL, PD.fz1, PD.inR, PD.outR, PD.yes2, PD.dCall, PD.prep, PD.prep1, PD.wb, PD.toRV, PD.dB, PD.dTru, PD.truD, PD.dNot, PD.dAnd, PD.dOr, PD.dIf, PD.dNotV, PD.dAndV, PD.dOrV, PD.dPar, PD.dPar3, PD.isN, PD.notN, PD.ixA, PD.ixD, PD.ixDct, L2.atI, L2.ixN, PD.lenD, PD.min2D, PD.max2D, PD.absD, PD.tupleD, PD.listD, PD.dAsg, PD.bName, PD.bTup, PD.bCons, PD.bNil, PD.dStore, PD.storeD, PD.dAugS, PD.getS, PD.dFld, PD.dStFld, PD.putFD, PD.dMethU, PD.callR, PD.dMake, PD.wipeR, PD.back, List.lookup, PD.ioP, tkE, hr, hio, hne]
theorem told_lc (x0 x1 x3 x5 : SV) : ∀ (xs acc : List D) (s : Int), acc.length + xs.length < 1000000 →
    dLcL (bName 4) dYes tkE [4] xs acc [x0, x1, .own (obj s), x3, .no, x5] = .ok (acc ++ toldL s xs) [x0, x1, .own (obj (adl s xs)), x3, .no, x5]
  | [], acc, s, _ => by simp [dLcL, toldL, adl]
  | x :: xs, acc, s, hl => by
    simp only [List.length_cons] at hl
    have ih := told_lc x0 x1 x3 x5 xs (acc ++ [.tup [x, .int (dr s 2)]]) (nx s) (by simp only [List.length_append, List.length_cons, List.length_nil]; omega)
    have hb : bName 4 x [x0, x1, .own (obj s), x3, .no, x5] = some [x0, x1, .own (obj s), x3, .fz x, x5] := by simp [bName]
    have ha : acc.length < 1000000 := by omega
    unfold dLcL
    rw [hb]
    simp only [dYes, tkE_run, fz1, ha, if_true, wipeR]
    simp only [List.set]
    rw [ih]
    simp [toldL, adl]
theorem bits_lc (x0 x1 x2 x3 : SV) : ∀ (xs acc : List D) (s : Int), acc.length + xs.length < 1000000 →
    dLcL (bTup 2 (bCons (bName 4) (bCons (bName 5) bNil))) (dB (dOp2 eqD (dVar 5) (dC (.int 1)))) (dVar 4) [4, 5] (toldL s xs) acc [x0, x1, x2, x3, .no, .no] = .ok (acc ++ bitsL s xs) [x0, x1, x2, x3, .no, .no]
  | [], acc, s, _ => by simp [dLcL, toldL, bitsL]
  | x :: xs, acc, s, hl => by
    simp only [List.length_cons] at hl
    have hb : bTup 2 (bCons (bName 4) (bCons (bName 5) bNil)) (.tup [x, .int (dr s 2)]) [x0, x1, x2, x3, .no, .no] = some [x0, x1, x2, x3, .fz x, .fz (.int (dr s 2))] := by simp [bTup, bCons, bName, bNil]
    have ht : (dB (dOp2 eqD (dVar 5) (dC (.int 1)))) [x0, x1, x2, x3, .fz x, .fz (.int (dr s 2))] = .ok (decide (dr s 2 = 1)) [x0, x1, x2, x3, .fz x, .fz (.int (dr s 2))] := by
      simp [dB, dOp2, dVar, dC, R.bind, rd, he]
    have hv : dVar 4 [x0, x1, x2, x3, .fz x, .fz (.int (dr s 2))] = .ok (.fz x) [x0, x1, x2, x3, .fz x, .fz (.int (dr s 2))] := by simp [dVar]
    have ha : acc.length < 1000000 := by omega
    unfold toldL dLcL
    rw [hb]
    simp only [ht]
    by_cases h1 : dr s 2 = 1
    · have ih := bits_lc x0 x1 x2 x3 xs (acc ++ [x]) (nx s) (by simp only [List.length_append, List.length_cons, List.length_nil]; omega)
      simp only [h1, decide_true] at hv ⊢
      simp only [hv, fz1, ha, if_true, wipeR]
      simp only [List.set]
      rw [ih]
      simp [bitsL, h1]
    · have ih := bits_lc x0 x1 x2 x3 xs acc (nx s) (by omega)
      simp only [h1, decide_false, wipeR]
      simp only [List.set]
      rw [ih]
      simp [bitsL, h1]
/-! what the law does with the same draws: all = all + [one] * number -/
theorem rep_bit (s : Int) (x : D) : repL (.lst [x]) (.int (dr s 2)) = some (.own (.lst (if dr s 2 = 1 then [x] else []))) := by
  obtain ⟨h1, h2⟩ := dr_range s (m := 2) (by omega)
  generalize dr s 2 = v at h1 h2 ⊢
  by_cases h : v = 1
  · subst h; rfl
  · have : v = 0 := by omega
    subst this; rfl
end Lk
set_option Elab.async false
set_option linter.all false
set_option maxRecDepth 100000
set_option autoImplicit false
namespace Lk
open PySem PySem.Spec PyProof.Rows L2 PD
theorem fin1 {io : List Bool} {n : Nat} {b : DS} {svs ρ0 ρ as : List SV} {sv : SV} (e : svs ++ List.replicate (n - svs.length) .no = ρ0) (h : b ρ0 = .rt sv ρ) (p : pick svs ρ = as) : (mkF io n b).run svs = .ret sv as := by
  rw [mkF_rt e h, p]
theorem for_of (E : DE) (B : DS) (g : DG) (ρ : List SV) (j : Int) (h62 : small62 j = true) (e : E ρ = .ok (.fz (.int j)) ρ) :
   dFor (dRng1 (dCons E dNil)) g B ρ = dForL g B (upto 0 j.toNat) ρ := by
  unfold dFor dRng1
  simp only [dCons, dNil, R.bind, R.bindS, e]
  simp only [h62, if_true]
theorem len_of (c : List D) (ρ : List SV) : (dOpN lenD (dCons (dVar 0) dNil)) (.fz (.tup c) :: ρ) = .ok (.fz (.int c.length)) (.fz (.tup c) :: ρ) := by
  simp only [dOpN, lenD, dCons, dVar, dNil, R.bind, rd, rdL, List.getElem?_cons_zero]
theorem for_len (B : DS) (g : DG) (c : List D) (ρ : List SV) (j : Int) (hj : (c.length : Int) = j) (h62 : small62 j = true) :
   dFor (dRng1 (dCons (dOpN lenD (dCons (dVar 0) dNil)) dNil)) g B (.fz (.tup c) :: ρ) = dForL g B (upto 0 j.toNat) (.fz (.tup c) :: ρ) := by
  have e := len_of c ρ
  rw [hj] at e
  exact for_of _ B g _ j h62 e
theorem lto_b : b_u_law_table_of = (dSeq (dSet 1 (dLst dNil)) (dSeq (dFor (dRng1 (dCons (dOpN lenD (dCons (dVar 0) dNil)) dNil)) (bName 2) toB)
 (dRet (dTup (dCons (dOpN lenD (dCons (dVar 0) dNil)) (dCons (dOpN tupleD (dCons (dOpN srtD (dCons (dVar 1) dNil)) dNil)) dNil)))))) := rfl
noncomputable def tabD (s : Int) (n : Nat) : List D := (sortL (tabN s n n)).map ofTI
theorem lto_fin (s : Int) (n : Nat) (j : Int) (x y : SV) (hj : ((chartL s n).length : Int) = j) (h62 : small62 j = true) (c L : List D) (nss : List (List Int)) (hc : chartL s n = c) (hL : L = nss.map ofTI) (h2 : ∀ ns ∈ nss, ns.length = 2)
    (hl : dForL (bName 2) toB (upto 0 j.toNat) [.fz (.tup c), .own (.lst []), .no, .no] = .nx [.fz (.tup c), .own (.lst L), x, y]) :
    f_u_law_table_of.run [.fz (.tup c)] = .ret (.fz (.tup [.int j, .tup ((sortL nss).map ofTI)])) [.no] := by
  have hs := srt_lst nss h2
  rw [← hL] at hs
  rw [hc] at hj
  have hf := for_len toB (bName 2) c [.own (.lst []), .no, .no] j hj h62
  rw [hl] at hf
  have h := lto_run _ srtD _ _ _ _ _ hf hs
  rw [hj] at h
  rw [← lto_b] at h
  rw [show f_u_law_table_of = mkF [true] 4 b_u_law_table_of from rfl]
  exact fin1 rfl h rfl
theorem run_law_table_of (s : Int) (n : Nat) (hn : n ≤ 100) : f_u_law_table_of.run [.fz (.tup (chartL s n))] = .ret (.fz (.tup [.int n, .tup (tabD s n)])) [.no] := by
  have hl := to_loop s n hn
  have h62 := sm62 (n := n) (by omega)
  have hlen : ((chartL s n).length : Int) = n := by rw [chartL_length]
  unfold tabD
  have e2 : ((n : Int)).toNat = n := Int.toNat_natCast n
  rw [← e2] at hl
  exact lto_fin s n n _ _ hlen h62 _ _ (tabN s n n) rfl (tabN_of s n n) (tabN_2 s n n) hl
end Lk
set_option Elab.async false
set_option linter.all false
set_option maxRecDepth 100000
set_option autoImplicit false
namespace Lk
open PySem PySem.Spec PyProof.Rows L2 PD
theorem dl_b : b_drawn_lot = (dSeq (dSet 2 (dMake "Draws" f_DrawsX_initX (dCons (dVar 0) dNil)))
 (dSeq (dSet 3 (dLc (dRng1 (dCons (dVar 1) dNil)) (bName 4) dYes tkE [4]))
 (dRet (dOpN tupleD (dCons (dLc (dItS (dVar 3)) (bTup 2 (bCons (bName 4) (bCons (bName 5) bNil))) (dB (dOp2 eqD (dVar 5) (dC (.int 1)))) (dVar 4) [4, 5]) dNil))))) := rfl
theorem mk_draws (x1 x2 x3 x4 x5 : SV) (seed : Int) : (dSet 2 (dMake "Draws" f_DrawsX_initX (dCons (dVar 0) dNil))) [.fz (.int seed), x1, x2, x3, x4, x5] = .nx [.fz (.int seed), x1, .own (obj (seed.fmod 2147483647)), x3, x4, x5] := by
  have hr := run_init seed
  have hio : f_DrawsX_initX.io = [true, true] := rfl
  generalize seed.fmod 2147483647 = s at hr ⊢
  simp [PD.mkF, PD.dSeq, PD.dNext, PD.dSet, PD.dRet, PD.dRetN, PD.dIfS, PD.dDrop, PD.dTup, PD.dLst, PD.dCons, PD.dNil, PD.dOpN, PD.dOp2, PD.dOp1, PD.dVar, PD.dC, PD.R.bind, PD.R.bindS, PD.rd, PD.rdL, PD.intD, PD.orD, PD.mulI, PD.addI, PD.subD, PD.modD, PD.fdivD, PD.fI, PD.fB, PD.ltI, PD.leI, PD.gtI, PD.geI, PD.pick, PD.fzL, PD.fz1, PD.inR, PD.outR, PD.yes2, PD.dCall, PD.prep, PD.prep1, PD.wb, PD.toRV, PD.dB, PD.dTru, PD.truD, PD.dNot, PD.dAnd, PD.dOr, PD.dIf, PD.dNotV, PD.dAndV, PD.dOrV, PD.dPar, PD.dPar3, PD.isN, PD.notN, PD.ixA, PD.ixD, PD.ixDct, L2.atI, L2.ixN, PD.lenD, PD.min2D, PD.max2D, PD.absD, PD.tupleD, PD.listD, PD.dAsg, PD.bName, PD.bTup, PD.bCons, PD.bNil, PD.dStore, PD.storeD, PD.dAugS, PD.getS, PD.dFld, PD.dStFld, PD.putFD, PD.dMethU, PD.callR, PD.dMake, PD.wipeR, PD.back, List.lookup, PD.ioP, hr, hio]
theorem told_set (IT : DI) (x0 x1 x3 x5 : SV) (s : Int) (xs : List D) (hi : IT [x0, x1, .own (obj s), x3, .no, x5] = .ok xs [x0, x1, .own (obj s), x3, .no, x5]) (hl : xs.length < 1000000) :
    (dSet 3 (dLc IT (bName 4) dYes tkE [4])) [x0, x1, .own (obj s), x3, .no, x5] = .nx [x0, x1, .own (obj (adl s xs)), .own (.lst (toldL s xs)), .no, x5] := by
  have h := told_lc x0 x1 x3 x5 xs [] s (by simpa using hl)
  have e : (dLc IT (bName 4) dYes tkE [4]) [x0, x1, .own (obj s), x3, .no, x5] = .ok (.own (.lst (toldL s xs))) [x0, x1, .own (obj (adl s xs)), x3, .no, x5] := by
    unfold dLc
    rw [hi]
    simp only [R.bind, wipeR, List.set]
    rw [h]
    simp [back]
  unfold dSet
  rw [e]
  simp [R.bindS, PD.inR]
theorem bits_of (x0 x1 x2 : SV) (s : Int) (xs : List D) (hl : xs.length < 1000000) :
    (dLc (dItS (dVar 3)) (bTup 2 (bCons (bName 4) (bCons (bName 5) bNil))) (dB (dOp2 eqD (dVar 5) (dC (.int 1)))) (dVar 4) [4, 5]) [x0, x1, x2, .own (.lst (toldL s xs)), .no, .no] = .ok (.own (.lst (bitsL s xs))) [x0, x1, x2, .fz (.lst (toldL s xs)), .no, .no] := by
  have h := bits_lc x0 x1 x2 (.fz (.lst (toldL s xs))) xs [] s (by simpa using hl)
  have hi : (dItS (dVar 3)) [x0, x1, x2, .own (.lst (toldL s xs)), .no, .no] = .ok (toldL s xs) [x0, x1, x2, .fz (.lst (toldL s xs)), .no, .no] := by
    simp [dItS, dVar, R.bind, fz1]
  unfold dLc
  rw [hi]
  simp only [R.bind, wipeR, List.set]
  rw [h]
  simp [back]
theorem rng_it (x0 x2 x3 x4 x5 : SV) (j : Int) (h : small62 j = true) : (dRng1 (dCons (dVar 1) dNil)) [x0, .fz (.int j), x2, x3, x4, x5] = .ok (upto 0 j.toNat) [x0, .fz (.int j), x2, x3, x4, x5] := by
  simp [dRng1, dCons, dVar, dNil, R.bind, h]
theorem upto_len (a : Int) (n : Nat) : (upto a n).length = n := by simp [upto]
theorem dl_run (seed j : Int) (h : small62 j = true) (hl : (upto 0 j.toNat).length < 1000000) : b_drawn_lot [.fz (.int seed), .fz (.int j), .no, .no, .no, .no] = .rt (.fz (.tup (bitsL (seed.fmod 2147483647) (upto 0 j.toNat)))) [.fz (.int seed), .fz (.int j), .own (obj (adl (seed.fmod 2147483647) (upto 0 j.toNat))), .fz (.lst (toldL (seed.fmod 2147483647) (upto 0 j.toNat))), .no, .no] := by
  rw [dl_b, dSeq_nx (mk_draws _ _ _ _ _ seed), dSeq_nx (told_set _ _ _ _ _ _ _ (rng_it _ _ _ _ _ j h) hl)]
  have hb := bits_of (.fz (.int seed)) (.fz (.int j)) (.own (obj (adl (seed.fmod 2147483647) (upto 0 j.toNat)))) (seed.fmod 2147483647) (upto 0 j.toNat) hl
  generalize dLc (dItS (dVar 3)) (bTup 2 (bCons (bName 4) (bCons (bName 5) bNil))) (dB (dOp2 eqD (dVar 5) (dC (.int 1)))) (dVar 4) [4, 5] = E at hb ⊢
  simp [dRet, dOpN, dCons, dNil, R.bind, R.bindS, hb, rd, rdL, tupleD, PD.outR]
theorem run_drawn_lot (seed : Int) (n : Nat) (hn : n ≤ 100) : f_drawn_lot.run [.fz (.int seed), .fz (.int n)] = .ret (.fz (.tup (bitsL (seed.fmod 2147483647) (upto 0 n)))) [.no, .no] := by
  have h := dl_run seed n (sm62 (by omega)) (by rw [upto_len, Int.toNat_natCast]; omega)
  rw [Int.toNat_natCast] at h
  rw [show f_drawn_lot = mkF [true, true] 6 b_drawn_lot from rfl]
  exact fin1 rfl h rfl
end Lk
set_option Elab.async false
set_option linter.all false
set_option maxRecDepth 100000
set_option autoImplicit false
namespace Lk
open PySem PySem.Spec PyProof.Rows L2 PD
/-! all couples -/
def prD (a b : D) : D := .tup [a, b]
def row1 (n a : Int) : List D := (upto (a + 1) (n - (a + 1)).toNat).map (prD (.int a))
def cps (n : Int) : Nat → List D
  | 0 => []
  | k + 1 => cps n k ++ row1 n k
theorem row1_len (n a : Int) : (row1 n a).length = (n - (a + 1)).toNat := by simp [row1, upto_len]
theorem cps_len (n : Int) : ∀ k, (cps n k).length ≤ k * n.toNat
  | 0 => by simp [cps]
  | k + 1 => by
    have h1 := cps_len n k
    have h2 := row1_len n k
    rw [Nat.succ_mul]
    simp only [cps, List.length_append]
    omega
theorem lc_row (x0 x1 : SV) (a : D) : ∀ (ds acc : List D), acc.length + ds.length < 1000000 →
    dLcL (bName 3) dYes (dTup (dCons (dVar 2) (dCons (dVar 3) dNil))) [3] ds acc [x0, x1, .fz a, .no] = .ok (acc ++ ds.map (prD a)) [x0, x1, .fz a, .no]
  | [], acc, _ => by simp [dLcL]
  | d :: ds, acc, hl => by
    simp only [List.length_cons] at hl
    have ih := lc_row x0 x1 a ds (acc ++ [prD a d]) (by simp only [List.length_append, List.length_cons, List.length_nil]; omega)
    have hb : bName 3 d [x0, x1, .fz a, .no] = some [x0, x1, .fz a, .fz d] := by simp [bName]
    have ht : (dTup (dCons (dVar 2) (dCons (dVar 3) dNil))) [x0, x1, .fz a, .fz d] = .ok (.fz (prD a d)) [x0, x1, .fz a, .fz d] := by simp [PD.mkF, PD.dSeq, PD.dNext, PD.dSet, PD.dRet, PD.dRetN, PD.dIfS, PD.dDrop, PD.dTup, PD.dLst, PD.dCons, PD.dNil, PD.dOpN, PD.dOp2, PD.dOp1, PD.dVar, PD.dC, PD.R.bind, PD.R.bindS, PD.rd, PD.rdL, PD.intD, PD.orD, PD.mulI, PD.addI, PD.subD, PD.modD, PD.fdivD, PD.fI, PD.fB, PD.ltI, PD.leI, PD.gtI, PD.geI, PD.pick, PD.fzL, PD.fz1, PD.inR, PD.outR, PD.yes2, PD.dCall, PD.prep, PD.prep1, PD.wb, PD.toRV, PD.dB, PD.dTru, PD.truD, PD.dNot, PD.dAnd, PD.dOr, PD.dIf, PD.dNotV, PD.dAndV, PD.dOrV, PD.dPar, PD.dPar3, PD.isN, PD.notN, PD.ixA, PD.ixD, PD.ixDct, L2.atI, L2.ixN, PD.lenD, PD.min2D, PD.max2D, PD.absD, PD.tupleD, PD.listD, PD.dAsg, PD.bName, PD.bTup, PD.bCons, PD.bNil, PD.dStore, PD.storeD, PD.dAugS, PD.getS, PD.dFld, PD.dStFld, PD.putFD, PD.dMethU, PD.callR, PD.dMake, PD.wipeR, PD.back, List.lookup, PD.ioP, prD]
    have ha : acc.length < 1000000 := by omega
    unfold dLcL
    rw [hb]
    simp only [dYes, ht, fz1, ha, if_true, wipeR]
    simp only [List.set]
    rw [ih]
    simp
theorem lc2_row (x0 : SV) (a : D) : ∀ (ds acc : List D), acc.length + ds.length < 1000000 →
    dLc2I (bName 2) dYes (dTup (dCons (dVar 1) (dCons (dVar 2) dNil))) [2] ds acc [x0, .fz a, .no] = .ok (acc ++ ds.map (prD a)) [x0, .fz a, .no]
  | [], acc, _ => by simp [dLc2I]
  | d :: ds, acc, hl => by
    simp only [List.length_cons] at hl
    have ih := lc2_row x0 a ds (acc ++ [prD a d]) (by simp only [List.length_append, List.length_cons, List.length_nil]; omega)
    have hb : bName 2 d [x0, .fz a, .no] = some [x0, .fz a, .fz d] := by simp [bName]
    have ht : (dTup (dCons (dVar 1) (dCons (dVar 2) dNil))) [x0, .fz a, .fz d] = .ok (.fz (prD a d)) [x0, .fz a, .fz d] := by simp [PD.mkF, PD.dSeq, PD.dNext, PD.dSet, PD.dRet, PD.dRetN, PD.dIfS, PD.dDrop, PD.dTup, PD.dLst, PD.dCons, PD.dNil, PD.dOpN, PD.dOp2, PD.dOp1, PD.dVar, PD.dC, PD.R.bind, PD.R.bindS, PD.rd, PD.rdL, PD.intD, PD.orD, PD.mulI, PD.addI, PD.subD, PD.modD, PD.fdivD, PD.fI, PD.fB, PD.ltI, PD.leI, PD.gtI, PD.geI, PD.pick, PD.fzL, PD.fz1, PD.inR, PD.outR, PD.yes2, PD.dCall, PD.prep, PD.prep1, PD.wb, PD.toRV, PD.dB, PD.dTru, PD.truD, PD.dNot, PD.dAnd, PD.dOr, PD.dIf, PD.dNotV, PD.dAndV, PD.dOrV, PD.dPar, PD.dPar3, PD.isN, PD.notN, PD.ixA, PD.ixD, PD.ixDct, L2.atI, L2.ixN, PD.lenD, PD.min2D, PD.max2D, PD.absD, PD.tupleD, PD.listD, PD.dAsg, PD.bName, PD.bTup, PD.bCons, PD.bNil, PD.dStore, PD.storeD, PD.dAugS, PD.getS, PD.dFld, PD.dStFld, PD.putFD, PD.dMethU, PD.callR, PD.dMake, PD.wipeR, PD.back, List.lookup, PD.ioP, prD]
    have ha : acc.length < 1000000 := by omega
    unfold dLc2I
    rw [hb]
    simp only [dYes, ht, fz1, ha, if_true, wipeR]
    simp only [List.set]
    rw [ih]
    simp
def rg2 (k l : Nat) : DI := dRng2 (dCons (dOp2 (orD addI (orD catL (orD catT catS))) (dVar k) (dC (.int 1))) (dCons (dVar l) dNil))
theorem rg2_run (n a : Int) (x1 x3 : SV) (h1 : small62 n = true) (h2 : small62 (a + 1) = true) : rg2 2 0 [.fz (.int n), x1, .fz (.int a), x3] = .ok (upto (a + 1) (n - (a + 1)).toNat) [.fz (.int n), x1, .fz (.int a), x3] := by
  simp [rg2, dRng2, dCons, dOp2, dVar, dC, dNil, R.bind, rd, orD, addI, fI, yes2, h1, h2]
theorem rg2_run2 (n a : Int) (x2 : SV) (h1 : small62 n = true) (h2 : small62 (a + 1) = true) : rg2 1 0 [.fz (.int n), .fz (.int a), x2] = .ok (upto (a + 1) (n - (a + 1)).toNat) [.fz (.int n), .fz (.int a), x2] := by
  simp [rg2, dRng2, dCons, dOp2, dVar, dC, dNil, R.bind, rd, orD, addI, fI, yes2, h1, h2]
def lcB : DS := (dDrop (dMut "list" extD (dVar 1) (dCons (dLc (rg2 2 0) (bName 3) dYes (dTup (dCons (dVar 2) (dCons (dVar 3) dNil))) [3]) dNil)))
theorem lcB_run (n a : Int) (L : List D) (h1 : small62 n = true) (h2 : small62 (a + 1) = true) (hl : L.length + (row1 n a).length ≤ 600000) :
    lcB [.fz (.int n), .own (.lst L), .fz (.int a), .no] = .nx [.fz (.int n), .own (.lst (L ++ row1 n a)), .fz (.int a), .no] := by
  refine ext_run _ _ a L (row1 n a) ?_ (okLen_le hl)
  have h := lc_row (.fz (.int n)) (.own (.lst L)) (.int a) (upto (a + 1) (n - (a + 1)).toNat) [] (by rw [upto_len]; rw [row1_len] at hl; simp only [List.length_nil]; omega)
  unfold dLc
  rw [rg2_run n a _ _ h1 h2]
  simp only [R.bind, wipeR, List.set]
  rw [h]
  simp [back, row1]
theorem lco_b : b_u_law_couples = (dSeq (dSet 1 (dLst dNil)) (dSeq (dFor (dRng1 (dCons (dVar 0) dNil)) (bName 2) lcB) (dRet (dVar 1)))) := rfl
theorem lco_run (FF : DS) (j : Int) (L : List D) (x y : SV) (hf : FF [.fz (.int j), .own (.lst []), .no, .no] = .nx [.fz (.int j), .own (.lst L), x, y]) :
    (dSeq (dSet 1 (dLst dNil)) (dSeq FF (dRet (dVar 1)))) [.fz (.int j), .no, .no, .no] = .rt (.own (.lst L)) [.fz (.int j), .no, x, y] := by
  simp [PD.mkF, PD.dSeq, PD.dNext, PD.dSet, PD.dRet, PD.dRetN, PD.dIfS, PD.dDrop, PD.dTup, PD.dLst, PD.dCons, PD.dNil, PD.dOpN, PD.dOp2, PD.dOp1, PD.dVar, PD.dC, PD.R.bind, PD.R.bindS, PD.rd, PD.rdL, PD.intD, PD.orD, PD.mulI, PD.addI, PD.subD, PD.modD, PD.fdivD, PD.fI, PD.fB, PD.ltI, PD.leI, PD.gtI, PD.geI, PD.pick, PD.fzL, PD.fz1, PD.inR, PD.outR, PD.yes2, PD.dCall, PD.prep, PD.prep1, PD.wb, PD.toRV, PD.dB, PD.dTru, PD.truD, PD.dNot, PD.dAnd, PD.dOr, PD.dIf, PD.dNotV, PD.dAndV, PD.dOrV, PD.dPar, PD.dPar3, PD.isN, PD.notN, PD.ixA, PD.ixD, PD.ixDct, L2.atI, L2.ixN, PD.lenD, PD.min2D, PD.max2D, PD.absD, PD.tupleD, PD.listD, PD.dAsg, PD.bName, PD.bTup, PD.bCons, PD.bNil, PD.dStore, PD.storeD, PD.dAugS, PD.getS, PD.dFld, PD.dStFld, PD.putFD, PD.dMethU, PD.callR, PD.dMake, PD.wipeR, PD.back, List.lookup, PD.ioP, hf]
theorem sm62' {a : Int} (h1 : 0 ≤ a) (h : a ≤ 1000) : small62 a = true := by
  unfold small62
  simp
  omega
theorem lc_bound (n k : Nat) (hn : n ≤ 100) (hk : k < n) : (cps n k).length + (row1 n k).length ≤ 600000 := by
  have h1 := cps_len n k
  have h2 := row1_len n k
  rw [Int.toNat_natCast] at h1
  have h3 : k * n ≤ 100 * 100 := Nat.mul_le_mul (by omega) hn
  omega
theorem lc_loop (n : Nat) (hn : n ≤ 100) : ∃ x, dForL (bName 2) lcB (upto 0 n) [.fz (.int n), .own (.lst []), .no, .no] = .nx [.fz (.int n), .own (.lst (cps n n)), x, .no] := by
  obtain ⟨ρ', h1, x, rfl⟩ := forL_inv (g := bName 2) (b := lcB) (fun k ρ => ∃ x, ρ = [.fz (.int n), .own (.lst (cps n k)), x, .no]) n (fun i ρ hi hI => by
    obtain ⟨x, rfl⟩ := hI
    refine ⟨_, _, by simp only [bName]; rfl, .inl (lcB_run n i _ (sm62 (by omega)) (sm62' (by omega) (by omega)) (lc_bound n i hn hi)), _, rfl⟩) _ ⟨_, rfl⟩
  exact ⟨x, h1⟩
theorem lco_fin (j : Int) (h62 : small62 j = true) (L : List D) (x : SV) (hl : dForL (bName 2) lcB (upto 0 j.toNat) [.fz (.int j), .own (.lst []), .no, .no] = .nx [.fz (.int j), .own (.lst L), x, .no]) :
    f_u_law_couples.run [.fz (.int j)] = .ret (.own (.lst L)) [.no] := by
  have hf := for_rng 0 lcB (bName 2) j h62 [.fz (.int j), .own (.lst []), .no, .no] rfl
  rw [hl] at hf
  have h := lco_run _ j _ _ _ hf
  rw [← lco_b] at h
  rw [show f_u_law_couples = mkF [true] 4 b_u_law_couples from rfl]
  exact fin1 rfl h rfl
theorem run_law_couples (n : Nat) (hn : n ≤ 100) : f_u_law_couples.run [.fz (.int n)] = .ret (.own (.lst (cps n n))) [.no] := by
  obtain ⟨x, hl⟩ := lc_loop n hn
  have e2 : ((n : Int)).toNat = n := Int.toNat_natCast n
  refine lco_fin n (sm62 (by omega)) _ x ?_
  rw [e2]
  exact hl
def ac2 : List D → List D → List SV → PD.R (List D) := dLc2L (bName 1) dYes (rg2 1 0) (bName 2) dYes (dTup (dCons (dVar 1) (dCons (dVar 2) dNil))) [1, 2] [2]
theorem lc2_cons {g g1 : DG} {tt tt1 : DT} {it1 : DI} {te : DE} {vs vs1 : List Nat} {d : D} {ds acc ds1 acc' : List D} {ρ ρ1 ρ3 ρ4 : List SV} (hg : g d ρ = some ρ1) (ht : tt ρ1 = .ok true ρ1) (hi : it1 ρ1 = .ok ds1 ρ3)
    (hI : dLc2I g1 tt1 te vs1 ds1 acc (wipeR ρ3 vs1) = .ok acc' ρ4) : dLc2L g tt it1 g1 tt1 te vs vs1 (d :: ds) acc ρ = dLc2L g tt it1 g1 tt1 te vs vs1 ds acc' (wipeR ρ4 vs) := by
  rw [dLc2L]
  simp only [hg, ht, hi, hI]
theorem ac_step (n a : Int) (ds acc : List D) (h1 : small62 n = true) (h2 : small62 (a + 1) = true) (hl : acc.length + (row1 n a).length < 1000000) :
    ac2 (.int a :: ds) acc [.fz (.int n), .no, .no] = ac2 ds (acc ++ row1 n a) [.fz (.int n), .no, .no] := by
  have hb : bName 1 (.int a) [.fz (.int n), .no, .no] = some [.fz (.int n), .fz (.int a), .no] := by simp [bName]
  rw [row1_len] at hl
  exact lc2_cons hb rfl (rg2_run2 n a .no h1 h2) (lc2_row (.fz (.int n)) (.int a) (upto (a + 1) (n - (a + 1)).toNat) acc (by rw [upto_len]; exact hl))
theorem ac_loop (n : Nat) (hn : n ≤ 100) : ∀ m k, k + m = n →
    ac2 ((List.range' k m).map fun j => D.int (0 + (j : Nat))) (cps n k) [.fz (.int n), .no, .no] = .ok (cps n n) [.fz (.int n), .no, .no]
  | 0, k, h => by
    rw [show k = n by omega]
    rfl
  | m + 1, k, h => by
    have ih := ac_loop n hn m (k + 1) (by omega)
    have hbd := lc_bound n k hn (by omega)
    rw [List.range'_succ, List.map_cons, Int.zero_add, ac_step n k _ _ (sm62 (by omega)) (sm62' (by omega) (by omega)) (by omega)]
    exact ih
theorem ac_b : b_all_couples = (dRet (dLc2 (dRng1 (dCons (dVar 0) dNil)) (bName 1) dYes (rg2 1 0) (bName 2) dYes (dTup (dCons (dVar 1) (dCons (dVar 2) dNil))) [1, 2] [2])) := rfl
theorem rng1_of (E : DE) (ρ : List SV) (j : Int) (h62 : small62 j = true) (e : E ρ = .ok (.fz (.int j)) ρ) : dRng1 (dCons E dNil) ρ = .ok (upto 0 j.toNat) ρ := by
  unfold dRng1
  simp only [dCons, dNil, R.bind, e]
  simp only [h62, if_true]
theorem ac_fin (j : Int) (h62 : small62 j = true) (L : List D) (hl : ac2 (upto 0 j.toNat) [] [.fz (.int j), .no, .no] = .ok L [.fz (.int j), .no, .no]) :
    f_all_couples.run [.fz (.int j)] = .ret (.own (.lst L)) [.no] := by
  have hi := rng1_of (dVar 0) [.fz (.int j), .no, .no] j h62 (by simp [dVar])
  have hx : dLc2 (dRng1 (dCons (dVar 0) dNil)) (bName 1) dYes (rg2 1 0) (bName 2) dYes (dTup (dCons (dVar 1) (dCons (dVar 2) dNil))) [1, 2] [2] [.fz (.int j), .no, .no] = .ok (.own (.lst L)) [.fz (.int j), .no, .no] := by
    unfold ac2 at hl
    unfold dLc2
    rw [hi]
    simp only [PD.R.bind, wipeR, List.set]
    rw [hl]
    simp [back]
  rw [show f_all_couples = mkF [true] 3 b_all_couples from rfl]
  refine fin1 (ρ := [.fz (.int j), .no, .no]) rfl ?_ rfl
  rw [ac_b]
  unfold dRet
  generalize dLc2 (dRng1 (dCons (dVar 0) dNil)) (bName 1) dYes (rg2 1 0) (bName 2) dYes (dTup (dCons (dVar 1) (dCons (dVar 2) dNil))) [1, 2] [2] = E at hx ⊢
  have hρ : [SV.fz (.int j)] ++ List.replicate (3 - [SV.fz (.int j)].length) .no = [.fz (.int j), .no, .no] := rfl
  simp [hx, R.bindS, PD.outR]
theorem run_all_couples (n : Nat) (hn : n ≤ 100) : f_all_couples.run [.fz (.int n)] = .ret (.own (.lst (cps n n))) [.no] := by
  have hl := ac_loop n hn n 0 (by omega)
  rw [← List.range_eq_range'] at hl
  have e2 : ((n : Int)).toNat = n := Int.toNat_natCast n
  refine ac_fin n (sm62 (by omega)) _ ?_
  rw [e2]
  exact hl
end Lk
set_option Elab.async false
set_option linter.all false
set_option maxRecDepth 100000
set_option autoImplicit false
namespace Lk
open PySem PySem.Spec PyProof.Rows L2 PD
/-! people in a drawn order -/
def nms : Nat → Int → List Int → List Int
  | 0, _, _ => []
  | n + 1, s, l => l.getD (dr s l.length).toNat 0 :: nms n (nx s) (l.eraseIdx (dr s l.length).toNat)
theorem nms_len : ∀ n s l, (nms n s l).length = n
  | 0, _, _ => rfl
  | n + 1, s, l => by simp [nms, nms_len n]
theorem filter_idx : ∀ (l : List Int) (k : Nat), l.Nodup → k < l.length → (l.filter fun x => decide (x ≠ l.getD k 0)) = l.eraseIdx k
  | [], k, _, h => absurd h (Nat.not_lt_zero _)
  | x :: l, 0, hn, _ => by
    obtain ⟨h1, h2⟩ := List.nodup_cons.1 hn
    simp only [List.getD_cons_zero, List.eraseIdx_cons_zero]
    rw [List.filter_cons_of_neg (by simp), List.filter_eq_self.2]
    intro a ha
    simp
    rintro rfl
    exact h1 ha
  | x :: l, k + 1, hn, h => by
    obtain ⟨h1, h2⟩ := List.nodup_cons.1 hn
    have hk : k < l.length := by simpa using h
    have ih := filter_idx l k h2 hk
    simp only [List.getD_cons_succ, List.eraseIdx_cons_succ]
    rw [List.filter_cons_of_pos, ih]
    simp
    rintro rfl
    apply h1
    rw [List.getElem?_eq_getElem hk]
    exact List.getElem_mem hk
theorem atI_int (l : List Int) (v : Int) (h1 : 0 ≤ v) (h2 : v < l.length) : ixA (.lst (l.map D.int)) (.int v) = some (.fz (.int (l.getD v.toNat 0))) := by
  obtain ⟨k, rfl⟩ : ∃ k : Nat, v = k := ⟨v.toNat, by omega⟩
  have hk : k < l.length := by omega
  have h' : L2.atI (l.map D.int) (k : Int) = some (.int (l.getD k 0)) := by
    simp [L2.atI, L2.ixN, hk]
  simp [ixA, orD, ixD, h']
theorem lc_ne (x0 x1 x2 x4 : SV) (L : SV) (o : Int) : ∀ (l acc : List Int), acc.length + l.length < 1000000 →
    dLcL (bName 6) (dB (dOp2 neD (dVar 6) (dVar 5))) (dVar 6) [6] (l.map D.int) (acc.map D.int) [x0, x1, x2, L, x4, .fz (.int o), .no] = .ok ((acc ++ l.filter fun x => decide (x ≠ o)).map D.int) [x0, x1, x2, L, x4, .fz (.int o), .no]
  | [], acc, _ => by simp [dLcL]
  | x :: l, acc, hl => by
    simp only [List.length_cons] at hl
    have hb : bName 6 (.int x) [x0, x1, x2, L, x4, .fz (.int o), .no] = some [x0, x1, x2, L, x4, .fz (.int o), .fz (.int x)] := by simp [bName]
    have ht : (dB (dOp2 neD (dVar 6) (dVar 5))) [x0, x1, x2, L, x4, .fz (.int o), .fz (.int x)] = .ok (decide (x ≠ o)) [x0, x1, x2, L, x4, .fz (.int o), .fz (.int x)] := by
      simp [dB, dOp2, dVar, R.bind, rd, ne_int]
    have hv : dVar 6 [x0, x1, x2, L, x4, .fz (.int o), .fz (.int x)] = .ok (.fz (.int x)) [x0, x1, x2, L, x4, .fz (.int o), .fz (.int x)] := by simp [dVar]
    have ha : acc.length < 1000000 := by omega
    rw [List.map_cons]
    unfold dLcL
    rw [hb]
    simp only [ht]
    by_cases h1 : x = o
    · have ih := lc_ne x0 x1 x2 x4 L o l acc (by omega)
      simp only [h1, ne_eq, not_true_eq_false, decide_false, wipeR]
      simp only [List.set]
      rw [ih]
      simp
    · have ih := lc_ne x0 x1 x2 x4 L o l (acc ++ [x]) (by simp only [List.length_append, List.length_cons, List.length_nil]; omega)
      rw [List.map_append] at ih
      simp only [h1, ne_eq, not_false_eq_true, decide_true, hv, fz1, List.length_map, ha, if_true, wipeR]
      simp only [List.set]
      rw [show [D.int x] = [x].map D.int from rfl, ih]
      simp [h1]
def dnT : DT := dTru (dVar 3)
def dnE : DE := (dOp2 ixA (dVar 3) (dMethU "Draws" "take" f_Draws_take (dVar 2) (dCons (dOpN lenD (dCons (dVar 3) dNil)) dNil)))
def dnF : DE := (dLc (dItS (dVar 3)) (bName 6) (dB (dOp2 neD (dVar 6) (dVar 5))) (dVar 6) [6])
def dnB : DS := (dSeq (dSet 5 dnE) (dSeq (dSet 3 dnF) (dDrop (dMut "list" appD (dVar 4) (dCons (dVar 5) dNil)))))
theorem dnE_run (x0 x1 x4 x5 x6 : SV) (s : Int) (l : List Int) (h : 0 < l.length) :
    dnE [x0, x1, .own (obj s), .own (.lst (l.map D.int)), x4, x5, x6] = .ok (.fz (.int (l.getD (dr s l.length).toNat 0))) [x0, x1, .own (obj (nx s)), .own (.lst (l.map D.int)), x4, x5, x6] := by
  have hp : (0 : Int) < (l.length : Int) := by omega
  have hr := run_take s l.length hp
  obtain ⟨h1, h2⟩ := dr_range s hp
  have hix := atI_int l _ h1 h2
  have hlen : lenD [.lst (l.map D.int)] = some (.fz (.int l.length)) := by simp [lenD]
  have hio : f_Draws_take.io = [true, true] := rfl
  generalize dr s l.length = a at hr hix ⊢
  generalize nx s = s1 at hr ⊢
  generalize l.getD a.toNat 0 = g at hix ⊢
  generalize (l.length : Int) = j at hr hlen
  generalize l.map D.int = L at hix hlen ⊢
  unfold obj at hr ⊢
  have hne : (Str.ofString "take" == Str.ofString "its_state") = false := by decide +kernel
  unfold dnE
  generalize ixA = IX at hix ⊢
  generalize f_Draws_take = f at hr hio ⊢
  generalize lenD = LE at hlen ⊢
  simp [PD.mkF, PD.dSeq, PD.dNext, PD.dSet, PD.dRet, PD.dRetN, PD.dIfS, PD.dDrop, PD.dTup, PD.dLst, PD.dCons, PD.dNil, PD.dOpN, PD.dOp2, PD.dOp1, PD.dVar, PD.dC, PD.R.bind, PD.R.bindS, PD.rd, PD.rdL, PD.intD, PD.orD, PD.mulI, PD.addI, PD.subD, PD.modD, PD.fdivD, PD.fI, PD.fB, PD.ltI, PD.leI, PD.gtI, PD.geI, PD.pick, PD.fzL, PD.fz1, PD.inR, PD.outR, PD.yes2, PD.dCall, PD.prep, PD.prep1, PD.wb, PD.toRV, PD.dB, PD.dTru, PD.truD, PD.dNot, PD.dAnd, PD.dOr, PD.dIf, PD.dNotV, PD.dAndV, PD.dOrV, PD.dPar, PD.dPar3, PD.isN, PD.notN, PD.ixA, PD.ixD, PD.ixDct, L2.atI, L2.ixN, PD.lenD, PD.min2D, PD.max2D, PD.absD, PD.tupleD, PD.listD, PD.dAsg, PD.bName, PD.bTup, PD.bCons, PD.bNil, PD.dStore, PD.storeD, PD.dAugS, PD.getS, PD.dFld, PD.dStFld, PD.putFD, PD.dMethU, PD.callR, PD.dMake, PD.wipeR, PD.back, List.lookup, PD.ioP, hr, hio, hne, hix, hlen]
theorem dnF_run (x0 x1 x2 x4 : SV) (o : Int) (l : List Int) (h : l.length < 1000000) :
    dnF [x0, x1, x2, .own (.lst (l.map D.int)), x4, .fz (.int o), .no] = .ok (.own (.lst ((l.filter fun x => decide (x ≠ o)).map D.int))) [x0, x1, x2, .fz (.lst (l.map D.int)), x4, .fz (.int o), .no] := by
  have hl := lc_ne x0 x1 x2 x4 (.fz (.lst (l.map D.int))) o l [] (by simpa using h)
  rw [List.map_nil, List.nil_append] at hl
  have hi : (dItS (dVar 3)) [x0, x1, x2, .own (.lst (l.map D.int)), x4, .fz (.int o), .no] = .ok (l.map D.int) [x0, x1, x2, .fz (.lst (l.map D.int)), x4, .fz (.int o), .no] := by
    simp [dItS, dVar, R.bind, fz1]
  unfold dnF dLc
  rw [hi]
  simp only [R.bind, wipeR, List.set]
  rw [hl]
  simp [back]
theorem dn_app (x0 x1 x2 x3 x6 : SV) (o : D) (A : List D) (h : A.length < 1000000) :
    (dDrop (dMut "list" appD (dVar 4) (dCons (dVar 5) dNil))) [x0, x1, x2, x3, .own (.lst A), .fz o, x6] = .nx [x0, x1, x2, x3, .own (.lst (A ++ [o])), .fz o, x6] := by
  simp [PD.mkF, PD.dSeq, PD.dNext, PD.dSet, PD.dRet, PD.dRetN, PD.dIfS, PD.dDrop, PD.dTup, PD.dLst, PD.dCons, PD.dNil, PD.dOpN, PD.dOp2, PD.dOp1, PD.dVar, PD.dC, PD.R.bind, PD.R.bindS, PD.rd, PD.rdL, PD.intD, PD.orD, PD.mulI, PD.addI, PD.subD, PD.modD, PD.fdivD, PD.fI, PD.fB, PD.ltI, PD.leI, PD.gtI, PD.geI, PD.pick, PD.fzL, PD.fz1, PD.inR, PD.outR, PD.yes2, PD.dCall, PD.prep, PD.prep1, PD.wb, PD.toRV, PD.dB, PD.dTru, PD.truD, PD.dNot, PD.dAnd, PD.dOr, PD.dIf, PD.dNotV, PD.dAndV, PD.dOrV, PD.dPar, PD.dPar3, PD.isN, PD.notN, PD.ixA, PD.ixD, PD.ixDct, L2.atI, L2.ixN, PD.lenD, PD.min2D, PD.max2D, PD.absD, PD.tupleD, PD.listD, PD.dAsg, PD.bName, PD.bTup, PD.bCons, PD.bNil, PD.dStore, PD.storeD, PD.dAugS, PD.getS, PD.dFld, PD.dStFld, PD.putFD, PD.dMethU, PD.callR, PD.dMake, PD.wipeR, PD.back, List.lookup, PD.ioP, dMut, chkT, isLst, isDct, appD, h]
theorem set_own {i : Nat} {E : DE} {ρ ρ1 : List SV} {d : D} (h : E ρ = .ok (.own d) ρ1) : dSet i E ρ = .nx (ρ1.set i (.own d)) := by
  unfold dSet
  rw [h]
  rfl
theorem set_fz {i : Nat} {E : DE} {ρ ρ1 : List SV} {d : D} (h : E ρ = .ok (.fz d) ρ1) : dSet i E ρ = .nx (ρ1.set i (.fz d)) := by
  unfold dSet
  rw [h]
  rfl
theorem dnB_run (x0 x1 x5 : SV) (s : Int) (l : List Int) (A : List D) (h : 0 < l.length) (hn : l.Nodup) (hl : l.length < 1000000) (hA : A.length < 1000000) :
    dnB [x0, x1, .own (obj s), .own (.lst (l.map D.int)), .own (.lst A), x5, .no] = .nx [x0, x1, .own (obj (nx s)), .own (.lst ((l.eraseIdx (dr s l.length).toNat).map D.int)), .own (.lst (A ++ [.int (l.getD (dr s l.length).toNat 0)])), .fz (.int (l.getD (dr s l.length).toNat 0)), .no] := by
  obtain ⟨h1, h2⟩ := dr_range s (m := (l.length : Int)) (by omega)
  have e1 := set_fz (i := 5) (dnE_run x0 x1 (.own (.lst A)) x5 .no s l h)
  have hf := filter_idx l (dr s l.length).toNat hn (by omega)
  have e2 := set_own (i := 3) (dnF_run x0 x1 (.own (obj (nx s))) (.own (.lst A)) (l.getD (dr s l.length).toNat 0) l hl)
  simp only [hf, List.set] at e1 e2
  unfold dnB
  rw [dSeq_nx e1, dSeq_nx e2]
  exact dn_app _ _ _ _ _ _ A hA
theorem dnT_no (x0 x1 x2 x4 x5 x6 : SV) : dnT [x0, x1, x2, .own (.lst (([] : List Int).map D.int)), x4, x5, x6] = .ok false [x0, x1, x2, .own (.lst (([] : List Int).map D.int)), x4, x5, x6] := by
  simp [dnT, dTru, dVar, R.bind, rd, truD]
theorem dnT_yes (x0 x1 x2 x4 x5 x6 : SV) (l : List Int) (h : 0 < l.length) : dnT [x0, x1, x2, .own (.lst (l.map D.int)), x4, x5, x6] = .ok true [x0, x1, x2, .own (.lst (l.map D.int)), x4, x5, x6] := by
  cases l with
  | nil => exact absurd h (Nat.lt_irrefl _)
  | cons a l => simp [dnT, dTru, dVar, R.bind, rd, truD]
theorem dn_loop (x0 x1 : SV) : ∀ (n fuel : Nat) (s : Int) (l : List Int) (A : List D) (x5 : SV), l.length = n → n < fuel → l.Nodup → A.length + n < 1000000 →
    ∃ y2 y3 y5, dWhile dnT dnB fuel [x0, x1, .own (obj s), .own (.lst (l.map D.int)), .own (.lst A), x5, .no] = .nx [x0, x1, y2, y3, .own (.lst (A ++ (nms n s l).map D.int)), y5, .no]
  | _, 0, _, _, _, _, _, h, _, _ => absurd h (Nat.not_lt_zero _)
  | 0, fuel + 1, s, l, A, x5, hl, hf, hn, hA => by
    obtain rfl := List.length_eq_zero_iff.1 hl
    refine ⟨.own (obj s), .own (.lst (([] : List Int).map D.int)), x5, ?_⟩
    unfold dWhile
    rw [dnT_no]
    simp only [R.bindS, nms, List.map_nil, List.append_nil]
    rfl
  | n + 1, fuel + 1, s, l, A, x5, hl, hf, hn, hA => by
    obtain ⟨h1, h2⟩ := dr_range s (m := (l.length : Int)) (by omega)
    have hel : (l.eraseIdx (dr s l.length).toNat).length = n := by rw [List.length_eraseIdx_of_lt (by omega)]; omega
    obtain ⟨y2, y3, y5, ih⟩ := dn_loop x0 x1 n fuel (nx s) (l.eraseIdx (dr s l.length).toNat) (A ++ [.int (l.getD (dr s l.length).toNat 0)]) (.fz (.int (l.getD (dr s l.length).toNat 0))) hel (by omega) (hn.eraseIdx _) (by simp only [List.length_append, List.length_cons, List.length_nil]; omega)
    refine ⟨y2, y3, y5, ?_⟩
    unfold dWhile
    rw [dnT_yes _ _ _ _ _ _ l (by omega)]
    simp only [R.bindS, if_true]
    rw [dnB_run x0 x1 x5 s l A (by omega) hn (by omega) (by omega)]
    simp only [ih]
    simp [nms]
end Lk
set_option Elab.async false
set_option linter.all false
set_option maxRecDepth 100000
set_option autoImplicit false
namespace Lk
open PySem PySem.Spec PyProof.Rows L2 PD
/-! deeds -/
def nmS (i : Int) : Str := (["ash", "bea", "cid", "dot", "eli"] : List Str).getD i.toNat "ash"
def wyS (w : Int) : Str := (["join", "join", "join", "join", "line", "line", "line", "apart", "apart", "forget", "forget", "day"] : List Str).getD w.toNat "day"
/-- a deed by its draws -/
def deedD (w a b : Int) : D := if w < 4 then .tup [.str "join", .str (nmS a)] else if w = 11 then .tup [.str "day"] else .tup [.str (wyS w), .str (nmS a), .str (nmS b)]
theorem kt_at (l : List Str) (e : Str) (v : Int) (h1 : 0 ≤ v) (h2 : v < l.length) : ixA (.kt (l.map D.str)) (.int v) = some (.fz (.str (l.getD v.toNat e))) := by
  obtain ⟨k, rfl⟩ : ∃ k : Nat, v = k := ⟨v.toNat, by omega⟩
  have hk : k < l.length := by omega
  have h' : L2.atI (l.map D.str) (k : Int) = some (.str (l.getD k e)) := by
    simp [L2.atI, L2.ixN, hk]
  simp [ixA, orD, ixD, h']
theorem lst_at (l : List Str) (e : Str) (v : Int) (h1 : 0 ≤ v) (h2 : v < l.length) : ixA (.lst (l.map D.str)) (.int v) = some (.fz (.str (l.getD v.toNat e))) := by
  obtain ⟨k, rfl⟩ : ∃ k : Nat, v = k := ⟨v.toNat, by omega⟩
  have hk : k < l.length := by omega
  have h' : L2.atI (l.map D.str) (k : Int) = some (.str (l.getD k e)) := by
    simp [L2.atI, L2.ixN, hk]
  simp [ixA, orD, ixD, h']
theorem eq_str (x y : Str) (hx : SeqAt.shaped (.str x) = true) (hy : SeqAt.shaped (.str y) = true) : PD.eqD (.str x) (.str y) = some (.fz (.bl (decide (x = y)))) := by
  unfold PD.eqD PD.eqR
  simp only [toPy, hx, hy, PyData.eqv]
  have e : (x == y) = decide (x = y) := by rw [Bool.eq_iff_iff]; simp
  simp [e]
theorem wy_shaped (w : Int) (h1 : 0 ≤ w) (h2 : w < 12) : SeqAt.shaped (.str (wyS w)) = true := by
  obtain ⟨k, rfl⟩ : ∃ k : Nat, w = k := ⟨w.toNat, by omega⟩
  have hk : k < 12 := by omega
  have : ∀ k, k < 12 → SeqAt.shaped (.str (wyS (k : Nat))) = true := by decide +kernel
  exact this k hk
theorem wy_join (w : Int) (h1 : 0 ≤ w) (h2 : w < 12) : decide (wyS w = "join") = decide (w < 4) := by
  obtain ⟨k, rfl⟩ : ∃ k : Nat, w = k := ⟨w.toNat, by omega⟩
  have hk : k < 12 := by omega
  have : ∀ k : Nat, k < 12 → decide (wyS (k : Nat) = "join") = decide ((k : Int) < 4) := by decide +kernel
  exact this k hk
theorem wy_day (w : Int) (h1 : 0 ≤ w) (h2 : w < 12) : decide (wyS w = "day") = decide (w = 11) := by
  obtain ⟨k, rfl⟩ : ∃ k : Nat, w = k := ⟨w.toNat, by omega⟩
  have hk : k < 12 := by omega
  have : ∀ k : Nat, k < 12 → decide (wyS (k : Nat) = "day") = decide ((k : Int) = 11) := by decide +kernel
  exact this k hk
theorem wy_less (w : Int) (h : w < 4) (h1 : 0 ≤ w) : wyS w = "join" := by
  have := wy_join w h1 (by omega)
  rw [decide_eq_decide] at this
  exact this.2 h
theorem wy_11 : wyS 11 = "day" := by decide +kernel
def tk (l : List Str) : DE := (dOp2 ixA (dC (.kt (l.map D.str))) (dMethU "Draws" "take" f_Draws_take (dVar 0) (dCons (dOpN lenD (dCons (dC (.kt (l.map D.str))) dNil)) dNil)))
theorem tk_run (l : List Str) (e : Str) (x1 x2 x3 : SV) (s : Int) (h : 0 < l.length) :
    tk l [.own (obj s), x1, x2, x3] = .ok (.fz (.str (l.getD (dr s l.length).toNat e))) [.own (obj (nx s)), x1, x2, x3] := by
  have hp : (0 : Int) < (l.length : Int) := by omega
  have hr := run_take s l.length hp
  obtain ⟨h1, h2⟩ := dr_range s hp
  have hix := kt_at l e _ h1 h2
  have hlen : lenD [.kt (l.map D.str)] = some (.fz (.int l.length)) := by simp [lenD]
  have hio : f_Draws_take.io = [true, true] := rfl
  generalize dr s l.length = a at hr hix ⊢
  generalize nx s = s1 at hr ⊢
  generalize l.getD a.toNat e = g at hix ⊢
  generalize (l.length : Int) = j at hr hlen
  unfold tk
  generalize l.map D.str = L at hix hlen ⊢
  unfold obj at hr ⊢
  have hne : (Str.ofString "take" == Str.ofString "its_state") = false := by decide +kernel
  generalize ixA = IX at hix ⊢
  generalize f_Draws_take = f at hr hio ⊢
  generalize lenD = LE at hlen ⊢
  simp [PD.mkF, PD.dSeq, PD.dNext, PD.dSet, PD.dRet, PD.dRetN, PD.dIfS, PD.dDrop, PD.dTup, PD.dLst, PD.dCons, PD.dNil, PD.dOpN, PD.dOp2, PD.dOp1, PD.dVar, PD.dC, PD.R.bind, PD.R.bindS, PD.rd, PD.rdL, PD.intD, PD.orD, PD.mulI, PD.addI, PD.subD, PD.modD, PD.fdivD, PD.fI, PD.fB, PD.ltI, PD.leI, PD.gtI, PD.geI, PD.pick, PD.fzL, PD.fz1, PD.inR, PD.outR, PD.yes2, PD.dCall, PD.prep, PD.prep1, PD.wb, PD.toRV, PD.dB, PD.dTru, PD.truD, PD.dNot, PD.dAnd, PD.dOr, PD.dIf, PD.dNotV, PD.dAndV, PD.dOrV, PD.dPar, PD.dPar3, PD.isN, PD.notN, PD.ixA, PD.ixD, PD.ixDct, L2.atI, L2.ixN, PD.lenD, PD.min2D, PD.max2D, PD.absD, PD.tupleD, PD.listD, PD.dAsg, PD.bName, PD.bTup, PD.bCons, PD.bNil, PD.dStore, PD.storeD, PD.dAugS, PD.getS, PD.dFld, PD.dStFld, PD.putFD, PD.dMethU, PD.callR, PD.dMake, PD.wipeR, PD.back, List.lookup, PD.ioP, hr, hio, hne, hix, hlen]
def deW : DE := tk ["join", "join", "join", "join", "line", "line", "line", "apart", "apart", "forget", "forget", "day"]
def deN : DE := tk ["ash", "bea", "cid", "dot", "eli"]
def deR : DS := (dSeq (dIfS (dB (dOp2 eqD (dVar 1) (dC (.str "join"))))
 (dRet (dTup (dCons (dVar 1) (dCons (dVar 2) dNil))))
 dNext)
 (dRet (dIf (dB (dOp2 eqD (dVar 1) (dC (.str "day")))) (dTup (dCons (dVar 1) dNil)) (dTup (dCons (dVar 1) (dCons (dVar 2) (dCons (dVar 3) dNil)))))))
theorem de_b : b_deed_by = (dSeq (dSet 1 deW) (dSeq (dPar 2 3 (dCons deN (dCons deN dNil))) deR)) := rfl
theorem deW_run (x1 x2 x3 : SV) (s : Int) : deW [.own (obj s), x1, x2, x3] = .ok (.fz (.str (wyS (dr s 12)))) [.own (obj (nx s)), x1, x2, x3] := tk_run _ "day" x1 x2 x3 s (by decide)
theorem deN_run (x1 x2 x3 : SV) (s : Int) : deN [.own (obj s), x1, x2, x3] = .ok (.fz (.str (nmS (dr s 5)))) [.own (obj (nx s)), x1, x2, x3] := tk_run _ "ash" x1 x2 x3 s (by decide)
theorem par_fz (A B : DE) (i j : Nat) (ρ ρ1 ρ2 : List SV) (a b : D) (ha : A ρ = .ok (.fz a) ρ1) (hb : B ρ1 = .ok (.fz b) ρ2) : dPar i j (dCons A (dCons B dNil)) ρ = .nx ((ρ2.set j (.fz b)).set i (.fz a)) := by
  simp [dPar, dCons, dNil, R.bind, R.bindS, ha, hb, PD.inR]
theorem deR_run (x0 : SV) (w : Str) (a b : D) (c1 c2 : Bool) (h1 : PD.eqD (.str w) (.str "join") = some (.fz (.bl c1))) (h2 : PD.eqD (.str w) (.str "day") = some (.fz (.bl c2))) :
    deR [x0, .fz (.str w), .fz a, .fz b] = .rt (.fz (if c1 then .tup [.str w, a] else if c2 then .tup [.str w] else .tup [.str w, a, b])) [x0, .fz (.str w), .fz a, .fz b] := by
  unfold deR
  generalize PD.eqD = EQ at h1 h2 ⊢
  cases c1
  · cases c2
    · simp [PD.mkF, PD.dSeq, PD.dNext, PD.dSet, PD.dRet, PD.dRetN, PD.dIfS, PD.dDrop, PD.dTup, PD.dLst, PD.dCons, PD.dNil, PD.dOpN, PD.dOp2, PD.dOp1, PD.dVar, PD.dC, PD.R.bind, PD.R.bindS, PD.rd, PD.rdL, PD.intD, PD.orD, PD.mulI, PD.addI, PD.subD, PD.modD, PD.fdivD, PD.fI, PD.fB, PD.ltI, PD.leI, PD.gtI, PD.geI, PD.pick, PD.fzL, PD.fz1, PD.inR, PD.outR, PD.yes2, PD.dCall, PD.prep, PD.prep1, PD.wb, PD.toRV, PD.dB, PD.dTru, PD.truD, PD.dNot, PD.dAnd, PD.dOr, PD.dIf, PD.dNotV, PD.dAndV, PD.dOrV, PD.dPar, PD.dPar3, PD.isN, PD.notN, PD.ixA, PD.ixD, PD.ixDct, L2.atI, L2.ixN, PD.lenD, PD.min2D, PD.max2D, PD.absD, PD.tupleD, PD.listD, PD.dAsg, PD.bName, PD.bTup, PD.bCons, PD.bNil, PD.dStore, PD.storeD, PD.dAugS, PD.getS, PD.dFld, PD.dStFld, PD.putFD, PD.dMethU, PD.callR, PD.dMake, PD.wipeR, PD.back, List.lookup, PD.ioP, h1, h2]
    · simp [PD.mkF, PD.dSeq, PD.dNext, PD.dSet, PD.dRet, PD.dRetN, PD.dIfS, PD.dDrop, PD.dTup, PD.dLst, PD.dCons, PD.dNil, PD.dOpN, PD.dOp2, PD.dOp1, PD.dVar, PD.dC, PD.R.bind, PD.R.bindS, PD.rd, PD.rdL, PD.intD, PD.orD, PD.mulI, PD.addI, PD.subD, PD.modD, PD.fdivD, PD.fI, PD.fB, PD.ltI, PD.leI, PD.gtI, PD.geI, PD.pick, PD.fzL, PD.fz1, PD.inR, PD.outR, PD.yes2, PD.dCall, PD.prep, PD.prep1, PD.wb, PD.toRV, PD.dB, PD.dTru, PD.truD, PD.dNot, PD.dAnd, PD.dOr, PD.dIf, PD.dNotV, PD.dAndV, PD.dOrV, PD.dPar, PD.dPar3, PD.isN, PD.notN, PD.ixA, PD.ixD, PD.ixDct, L2.atI, L2.ixN, PD.lenD, PD.min2D, PD.max2D, PD.absD, PD.tupleD, PD.listD, PD.dAsg, PD.bName, PD.bTup, PD.bCons, PD.bNil, PD.dStore, PD.storeD, PD.dAugS, PD.getS, PD.dFld, PD.dStFld, PD.putFD, PD.dMethU, PD.callR, PD.dMake, PD.wipeR, PD.back, List.lookup, PD.ioP, h1, h2]
  · simp [PD.mkF, PD.dSeq, PD.dNext, PD.dSet, PD.dRet, PD.dRetN, PD.dIfS, PD.dDrop, PD.dTup, PD.dLst, PD.dCons, PD.dNil, PD.dOpN, PD.dOp2, PD.dOp1, PD.dVar, PD.dC, PD.R.bind, PD.R.bindS, PD.rd, PD.rdL, PD.intD, PD.orD, PD.mulI, PD.addI, PD.subD, PD.modD, PD.fdivD, PD.fI, PD.fB, PD.ltI, PD.leI, PD.gtI, PD.geI, PD.pick, PD.fzL, PD.fz1, PD.inR, PD.outR, PD.yes2, PD.dCall, PD.prep, PD.prep1, PD.wb, PD.toRV, PD.dB, PD.dTru, PD.truD, PD.dNot, PD.dAnd, PD.dOr, PD.dIf, PD.dNotV, PD.dAndV, PD.dOrV, PD.dPar, PD.dPar3, PD.isN, PD.notN, PD.ixA, PD.ixD, PD.ixDct, L2.atI, L2.ixN, PD.lenD, PD.min2D, PD.max2D, PD.absD, PD.tupleD, PD.listD, PD.dAsg, PD.bName, PD.bTup, PD.bCons, PD.bNil, PD.dStore, PD.storeD, PD.dAugS, PD.getS, PD.dFld, PD.dStFld, PD.putFD, PD.dMethU, PD.callR, PD.dMake, PD.wipeR, PD.back, List.lookup, PD.ioP, h1, h2]
theorem run_deed_by (s : Int) : f_deed_by.run [.own (obj s)] = .ret (.fz (deedD (dr s 12) (dr (nx s) 5) (dr (nx (nx s)) 5))) [.own (obj (nx (nx (nx s))))] := by
  obtain ⟨w1, w2⟩ := dr_range s (m := 12) (by omega)
  have e1 := set_fz (i := 1) (deW_run .no .no .no s)
  have e2 := par_fz deN deN 2 3 [.own (obj (nx s)), .fz (.str (wyS (dr s 12))), .no, .no] _ _ _ _ (deN_run _ _ _ (nx s)) (deN_run _ _ _ (nx (nx s)))
  simp only [List.set] at e1 e2
  have s1 : SeqAt.shaped (.str "join") = true := by decide +kernel
  have s2 : SeqAt.shaped (.str "day") = true := by decide +kernel
  have h1 := eq_str (wyS (dr s 12)) "join" (wy_shaped _ w1 w2) s1
  have h2 := eq_str (wyS (dr s 12)) "day" (wy_shaped _ w1 w2) s2
  rw [wy_join _ w1 w2] at h1
  rw [wy_day _ w1 w2] at h2
  have hR := deR_run (.own (obj (nx (nx (nx s))))) (wyS (dr s 12)) (.str (nmS (dr (nx s) 5))) (.str (nmS (dr (nx (nx s)) 5))) _ _ h1 h2
  have hd : (if decide (dr s 12 < 4) = true then D.tup [.str (wyS (dr s 12)), .str (nmS (dr (nx s) 5))] else if decide (dr s 12 = 11) = true then .tup [.str (wyS (dr s 12))] else .tup [.str (wyS (dr s 12)), .str (nmS (dr (nx s) 5)), .str (nmS (dr (nx (nx s)) 5))]) = deedD (dr s 12) (dr (nx s) 5) (dr (nx (nx s)) 5) := by
    unfold deedD
    by_cases h : dr s 12 < 4
    · simp only [h, decide_true, if_true, wy_less _ h w1]
    · by_cases h' : dr s 12 = 11
      · simp only [h', wy_11]; simp
      · simp only [h, h', decide_false]; simp
  rw [hd] at hR
  have hb : b_deed_by [.own (obj s), .no, .no, .no] = .rt (.fz (deedD (dr s 12) (dr (nx s) 5) (dr (nx (nx s)) 5))) [.own (obj (nx (nx (nx s)))), .fz (.str (wyS (dr s 12))), .fz (.str (nmS (dr (nx s) 5))), .fz (.str (nmS (dr (nx (nx s)) 5)))] := by
    rw [de_b, dSeq_nx e1, dSeq_nx e2]
    exact hR
  rw [show f_deed_by = mkF [true] 4 b_deed_by from rfl]
  exact fin1 rfl hb rfl
end Lk
set_option Elab.async false
set_option linter.all false
set_option maxRecDepth 100000
set_option autoImplicit false
namespace Lk
open PySem PySem.Spec PyProof.Rows L2 PD
def deedsL : Nat → Int → List D
  | 0, _ => []
  | n + 1, s => deedD (dr s 12) (dr (nx s) 5) (dr (nx (nx s)) 5) :: deedsL n (nx (nx (nx s)))
theorem deedsL_len : ∀ n s, (deedsL n s).length = n
  | 0, _ => rfl
  | n + 1, s => by simp [deedsL, deedsL_len n]
theorem ds_el (x0 x1 x3 : SV) (s : Int) : (dCall f_deed_by (dCons (dVar 2) dNil)) [x0, x1, .own (obj s), x3] = .ok (.fz (deedD (dr s 12) (dr (nx s) 5) (dr (nx (nx s)) 5))) [x0, x1, .own (obj (nx (nx (nx s)))), x3] := by
  have hr := run_deed_by s
  have hio : f_deed_by.io = [true] := rfl
  generalize deedD (dr s 12) (dr (nx s) 5) (dr (nx (nx s)) 5) = d at hr ⊢
  generalize obj (nx (nx (nx s))) = o2 at hr ⊢
  generalize obj s = o at hr ⊢
  generalize f_deed_by = f at hr hio ⊢
  simp [dCall, dCons, dVar, dNil, PD.R.bind, hio, prep, prep1, hr, toRV, wb]
theorem ds_lc (x0 x1 : SV) : ∀ (ds acc : List D) (s : Int), acc.length + ds.length < 1000000 →
    ∃ o, dLcL (bName 3) dYes (dCall f_deed_by (dCons (dVar 2) dNil)) [3] ds acc [x0, x1, .own (obj s), .no] = .ok (acc ++ deedsL ds.length s) [x0, x1, o, .no]
  | [], acc, s, _ => ⟨.own (obj s), by simp [dLcL, deedsL]⟩
  | d :: ds, acc, s, hl => by
    simp only [List.length_cons] at hl
    obtain ⟨o, ih⟩ := ds_lc x0 x1 ds (acc ++ [deedD (dr s 12) (dr (nx s) 5) (dr (nx (nx s)) 5)]) (nx (nx (nx s))) (by simp only [List.length_append, List.length_cons, List.length_nil]; omega)
    refine ⟨o, ?_⟩
    have hb : bName 3 d [x0, x1, .own (obj s), .no] = some [x0, x1, .own (obj s), .fz d] := by simp [bName]
    have ha : acc.length < 1000000 := by omega
    have he := ds_el x0 x1 (.fz d) s
    generalize dCall f_deed_by (dCons (dVar 2) dNil) = E at he ih ⊢
    unfold dLcL
    rw [hb]
    simp only [dYes, he, fz1, ha, if_true, wipeR]
    simp only [List.set]
    rw [ih]
    simp [deedsL]
theorem dso_b : b_deeds_of = (dSeq (dSet 2 (dMake "Draws" f_DrawsX_initX (dCons (dVar 0) dNil)))
 (dRet (dOpN tupleD (dCons (dLc (dRng1 (dCons (dVar 1) dNil)) (bName 3) dYes (dCall f_deed_by (dCons (dVar 2) dNil)) [3]) dNil)))) := rfl
theorem ds_1 (x1 x2 x3 : SV) (seed : Int) : (dSet 2 (dMake "Draws" f_DrawsX_initX (dCons (dVar 0) dNil))) [.fz (.int seed), x1, x2, x3] = .nx [.fz (.int seed), x1, .own (obj (seed.fmod 2147483647)), x3] := by
  have hr := run_init seed
  have hio : f_DrawsX_initX.io = [true, true] := rfl
  generalize seed.fmod 2147483647 = s at hr ⊢
  generalize f_DrawsX_initX = f at hr hio ⊢
  simp [PD.mkF, PD.dSeq, PD.dNext, PD.dSet, PD.dRet, PD.dRetN, PD.dIfS, PD.dDrop, PD.dTup, PD.dLst, PD.dCons, PD.dNil, PD.dOpN, PD.dOp2, PD.dOp1, PD.dVar, PD.dC, PD.R.bind, PD.R.bindS, PD.rd, PD.rdL, PD.intD, PD.orD, PD.mulI, PD.addI, PD.subD, PD.modD, PD.fdivD, PD.fI, PD.fB, PD.ltI, PD.leI, PD.gtI, PD.geI, PD.pick, PD.fzL, PD.fz1, PD.inR, PD.outR, PD.yes2, PD.dCall, PD.prep, PD.prep1, PD.wb, PD.toRV, PD.dB, PD.dTru, PD.truD, PD.dNot, PD.dAnd, PD.dOr, PD.dIf, PD.dNotV, PD.dAndV, PD.dOrV, PD.dPar, PD.dPar3, PD.isN, PD.notN, PD.ixA, PD.ixD, PD.ixDct, L2.atI, L2.ixN, PD.lenD, PD.min2D, PD.max2D, PD.absD, PD.tupleD, PD.listD, PD.dAsg, PD.bName, PD.bTup, PD.bCons, PD.bNil, PD.dStore, PD.storeD, PD.dAugS, PD.getS, PD.dFld, PD.dStFld, PD.putFD, PD.dMethU, PD.callR, PD.dMake, PD.wipeR, PD.back, List.lookup, PD.ioP, hr, hio]
theorem ret_tup (E : DE) (ρ ρ1 : List SV) (L : List D) (h : E ρ = .ok (.own (.lst L)) ρ1) : (dRet (dOpN tupleD (dCons E dNil))) ρ = .rt (.fz (.tup L)) ρ1 := by
  simp [dRet, dOpN, dCons, dNil, PD.R.bind, PD.R.bindS, h, rd, rdL, tupleD, PD.outR]
theorem dso_fin (seed j : Int) (n : Nat) (h62 : small62 j = true) (hj : j.toNat = n) (hn : n ≤ 1000) :
    f_deeds_of.run [.fz (.int seed), .fz (.int j)] = .ret (.fz (.tup (deedsL n (seed.fmod 2147483647)))) [.no, .no] := by
  obtain ⟨o, hl⟩ := ds_lc (.fz (.int seed)) (.fz (.int j)) (upto 0 n) [] (seed.fmod 2147483647) (by simp [upto_len]; omega)
  rw [upto_len, List.nil_append] at hl
  have hi := rng1_of (dVar 1) [.fz (.int seed), .fz (.int j), .own (obj (seed.fmod 2147483647)), .no] j h62 (by simp [dVar])
  rw [hj] at hi
  have hx : (dLc (dRng1 (dCons (dVar 1) dNil)) (bName 3) dYes (dCall f_deed_by (dCons (dVar 2) dNil)) [3]) [.fz (.int seed), .fz (.int j), .own (obj (seed.fmod 2147483647)), .no] = .ok (.own (.lst (deedsL n (seed.fmod 2147483647)))) [.fz (.int seed), .fz (.int j), o, .no] := by
    unfold dLc
    rw [hi]
    simp only [PD.R.bind, wipeR, List.set]
    rw [hl]
    simp [back]
  have hb : b_deeds_of [.fz (.int seed), .fz (.int j), .no, .no] = .rt (.fz (.tup (deedsL n (seed.fmod 2147483647)))) [.fz (.int seed), .fz (.int j), o, .no] := by
    rw [dso_b, dSeq_nx (ds_1 _ _ _ seed)]
    exact ret_tup _ _ _ _ hx
  rw [show f_deeds_of = mkF [true, true] 4 b_deeds_of from rfl]
  exact fin1 rfl hb rfl
theorem run_deeds_of (seed : Int) (n : Nat) (hn : n ≤ 100) : f_deeds_of.run [.fz (.int seed), .fz (.int n)] = .ret (.fz (.tup (deedsL n (seed.fmod 2147483647)))) [.no, .no] :=
  dso_fin seed n n (sm62 (by omega)) (Int.toNat_natCast n) (by omega)
end Lk
set_option Elab.async false
set_option linter.all false
set_option maxRecDepth 100000
set_option autoImplicit false
namespace Lk
open PySem PySem.Spec PyProof.Rows L2 PD
def rgI (n : Nat) : List Int := (List.range n).map fun i => ((0 : Int) + (i : Nat))
theorem upto_rgI (n : Nat) : upto 0 n = (rgI n).map D.int := by
  unfold upto rgI
  rw [List.map_map]
  rfl
theorem rgI_len (n : Nat) : (rgI n).length = n := by simp [rgI]
theorem rgI_nodup (n : Nat) : (rgI n).Nodup := by
  unfold rgI
  exact List.Pairwise.map _ (fun a b (e : a ≠ b) => by omega) List.nodup_range
theorem dn_b : b_drawn_names = (dSeq (dPar3 2 3 4 (dCons (dMake "Draws" f_DrawsX_initX (dCons (dVar 0) dNil)) (dCons (dLstRg (dRng1 (dCons (dVar 1) dNil))) (dCons (dLst dNil) dNil))))
 (dSeq (dWhile dnT dnB 1000000) (dRet (dOpN tupleD (dCons (dVar 4) dNil))))) := rfl
theorem dn_1 (RG : DE) (x1 x2 x3 x4 x5 x6 : SV) (seed : Int) (L : List D) (hR : ∀ x2, RG [.fz (.int seed), x1, x2, x3, x4, x5, x6] = .ok (.own (.lst L)) [.fz (.int seed), x1, x2, x3, x4, x5, x6]) :
    (dPar3 2 3 4 (dCons (dMake "Draws" f_DrawsX_initX (dCons (dVar 0) dNil)) (dCons RG (dCons (dLst dNil) dNil)))) [.fz (.int seed), x1, x2, x3, x4, x5, x6] = .nx [.fz (.int seed), x1, .own (obj (seed.fmod 2147483647)), .own (.lst L), .own (.lst []), x5, x6] := by
  have hr := run_init seed
  have hio : f_DrawsX_initX.io = [true, true] := rfl
  generalize seed.fmod 2147483647 = s at hr ⊢
  generalize f_DrawsX_initX = f at hr hio ⊢
  simp [PD.mkF, PD.dSeq, PD.dNext, PD.dSet, PD.dRet, PD.dRetN, PD.dIfS, PD.dDrop, PD.dTup, PD.dLst, PD.dCons, PD.dNil, PD.dOpN, PD.dOp2, PD.dOp1, PD.dVar, PD.dC, PD.R.bind, PD.R.bindS, PD.rd, PD.rdL, PD.intD, PD.orD, PD.mulI, PD.addI, PD.subD, PD.modD, PD.fdivD, PD.fI, PD.fB, PD.ltI, PD.leI, PD.gtI, PD.geI, PD.pick, PD.fzL, PD.fz1, PD.inR, PD.outR, PD.yes2, PD.dCall, PD.prep, PD.prep1, PD.wb, PD.toRV, PD.dB, PD.dTru, PD.truD, PD.dNot, PD.dAnd, PD.dOr, PD.dIf, PD.dNotV, PD.dAndV, PD.dOrV, PD.dPar, PD.dPar3, PD.isN, PD.notN, PD.ixA, PD.ixD, PD.ixDct, L2.atI, L2.ixN, PD.lenD, PD.min2D, PD.max2D, PD.absD, PD.tupleD, PD.listD, PD.dAsg, PD.bName, PD.bTup, PD.bCons, PD.bNil, PD.dStore, PD.storeD, PD.dAugS, PD.getS, PD.dFld, PD.dStFld, PD.putFD, PD.dMethU, PD.callR, PD.dMake, PD.wipeR, PD.back, List.lookup, PD.ioP, hr, hio, hR]
theorem dn_rg (x0 x2 x3 x4 x5 x6 : SV) (j : Int) (h62 : small62 j = true) (L : List D) (hu : upto 0 j.toNat = L) (hl : L.length ≤ 1000000) : (dLstRg (dRng1 (dCons (dVar 1) dNil))) [x0, .fz (.int j), x2, x3, x4, x5, x6] = .ok (.own (.lst L)) [x0, .fz (.int j), x2, x3, x4, x5, x6] := by
  have h := rng1_of (dVar 1) [x0, .fz (.int j), x2, x3, x4, x5, x6] j h62 (by simp [dVar])
  rw [hu] at h
  unfold dLstRg
  rw [h]
  simp only [PD.R.bind, hl, if_true]
theorem dn_ret (x0 x1 x2 x3 x5 x6 : SV) (A : List D) : (dRet (dOpN tupleD (dCons (dVar 4) dNil))) [x0, x1, x2, x3, .own (.lst A), x5, x6] = .rt (.fz (.tup A)) [x0, x1, x2, x3, .own (.lst A), x5, x6] := by
  simp [PD.mkF, PD.dSeq, PD.dNext, PD.dSet, PD.dRet, PD.dRetN, PD.dIfS, PD.dDrop, PD.dTup, PD.dLst, PD.dCons, PD.dNil, PD.dOpN, PD.dOp2, PD.dOp1, PD.dVar, PD.dC, PD.R.bind, PD.R.bindS, PD.rd, PD.rdL, PD.intD, PD.orD, PD.mulI, PD.addI, PD.subD, PD.modD, PD.fdivD, PD.fI, PD.fB, PD.ltI, PD.leI, PD.gtI, PD.geI, PD.pick, PD.fzL, PD.fz1, PD.inR, PD.outR, PD.yes2, PD.dCall, PD.prep, PD.prep1, PD.wb, PD.toRV, PD.dB, PD.dTru, PD.truD, PD.dNot, PD.dAnd, PD.dOr, PD.dIf, PD.dNotV, PD.dAndV, PD.dOrV, PD.dPar, PD.dPar3, PD.isN, PD.notN, PD.ixA, PD.ixD, PD.ixDct, L2.atI, L2.ixN, PD.lenD, PD.min2D, PD.max2D, PD.absD, PD.tupleD, PD.listD, PD.dAsg, PD.bName, PD.bTup, PD.bCons, PD.bNil, PD.dStore, PD.storeD, PD.dAugS, PD.getS, PD.dFld, PD.dStFld, PD.putFD, PD.dMethU, PD.callR, PD.dMake, PD.wipeR, PD.back, List.lookup, PD.ioP]
theorem dn_fin (seed j : Int) (n : Nat) (h62 : small62 j = true) (hj : j.toNat = n) (hn : n ≤ 1000) :
    f_drawn_names.run [.fz (.int seed), .fz (.int j)] = .ret (.fz (.tup ((nms n (seed.fmod 2147483647) (rgI n)).map D.int))) [.no, .no] := by
  have h1 := dn_1 (dLstRg (dRng1 (dCons (dVar 1) dNil))) (.fz (.int j)) .no .no .no .no .no seed _ (fun x2 => dn_rg _ x2 _ _ _ _ j h62 ((rgI n).map D.int) (by rw [hj, upto_rgI]) (by rw [List.length_map, rgI_len]; omega))
  obtain ⟨y2, y3, y5, h2⟩ := dn_loop (.fz (.int seed)) (.fz (.int j)) n 1000000 (seed.fmod 2147483647) (rgI n) [] .no (rgI_len n) (by omega) (rgI_nodup n) (by simp only [List.length_nil]; omega)
  have hb : b_drawn_names [.fz (.int seed), .fz (.int j), .no, .no, .no, .no, .no] = .rt (.fz (.tup ((nms n (seed.fmod 2147483647) (rgI n)).map D.int))) [.fz (.int seed), .fz (.int j), y2, y3, .own (.lst ((nms n (seed.fmod 2147483647) (rgI n)).map D.int)), y5, .no] := by
    rw [dn_b, dSeq_nx h1, dSeq_nx h2]
    exact dn_ret _ _ _ _ _ _ _
  rw [show f_drawn_names = mkF [true, true] 7 b_drawn_names from rfl]
  exact fin1 rfl hb rfl
theorem run_drawn_names (seed : Int) (n : Nat) (hn : n ≤ 100) : f_drawn_names.run [.fz (.int seed), .fz (.int n)] = .ret (.fz (.tup ((nms n (seed.fmod 2147483647) (rgI n)).map D.int))) [.no, .no] :=
  dn_fin seed n n (sm62 (by omega)) (Int.toNat_natCast n) (by omega)
end Lk
set_option Elab.async false
set_option linter.all false
set_option maxRecDepth 100000
set_option autoImplicit false
namespace Lk
open PySem PySem.Spec PyProof.Rows L2 PD
/-! equal values are alike -/
mutual
def plain : D → Bool
  | .non => true
  | .int _ => true
  | .str x => SeqAt.shaped (.str x)
  | .tup xs => plains xs
  | .lst xs => plains xs
  | _ => false
def plains : List D → Bool
  | [] => true
  | x :: xs => plain x && plains xs
end
mutual
def szD : D → Nat
  | .tup xs => 1 + szL xs
  | .lst xs => 1 + szL xs
  | _ => 1
def szL : List D → Nat
  | [] => 0
  | x :: xs => szD x + szL xs
end
theorem szL_app : ∀ xs ys, szL (xs ++ ys) = szL xs + szL ys
  | [], ys => by simp [szL]
  | x :: xs, ys => by simp only [List.cons_append, szL, szL_app xs ys]; omega
theorem plains_app : ∀ xs ys, plains (xs ++ ys) = (plains xs && plains ys)
  | [], ys => by simp [plains]
  | x :: xs, ys => by simp only [List.cons_append, plains, plains_app xs ys, Bool.and_assoc]
theorem szD_pos (x : D) : 1 ≤ szD x := by
  cases x <;> simp [szD]
theorem szL_len : ∀ xs, xs.length ≤ szL xs
  | [] => Nat.le_refl _
  | x :: xs => by
    have := szL_len xs
    have := szD_pos x
    simp only [List.length_cons, szL]
    omega
def twin (x : D) : D := .tup [x, x]
theorem zipL_twin : ∀ xs, zipL xs xs = xs.map twin
  | [] => rfl
  | x :: xs => by simp only [zipL, zipL_twin xs, List.map_cons, twin]
theorem ne_bl (b : Bool) : neD (.bl b) (.bl b) = some (.fz (.bl false)) := by cases b <;> rfl
theorem ne_len (n : Nat) : neD (.int n) (.int n) = some (.fz (.bl false)) := by rw [ne_int]; simp
theorem ne_self (x : D) (h : plain x = true) (h1 : ∀ xs, x ≠ .tup xs) (h2 : ∀ xs, x ≠ .lst xs) : neD x x = some (.fz (.bl false)) := by
  cases x with
  | non => rfl
  | int i => rw [ne_int]; simp
  | str z =>
    have h' : SeqAt.shaped (.str z) = true := by simpa [plain] using h
    unfold neD PD.eqR
    simp [toPy, h', PyData.eqv]
  | tup xs => exact absurd rfl (h1 xs)
  | lst xs => exact absurd rfl (h2 xs)
  | _ => simp [plain] at h
def alC : DT := (dB (dOp2 ltI (dVar 3) (dOpN lenD (dCons (dVar 2) dNil))))
def alB : DS := (dSeq (dAsg (bTup 2 (bCons (bName 4) (bCons (bName 5) bNil))) (dOp2 ixA (dVar 2) (dVar 3)))
 (dSeq (dAug 3 addI (dC (.int 1)))
 (dSeq (dIfS (dOr (dB (dOp2 neD (dOpN isiD (dCons (dVar 4) (dCons (dC (.ty .bool)) dNil))) (dOpN isiD (dCons (dVar 5) (dCons (dC (.ty .bool)) dNil))))) (dB (dOp2 neD (dOpN isiD (dCons (dVar 4) (dCons (dC (.ty .str)) dNil))) (dOpN isiD (dCons (dVar 5) (dCons (dC (.ty .str)) dNil))))))
 (dRet (dC (.bl false)))
 dNext)
 (dSeq (dIfS (dB (dOp2 neD (dOpN isiD (dCons (dVar 4) (dCons (dTup (dCons (dC (.ty .tuple)) (dCons (dC (.ty .list)) dNil))) dNil))) (dOpN isiD (dCons (dVar 5) (dCons (dTup (dCons (dC (.ty .tuple)) (dCons (dC (.ty .list)) dNil))) dNil)))))
 (dRet (dC (.bl false)))
 dNext)
 (dIfS (dTru (dOpN isiD (dCons (dVar 4) (dCons (dTup (dCons (dC (.ty .tuple)) (dCons (dC (.ty .list)) dNil))) dNil))))
 (dSeq (dIfS (dOr (dB (dOp2 neD (dOpN isiD (dCons (dVar 4) (dCons (dC (.ty .tuple)) dNil))) (dOpN isiD (dCons (dVar 5) (dCons (dC (.ty .tuple)) dNil))))) (dB (dOp2 neD (dOpN lenD (dCons (dVar 4) dNil)) (dOpN lenD (dCons (dVar 5) dNil)))))
 (dRet (dC (.bl false)))
 dNext)
 (dDrop (dMut "list" extD (dVar 2) (dCons (dLstZ (dCons (dVar 4) (dCons (dVar 5) dNil))) dNil))))
 (dIfS (dB (dOp2 neD (dVar 4) (dVar 5)))
 (dRet (dC (.bl false)))
 dNext))))))
theorem al_b : b_u_law_alike = (dSeq (dPar 2 3 (dCons (dLst (dCons (dTup (dCons (dVar 0) (dCons (dVar 1) dNil))) dNil)) (dCons (dC (.int 0)) dNil)))
 (dSeq (dWhile alC alB 1000000) (dRet (dC (.bl true))))) := rfl
theorem isi_leaf (x : D) (h : plain x = true) (h1 : ∀ xs, x ≠ .tup xs) (h2 : ∀ xs, x ≠ .lst xs) : (∃ b, isiD [x, .ty .bool] = some (.fz (.bl b))) ∧ (∃ b, isiD [x, .ty .str] = some (.fz (.bl b))) ∧ isiD [x, .tup [.ty .tuple, .ty .list]] = some (.fz (.bl false)) := by
  cases x with
  | non => exact ⟨⟨_, rfl⟩, ⟨_, rfl⟩, rfl⟩
  | int i => exact ⟨⟨_, rfl⟩, ⟨_, rfl⟩, rfl⟩
  | str z => exact ⟨⟨_, rfl⟩, ⟨_, rfl⟩, rfl⟩
  | tup xs => exact absurd rfl (h1 xs)
  | lst xs => exact absurd rfl (h2 xs)
  | _ => simp [plain] at h
/-- a turn at a value that holds no others -/
theorem alB_leaf (IX : D → D → Option RV) (a b s4 s5 : SV) (x L : D) (k : Int) (b1 b2 : Bool) (hix : ixA L (.int k) = some (.fz (twin x)))
    (h1 : isiD [x, .ty .bool] = some (.fz (.bl b1))) (h2 : isiD [x, .ty .str] = some (.fz (.bl b2))) (h3 : isiD [x, .tup [.ty .tuple, .ty .list]] = some (.fz (.bl false))) (hn : neD x x = some (.fz (.bl false))) :
    alB [a, b, .own L, .fz (.int k), s4, s5] = .nx [a, b, .own L, .fz (.int (k + 1)), .fz x, .fz x] := by
  have e1 : (dAsg (bTup 2 (bCons (bName 4) (bCons (bName 5) bNil))) (dOp2 ixA (dVar 2) (dVar 3))) [a, b, .own L, .fz (.int k), s4, s5] = .nx [a, b, .own L, .fz (.int k), .fz x, .fz x] := by
    simp only [dAsg, dOp2, dVar, R.bind, R.bindS, rd, List.getElem?_cons_succ, List.getElem?_cons_zero, hix, fz1, twin, bTup, bCons, bName, bNil, List.length_cons, List.length_nil, List.set]
    simp
  unfold alB
  rw [dSeq_nx e1]
  simp [PD.mkF, PD.dSeq, PD.dNext, PD.dSet, PD.dRet, PD.dRetN, PD.dIfS, PD.dDrop, PD.dTup, PD.dLst, PD.dCons, PD.dNil, PD.dOpN, PD.dOp2, PD.dOp1, PD.dVar, PD.dC, PD.R.bind, PD.R.bindS, PD.rd, PD.rdL, PD.intD, PD.orD, PD.mulI, PD.addI, PD.subD, PD.modD, PD.fdivD, PD.fI, PD.fB, PD.ltI, PD.leI, PD.gtI, PD.geI, PD.pick, PD.fzL, PD.fz1, PD.inR, PD.outR, PD.yes2, PD.dCall, PD.prep, PD.prep1, PD.wb, PD.toRV, PD.dB, PD.dTru, PD.truD, PD.dNot, PD.dAnd, PD.dOr, PD.dIf, PD.dNotV, PD.dAndV, PD.dOrV, PD.dPar, PD.dPar3, PD.isN, PD.notN, PD.ixA, PD.ixD, PD.ixDct, L2.atI, L2.ixN, PD.lenD, PD.min2D, PD.max2D, PD.absD, PD.tupleD, PD.listD, PD.dAsg, PD.bName, PD.bTup, PD.bCons, PD.bNil, PD.dStore, PD.storeD, PD.dAugS, PD.getS, PD.dFld, PD.dStFld, PD.putFD, PD.dMethU, PD.callR, PD.dMake, PD.wipeR, PD.back, List.lookup, PD.ioP, dAug, h1, h2, h3, hn, ne_bl]
theorem alB_node (a b s4 s5 : SV) (x : D) (xs L : List D) (k : Int) (b1 b2 b3 : Bool) (hix : ixA (.lst L) (.int k) = some (.fz (twin x)))
    (h1 : isiD [x, .ty .bool] = some (.fz (.bl b1))) (h2 : isiD [x, .ty .str] = some (.fz (.bl b2))) (h3 : isiD [x, .tup [.ty .tuple, .ty .list]] = some (.fz (.bl true))) (h4 : isiD [x, .ty .tuple] = some (.fz (.bl b3)))
    (hl : lenD [x] = some (.fz (.int xs.length))) (hs : seqD x = some xs) (hk : PD.okLen (L.length + (xs.map twin).length) = true) :
    alB [a, b, .own (.lst L), .fz (.int k), s4, s5] = .nx [a, b, .own (.lst (L ++ xs.map twin)), .fz (.int (k + 1)), .fz x, .fz x] := by
  have e1 : (dAsg (bTup 2 (bCons (bName 4) (bCons (bName 5) bNil))) (dOp2 ixA (dVar 2) (dVar 3))) [a, b, .own (.lst L), .fz (.int k), s4, s5] = .nx [a, b, .own (.lst L), .fz (.int k), .fz x, .fz x] := by
    simp only [dAsg, dOp2, dVar, R.bind, R.bindS, rd, List.getElem?_cons_succ, List.getElem?_cons_zero, hix, fz1, twin, bTup, bCons, bName, bNil, List.length_cons, List.length_nil, List.set]
    simp
  have hlen : lenD [x] = some (.fz (.int ((xs.length : Nat) : Int))) := hl
  generalize hj : ((xs.length : Nat) : Int) = j at hlen
  have hnl : neD (.int j) (.int j) = some (.fz (.bl false)) := by rw [ne_int]; simp
  unfold alB
  rw [dSeq_nx e1]
  generalize hz : xs.map twin = zs at hk ⊢
  have hz2 : zipL xs xs = zs := by rw [zipL_twin, hz]
  have hlist : (dLstZ (dCons (dVar 4) (dCons (dVar 5) dNil))) [a, b, .own (.lst L), .fz (.int (k + 1)), .fz x, .fz x] = .ok (.own (.lst zs)) [a, b, .own (.lst L), .fz (.int (k + 1)), .fz x, .fz x] := by
    simp [dLstZ, dCons, dVar, dNil, R.bind, fzL, hs, hz2]
  generalize dLstZ (dCons (dVar 4) (dCons (dVar 5) dNil)) = E at hlist ⊢
  have e2 : (dAug 3 addI (dC (.int 1))) [a, b, .own (.lst L), .fz (.int k), .fz x, .fz x] = .nx [a, b, .own (.lst L), .fz (.int (k + 1)), .fz x, .fz x] := by
    simp [PD.mkF, PD.dSeq, PD.dNext, PD.dSet, PD.dRet, PD.dRetN, PD.dIfS, PD.dDrop, PD.dTup, PD.dLst, PD.dCons, PD.dNil, PD.dOpN, PD.dOp2, PD.dOp1, PD.dVar, PD.dC, PD.R.bind, PD.R.bindS, PD.rd, PD.rdL, PD.intD, PD.orD, PD.mulI, PD.addI, PD.subD, PD.modD, PD.fdivD, PD.fI, PD.fB, PD.ltI, PD.leI, PD.gtI, PD.geI, PD.pick, PD.fzL, PD.fz1, PD.inR, PD.outR, PD.yes2, PD.dCall, PD.prep, PD.prep1, PD.wb, PD.toRV, PD.dB, PD.dTru, PD.truD, PD.dNot, PD.dAnd, PD.dOr, PD.dIf, PD.dNotV, PD.dAndV, PD.dOrV, PD.dPar, PD.dPar3, PD.isN, PD.notN, PD.ixA, PD.ixD, PD.ixDct, L2.atI, L2.ixN, PD.lenD, PD.min2D, PD.max2D, PD.absD, PD.tupleD, PD.listD, PD.dAsg, PD.bName, PD.bTup, PD.bCons, PD.bNil, PD.dStore, PD.storeD, PD.dAugS, PD.getS, PD.dFld, PD.dStFld, PD.putFD, PD.dMethU, PD.callR, PD.dMake, PD.wipeR, PD.back, List.lookup, PD.ioP, dAug]
  rw [dSeq_nx e2]
  simp [dSeq, dIfS, dOr, dB, dOp2, dOpN, dCons, dVar, dNil, dC, R.bind, R.bindS, rd, rdL, dTup, fzL, h1, h2, h3, h4, ne_bl, dNext, dTru, truD, hlen, hnl, dDrop, dMut, chkT, isLst, isDct, hlist, extD, hk]
theorem ixA_at (P Q : List D) (x : D) : ixA (.lst (P ++ x :: Q)) (.int P.length) = some (.fz x) := by
  have h : (P ++ x :: Q)[P.length]? = some x := by simp
  have h' : L2.atI (P ++ x :: Q) (P.length : Int) = some x := by
    have hl : P.length < (P ++ x :: Q).length := by simp
    simp [L2.atI, L2.ixN]
    rw [if_pos (by omega)]
    simp
  simp [ixA, orD, ixD, h']
theorem al_loop (a b : SV) : ∀ (fuel : Nat) (R P : List D) (s4 s5 : SV), plains R = true → szL R < fuel → P.length + szL R ≤ 500000 →
    ∃ ρ', dWhile alC alB fuel [a, b, .own (.lst (P ++ R.map twin)), .fz (.int P.length), s4, s5] = .nx ρ' ∧ ∃ x y z w, ρ' = [a, b, x, y, z, w]
  | 0, R, P, _, _, _, h, _ => absurd h (Nat.not_lt_zero _)
  | fuel + 1, [], P, s4, s5, _, _, _ => by
    refine ⟨[a, b, .own (.lst (P ++ [])), .fz (.int P.length), s4, s5], ?_, _, _, _, _, rfl⟩
    unfold dWhile
    have : alC [a, b, .own (.lst (P ++ [])), .fz (.int P.length), s4, s5] = .ok false [a, b, .own (.lst (P ++ [])), .fz (.int P.length), s4, s5] := by
      simp [alC, dB, dOp2, dVar, dOpN, dCons, dNil, lenD, PD.R.bind, rd, rdL, ltI, fB]
    rw [List.map_nil, this]
    rfl
  | fuel + 1, x :: R, P, s4, s5, hp, hf, hb => by
    have hp2 : plain x = true ∧ plains R = true := by simpa [plains] using hp
    have hx1 := szD_pos x
    have hsz : szL (x :: R) = szD x + szL R := rfl
    rw [hsz] at hf hb
    have hc : alC [a, b, .own (.lst (P ++ twin x :: R.map twin)), .fz (.int P.length), s4, s5] = .ok true [a, b, .own (.lst (P ++ twin x :: R.map twin)), .fz (.int P.length), s4, s5] := by
      have : (P.length : Int) < ((P ++ twin x :: R.map twin).length : Nat) := by simp; omega
      generalize (P ++ twin x :: R.map twin) = L at this ⊢
      generalize (P.length : Int) = j at this ⊢
      generalize hn : ((L.length : Nat) : Int) = n at this
      simp [alC, dB, dOp2, dVar, dOpN, dCons, dNil, lenD, PD.R.bind, rd, rdL, ltI, fB, hn, this]
    have hix := ixA_at P (R.map twin) (twin x)
    unfold dWhile
    rw [List.map_cons, hc]
    simp only [PD.R.bindS, if_true]
    have leaf : ∀ (h1 : ∀ xs, x ≠ .tup xs) (h2 : ∀ xs, x ≠ .lst xs), ∃ ρ', (match alB [a, b, .own (.lst (P ++ twin x :: R.map twin)), .fz (.int P.length), s4, s5] with
        | .nx ρ2 => dWhile alC alB fuel ρ2
        | .ct ρ2 => dWhile alC alB fuel ρ2
        | .bk ρ2 => .nx ρ2
        | r => r) = .nx ρ' ∧ ∃ x y z w, ρ' = [a, b, x, y, z, w] := fun h1 h2 => by
      obtain ⟨⟨b1, i1⟩, ⟨b2, i2⟩, i3⟩ := isi_leaf x hp2.1 h1 h2
      rw [alB_leaf ixA a b s4 s5 x _ _ b1 b2 hix i1 i2 i3 (ne_self x hp2.1 h1 h2)]
      have := al_loop a b fuel R (P ++ [twin x]) (.fz x) (.fz x) hp2.2 (by omega) (by simp only [List.length_append, List.length_cons, List.length_nil]; omega)
      simp only [List.length_append, List.length_cons, List.length_nil, List.append_assoc, List.cons_append, List.nil_append] at this
      exact this
    have node : ∀ (xs : List D) (b1 b2 b3 : Bool) (hsx : szD x = 1 + szL xs) (hpx : plains xs = true) (i1 : isiD [x, .ty .bool] = some (.fz (.bl b1))) (i2 : isiD [x, .ty .str] = some (.fz (.bl b2))) (i3 : isiD [x, .tup [.ty .tuple, .ty .list]] = some (.fz (.bl true))) (i4 : isiD [x, .ty .tuple] = some (.fz (.bl b3)))
        (hl : lenD [x] = some (.fz (.int xs.length))) (hs : seqD x = some xs), ∃ ρ', (match alB [a, b, .own (.lst (P ++ twin x :: R.map twin)), .fz (.int P.length), s4, s5] with
        | .nx ρ2 => dWhile alC alB fuel ρ2
        | .ct ρ2 => dWhile alC alB fuel ρ2
        | .bk ρ2 => .nx ρ2
        | r => r) = .nx ρ' ∧ ∃ x y z w, ρ' = [a, b, x, y, z, w] := fun xs b1 b2 b3 hsx hpx i1 i2 i3 i4 hl hs => by
      have hlx := szL_len xs
      have hlR := szL_len R
      rw [alB_node a b s4 s5 x xs _ _ b1 b2 b3 hix i1 i2 i3 i4 hl hs (okLen_le (by simp only [List.length_append, List.length_cons, List.length_map]; omega))]
      have := al_loop a b fuel (R ++ xs) (P ++ [twin x]) (.fz x) (.fz x) (by rw [plains_app, hp2.2, hpx]; rfl) (by rw [szL_app]; omega) (by rw [szL_app]; simp only [List.length_append, List.length_cons, List.length_nil]; omega)
      simp only [List.length_append, List.length_cons, List.length_nil, List.append_assoc, List.cons_append, List.nil_append, List.map_append] at this
      simp only [List.append_assoc, List.cons_append]
      exact this
    cases x with
    | tup xs => exact node xs _ _ _ rfl (by simpa [plain] using hp2.1) rfl rfl rfl rfl rfl rfl
    | lst xs => exact node xs _ _ _ rfl (by simpa [plain] using hp2.1) rfl rfl rfl rfl rfl rfl
    | _ => exact leaf (fun _ => by simp) (fun _ => by simp)
end Lk
set_option Elab.async false
set_option linter.all false
set_option maxRecDepth 100000
set_option autoImplicit false
namespace Lk
open PySem PySem.Spec PyProof.Rows L2 PD
/-! a couple is told the other way about -/
def cp2 (a b : Int) : List Int := [if b < a then b else a, if b > a then b else a]
def flipL (a b : Int) (l : List (List Int)) : List (List Int) :=
  if cp2 a b ∈ l then l.filter fun c => decide (c ≠ cp2 a b) else if a = b then l else l ++ [cp2 a b]
/-- couples, the lesser ahead -/
def Cpl (c : List Int) : Prop := ∃ p q : Int, c = [p, q] ∧ p < q
theorem cp2_cpl (a b : Int) (h : a ≠ b) : Cpl (cp2 a b) := by
  unfold cp2
  by_cases h1 : b < a
  · exact ⟨b, a, by rw [if_pos h1, if_neg (by omega)], h1⟩
  · exact ⟨a, b, by rw [if_neg h1, if_pos (by omega)], by omega⟩
theorem flip_ok (a b : Int) (l : List (List Int)) (h : ∀ c ∈ l, Cpl c) (hn : l.Nodup) : (∀ c ∈ flipL a b l, Cpl c) ∧ (flipL a b l).Nodup ∧ (flipL a b l).length ≤ l.length + 1 := by
  unfold flipL
  split
  · exact ⟨fun c hc => h c (List.mem_filter.1 hc).1, hn.filter _, Nat.le_succ_of_le (List.length_filter_le _ _)⟩
  · rename_i h1
    split
    · exact ⟨h, hn, Nat.le_succ _⟩
    · rename_i h2
      refine ⟨fun c hc => ?_, ?_, by simp⟩
      · rcases List.mem_append.1 hc with hc | hc
        · exact h c hc
        · rw [List.mem_singleton.1 hc]; exact cp2_cpl a b h2
      · rw [List.nodup_append]
        refine ⟨hn, by simp, fun x hx y hy e => ?_⟩
        rw [List.mem_singleton.1 hy] at e
        exact h1 (e ▸ hx)
theorem cp2_eq (a : Int) (l : List (List Int)) (h : ∀ c ∈ l, Cpl c) : cp2 a a ∉ l := by
  intro hm
  obtain ⟨p, q, e, hl⟩ := h _ hm
  unfold cp2 at e
  simp at e
  omega
/-- the table behind k bends -/
def bnd (m s : Int) (l0 : List (List Int)) : Nat → List (List Int)
  | 0 => l0
  | k + 1 => flipL (dr (adv s (2 * k)) m) (dr (nx (adv s (2 * k))) m) (bnd m s l0 k)
theorem bnd_ok (m s : Int) (l0 : List (List Int)) (h : ∀ c ∈ l0, Cpl c) (hn : l0.Nodup) : ∀ k, (∀ c ∈ bnd m s l0 k, Cpl c) ∧ (bnd m s l0 k).Nodup ∧ (bnd m s l0 k).length ≤ l0.length + k
  | 0 => ⟨h, hn, Nat.le_refl _⟩
  | k + 1 => by
    obtain ⟨h1, h2, h3⟩ := bnd_ok m s l0 h hn k
    obtain ⟨h4, h5, h6⟩ := flip_ok (dr (adv s (2 * k)) m) (dr (nx (adv s (2 * k))) m) _ h1 h2
    exact ⟨h4, h5, by unfold bnd; omega⟩
/-! the program's loop -/
def btA : DS := (dSeq (dPar 7 8 (dCons (dMethU "Draws" "take" f_Draws_take (dVar 3) (dCons (dVar 1) dNil)) (dCons (dMethU "Draws" "take" f_Draws_take (dVar 3) (dCons (dVar 1) dNil)) dNil)))
 (dSet 4 (dTup (dCons (dOpN min2D (dCons (dVar 7) (dCons (dVar 8) dNil))) (dCons (dOpN max2D (dCons (dVar 7) (dCons (dVar 8) dNil))) dNil)))))
def btR : DS := (dIfS (dB (dOp2 inA (dVar 4) (dVar 5)))
 (dDrop (dMut "dict" pop1D (dVar 5) (dCons (dVar 4) dNil)))
 (dIfS (dB (dOp2 neD (dVar 7) (dVar 8)))
 (dStore (dC (.bl true)) (dVar 5) (dVar 4))
 dNext))
theorem btA_run (x0 x2 x4 x5 x6 x7 x8 : SV) (m s : Int) (hm : 0 < m) :
    btA [x0, .fz (.int m), x2, .own (obj s), x4, x5, x6, x7, x8] = .nx [x0, .fz (.int m), x2, .own (obj (nx (nx s))), .fz (ofTI (cp2 (dr s m) (dr (nx s) m))), x5, x6, .fz (.int (dr s m)), .fz (.int (dr (nx s) m))] := by
  have hr := run_take s m hm
  have hr2 := run_take (nx s) m hm
  have hio : f_Draws_take.io = [true, true] := rfl
  generalize dr (nx s) m = b at hr2 ⊢
  generalize nx (nx s) = s2 at hr2 ⊢
  generalize dr s m = a at hr ⊢
  generalize nx s = s1 at hr hr2 ⊢
  unfold obj at hr hr2 ⊢
  have hne : (Str.ofString "take" == Str.ofString "its_state") = false := by decide +kernel
  simp [PD.mkF, PD.dSeq, PD.dNext, PD.dSet, PD.dRet, PD.dRetN, PD.dIfS, PD.dDrop, PD.dTup, PD.dLst, PD.dCons, PD.dNil, PD.dOpN, PD.dOp2, PD.dOp1, PD.dVar, PD.dC, PD.R.bind, PD.R.bindS, PD.rd, PD.rdL, PD.intD, PD.orD, PD.mulI, PD.addI, PD.subD, PD.modD, PD.fdivD, PD.fI, PD.fB, PD.ltI, PD.leI, PD.gtI, PD.geI, PD.pick, PD.fzL, PD.fz1, PD.inR, PD.outR, PD.yes2, PD.dCall, PD.prep, PD.prep1, PD.wb, PD.toRV, PD.dB, PD.dTru, PD.truD, PD.dNot, PD.dAnd, PD.dOr, PD.dIf, PD.dNotV, PD.dAndV, PD.dOrV, PD.dPar, PD.dPar3, PD.isN, PD.notN, PD.ixA, PD.ixD, PD.ixDct, L2.atI, L2.ixN, PD.lenD, PD.min2D, PD.max2D, PD.absD, PD.tupleD, PD.listD, PD.dAsg, PD.bName, PD.bTup, PD.bCons, PD.bNil, PD.dStore, PD.storeD, PD.dAugS, PD.getS, PD.dFld, PD.dStFld, PD.putFD, PD.dMethU, PD.callR, PD.dMake, PD.wipeR, PD.back, List.lookup, PD.ioP, btA, hr, hr2, hio, hne, cp2, ofTI]
theorem btR_yes (x0 x1 x2 x3 x6 x7 x8 : SV) (c : D) (kvs kvs' : List (D × D)) (rv : RV) (h : inA c (.dct true kvs) = some (.fz (.bl true))) (hp : pop1D (.dct true kvs) [c] = some (.dct true kvs', rv)) :
    btR [x0, x1, x2, x3, .fz c, .own (.dct true kvs), x6, x7, x8] = .nx [x0, x1, x2, x3, .fz c, .own (.dct true kvs'), x6, x7, x8] := by
  simp [PD.mkF, PD.dSeq, PD.dNext, PD.dSet, PD.dRet, PD.dRetN, PD.dIfS, PD.dDrop, PD.dTup, PD.dLst, PD.dCons, PD.dNil, PD.dOpN, PD.dOp2, PD.dOp1, PD.dVar, PD.dC, PD.R.bind, PD.R.bindS, PD.rd, PD.rdL, PD.intD, PD.orD, PD.mulI, PD.addI, PD.subD, PD.modD, PD.fdivD, PD.fI, PD.fB, PD.ltI, PD.leI, PD.gtI, PD.geI, PD.pick, PD.fzL, PD.fz1, PD.inR, PD.outR, PD.yes2, PD.dCall, PD.prep, PD.prep1, PD.wb, PD.toRV, PD.dB, PD.dTru, PD.truD, PD.dNot, PD.dAnd, PD.dOr, PD.dIf, PD.dNotV, PD.dAndV, PD.dOrV, PD.dPar, PD.dPar3, PD.isN, PD.notN, PD.ixA, PD.ixD, PD.ixDct, L2.atI, L2.ixN, PD.lenD, PD.min2D, PD.max2D, PD.absD, PD.tupleD, PD.listD, PD.dAsg, PD.bName, PD.bTup, PD.bCons, PD.bNil, PD.dStore, PD.storeD, PD.dAugS, PD.getS, PD.dFld, PD.dStFld, PD.putFD, PD.dMethU, PD.callR, PD.dMake, PD.wipeR, PD.back, List.lookup, PD.ioP, btR, h, hp, dMut, chkT, isLst, isDct]
theorem btR_no (x0 x1 x2 x3 x6 : SV) (a b : Int) (c : D) (kvs : List (D × D)) (h : inA c (.dct true kvs) = some (.fz (.bl false))) (he : neD (.int a) (.int b) = some (.fz (.bl false))) :
    btR [x0, x1, x2, x3, .fz c, .own (.dct true kvs), x6, .fz (.int a), .fz (.int b)] = .nx [x0, x1, x2, x3, .fz c, .own (.dct true kvs), x6, .fz (.int a), .fz (.int b)] := by
  simp [PD.mkF, PD.dSeq, PD.dNext, PD.dSet, PD.dRet, PD.dRetN, PD.dIfS, PD.dDrop, PD.dTup, PD.dLst, PD.dCons, PD.dNil, PD.dOpN, PD.dOp2, PD.dOp1, PD.dVar, PD.dC, PD.R.bind, PD.R.bindS, PD.rd, PD.rdL, PD.intD, PD.orD, PD.mulI, PD.addI, PD.subD, PD.modD, PD.fdivD, PD.fI, PD.fB, PD.ltI, PD.leI, PD.gtI, PD.geI, PD.pick, PD.fzL, PD.fz1, PD.inR, PD.outR, PD.yes2, PD.dCall, PD.prep, PD.prep1, PD.wb, PD.toRV, PD.dB, PD.dTru, PD.truD, PD.dNot, PD.dAnd, PD.dOr, PD.dIf, PD.dNotV, PD.dAndV, PD.dOrV, PD.dPar, PD.dPar3, PD.isN, PD.notN, PD.ixA, PD.ixD, PD.ixDct, L2.atI, L2.ixN, PD.lenD, PD.min2D, PD.max2D, PD.absD, PD.tupleD, PD.listD, PD.dAsg, PD.bName, PD.bTup, PD.bCons, PD.bNil, PD.dStore, PD.storeD, PD.dAugS, PD.getS, PD.dFld, PD.dStFld, PD.putFD, PD.dMethU, PD.callR, PD.dMake, PD.wipeR, PD.back, List.lookup, PD.ioP, btR, h, he]
theorem btR_put (x0 x1 x2 x3 x6 : SV) (a b : Int) (c : D) (k : List Key) (kvs : List (D × D)) (h : inA c (.dct true kvs) = some (.fz (.bl false))) (he : neD (.int a) (.int b) = some (.fz (.bl true))) (hk : keyD c = some (.inr k)) (hl : kvs.length < 1000000) :
    btR [x0, x1, x2, x3, .fz c, .own (.dct true kvs), x6, .fz (.int a), .fz (.int b)] = .nx [x0, x1, x2, x3, .fz c, .own (.dct true (putD kvs (.inr k) (tkD k) (.bl true))), x6, .fz (.int a), .fz (.int b)] := by
  simp [PD.mkF, PD.dSeq, PD.dNext, PD.dSet, PD.dRet, PD.dRetN, PD.dIfS, PD.dDrop, PD.dTup, PD.dLst, PD.dCons, PD.dNil, PD.dOpN, PD.dOp2, PD.dOp1, PD.dVar, PD.dC, PD.R.bind, PD.R.bindS, PD.rd, PD.rdL, PD.intD, PD.orD, PD.mulI, PD.addI, PD.subD, PD.modD, PD.fdivD, PD.fI, PD.fB, PD.ltI, PD.leI, PD.gtI, PD.geI, PD.pick, PD.fzL, PD.fz1, PD.inR, PD.outR, PD.yes2, PD.dCall, PD.prep, PD.prep1, PD.wb, PD.toRV, PD.dB, PD.dTru, PD.truD, PD.dNot, PD.dAnd, PD.dOr, PD.dIf, PD.dNotV, PD.dAndV, PD.dOrV, PD.dPar, PD.dPar3, PD.isN, PD.notN, PD.ixA, PD.ixD, PD.ixDct, L2.atI, L2.ixN, PD.lenD, PD.min2D, PD.max2D, PD.absD, PD.tupleD, PD.listD, PD.dAsg, PD.bName, PD.bTup, PD.bCons, PD.bNil, PD.dStore, PD.storeD, PD.dAugS, PD.getS, PD.dFld, PD.dStFld, PD.putFD, PD.dMethU, PD.callR, PD.dMake, PD.wipeR, PD.back, List.lookup, PD.ioP, btR, h, he, hk, hl]
theorem btR_run (x0 x1 x2 x3 x6 : SV) (a b : Int) (l : List (List Int)) (h : ∀ c ∈ l, Cpl c) (hl : l.length < 1000000) :
    btR [x0, x1, x2, x3, .fz (ofTI (cp2 a b)), .own (.dct true (l.map kvT)), x6, .fz (.int a), .fz (.int b)] = .nx [x0, x1, x2, x3, .fz (ofTI (cp2 a b)), .own (.dct true ((flipL a b l).map kvT)), x6, .fz (.int a), .fz (.int b)] := by
  have hi := in_dct (cp2 a b) l
  by_cases hm : cp2 a b ∈ l
  · rw [btR_yes _ _ _ _ _ _ _ _ _ _ _ (by rw [hi]; simp [hm]) (pop_ti _ l hm)]
    simp [flipL, hm]
  · by_cases e : a = b
    · rw [btR_no _ _ _ _ _ _ _ _ _ (by rw [hi]; simp [hm]) (by rw [ne_int]; simp [e])]
      rw [flipL, if_neg hm, if_pos e]
    · rw [btR_put _ _ _ _ _ _ _ _ _ _ (by rw [hi]; simp [hm]) (by rw [ne_int]; simp [e]) (keyD_ti _) (by simpa using hl), put_ti _ l hm (.bl true)]
      rw [flipL, if_neg hm, if_neg e]
def btB : DS := (dSeq (dPar 7 8 (dCons (dMethU "Draws" "take" f_Draws_take (dVar 3) (dCons (dVar 1) dNil)) (dCons (dMethU "Draws" "take" f_Draws_take (dVar 3) (dCons (dVar 1) dNil)) dNil)))
 (dSeq (dSet 4 (dTup (dCons (dOpN min2D (dCons (dVar 7) (dCons (dVar 8) dNil))) (dCons (dOpN max2D (dCons (dVar 7) (dCons (dVar 8) dNil))) dNil)))) btR))
theorem btB_run (x0 x2 x4 x6 x7 x8 : SV) (m s : Int) (hm : 0 < m) (l : List (List Int)) (h : ∀ c ∈ l, Cpl c) (hl : l.length < 1000000) :
    btB [x0, .fz (.int m), x2, .own (obj s), x4, .own (.dct true (l.map kvT)), x6, x7, x8] = .nx [x0, .fz (.int m), x2, .own (obj (nx (nx s))), .fz (ofTI (cp2 (dr s m) (dr (nx s) m))), .own (.dct true ((flipL (dr s m) (dr (nx s) m) l).map kvT)), x6, .fz (.int (dr s m)), .fz (.int (dr (nx s) m))] := by
  unfold btB
  rw [dSeq_as (btA_run x0 x2 x4 (.own (.dct true (l.map kvT))) x6 x7 x8 m s hm), btR_run _ _ _ _ _ _ _ l h hl]
theorem bt_loop (x0 x2 x4 x6 x7 x8 : SV) (m s : Int) (hm : 0 < m) (l : List (List Int)) (h : ∀ c ∈ l, Cpl c) (hn : l.Nodup) (n : Nat) (hl : l.length + n < 1000000) :
    ∃ y4 y6 y7 y8, dForL (bName 6) btB (upto 0 n) [x0, .fz (.int m), x2, .own (obj s), x4, .own (.dct true (l.map kvT)), x6, x7, x8] = .nx [x0, .fz (.int m), x2, .own (obj (adv s (2 * n))), y4, .own (.dct true ((bnd m s l n).map kvT)), y6, y7, y8] := by
  obtain ⟨ρ', h1, y4, y6, y7, y8, rfl⟩ := forL_inv (g := bName 6) (b := btB) (fun k ρ => ∃ y4 y6 y7 y8, ρ = [x0, .fz (.int m), x2, .own (obj (adv s (2 * k))), y4, .own (.dct true ((bnd m s l k).map kvT)), y6, y7, y8]) n (fun i ρ hi hI => by
    obtain ⟨y4, y6, y7, y8, rfl⟩ := hI
    obtain ⟨h1, h2, h3⟩ := bnd_ok m s l h hn i
    refine ⟨_, _, by simp only [bName]; rfl, .inl (btB_run x0 x2 y4 (.fz (.int i)) y7 y8 m _ hm _ h1 (by omega)), ?_⟩
    exact ⟨_, _, _, _, rfl⟩) _ ⟨_, _, _, _, rfl⟩
  exact ⟨y4, y6, y7, y8, h1⟩
end Lk
set_option Elab.async false
set_option linter.all false
set_option maxRecDepth 100000
set_option autoImplicit false
namespace Lk
open PySem PySem.Spec PyProof.Rows L2 PD
theorem pto_b : b_table_of = (dSeq (dSet 1 (dNewD true)) (dSeq (dFor (dRng1 (dCons (dOpN lenD (dCons (dVar 0) dNil)) dNil)) (bName 2) ptB)
 (dRet (dTup (dCons (dOpN lenD (dCons (dVar 0) dNil)) (dCons (dOpN tupleD (dCons (dOpN srtD (dCons (dVar 1) dNil)) dNil)) dNil)))))) := rfl
theorem pto_run (FF : DS) (SRT : List D → Option RV) (c M : List D) (K : List (D × D)) (x y : SV) (hf : FF [.fz (.tup c), .own (.dct true []), .no, .no] = .nx [.fz (.tup c), .own (.dct true K), x, y]) (hs : SRT [.dct true K] = some (.own (.lst M))) :
   (dSeq (dSet 1 (dNewD true)) (dSeq FF
 (dRet (dTup (dCons (dOpN lenD (dCons (dVar 0) dNil)) (dCons (dOpN tupleD (dCons (dOpN SRT (dCons (dVar 1) dNil)) dNil)) dNil)))))) [.fz (.tup c), .no, .no, .no] = .rt (.fz (.tup [.int c.length, .tup M])) [.fz (.tup c), .own (.dct true K), x, y] := by
  simp [PD.mkF, PD.dSeq, PD.dNext, PD.dSet, PD.dRet, PD.dRetN, PD.dIfS, PD.dDrop, PD.dTup, PD.dLst, PD.dCons, PD.dNil, PD.dOpN, PD.dOp2, PD.dOp1, PD.dVar, PD.dC, PD.R.bind, PD.R.bindS, PD.rd, PD.rdL, PD.intD, PD.orD, PD.mulI, PD.addI, PD.subD, PD.modD, PD.fdivD, PD.fI, PD.fB, PD.ltI, PD.leI, PD.gtI, PD.geI, PD.pick, PD.fzL, PD.fz1, PD.inR, PD.outR, PD.yes2, PD.dCall, PD.prep, PD.prep1, PD.wb, PD.toRV, PD.dB, PD.dTru, PD.truD, PD.dNot, PD.dAnd, PD.dOr, PD.dIf, PD.dNotV, PD.dAndV, PD.dOrV, PD.dPar, PD.dPar3, PD.isN, PD.notN, PD.ixA, PD.ixD, PD.ixDct, L2.atI, L2.ixN, PD.lenD, PD.min2D, PD.max2D, PD.absD, PD.tupleD, PD.listD, PD.dAsg, PD.bName, PD.bTup, PD.bCons, PD.bNil, PD.dStore, PD.storeD, PD.dAugS, PD.getS, PD.dFld, PD.dStFld, PD.putFD, PD.dMethU, PD.callR, PD.dMake, PD.wipeR, PD.back, List.lookup, PD.ioP, hf, hs, dNewD]
theorem pto_fin (s : Int) (n : Nat) (j : Int) (x y : SV) (hj : ((chartL s n).length : Int) = j) (h62 : small62 j = true) (c : List D) (K : List (D × D)) (nss : List (List Int)) (hc : chartL s n = c) (hK : K.map (·.1) = nss.map ofTI) (h2 : ∀ ns ∈ nss, ns.length = 2)
    (hl : dForL (bName 2) ptB (upto 0 j.toNat) [.fz (.tup c), .own (.dct true []), .no, .no] = .nx [.fz (.tup c), .own (.dct true K), x, y]) :
    f_table_of.run [.fz (.tup c)] = .ret (.fz (.tup [.int j, .tup ((sortL nss).map ofTI)])) [.no] := by
  have hs := srt_dct K nss hK h2
  rw [hc] at hj
  have hf := for_len ptB (bName 2) c [.own (.dct true []), .no, .no] j hj h62
  rw [hl] at hf
  have h := pto_run _ srtD _ _ _ _ _ hf hs
  rw [hj] at h
  rw [← pto_b] at h
  rw [show f_table_of = mkF [true] 4 b_table_of from rfl]
  exact fin1 rfl h rfl
theorem run_table_of (s : Int) (n : Nat) (hn : n ≤ 100) : f_table_of.run [.fz (.tup (chartL s n))] = .ret (.fz (.tup [.int n, .tup (tabD s n)])) [.no] := by
  have hl := pt_loop s n hn
  have h62 := sm62 (n := n) (by omega)
  have hlen : ((chartL s n).length : Int) = n := by rw [chartL_length]
  unfold tabD
  have e2 : ((n : Int)).toNat = n := Int.toNat_natCast n
  rw [show upto 0 n = upto 0 ((n : Int)).toNat from by rw [e2]] at hl
  have hK : (kvL s n n).map (·.1) = (tabN s n n).map ofTI := by rw [kvL_keys, tabN_of]
  exact pto_fin s n n _ _ hlen h62 _ _ (tabN s n n) rfl hK (tabN_2 s n n) hl
end Lk
set_option Elab.async false
set_option linter.all false
set_option maxRecDepth 100000
set_option autoImplicit false
namespace Lk
open PySem PySem.Spec PyProof.Rows L2 PD
/-! the dict of a table's couples -/
theorem dPut_ti (a : List Int) (l : List (List Int)) (h : a ∉ l) (hl : l.length < 1000000) : dPutD (.dct true (l.map kvT)) (ofTI a) (.bl true) = some (.dct true ((l ++ [a]).map kvT)) := by
  simp only [dPutD, storeD, keyD_ti, List.length_map, hl, if_true]
  rw [put_ti a l h (.bl true)]
theorem dc_ti (x0 x1 x2 x3 x5 x6 x7 x8 : SV) : ∀ (nss acc : List (List Int)), (acc ++ nss).Nodup → acc.length + nss.length < 1000000 →
    dDcL (bName 4) dYes (dVar 4) (dC (.bl true)) [4] (nss.map ofTI) (.dct true (acc.map kvT)) [x0, x1, x2, x3, .no, x5, x6, x7, x8] = .ok (.dct true ((acc ++ nss).map kvT)) [x0, x1, x2, x3, .no, x5, x6, x7, x8]
  | [], acc, _, _ => by simp [dDcL]
  | a :: nss, acc, hn, hl => by
    simp only [List.length_cons] at hl
    have ha : a ∉ acc := by
      rw [List.nodup_append] at hn
      intro hm
      exact hn.2.2 a hm a List.mem_cons_self rfl
    have hp := dPut_ti a acc ha (by omega)
    have ih := dc_ti x0 x1 x2 x3 x5 x6 x7 x8 nss (acc ++ [a]) (by simpa using hn) (by simp only [List.length_append, List.length_cons, List.length_nil]; omega)
    have hb : bName 4 (ofTI a) [x0, x1, x2, x3, .no, x5, x6, x7, x8] = some [x0, x1, x2, x3, .fz (ofTI a), x5, x6, x7, x8] := by simp [bName]
    have hv : dVar 4 [x0, x1, x2, x3, .fz (ofTI a), x5, x6, x7, x8] = .ok (.fz (ofTI a)) [x0, x1, x2, x3, .fz (ofTI a), x5, x6, x7, x8] := by simp [dVar]
    rw [List.map_cons]
    unfold dDcL
    rw [hb]
    simp only [dYes, hv, fz1, dC, hp, wipeR]
    simp only [List.set]
    rw [ih]
    simp
/-! sorting changes no couples -/
theorem insL_mem (a x : List Int) : ∀ l, x ∈ insL a l ↔ x = a ∨ x ∈ l
  | [] => by simp [insL]
  | b :: l => by
    unfold insL
    split
    · rw [List.mem_cons, insL_mem a x l, List.mem_cons]
      constructor
      · rintro (h | h | h) <;> simp [h]
      · rintro (h | h | h) <;> simp [h]
    · simp
theorem insL_len (a : List Int) : ∀ l, (insL a l).length = l.length + 1
  | [] => rfl
  | b :: l => by
    unfold insL
    split
    · simp [insL_len a l]
    · rfl
theorem insL_nodup (a : List Int) : ∀ l : List (List Int), a ∉ l → l.Nodup → (insL a l).Nodup
  | [], _, _ => by simp [insL]
  | b :: l, h, hn => by
    obtain ⟨h1, h2⟩ := List.nodup_cons.1 hn
    unfold insL
    split
    · refine List.nodup_cons.2 ⟨fun hm => ?_, insL_nodup a l (fun hm => h (List.mem_cons_of_mem _ hm)) h2⟩
      rcases (insL_mem a b l).1 hm with e | hm
      · exact h (e ▸ List.mem_cons_self)
      · exact h1 hm
    · exact List.nodup_cons.2 ⟨h, hn⟩
theorem sortL_mem (x : List Int) : ∀ l, x ∈ sortL l ↔ x ∈ l
  | [] => by simp [sortL]
  | a :: l => by rw [sortL, insL_mem, sortL_mem x l, List.mem_cons]
theorem sortL_len : ∀ l : List (List Int), (sortL l).length = l.length
  | [] => rfl
  | a :: l => by rw [sortL, insL_len, sortL_len l, List.length_cons]
theorem sortL_nodup : ∀ l : List (List Int), l.Nodup → (sortL l).Nodup
  | [], _ => by simp [sortL]
  | a :: l, h => by
    obtain ⟨h1, h2⟩ := List.nodup_cons.1 h
    rw [sortL]
    exact insL_nodup a _ (fun hm => h1 ((sortL_mem a l).1 hm)) (sortL_nodup l h2)
/-! the table of a drawn chart -/
theorem tabN_ok (s : Int) (n : Nat) : ∀ k, k ≤ n → (∀ c ∈ tabN s n k, ∃ p q : Int, c = [p, q] ∧ p < q ∧ q < k) ∧ (tabN s n k).Nodup ∧ (tabN s n k).length ≤ k * n
  | 0, _ => by simp [tabN]
  | k + 1, hk => by
    obtain ⟨h1, h2, h3⟩ := tabN_ok s n k (by omega)
    obtain ⟨h4, h5, h6⟩ := wayC_spec s n k (by omega)
    have hnd := (h4.down (chart_low s n) (by omega)).2
    unfold tabN
    refine ⟨fun c hc => ?_, ?_, ?_⟩
    · rcases List.mem_append.1 hc with hc | hc
      · obtain ⟨p, q, e, hp, hq⟩ := h1 c hc
        exact ⟨p, q, e, hp, by omega⟩
      · obtain ⟨w, hw, rfl⟩ := List.mem_map.1 hc
        exact ⟨w, k, rfl, (h6 w hw).2, by omega⟩
    · rw [List.nodup_append]
      refine ⟨h2, ?_, fun x hx y hy e => ?_⟩
      · exact List.Pairwise.map _ (fun a b (e : a ≠ b) => by simpa using e) hnd
      · obtain ⟨w, hw, rfl⟩ := List.mem_map.1 hy
        obtain ⟨p, q, e2, hp, hq⟩ := h1 x hx
        rw [e2] at e
        simp at e
        omega
    · simp only [List.length_append, List.length_map]
      have : (k + 1) * n = k * n + n := Nat.succ_mul k n
      omega
noncomputable def tab0 (s : Int) (n : Nat) : List (List Int) := sortL (tabN s n n)
theorem tab0_ok (s : Int) (n : Nat) (hn : n ≤ 100) : (∀ c ∈ tab0 s n, Cpl c) ∧ (tab0 s n).Nodup ∧ (tab0 s n).length ≤ 10000 := by
  obtain ⟨h1, h2, h3⟩ := tabN_ok s n n (Nat.le_refl n)
  unfold tab0
  refine ⟨fun c hc => ?_, sortL_nodup _ h2, ?_⟩
  · obtain ⟨p, q, e, hp, _⟩ := h1 c ((sortL_mem c _).1 hc)
    exact ⟨p, q, e, hp⟩
  · rw [sortL_len]
    have := Nat.mul_le_mul hn hn
    omega
end Lk
set_option Elab.async false
set_option linter.all false
set_option maxRecDepth 100000
set_option autoImplicit false
namespace Lk
open PySem PySem.Spec PyProof.Rows L2 PD
/-! bent_table -/
theorem bt_b : b_bent_table = (dSeq (dSet 3 (dMake "Draws" f_DrawsX_initX (dCons (dVar 0) dNil)))
 (dSeq (dSet 5 (dDc true (dItS (dOp2 ixA (dCall f_table_of (dCons (dCall f_chart_by (dCons (dVar 3) (dCons (dVar 1) dNil))) dNil)) (dC (.int 1)))) (bName 4) dYes (dVar 4) (dC (.bl true)) [4]))
 (dSeq (dFor (dRng1 (dCons (dVar 2) dNil)) (bName 6) btB)
 (dRet (dTup (dCons (dVar 1) (dCons (dOpN tupleD (dCons (dOpN srtD (dCons (dVar 5) dNil)) dNil)) dNil))))))) := rfl
theorem bt_1 (x1 x2 x3 x4 x5 x6 x7 x8 : SV) (seed : Int) : (dSet 3 (dMake "Draws" f_DrawsX_initX (dCons (dVar 0) dNil))) [.fz (.int seed), x1, x2, x3, x4, x5, x6, x7, x8] = .nx [.fz (.int seed), x1, x2, .own (obj (seed.fmod 2147483647)), x4, x5, x6, x7, x8] := by
  have hr := run_init seed
  have hio : f_DrawsX_initX.io = [true, true] := rfl
  generalize seed.fmod 2147483647 = s at hr ⊢
  simp [PD.mkF, PD.dSeq, PD.dNext, PD.dSet, PD.dRet, PD.dRetN, PD.dIfS, PD.dDrop, PD.dTup, PD.dLst, PD.dCons, PD.dNil, PD.dOpN, PD.dOp2, PD.dOp1, PD.dVar, PD.dC, PD.R.bind, PD.R.bindS, PD.rd, PD.rdL, PD.intD, PD.orD, PD.mulI, PD.addI, PD.subD, PD.modD, PD.fdivD, PD.fI, PD.fB, PD.ltI, PD.leI, PD.gtI, PD.geI, PD.pick, PD.fzL, PD.fz1, PD.inR, PD.outR, PD.yes2, PD.dCall, PD.prep, PD.prep1, PD.wb, PD.toRV, PD.dB, PD.dTru, PD.truD, PD.dNot, PD.dAnd, PD.dOr, PD.dIf, PD.dNotV, PD.dAndV, PD.dOrV, PD.dPar, PD.dPar3, PD.isN, PD.notN, PD.ixA, PD.ixD, PD.ixDct, L2.atI, L2.ixN, PD.lenD, PD.min2D, PD.max2D, PD.absD, PD.tupleD, PD.listD, PD.dAsg, PD.bName, PD.bTup, PD.bCons, PD.bNil, PD.dStore, PD.storeD, PD.dAugS, PD.getS, PD.dFld, PD.dStFld, PD.putFD, PD.dMethU, PD.callR, PD.dMake, PD.wipeR, PD.back, List.lookup, PD.ioP, hr, hio]
theorem ix_one (a b : D) : ixA (.tup [a, b]) (.int 1) = some (.fz b) := rfl
theorem bt_it1 (x0 x2 x4 x5 x6 x7 x8 : SV) (o o2 : D) (m : Int) (c : D) (h1 : f_chart_by.run [.own o, .fz (.int m)] = .ret (.fz c) [.own o2, .no]) :
    (dCall f_chart_by (dCons (dVar 3) (dCons (dVar 1) dNil))) [x0, .fz (.int m), x2, .own o, x4, x5, x6, x7, x8] = .ok (.fz c) [x0, .fz (.int m), x2, .own o2, x4, x5, x6, x7, x8] := by
  have hio : f_chart_by.io = [true, true] := rfl
  generalize f_chart_by = f at h1 hio ⊢
  simp [dCall, dCons, dVar, dNil, R.bind, hio, prep, prep1, h1, toRV, wb]
theorem bt_it2 (E1 : DE) (ρ ρ1 : List SV) (c t : D) (e1 : E1 ρ = .ok (.fz c) ρ1) (h2 : f_table_of.run [.fz c] = .ret (.fz t) [.no]) :
    (dCall f_table_of (dCons E1 dNil)) ρ = .ok (.fz t) ρ1 := by
  have hio2 : f_table_of.io = [true] := rfl
  generalize f_table_of = f at h2 hio2 ⊢
  simp [dCall, dCons, dNil, R.bind, hio2, prep, prep1, e1, h2, toRV, wb]
theorem bt_it3 (E2 : DE) (ρ ρ1 : List SV) (a : D) (T : List D) (e2 : E2 ρ = .ok (.fz (.tup [a, .tup T])) ρ1) :
    (dItS (dOp2 ixA E2 (dC (.int 1)))) ρ = .ok T ρ1 := by
  have hx := ix_one a (.tup T)
  generalize ixA = IX at hx ⊢
  simp [dItS, dOp2, e2, R.bind, rd, dC, hx, fz1]
theorem bt_it (x0 x2 x5 x6 x7 x8 : SV) (o o2 : D) (m j : Int) (c T : List D) (h1 : f_chart_by.run [.own o, .fz (.int m)] = .ret (.fz (.tup c)) [.own o2, .no]) (h2 : f_table_of.run [.fz (.tup c)] = .ret (.fz (.tup [.int j, .tup T])) [.no]) :
    (dItS (dOp2 ixA (dCall f_table_of (dCons (dCall f_chart_by (dCons (dVar 3) (dCons (dVar 1) dNil))) dNil)) (dC (.int 1)))) [x0, .fz (.int m), x2, .own o, .no, x5, x6, x7, x8] = .ok T [x0, .fz (.int m), x2, .own o2, .no, x5, x6, x7, x8] :=
  bt_it3 _ _ _ _ _ (bt_it2 _ _ _ _ _ (bt_it1 _ _ _ _ _ _ _ _ _ _ _ h1) h2)
theorem bt_2 (IT : DI) (x0 x1 x2 x3 y3 x5 x6 x7 x8 : SV) (nss : List (List Int)) (hi : IT [x0, x1, x2, x3, .no, x5, x6, x7, x8] = .ok (nss.map ofTI) [x0, x1, x2, y3, .no, x5, x6, x7, x8]) (hn : nss.Nodup) (hl : nss.length < 1000000) :
    (dSet 5 (dDc true IT (bName 4) dYes (dVar 4) (dC (.bl true)) [4])) [x0, x1, x2, x3, .no, x5, x6, x7, x8] = .nx [x0, x1, x2, y3, .no, .own (.dct true (nss.map kvT)), x6, x7, x8] := by
  have h := dc_ti x0 x1 x2 y3 x5 x6 x7 x8 nss [] (by simpa using hn) (by simpa using hl)
  rw [List.map_nil, List.nil_append] at h
  have e : (dDc true IT (bName 4) dYes (dVar 4) (dC (.bl true)) [4]) [x0, x1, x2, x3, .no, x5, x6, x7, x8] = .ok (.own (.dct true (nss.map kvT))) [x0, x1, x2, y3, .no, x5, x6, x7, x8] := by
    unfold dDc
    rw [hi]
    simp only [R.bind, wipeR, List.set]
    rw [h]
    simp [back]
  unfold dSet
  rw [e]
  simp [R.bindS, PD.inR]
theorem bt_ret (x0 x1 x2 x3 x4 x6 x7 x8 : SV) (m : Int) (kvs : List (D × D)) (M : List D) (hs : srtD [.dct true kvs] = some (.own (.lst M))) :
    (dRet (dTup (dCons (dVar 1) (dCons (dOpN tupleD (dCons (dOpN srtD (dCons (dVar 5) dNil)) dNil)) dNil)))) [x0, .fz (.int m), x2, x3, x4, .own (.dct true kvs), x6, x7, x8] = .rt (.fz (.tup [.int m, .tup M])) [x0, .fz (.int m), x2, x3, x4, .own (.dct true kvs), x6, x7, x8] := by
  simp [PD.mkF, PD.dSeq, PD.dNext, PD.dSet, PD.dRet, PD.dRetN, PD.dIfS, PD.dDrop, PD.dTup, PD.dLst, PD.dCons, PD.dNil, PD.dOpN, PD.dOp2, PD.dOp1, PD.dVar, PD.dC, PD.R.bind, PD.R.bindS, PD.rd, PD.rdL, PD.intD, PD.orD, PD.mulI, PD.addI, PD.subD, PD.modD, PD.fdivD, PD.fI, PD.fB, PD.ltI, PD.leI, PD.gtI, PD.geI, PD.pick, PD.fzL, PD.fz1, PD.inR, PD.outR, PD.yes2, PD.dCall, PD.prep, PD.prep1, PD.wb, PD.toRV, PD.dB, PD.dTru, PD.truD, PD.dNot, PD.dAnd, PD.dOr, PD.dIf, PD.dNotV, PD.dAndV, PD.dOrV, PD.dPar, PD.dPar3, PD.isN, PD.notN, PD.ixA, PD.ixD, PD.ixDct, L2.atI, L2.ixN, PD.lenD, PD.min2D, PD.max2D, PD.absD, PD.tupleD, PD.listD, PD.dAsg, PD.bName, PD.bTup, PD.bCons, PD.bNil, PD.dStore, PD.storeD, PD.dAugS, PD.getS, PD.dFld, PD.dStFld, PD.putFD, PD.dMethU, PD.callR, PD.dMake, PD.wipeR, PD.back, List.lookup, PD.ioP, hs]
theorem bt_fin (seed m q j : Int) (c : List D) (T l : List (List Int)) (o2 : D) (y3 y4 y6 y7 y8 : SV) (h62 : small62 q = true)
    (h1 : f_chart_by.run [.own (obj (seed.fmod 2147483647)), .fz (.int m)] = .ret (.fz (.tup c)) [.own o2, .no]) (h2 : f_table_of.run [.fz (.tup c)] = .ret (.fz (.tup [.int j, .tup (T.map ofTI)])) [.no])
    (hn : T.Nodup) (hl : T.length < 1000000) (h3 : ∀ ns ∈ l, ns.length = 2)
    (hL : dForL (bName 6) btB (upto 0 q.toNat) [.fz (.int seed), .fz (.int m), .fz (.int q), .own o2, .no, .own (.dct true (T.map kvT)), .no, .no, .no] = .nx [.fz (.int seed), .fz (.int m), .fz (.int q), y3, y4, .own (.dct true (l.map kvT)), y6, y7, y8]) :
    f_bent_table.run [.fz (.int seed), .fz (.int m), .fz (.int q)] = .ret (.fz (.tup [.int m, .tup ((sortL l).map ofTI)])) [.no, .no, .no] := by
  have hs := srt_dct (l.map kvT) l (by rw [List.map_map]; rfl) h3
  have h := bt_ret (.fz (.int seed)) (.fz (.int m)) (.fz (.int q)) y3 y4 y6 y7 y8 m _ _ hs
  have hf := for_rng 2 btB (bName 6) q h62 [.fz (.int seed), .fz (.int m), .fz (.int q), .own o2, .no, .own (.dct true (T.map kvT)), .no, .no, .no] rfl
  rw [hL] at hf
  have hb : b_bent_table [.fz (.int seed), .fz (.int m), .fz (.int q), .no, .no, .no, .no, .no, .no] = .rt (.fz (.tup [.int m, .tup ((sortL l).map ofTI)])) [.fz (.int seed), .fz (.int m), .fz (.int q), y3, y4, .own (.dct true (l.map kvT)), y6, y7, y8] := by
    rw [bt_b, dSeq_nx (bt_1 _ _ _ _ _ _ _ _ seed), dSeq_nx (bt_2 _ _ _ _ _ _ _ _ _ _ T (bt_it _ _ _ _ _ _ _ o2 m j c (T.map ofTI) h1 h2) hn hl), dSeq_nx hf]
    exact h
  rw [show f_bent_table = mkF [true, true, true] 9 b_bent_table from rfl]
  exact fin1 rfl hb rfl
theorem run_bent_table (seed : Int) (n q : Nat) (hn : 0 < n) (hn2 : n ≤ 100) (hq : q ≤ 100) :
    f_bent_table.run [.fz (.int seed), .fz (.int n), .fz (.int q)] = .ret (.fz (.tup [.int n, .tup ((sortL (bnd n (adv (seed.fmod 2147483647) n) (tab0 (seed.fmod 2147483647) n) q)).map ofTI)])) [.no, .no, .no] := by
  obtain ⟨a1, a2, a3⟩ := tab0_ok (seed.fmod 2147483647) n hn2
  obtain ⟨b1, b2, b3⟩ := bnd_ok n (adv (seed.fmod 2147483647) n) _ a1 a2 q
  have h1 := run_chart_by (seed.fmod 2147483647) n (by omega)
  have h2 := run_table_of (seed.fmod 2147483647) n hn2
  obtain ⟨y4, y6, y7, y8, hL⟩ := bt_loop (.fz (.int seed)) (.fz (.int q)) .no .no .no .no n (adv (seed.fmod 2147483647) n) (by omega) _ a1 a2 q (by omega)
  have e2 : ((q : Int)).toNat = q := Int.toNat_natCast q
  rw [show upto 0 q = upto 0 ((q : Int)).toNat from by rw [e2]] at hL
  exact bt_fin seed n q n _ (tab0 (seed.fmod 2147483647) n) _ _ _ _ _ _ _ (sm62 (by omega)) h1 h2 a2 (by omega) (fun ns hns => by obtain ⟨p, r, e, _⟩ := b1 ns hns; rw [e]; rfl) hL
end Lk
set_option Elab.async false
set_option linter.all false
set_option maxRecDepth 100000
set_option autoImplicit false
namespace Lk
open PySem PySem.Spec PyProof.Rows L2 PD
/-! the law's bag -/
def bagD (a b c : Int) (cs : List D) : D := .lst [.int a, .int b, .int c, .lst cs]
theorem bag0 (a b c : Int) (cs : List D) : ixA (bagD a b c cs) (.int 0) = some (.fz (.int a)) := rfl
theorem bag1 (a b c : Int) (cs : List D) : ixA (bagD a b c cs) (.int 1) = some (.fz (.int b)) := rfl
theorem bag2 (a b c : Int) (cs : List D) : ixA (bagD a b c cs) (.int 2) = some (.fz (.int c)) := rfl
theorem bag3 (a b c : Int) (cs : List D) : ixA (bagD a b c cs) (.int 3) = some (.fz (.lst cs)) := rfl
theorem bagS0 (a b c d : Int) (cs : List D) : storeD (bagD a b c cs) (.int 0) (.int d) = some (bagD d b c cs) := rfl
theorem bagS1 (a b c d : Int) (cs : List D) : storeD (bagD a b c cs) (.int 1) (.int d) = some (bagD a d c cs) := rfl
theorem bagS2 (a b c d : Int) (cs : List D) : storeD (bagD a b c cs) (.int 2) (.int d) = some (bagD a b d cs) := rfl
theorem bagG2 (a b c : Int) (cs : List D) : getS (bagD a b c cs) (.int 2) = some (.int c) := rfl
theorem cut_ints (l : List Int) (lo hi : Option Int) : ∃ m : List Int, PD.cutD (l.map D.int) lo hi = m.map D.int ∧ m.length ≤ l.length := by
  unfold PD.cutD
  rw [← List.map_drop, ← List.map_take]
  exact ⟨_, rfl, by rw [List.length_take, List.length_drop]; omega⟩
/-- the next cell, or 0 -/
def tcE : DE := (dOp2 ixA (dOp2 (orD addI (orD catL (orD catT catS))) (dSl slD (dOp2 ixA (dVar 0) (dC (.int 3))) (dPart (dOp2 ixA (dVar 0) (dC (.int 2)))) dNoPart) (dLst (dCons (dC (.int 0)) dNil))) (dC (.int 0)))
theorem bag_ix (k : Int) (d B : D) (ρ : List SV) (h : ixA B (.int k) = some (.fz d)) (h0 : ρ[0]? = some (.own B)) : (dOp2 ixA (dVar 0) (dC (.int k))) ρ = .ok (.fz d) ρ := by
  unfold dOp2 dVar dC
  simp only [h0, PD.R.bind, rd, h]
theorem tcE_run (ρ : List SV) (a b c : Int) (l : List Int) (hl : l.length ≤ 63) (h0 : ρ[0]? = some (.own (bagD a b c (l.map D.int)))) : ∃ v : Int, tcE ρ = .ok (.fz (.int v)) ρ := by
  obtain ⟨m, hm, hml⟩ := cut_ints l (some c) none
  have e3 := bag_ix 3 _ _ ρ (bag3 a b c (l.map D.int)) h0
  have e2 := bag_ix 2 _ _ ρ (bag2 a b c (l.map D.int)) h0
  have es : (dSl slD (dOp2 ixA (dVar 0) (dC (.int 3))) (dPart (dOp2 ixA (dVar 0) (dC (.int 2)))) dNoPart) ρ = .ok (.own (.lst (m.map D.int))) ρ := by
    unfold dSl dPart dNoPart
    simp only [e3, e2, PD.R.bind, rd, slD, hm]
  have ea : (dOp2 (orD addI (orD catL (orD catT catS))) (dSl slD (dOp2 ixA (dVar 0) (dC (.int 3))) (dPart (dOp2 ixA (dVar 0) (dC (.int 2)))) dNoPart) (dLst (dCons (dC (.int 0)) dNil))) ρ = .ok (.own (.lst ((m ++ [0]).map D.int))) ρ := by
    generalize (dSl slD (dOp2 ixA (dVar 0) (dC (.int 3))) (dPart (dOp2 ixA (dVar 0) (dC (.int 2)))) dNoPart) = E at es ⊢
    have hk : PD.okLen ((m.map D.int).length + [D.int 0].length) = true := okLen_le (by simp; omega)
    have hc : orD addI (orD catL (orD catT catS)) (.lst (m.map D.int)) (.lst [.int 0]) = some (.own (.lst ((m ++ [0]).map D.int))) := by
      unfold orD
      simp only [addI, fI, catL, hk, if_true, List.map_append, List.map_cons, List.map_nil]
    generalize orD addI (orD catL (orD catT catS)) = OP at hc ⊢
    simp [dOp2, es, PD.R.bind, dLst, dCons, dC, dNil, fzL, rd, hc]
  refine ⟨(m ++ [0]).getD (0 : Int).toNat 0, ?_⟩
  have hi := atI_int (m ++ [0]) 0 (by omega) (by simp)
  unfold tcE
  generalize (dOp2 (orD addI (orD catL (orD catT catS))) (dSl slD (dOp2 ixA (dVar 0) (dC (.int 3))) (dPart (dOp2 ixA (dVar 0) (dC (.int 2)))) dNoPart) (dLst (dCons (dC (.int 0)) dNil))) = E at ea ⊢
  generalize (m ++ [0]).getD (0 : Int).toNat 0 = v at hi ⊢
  generalize (m ++ [0]).map D.int = L at hi ea
  unfold dOp2 dC
  simp only [ea, PD.R.bind, rd, hi]
/-- what a draw does ahead -/
def tkX : DS := (dSeq (dSet 2 tcE)
 (dSeq (dAugS (fun i j => i + j) (dVar 0) (dC (.int 2)) (dC (.int 1)))
 (dSeq (dIfS (dB (dOp2 geI (dVar 2) (dOp2 powD (dC (.int 10)) (dC (.int 18)))))
 (dStore (dVar 2) (dVar 0) (dC (.int 0)))
 dNext)
 (dSeq (dSet 3 (dOp2 (orD addI (orD catL (orD catT catS))) (dOp2 (orD addI (orD catL (orD catT catS))) (dOp2 (orD mulI repL) (dOp2 ixA (dVar 0) (dC (.int 1))) (dC (.int 48271))) (dOp2 modD (dOpN intD (dCons (dVar 2) dNil)) (dC (.int 2147483647)))) (dOp2 (orD mulI repL) (dC (.int 7919)) (dOp2 ixA (dVar 0) (dC (.int 2))))))
 (dStore (dOp2 modD (dOpN intD (dCons (dVar 3) dNil)) (dC (.int 2147483647))) (dVar 0) (dC (.int 1)))))))
theorem tk_aug (x1 x2 x3 x4 x5 x6 : SV) (B B2 : D) (c : Int) (h1 : getS B (.int 2) = some (.int c)) (h2 : storeD B (.int 2) (.int (c + 1)) = some B2) : (dAugS (fun i j => i + j) (dVar 0) (dC (.int 2)) (dC (.int 1))) [.own B, x1, x2, x3, x4, x5, x6] = .nx [.own B2, x1, x2, x3, x4, x5, x6] := by
  simp [dAugS, dVar, dC, PD.R.bindS, fz1, rd, h1, h2]
theorem pow18 : powD (.int 10) (.int 18) = some (.fz (.int 1000000000000000000)) := by
  have h : (decide ((0 : Int) ≤ 18 ∧ (18 : Int) ≤ 1000000 ∧ (10 : Int).natAbs < 2 ^ 64)) = true := by decide +kernel
  have e : (10 : Int) ^ (18 : Int).toNat = 1000000000000000000 := by decide +kernel
  unfold powD fI
  simp only [h, if_true, e]
theorem pow12 : powD (.int 10) (.int 12) = some (.fz (.int 1000000000000)) := by
  have h : (decide ((0 : Int) ≤ 12 ∧ (12 : Int) ≤ 1000000 ∧ (10 : Int).natAbs < 2 ^ 64)) = true := by decide +kernel
  have e : (10 : Int) ^ (12 : Int).toNat = 1000000000000 := by decide +kernel
  unfold powD fI
  simp only [h, if_true, e]
theorem tk_put (x1 x3 x4 x5 x6 : SV) (v : Int) (B B2 : D) (h2 : storeD B (.int 0) (.int v) = some B2) :
    ∃ B3, (B3 = B ∨ B3 = B2) ∧ (dIfS (dB (dOp2 geI (dVar 2) (dOp2 powD (dC (.int 10)) (dC (.int 18))))) (dStore (dVar 2) (dVar 0) (dC (.int 0))) dNext) [.own B, x1, .fz (.int v), x3, x4, x5, x6] = .nx [.own B3, x1, .fz (.int v), x3, x4, x5, x6] := by
  have hg : geI (.int v) (.int 1000000000000000000) = some (.fz (.bl (decide (1000000000000000000 ≤ v)))) := rfl
  have hp := pow18
  generalize (1000000000000000000 : Int) = N at hg hp
  generalize powD = PW at hp ⊢
  generalize geI = GE at hg ⊢
  by_cases h : N ≤ v
  · exact ⟨B2, .inr rfl, by simp [dIfS, dB, dOp2, dVar, dC, PD.R.bind, PD.R.bindS, rd, hp, hg, h, dStore, fz1, h2, dNext]⟩
  · exact ⟨B, .inl rfl, by simp [dIfS, dB, dOp2, dVar, dC, PD.R.bind, PD.R.bindS, rd, hp, hg, h, dStore, fz1, h2, dNext]⟩
theorem tk_st (x1 x3 x4 x5 x6 : SV) (v b c : Int) (B : D) (h1 : ixA B (.int 1) = some (.fz (.int b))) (h2 : ixA B (.int 2) = some (.fz (.int c))) :
    ∃ w : Int, (dSet 3 (dOp2 (orD addI (orD catL (orD catT catS))) (dOp2 (orD addI (orD catL (orD catT catS))) (dOp2 (orD mulI repL) (dOp2 ixA (dVar 0) (dC (.int 1))) (dC (.int 48271))) (dOp2 modD (dOpN intD (dCons (dVar 2) dNil)) (dC (.int 2147483647)))) (dOp2 (orD mulI repL) (dC (.int 7919)) (dOp2 ixA (dVar 0) (dC (.int 2)))))) [.own B, x1, .fz (.int v), x3, x4, x5, x6] = .nx [.own B, x1, .fz (.int v), .fz (.int w), x4, x5, x6] := by
  generalize ixA = IX at h1 h2 ⊢
  refine ⟨b * 48271 + v.fmod 2147483647 + 7919 * c, ?_⟩
  simp [PD.mkF, PD.dSeq, PD.dNext, PD.dSet, PD.dRet, PD.dRetN, PD.dIfS, PD.dDrop, PD.dTup, PD.dLst, PD.dCons, PD.dNil, PD.dOpN, PD.dOp2, PD.dOp1, PD.dVar, PD.dC, PD.R.bind, PD.R.bindS, PD.rd, PD.rdL, PD.intD, PD.orD, PD.mulI, PD.addI, PD.subD, PD.modD, PD.fdivD, PD.fI, PD.fB, PD.ltI, PD.leI, PD.gtI, PD.geI, PD.pick, PD.fzL, PD.fz1, PD.inR, PD.outR, PD.yes2, PD.dCall, PD.prep, PD.prep1, PD.wb, PD.toRV, PD.dB, PD.dTru, PD.truD, PD.dNot, PD.dAnd, PD.dOr, PD.dIf, PD.dNotV, PD.dAndV, PD.dOrV, PD.dPar, PD.dPar3, PD.isN, PD.notN, PD.ixA, PD.ixD, PD.ixDct, L2.atI, L2.ixN, PD.lenD, PD.min2D, PD.max2D, PD.absD, PD.tupleD, PD.listD, PD.dAsg, PD.bName, PD.bTup, PD.bCons, PD.bNil, PD.dStore, PD.storeD, PD.dAugS, PD.getS, PD.dFld, PD.dStFld, PD.putFD, PD.dMethU, PD.callR, PD.dMake, PD.wipeR, PD.back, List.lookup, PD.ioP, h1, h2]
theorem tk_st2 (x1 x2 x4 x5 x6 : SV) (w : Int) (B B2 : D) (h : storeD B (.int 1) (.int (w.fmod 2147483647)) = some B2) :
    (dStore (dOp2 modD (dOpN intD (dCons (dVar 3) dNil)) (dC (.int 2147483647))) (dVar 0) (dC (.int 1))) [.own B, x1, x2, .fz (.int w), x4, x5, x6] = .nx [.own B2, x1, x2, .fz (.int w), x4, x5, x6] := by
  have hm : modD (.int w) (.int 2147483647) = some (.fz (.int (w.fmod 2147483647))) := rfl
  generalize w.fmod 2147483647 = u at h hm
  generalize modD = MD at hm ⊢
  simp [dStore, dOp2, dOpN, dCons, dVar, dNil, dC, PD.R.bind, PD.R.bindS, rd, rdL, PD.intD, fz1, hm, h]
theorem tkX_run (x1 x2 x3 x4 x5 x6 : SV) (a b c : Int) (l : List Int) (hl : l.length ≤ 63) :
    ∃ a' b' c' y2 y3, tkX [.own (bagD a b c (l.map D.int)), x1, x2, x3, x4, x5, x6] = .nx [.own (bagD a' b' c' (l.map D.int)), x1, y2, y3, x4, x5, x6] := by
  obtain ⟨v, e1⟩ := tcE_run [.own (bagD a b c (l.map D.int)), x1, x2, x3, x4, x5, x6] a b c l hl rfl
  have e1 := set_fz (i := 2) e1
  simp only [List.set] at e1
  have e2 := tk_aug x1 (.fz (.int v)) x3 x4 x5 x6 _ _ c (bagG2 a b c (l.map D.int)) (bagS2 a b c (c + 1) (l.map D.int))
  obtain ⟨B3, hB, e3⟩ := tk_put x1 x3 x4 x5 x6 v _ _ (bagS0 a b (c + 1) v (l.map D.int))
  obtain ⟨a', rfl⟩ : ∃ a', B3 = bagD a' b (c + 1) (l.map D.int) := by
    rcases hB with rfl | rfl
    · exact ⟨a, rfl⟩
    · exact ⟨v, rfl⟩
  obtain ⟨w, e4⟩ := tk_st x1 x3 x4 x5 x6 v b (c + 1) _ (bag1 a' b (c + 1) (l.map D.int)) (bag2 a' b (c + 1) (l.map D.int))
  have e5 := tk_st2 x1 (.fz (.int v)) x4 x5 x6 w _ _ (bagS1 a' b (c + 1) (w.fmod 2147483647) (l.map D.int))
  refine ⟨a', w.fmod 2147483647, c + 1, .fz (.int v), .fz (.int w), ?_⟩
  unfold tkX
  rw [dSeq_nx e1, dSeq_nx e2, dSeq_nx e3, dSeq_nx e4]
  exact e5
/-- a draw, behind -/
def tkY : DS := (dSeq (dIfS (dB (dOp2 gtI (dOp2 ixA (dVar 0) (dC (.int 0))) (dC (.int 0))))
 (dSeq (dSet 4 (dOp2 modD (dOpN intD (dCons (dOp2 ixA (dVar 0) (dC (.int 0))) dNil)) (dVar 1)))
 (dSeq (dStore (dOp2 fdivD (dOpN intD (dCons (dOp2 ixA (dVar 0) (dC (.int 0))) dNil)) (dVar 1)) (dVar 0) (dC (.int 0)))
 (dRet (dVar 4))))
 dNext)
 (dSeq (dSet 5 (dOp2 modD (dOpN intD (dCons (dOp2 (orD mulI repL) (dOp2 (orD addI (orD catL (orD catT catS))) (dOp2 ixA (dVar 0) (dC (.int 1))) (dC (.int 1))) (dC (.int 39373))) dNil)) (dC (.int 1000000007))))
 (dSeq (dSet 6 (dOp2 modD (dOpN intD (dCons (dOp2 (orD mulI repL) (dOp2 modD (dOpN intD (dCons (dOp2 (orD mulI repL) (dVar 5) (dVar 5)) dNil)) (dC (.int 998244353))) (dC (.int 30011))) dNil)) (dC (.int 998244353))))
 (dRet (dOp2 modD (dOpN intD (dCons (dOp2 fdivD (dVar 6) (dC (.int 7))) dNil)) (dVar 1))))))
theorem ltk_b : b_u_law_take = (dSeq (dIfS (dB (dOp2 eqD (dOp2 ixA (dVar 0) (dC (.int 0))) (dC (.int 0)))) tkX dNext) tkY) := rfl
theorem tkY_yes (x2 x3 x4 x5 x6 : SV) (a m : Int) (B B2 : D) (ha : 0 < a) (hm : 0 < m) (hm2 : m < 2 ^ 64) (h1 : ixA B (.int 0) = some (.fz (.int a))) (h2 : storeD B (.int 0) (.int (a.fdiv m)) = some B2) :
    tkY [.own B, .fz (.int m), x2, x3, x4, x5, x6] = .rt (.fz (.int (a.fmod m))) [.own B2, .fz (.int m), x2, x3, .fz (.int (a.fmod m)), x5, x6] := by
  have hd : fdivD (.int a) (.int m) = some (.fz (.int (a.fdiv m))) := by
    unfold fdivD fI
    have : (decide (m ≠ 0 ∧ m.natAbs < 2 ^ 64)) = true := decide_eq_true ⟨by omega, by omega⟩
    simp only [this, if_true]
  have hmod : modD (.int a) (.int m) = some (.fz (.int (a.fmod m))) := by
    unfold modD fI
    have : (decide (m ≠ 0)) = true := decide_eq_true (by omega)
    simp only [this, if_true]
  have hg : gtI (.int a) (.int 0) = some (.fz (.bl true)) := by
    unfold gtI fB
    have : (decide ((0 : Int) < a)) = true := decide_eq_true ha
    simp only [this]
  generalize a.fmod m = u at hmod ⊢
  generalize a.fdiv m = q at hd h2
  unfold tkY
  generalize ixA = IX at h1 ⊢
  generalize fdivD = FD at hd ⊢
  generalize modD = MD at hmod ⊢
  generalize gtI = GT at hg ⊢
  simp [dSeq, dIfS, dB, dOp2, dVar, dC, PD.R.bind, PD.R.bindS, rd, h1, hg, dSet, dOpN, dCons, dNil, rdL, PD.intD, hmod, PD.inR, dStore, hd, fz1, h2, dRet, PD.outR]
theorem sq_small (p : Int) : mulI (.int (p.fmod 1000000007)) (.int (p.fmod 1000000007)) = some (.fz (.int (p.fmod 1000000007 * p.fmod 1000000007))) := by
  have h1 : 0 ≤ p.fmod 1000000007 := Int.fmod_nonneg_of_pos _ (by omega)
  have h2 : p.fmod 1000000007 < 1000000007 := Int.fmod_lt_of_pos _ (by omega)
  generalize p.fmod 1000000007 = q at h1 h2 ⊢
  unfold mulI fI
  have : (decide ((-(2 ^ 64) < q ∧ q < 2 ^ 64) ∨ (-(2 ^ 64) < q ∧ q < 2 ^ 64))) = true := decide_eq_true (.inl ⟨by omega, by omega⟩)
  simp only [this, if_true]
theorem tkY_no (x2 x3 x4 x5 x6 : SV) (a b m : Int) (B : D) (ha : ¬ 0 < a) (hm : 0 < m) (h1 : ixA B (.int 0) = some (.fz (.int a))) (h2 : ixA B (.int 1) = some (.fz (.int b))) :
    ∃ w y5 y6, tkY [.own B, .fz (.int m), x2, x3, x4, x5, x6] = .rt (.fz (.int (Int.fmod w m))) [.own B, .fz (.int m), x2, x3, x4, y5, y6] := by
  have hg : gtI (.int a) (.int 0) = some (.fz (.bl false)) := by
    unfold gtI fB
    have : (decide ((0 : Int) < a)) = false := decide_eq_false ha
    simp only [this]
  have hs := sq_small ((b + 1) * 39373)
  have hm0 : m ≠ 0 := by omega
  refine ⟨(((((b + 1) * 39373).fmod 1000000007 * ((b + 1) * 39373).fmod 1000000007).fmod 998244353 * 30011).fmod 998244353).fdiv 7, .fz (.int (((b + 1) * 39373).fmod 1000000007)), .fz (.int (((((b + 1) * 39373).fmod 1000000007 * ((b + 1) * 39373).fmod 1000000007).fmod 998244353 * 30011).fmod 998244353)), ?_⟩
  have e1 : (dIfS (dB (dOp2 gtI (dOp2 ixA (dVar 0) (dC (.int 0))) (dC (.int 0))))
     (dSeq (dSet 4 (dOp2 modD (dOpN intD (dCons (dOp2 ixA (dVar 0) (dC (.int 0))) dNil)) (dVar 1)))
     (dSeq (dStore (dOp2 fdivD (dOpN intD (dCons (dOp2 ixA (dVar 0) (dC (.int 0))) dNil)) (dVar 1)) (dVar 0) (dC (.int 0)))
     (dRet (dVar 4)))) dNext) [.own B, .fz (.int m), x2, x3, x4, x5, x6] = .nx [.own B, .fz (.int m), x2, x3, x4, x5, x6] := by
    generalize ixA = IX at h1 ⊢
    generalize gtI = GT at hg ⊢
    simp [dIfS, dB, dOp2, dVar, dC, PD.R.bind, PD.R.bindS, rd, h1, hg, dNext]
  have e2 : (dSet 5 (dOp2 modD (dOpN intD (dCons (dOp2 (orD mulI repL) (dOp2 (orD addI (orD catL (orD catT catS))) (dOp2 ixA (dVar 0) (dC (.int 1))) (dC (.int 1))) (dC (.int 39373))) dNil)) (dC (.int 1000000007)))) [.own B, .fz (.int m), x2, x3, x4, x5, x6] = .nx [.own B, .fz (.int m), x2, x3, x4, .fz (.int (((b + 1) * 39373).fmod 1000000007)), x6] := by
    generalize ixA = IX at h2 ⊢
    simp [PD.mkF, PD.dSeq, PD.dNext, PD.dSet, PD.dRet, PD.dRetN, PD.dIfS, PD.dDrop, PD.dTup, PD.dLst, PD.dCons, PD.dNil, PD.dOpN, PD.dOp2, PD.dOp1, PD.dVar, PD.dC, PD.R.bind, PD.R.bindS, PD.rd, PD.rdL, PD.intD, PD.orD, PD.mulI, PD.addI, PD.subD, PD.modD, PD.fdivD, PD.fI, PD.fB, PD.ltI, PD.leI, PD.gtI, PD.geI, PD.pick, PD.fzL, PD.fz1, PD.inR, PD.outR, PD.yes2, PD.dCall, PD.prep, PD.prep1, PD.wb, PD.toRV, PD.dB, PD.dTru, PD.truD, PD.dNot, PD.dAnd, PD.dOr, PD.dIf, PD.dNotV, PD.dAndV, PD.dOrV, PD.dPar, PD.dPar3, PD.isN, PD.notN, PD.ixA, PD.ixD, PD.ixDct, L2.atI, L2.ixN, PD.lenD, PD.min2D, PD.max2D, PD.absD, PD.tupleD, PD.listD, PD.dAsg, PD.bName, PD.bTup, PD.bCons, PD.bNil, PD.dStore, PD.storeD, PD.dAugS, PD.getS, PD.dFld, PD.dStFld, PD.putFD, PD.dMethU, PD.callR, PD.dMake, PD.wipeR, PD.back, List.lookup, PD.ioP, h2]
  unfold tkY
  rw [dSeq_nx e1, dSeq_nx e2]
  generalize ((b + 1) * 39373).fmod 1000000007 = q at hs ⊢
  generalize q * q = qq at hs ⊢
  have e3 : (dSet 6 (dOp2 modD (dOpN intD (dCons (dOp2 (orD mulI repL) (dOp2 modD (dOpN intD (dCons (dOp2 (orD mulI repL) (dVar 5) (dVar 5)) dNil)) (dC (.int 998244353))) (dC (.int 30011))) dNil)) (dC (.int 998244353)))) [.own B, .fz (.int m), x2, x3, x4, .fz (.int q), x6] = .nx [.own B, .fz (.int m), x2, x3, x4, .fz (.int q), .fz (.int ((qq.fmod 998244353 * 30011).fmod 998244353))] := by
    have h5 : orD mulI repL (.int q) (.int q) = some (.fz (.int qq)) := by unfold orD; rw [hs]
    have h6 : orD mulI repL (.int (qq.fmod 998244353)) (.int 30011) = some (.fz (.int (qq.fmod 998244353 * 30011))) := by simp [orD, mulI, fI]
    have h7 : ∀ z : Int, modD (.int z) (.int 998244353) = some (.fz (.int (z.fmod 998244353))) := fun z => rfl
    generalize orD mulI repL = MU at h5 h6 ⊢
    generalize modD = MD at h7 ⊢
    simp [dSet, dOp2, dOpN, dCons, dVar, dNil, dC, PD.R.bind, PD.R.bindS, rd, rdL, PD.intD, h5, h6, h7, PD.inR]
  rw [dSeq_nx e3]
  simp [PD.mkF, PD.dSeq, PD.dNext, PD.dSet, PD.dRet, PD.dRetN, PD.dIfS, PD.dDrop, PD.dTup, PD.dLst, PD.dCons, PD.dNil, PD.dOpN, PD.dOp2, PD.dOp1, PD.dVar, PD.dC, PD.R.bind, PD.R.bindS, PD.rd, PD.rdL, PD.intD, PD.orD, PD.mulI, PD.addI, PD.subD, PD.modD, PD.fdivD, PD.fI, PD.fB, PD.ltI, PD.leI, PD.gtI, PD.geI, PD.pick, PD.fzL, PD.fz1, PD.inR, PD.outR, PD.yes2, PD.dCall, PD.prep, PD.prep1, PD.wb, PD.toRV, PD.dB, PD.dTru, PD.truD, PD.dNot, PD.dAnd, PD.dOr, PD.dIf, PD.dNotV, PD.dAndV, PD.dOrV, PD.dPar, PD.dPar3, PD.isN, PD.notN, PD.ixA, PD.ixD, PD.ixDct, L2.atI, L2.ixN, PD.lenD, PD.min2D, PD.max2D, PD.absD, PD.tupleD, PD.listD, PD.dAsg, PD.bName, PD.bTup, PD.bCons, PD.bNil, PD.dStore, PD.storeD, PD.dAugS, PD.getS, PD.dFld, PD.dStFld, PD.putFD, PD.dMethU, PD.callR, PD.dMake, PD.wipeR, PD.back, List.lookup, PD.ioP, hm0]
/-- a bag -/
def Bag (d : D) : Prop := ∃ a b c, ∃ l : List Int, d = bagD a b c (l.map D.int) ∧ l.length ≤ 63
theorem run_law_take (B : D) (hB : Bag B) (m : Int) (hm : 0 < m) (hm2 : m < 2 ^ 64) : ∃ v B2, Bag B2 ∧ 0 ≤ v ∧ v < m ∧ f_u_law_take.run [.own B, .fz (.int m)] = .ret (.fz (.int v)) [.own B2, .no] := by
  obtain ⟨a, b, c, l, rfl, hl⟩ := hB
  have key : ∃ a' b' c' y2 y3, (dIfS (dB (dOp2 eqD (dOp2 ixA (dVar 0) (dC (.int 0))) (dC (.int 0)))) tkX dNext) [.own (bagD a b c (l.map D.int)), .fz (.int m), .no, .no, .no, .no, .no] = .nx [.own (bagD a' b' c' (l.map D.int)), .fz (.int m), y2, y3, .no, .no, .no] := by
    have h0 := bag0 a b c (l.map D.int)
    have hq := he a 0
    obtain ⟨a', b', c', y2, y3, hX⟩ := tkX_run (.fz (.int m)) .no .no .no .no .no a b c l hl
    generalize tkX = X at hX ⊢
    generalize ixA = IX at h0 ⊢
    generalize PD.eqD = EQ at hq ⊢
    by_cases e : a = 0
    · refine ⟨a', b', c', y2, y3, ?_⟩
      simp [dIfS, dB, dOp2, dVar, dC, PD.R.bind, PD.R.bindS, rd, h0, hq, e] at hX ⊢
      simp [e] at h0 hq hX
      simp [h0, hq, hX]
    · refine ⟨a, b, c, .no, .no, ?_⟩
      simp [dIfS, dB, dOp2, dVar, dC, PD.R.bind, PD.R.bindS, rd, h0, hq, e, dNext]
  obtain ⟨a', b', c', y2, y3, e1⟩ := key
  rw [show f_u_law_take = mkF [true, true] 7 b_u_law_take from rfl]
  by_cases ha : 0 < a'
  · have hY := tkY_yes y2 y3 .no .no .no a' m _ _ ha hm hm2 (bag0 a' b' c' (l.map D.int)) (bagS0 a' b' c' (a'.fdiv m) (l.map D.int))
    refine ⟨a'.fmod m, _, ⟨_, _, _, l, rfl, hl⟩, Int.fmod_nonneg_of_pos _ hm, Int.fmod_lt_of_pos _ hm, fin1 rfl ((congrFun ltk_b _).trans ((dSeq_nx e1).trans hY)) rfl⟩
  · obtain ⟨w, y5, y6, hY⟩ := tkY_no y2 y3 .no .no .no a' b' m _ ha hm (bag0 a' b' c' (l.map D.int)) (bag1 a' b' c' (l.map D.int))
    refine ⟨w.fmod m, _, ⟨_, _, _, l, rfl, hl⟩, Int.fmod_nonneg_of_pos _ hm, Int.fmod_lt_of_pos _ hm, fin1 rfl ((congrFun ltk_b _).trans ((dSeq_nx e1).trans hY)) rfl⟩
end Lk
set_option Elab.async false
set_option linter.all false
set_option maxRecDepth 100000
set_option autoImplicit false
namespace Lk
open PySem PySem.Spec PyProof.Rows L2 PD
theorem absD_int (n : Int) : absD [.int n] = some (.fz (.int (if n < 0 then -n else n))) := rfl
theorem lc_abs (x0 : SV) : ∀ (l acc : List Int), acc.length + l.length < 1000000 →
    ∃ m : List Int, m.length = acc.length + l.length ∧ dLcL (bName 1) dYes (dOpN absD (dCons (dVar 1) dNil)) [1] (l.map D.int) (acc.map D.int) [x0, .no] = .ok (m.map D.int) [x0, .no]
  | [], acc, _ => ⟨acc, by simp, by simp [dLcL]⟩
  | n :: l, acc, hl => by
    simp only [List.length_cons] at hl
    obtain ⟨m, hm, ih⟩ := lc_abs x0 l (acc ++ [if n < 0 then -n else n]) (by simp only [List.length_append, List.length_cons, List.length_nil]; omega)
    refine ⟨m, by rw [hm]; simp; omega, ?_⟩
    rw [List.map_append] at ih
    have hb : bName 1 (.int n) [x0, .no] = some [x0, .fz (.int n)] := by simp [bName]
    have ha : (acc.map D.int).length < 1000000 := by rw [List.length_map]; omega
    have ht : (dOpN absD (dCons (dVar 1) dNil)) [x0, .fz (.int n)] = .ok (.fz (.int (if n < 0 then -n else n))) [x0, .fz (.int n)] := by
      have h := absD_int n
      generalize absD = AB at h ⊢
      generalize (if n < 0 then -n else n) = v at h ⊢
      simp [dOpN, dCons, dVar, dNil, PD.R.bind, rd, rdL, h]
    rw [List.map_cons]
    unfold dLcL
    rw [hb]
    simp only [dYes, ht, fz1, ha, if_true, wipeR]
    simp only [List.set]
    exact ih
def bgE : DE := (dLc (dItS (dSl slD (dVar 0) dNoPart (dPart (dC (.int 63))))) (bName 1) dYes (dOpN absD (dCons (dVar 1) dNil)) [1])
theorem lbg_b : b_u_law_bag = (dRet (dLst (dCons (dC (.int 0)) (dCons (dC (.int 1234567891)) (dCons (dC (.int 0)) (dCons bgE dNil)))))) := rfl
theorem bgE_run (ns : List Int) (h : ns.length ≤ 63) : ∃ m : List Int, m.length ≤ 63 ∧ bgE [.fz (.lk (ns.map D.int)), .no] = .ok (.own (.lst (m.map D.int))) [.fz (.lk (ns.map D.int)), .no] := by
  obtain ⟨q, hq, hql⟩ := cut_ints ns none (some 63)
  obtain ⟨m, hm, hl⟩ := lc_abs (.fz (.lk (ns.map D.int))) q [] (by simp only [List.length_nil]; omega)
  refine ⟨m, by simp at hm; omega, ?_⟩
  have hi : (dItS (dSl slD (dVar 0) dNoPart (dPart (dC (.int 63))))) [.fz (.lk (ns.map D.int)), .no] = .ok (q.map D.int) [.fz (.lk (ns.map D.int)), .no] := by
    unfold dItS dSl dPart dNoPart dC dVar
    simp only [List.getElem?_cons_zero, PD.R.bind, rd, slD, hq, fz1]
  rw [List.map_nil] at hl
  unfold bgE dLc
  rw [hi]
  simp only [PD.R.bind, wipeR, List.set]
  rw [hl]
  simp [back]
theorem run_law_bag (ns : List Int) (h : ns.length ≤ 63) : ∃ B, Bag B ∧ f_u_law_bag.run [.fz (.lk (ns.map D.int))] = .ret (.own B) [.no] := by
  obtain ⟨m, hm, hE⟩ := bgE_run ns h
  refine ⟨_, ⟨0, 1234567891, 0, m, rfl, hm⟩, ?_⟩
  have hb : b_u_law_bag [.fz (.lk (ns.map D.int)), .no] = .rt (.own (bagD 0 1234567891 0 (m.map D.int))) [.fz (.lk (ns.map D.int)), .no] := by
    rw [lbg_b]
    generalize bgE = E at hE ⊢
    simp [dRet, dLst, dCons, dC, dNil, PD.R.bind, PD.R.bindS, hE, fzL, PD.outR, bagD]
  rw [show f_u_law_bag = mkF [true] 2 b_u_law_bag from rfl]
  exact fin1 rfl hb rfl
/-! calls out of a frame -/
theorem set_set (ρ : List SV) (i : Nat) (a b : SV) : (ρ.set i a).set i b = ρ.set i b := by simp
theorem take_call (i : Nat) (M : DE) (ρ : List SV) (B : D) (m : Int) (hB : Bag B) (hm : 0 < m) (hm2 : m < 2 ^ 64) (h1 : ρ[i]? = some (.own B)) (hM : M ρ = .ok (.fz (.int m)) ρ) :
    ∃ v B2, Bag B2 ∧ 0 ≤ v ∧ v < m ∧ dCall f_u_law_take (dCons (dVar i) (dCons M dNil)) ρ = .ok (.fz (.int v)) (ρ.set i (.own B2)) := by
  obtain ⟨v, B2, hB2, h0, hv, hr⟩ := run_law_take B hB m hm hm2
  refine ⟨v, B2, hB2, h0, hv, ?_⟩
  have hio : f_u_law_take.io = [true, true] := rfl
  generalize f_u_law_take = f at hr hio ⊢
  unfold dCall dCons dVar dNil
  simp only [h1, hM, PD.R.bind, hio, prep, prep1, if_true, hr, toRV, List.length_cons, List.length_nil, wb, set_set]
/-- a call of two values, none of them own -/
theorem call_fz2 (f : FDn) (io1 io2 : Bool) (hio : f.io = [io1, io2]) (E1 E2 : DE) (ρ ρ1 ρ2 : List SV) (a b : D) (r : RV) (sv : SV) (hr : f.run [.fz a, .fz b] = .ret sv [.no, .no]) (hs : toRV sv = some r) (h1 : E1 ρ = .ok (.fz a) ρ1) (h2 : E2 ρ1 = .ok (.fz b) ρ2) :
    dCall f (dCons E1 (dCons E2 dNil)) ρ = .ok r ρ2 := by
  unfold dCall dCons dNil
  simp only [h1, h2, PD.R.bind, hio, prep, prep1, hr, hs, List.length_cons, List.length_nil, if_true, wb]
theorem call_fz1 (f : FDn) (io1 : Bool) (hio : f.io = [io1]) (E1 : DE) (ρ ρ1 : List SV) (a : D) (r : RV) (sv : SV) (hr : f.run [.fz a] = .ret sv [.no]) (hs : toRV sv = some r) (h1 : E1 ρ = .ok (.fz a) ρ1) :
    dCall f (dCons E1 dNil) ρ = .ok r ρ1 := by
  unfold dCall dCons dNil
  simp only [h1, PD.R.bind, hio, prep, prep1, hr, hs, List.length_cons, List.length_nil, if_true, wb]
theorem call_fz3 (f : FDn) (io1 io2 io3 : Bool) (hio : f.io = [io1, io2, io3]) (E1 E2 E3 : DE) (ρ ρ1 ρ2 ρ3 : List SV) (a b c : D) (r : RV) (sv : SV) (hr : f.run [.fz a, .fz b, .fz c] = .ret sv [.no, .no, .no]) (hs : toRV sv = some r) (h1 : E1 ρ = .ok (.fz a) ρ1) (h2 : E2 ρ1 = .ok (.fz b) ρ2) (h3 : E3 ρ2 = .ok (.fz c) ρ3) :
    dCall f (dCons E1 (dCons E2 (dCons E3 dNil))) ρ = .ok r ρ3 := by
  unfold dCall dCons dNil
  simp only [h1, h2, h3, PD.R.bind, hio, prep, prep1, hr, hs, List.length_cons, List.length_nil, if_true, wb]
/-! alike -/
inductive AsSV (x : D) : SV → Prop where
  | fz : AsSV x (.fz x)
  | own : AsSV x (.own x)
inductive AsRV (x : D) : RV → Prop where
  | fz : AsRV x (.fz x)
  | own : AsRV x (.own x)
theorem al_1 (x : D) (sx sy : SV) (hx : AsSV x sx) (hy : AsSV x sy) : (dPar 2 3 (dCons (dLst (dCons (dTup (dCons (dVar 0) (dCons (dVar 1) dNil))) dNil)) (dCons (dC (.int 0)) dNil))) [sx, sy, .no, .no, .no, .no] = .nx [.fz x, .fz x, .own (.lst [twin x]), .fz (.int 0), .no, .no] := by
  cases hx <;> cases hy <;> simp [PD.mkF, PD.dSeq, PD.dNext, PD.dSet, PD.dRet, PD.dRetN, PD.dIfS, PD.dDrop, PD.dTup, PD.dLst, PD.dCons, PD.dNil, PD.dOpN, PD.dOp2, PD.dOp1, PD.dVar, PD.dC, PD.R.bind, PD.R.bindS, PD.rd, PD.rdL, PD.intD, PD.orD, PD.mulI, PD.addI, PD.subD, PD.modD, PD.fdivD, PD.fI, PD.fB, PD.ltI, PD.leI, PD.gtI, PD.geI, PD.pick, PD.fzL, PD.fz1, PD.inR, PD.outR, PD.yes2, PD.dCall, PD.prep, PD.prep1, PD.wb, PD.toRV, PD.dB, PD.dTru, PD.truD, PD.dNot, PD.dAnd, PD.dOr, PD.dIf, PD.dNotV, PD.dAndV, PD.dOrV, PD.dPar, PD.dPar3, PD.isN, PD.notN, PD.ixA, PD.ixD, PD.ixDct, L2.atI, L2.ixN, PD.lenD, PD.min2D, PD.max2D, PD.absD, PD.tupleD, PD.listD, PD.dAsg, PD.bName, PD.bTup, PD.bCons, PD.bNil, PD.dStore, PD.storeD, PD.dAugS, PD.getS, PD.dFld, PD.dStFld, PD.putFD, PD.dMethU, PD.callR, PD.dMake, PD.wipeR, PD.back, List.lookup, PD.ioP, twin]
theorem run_alike (x : D) (sx sy : SV) (hx : AsSV x sx) (hy : AsSV x sy) (hp : plain x = true) (hs : szD x ≤ 400000) : ∃ a b, f_u_law_alike.run [sx, sy] = .ret (.fz (.bl true)) [a, b] := by
  obtain ⟨ρ', hl, y, z, u, w, rfl⟩ := al_loop (.fz x) (.fz x) 1000000 [x] [] .no .no (by simp [plains, hp]) (by simp only [szL]; omega) (by simp only [szL, List.length_nil]; omega)
  have hb : b_u_law_alike [sx, sy, .no, .no, .no, .no] = .rt (.fz (.bl true)) [.fz x, .fz x, y, z, u, w] := by
    rw [al_b, dSeq_nx (al_1 x sx sy hx hy)]
    have hl' : dWhile alC alB 1000000 [.fz x, .fz x, .own (.lst [twin x]), .fz (.int 0), .no, .no] = .nx [.fz x, .fz x, y, z, u, w] := hl
    rw [dSeq_nx hl']
    rfl
  rw [show f_u_law_alike = mkF [true, true] 6 b_u_law_alike from rfl]
  exact ⟨_, _, fin1 (as := [(match sx with | .own _ => .fz x | _ => .no), (match sy with | .own _ => .fz x | _ => .no)]) rfl hb (by cases hx <;> cases hy <;> rfl)⟩
theorem alike_call (x : D) (E1 E2 : DE) (ρ ρ1 ρ2 : List SV) (r1 r2 : RV) (a1 : AsRV x r1) (a2 : AsRV x r2) (h1 : E1 ρ = .ok r1 ρ1) (h2 : E2 ρ1 = .ok r2 ρ2) (hp : plain x = true) (hs : szD x ≤ 400000) :
    (dIfS (dNot (dTru (dCall f_u_law_alike (dCons E1 (dCons E2 dNil))))) (dRet (dC (.bl false))) dNext) ρ = .nx ρ2 := by
  have hio : f_u_law_alike.io = [true, true] := rfl
  have key : dCall f_u_law_alike (dCons E1 (dCons E2 dNil)) ρ = .ok (.fz (.bl true)) ρ2 := by
    cases a1 <;> cases a2
    · obtain ⟨a, b, hr⟩ := run_alike x _ _ .fz .fz hp hs
      generalize f_u_law_alike = f at hr hio ⊢
      unfold dCall dCons dNil
      simp only [h1, h2, PD.R.bind, hio, prep, prep1, if_true, hr, toRV, List.length_cons, List.length_nil, wb]
    · obtain ⟨a, b, hr⟩ := run_alike x _ _ .fz .own hp hs
      generalize f_u_law_alike = f at hr hio ⊢
      unfold dCall dCons dNil
      simp only [h1, h2, PD.R.bind, hio, prep, prep1, if_true, hr, toRV, List.length_cons, List.length_nil, wb]
    · obtain ⟨a, b, hr⟩ := run_alike x _ _ .own .fz hp hs
      generalize f_u_law_alike = f at hr hio ⊢
      unfold dCall dCons dNil
      simp only [h1, h2, PD.R.bind, hio, prep, prep1, if_true, hr, toRV, List.length_cons, List.length_nil, wb]
    · obtain ⟨a, b, hr⟩ := run_alike x _ _ .own .own hp hs
      generalize f_u_law_alike = f at hr hio ⊢
      unfold dCall dCons dNil
      simp only [h1, h2, PD.R.bind, hio, prep, prep1, if_true, hr, toRV, List.length_cons, List.length_nil, wb]
  generalize dCall f_u_law_alike (dCons E1 (dCons E2 dNil)) = E at key ⊢
  simp [dIfS, dNot, dTru, key, PD.R.bind, PD.R.bindS, rd, truD, dNext]
theorem next_call (S M : DE) (ρ : List SV) (s m : Int) (hm : 0 < m) (hS : S ρ = .ok (.fz (.int s)) ρ) (hM : M ρ = .ok (.fz (.int m)) ρ) :
    dCall f_u_law_next (dCons S (dCons M dNil)) ρ = .ok (.fz (.tup [.int (nx s), .int (dr s m)])) ρ :=
  call_fz2 _ true true rfl _ _ _ _ _ _ _ _ _ (run_next s m hm) rfl hS hM
theorem var_fz (i : Nat) (ρ : List SV) (d : D) (h : ρ[i]? = some (.fz d)) : dVar i ρ = .ok (.fz d) ρ := by
  unfold dVar
  rw [h]
/-- a, b = a pair -/
theorem asg2 (E : DE) (i j : Nat) (ρ ρ1 : List SV) (a b : D) (h : E ρ = .ok (.fz (.tup [a, b])) ρ1) : (dAsg (bTup 2 (bCons (bName i) (bCons (bName j) bNil))) E) ρ = .nx ((ρ1.set i (.fz a)).set j (.fz b)) := by
  unfold dAsg
  rw [h]
  rfl
end Lk
set_option Elab.async false
set_option linter.all false
set_option maxRecDepth 100000
set_option autoImplicit false
namespace Lk
open PySem PySem.Spec PyProof.Rows L2 PD
def T1 : DS := (dPar 3 4 (dCons (dCall f_u_law_some (dCons (dVar 1) (dCons (dLst (dCons (dCall f_u_law_take (dCons (dVar 1) (dCons (dC (.int 100)) dNil))) (dCons (dCall f_u_law_take (dCons (dVar 1) (dCons (dOp2 powD (dC (.int 10)) (dC (.int 12))) dNil))) (dCons (dC (.int 2147483647)) (dCons (dC (.int 0)) dNil))))) dNil))) (dCons (dOp2 (orD addI (orD catL (orD catT catS))) (dC (.int 1)) (dCall f_u_law_take (dCons (dVar 1) (dCons (dC (.int 10)) dNil)))) dNil)))
def T2 : DS := (dSet 5 (dOp2 modD (dOpN intD (dCons (dVar 3) dNil)) (dC (.int 2147483647))))
def T3 : DS := (dPar 6 7 (dCons (dMake "Draws" f_DrawsX_initX (dCons (dVar 3) dNil)) (dCons (dVar 5) dNil)))
def T4b : DS := (dSeq (dSet 9 (dOp2 (orD addI (orD catL (orD catT catS))) (dC (.int 1)) (dCall f_u_law_take (dCons (dVar 1) (dCons (dC (.int 40)) dNil)))))
 (dSeq (dAsg (bTup 2 (bCons (bName 7) (bCons (bName 10) bNil))) (dCall f_u_law_next (dCons (dVar 7) (dCons (dVar 9) dNil))))
 (dIfS (dNot (dTru (dCall f_u_law_alike (dCons (dLst (dCons (dMethU "Draws" "take" f_Draws_take (dVar 6) (dCons (dVar 9) dNil)) (dCons (dMethU "Draws" "state" f_Draws_state (dVar 6) dNil) dNil))) (dCons (dLst (dCons (dVar 10) (dCons (dVar 7) dNil))) dNil)))))
 (dRet (dC (.bl false)))
 dNext)))
def T4 : DS := (dFor (dRng1 (dCons (dOp2 (orD addI (orD catL (orD catT catS))) (dC (.int 1)) (dCall f_u_law_take (dCons (dVar 1) (dCons (dC (.int 5)) dNil)))) dNil)) (bName 8) T4b)
def T5 : DS := (dAsg (bTup 2 (bCons (bName 7) (bCons (bName 11) bNil))) (dCall f_u_law_drawn_chart (dCons (dVar 5) (dCons (dVar 4) dNil))))
def T6 : DS := (dSet 12 (dOpN listD (dCons (dOp2 ixA (dCall f_u_law_table_of (dCons (dVar 11) dNil)) (dC (.int 1))) dNil)))
def T7 : DS := (dSet 13 (dCall f_u_law_take (dCons (dVar 1) (dCons (dC (.int 21)) dNil))))
def T8c : DS := (dIfS (dB (dOp2 neD (dVar 15) (dVar 16)))
 (dSet 12 (dIf (dB (dOp2 inA (dVar 17) (dVar 12))) (dLc (dItS (dVar 12)) (bName 18) (dB (dOp2 neD (dVar 18) (dVar 17))) (dVar 18) [18]) (dOp2 (orD addI (orD catL (orD catT catS))) (dVar 12) (dLst (dCons (dVar 17) dNil)))))
 dNext)
def T8b : DS := (dSeq (dAsg (bTup 2 (bCons (bName 7) (bCons (bName 15) bNil))) (dCall f_u_law_next (dCons (dVar 7) (dCons (dVar 4) dNil))))
 (dSeq (dAsg (bTup 2 (bCons (bName 7) (bCons (bName 16) bNil))) (dCall f_u_law_next (dCons (dVar 7) (dCons (dVar 4) dNil))))
 (dSeq (dSet 17 (dTup (dCons (dOpN min2D (dCons (dVar 15) (dCons (dVar 16) dNil))) (dCons (dOpN max2D (dCons (dVar 15) (dCons (dVar 16) dNil))) dNil))))
 T8c)))
def T8 : DS := (dFor (dRng1 (dCons (dVar 13) dNil)) (bName 14) T8b)
def T9 : DS := (dIfS (dNot (dTru (dCall f_u_law_alike (dCons (dLst (dCons (dCall f_drawn_chart (dCons (dVar 3) (dCons (dVar 4) dNil))) (dCons (dCall f_bent_table (dCons (dVar 3) (dCons (dVar 4) (dCons (dVar 13) dNil)))) dNil))) (dCons (dLst (dCons (dVar 11) (dCons (dTup (dCons (dVar 4) (dCons (dOpN tupleD (dCons (dOpN srtD (dCons (dVar 12) dNil)) dNil)) dNil))) dNil))) dNil)))))
 (dRet (dC (.bl false)))
 dNext)
def T10 : DS := (dPar 7 19 (dCons (dVar 5) (dCons (dLst dNil) dNil)))
def T11b : DS := (dSeq (dAsg (bTup 2 (bCons (bName 7) (bCons (bName 10) bNil))) (dCall f_u_law_next (dCons (dVar 7) (dCons (dC (.int 2)) dNil))))
 (dSet 19 (dOp2 (orD addI (orD catL (orD catT catS))) (dVar 19) (dOp2 (orD mulI repL) (dLst (dCons (dVar 17) dNil)) (dVar 10)))))
def T11 : DS := (dFor (dItS (dCall f_u_law_couples (dCons (dVar 4) dNil))) (bName 17) T11b)
def T12 : DS := (dIfS (dNot (dTru (dCall f_u_law_alike (dCons (dCall f_drawn_table (dCons (dVar 3) (dCons (dVar 4) dNil))) (dCons (dTup (dCons (dVar 4) (dCons (dOpN tupleD (dCons (dVar 19) dNil)) dNil))) dNil)))))
 (dRet (dC (.bl false)))
 dNext)
def T13 : DS := (dPar3 7 20 21 (dCons (dVar 5) (dCons (dLstRg (dRng1 (dCons (dVar 4) dNil))) (dCons (dLst dNil) dNil))))
def T14b : DS := (dSeq (dAsg (bTup 2 (bCons (bName 7) (bCons (bName 10) bNil))) (dCall f_u_law_next (dCons (dVar 7) (dCons (dOpN lenD (dCons (dVar 20) dNil)) dNil))))
 (dSeq (dDrop (dMut "list" appD (dVar 21) (dCons (dOp2 ixA (dVar 20) (dVar 10)) dNil)))
 (dSet 20 (dOp2 (orD addI (orD catL (orD catT catS))) (dSl slD (dVar 20) dNoPart (dPart (dVar 10))) (dSl slD (dVar 20) (dPart (dOp2 (orD addI (orD catL (orD catT catS))) (dVar 10) (dC (.int 1)))) dNoPart)))))
def T14 : DS := (dFor (dRng1 (dCons (dVar 4) dNil)) (bName 8) T14b)
def T15 : DS := (dPar 7 22 (dCons (dVar 5) (dCons (dLst dNil) dNil)))
def T16b : DS := (dSeq (dAsg (bTup 2 (bCons (bName 7) (bCons (bName 10) bNil))) (dCall f_u_law_next (dCons (dVar 7) (dCons (dC (.int 2)) dNil))))
 (dSet 22 (dOp2 (orD addI (orD catL (orD catT catS))) (dVar 22) (dOp2 (orD mulI repL) (dLst (dCons (dVar 18) dNil)) (dVar 10)))))
def T16 : DS := (dFor (dRng1 (dCons (dVar 4) dNil)) (bName 18) T16b)
def T17 : DS := (dIfS (dNot (dTru (dCall f_u_law_alike (dCons (dLst (dCons (dCall f_drawn_names (dCons (dVar 3) (dCons (dVar 4) dNil))) (dCons (dCall f_drawn_lot (dCons (dVar 3) (dCons (dVar 4) dNil))) dNil))) (dCons (dLst (dCons (dOpN tupleD (dCons (dVar 21) dNil)) (dCons (dOpN tupleD (dCons (dVar 22) dNil)) dNil))) dNil)))))
 (dRet (dC (.bl false)))
 dNext)
def T18 : DS := (dPar3 7 23 9 (dCons (dVar 5) (dCons (dLst dNil) (dCons (dCall f_u_law_take (dCons (dVar 1) (dCons (dC (.int 12)) dNil))) dNil))))
def T19d : DS := (dDrop (dMut "list" appD (dVar 23) (dCons (dIf (dB (dOp2 ltI (dVar 24) (dC (.int 4)))) (dTup (dCons (dC (.str "join")) (dCons (dVar 15) dNil))) (dIf (dB (dOp2 eqD (dVar 24) (dC (.int 11)))) (dTup (dCons (dC (.str "day")) dNil)) (dTup (dCons (dVar 26) (dCons (dVar 15) (dCons (dVar 16) dNil)))))) dNil)))
def T19c : DS := (dSeq (dPar 15 16 (dCons (dOp2 ixA (dLst (dCons (dC (.str "ash")) (dCons (dC (.str "bea")) (dCons (dC (.str "cid")) (dCons (dC (.str "dot")) (dCons (dC (.str "eli")) dNil)))))) (dVar 18)) (dCons (dOp2 ixA (dLst (dCons (dC (.str "ash")) (dCons (dC (.str "bea")) (dCons (dC (.str "cid")) (dCons (dC (.str "dot")) (dCons (dC (.str "eli")) dNil)))))) (dVar 25)) dNil)))
 (dSeq (dSet 26 (dIf (dB (dOp2 ltI (dVar 24) (dC (.int 7)))) (dC (.str "line")) (dIf (dB (dOp2 ltI (dVar 24) (dC (.int 9)))) (dC (.str "apart")) (dC (.str "forget")))))
 T19d))
def T19b : DS := (dSeq (dAsg (bTup 2 (bCons (bName 7) (bCons (bName 24) bNil))) (dCall f_u_law_next (dCons (dVar 7) (dCons (dC (.int 12)) dNil))))
 (dSeq (dAsg (bTup 2 (bCons (bName 7) (bCons (bName 18) bNil))) (dCall f_u_law_next (dCons (dVar 7) (dCons (dC (.int 5)) dNil))))
 (dSeq (dAsg (bTup 2 (bCons (bName 7) (bCons (bName 25) bNil))) (dCall f_u_law_next (dCons (dVar 7) (dCons (dC (.int 5)) dNil))))
 T19c)))
def T19 : DS := (dFor (dRng1 (dCons (dVar 9) dNil)) (bName 8) T19b)
def T20 : DS := (dIfS (dNot (dTru (dCall f_u_law_alike (dCons (dCall f_deeds_of (dCons (dVar 3) (dCons (dVar 9) dNil))) (dCons (dOpN tupleD (dCons (dVar 23) dNil)) dNil)))))
 (dRet (dC (.bl false)))
 dNext)
def turnB : DS := (dSeq T1 (dSeq T2 (dSeq T3 (dSeq T4 (dSeq T5 (dSeq T6 (dSeq T7 (dSeq T8 (dSeq T9 (dSeq T10 (dSeq T11 (dSeq T12 (dSeq T13 (dSeq T14 (dSeq T15 (dSeq T16 (dSeq T17 (dSeq T18 (dSeq T19 T20)))))))))))))))))))
theorem law_b : b_law = (dSeq (dSet 1 (dCall f_u_law_bag (dCons (dVar 0) dNil)))
 (dSeq (dFor (dRng1 (dCons (dC (.int 4)) dNil)) (bName 2) turnB) (dRet (dC (.bl true))))) := rfl
end Lk
set_option Elab.async false
set_option linter.all false
set_option maxRecDepth 100000
set_option autoImplicit false
namespace Lk
open PySem PySem.Spec PyProof.Rows L2 PD
theorem set_fz' {i : Nat} {E : DE} {ρ ρ1 ρ2 : List SV} {d : D} (h : E ρ = .ok (.fz d) ρ1) (e : ρ1.set i (.fz d) = ρ2) : dSet i E ρ = .nx ρ2 := by rw [set_fz h, e]
theorem set_own' {i : Nat} {E : DE} {ρ ρ1 ρ2 : List SV} {d : D} (h : E ρ = .ok (.own d) ρ1) (e : ρ1.set i (.own d) = ρ2) : dSet i E ρ = .nx ρ2 := by rw [set_own h, e]
theorem asg2' {E : DE} {i j : Nat} {ρ ρ1 ρ2 : List SV} {a b : D} (h : E ρ = .ok (.fz (.tup [a, b])) ρ1) (e : (ρ1.set i (.fz a)).set j (.fz b) = ρ2) : (dAsg (bTup 2 (bCons (bName i) (bCons (bName j) bNil))) E) ρ = .nx ρ2 := by rw [asg2 E i j ρ ρ1 a b h, e]
theorem int_of (V : DE) (ρ : List SV) (v : Int) (h : V ρ = .ok (.fz (.int v)) ρ) : (dOpN intD (dCons V dNil)) ρ = .ok (.fz (.int v)) ρ := by
  simp [dOpN, dCons, dNil, PD.R.bind, h, rd, rdL, PD.intD]
theorem run_law_some (B : D) (hB : Bag B) (l : List Int) (hl : 0 < l.length) (hl2 : l.length < 1000) : ∃ v B2, Bag B2 ∧ f_u_law_some.run [.own B, .own (.lst (l.map D.int))] = .ret (.fz (.int v)) [.own B2, .own (.lst (l.map D.int))] := by
  have hlen : (dOpN lenD (dCons (dVar 1) dNil)) [.own B, .own (.lst (l.map D.int))] = .ok (.fz (.int l.length)) [.own B, .own (.lst (l.map D.int))] := by
    have h : lenD [.lst (l.map D.int)] = some (.fz (.int l.length)) := by simp [lenD]
    generalize lenD = LE at h ⊢
    simp [dOpN, dCons, dVar, dNil, PD.R.bind, rd, rdL, h]
  obtain ⟨v, B2, hB2, h0, hv, hc⟩ := take_call 0 _ [.own B, .own (.lst (l.map D.int))] B l.length hB (by omega) (by omega) rfl hlen
  have hi := atI_int l v h0 hv
  refine ⟨l.getD v.toNat 0, B2, hB2, ?_⟩
  have hb : b_u_law_some [.own B, .own (.lst (l.map D.int))] = .rt (.fz (.int (l.getD v.toNat 0))) [.own B2, .own (.lst (l.map D.int))] := by
    unfold b_u_law_some
    generalize dCall f_u_law_take (dCons (dVar 0) (dCons (dOpN lenD (dCons (dVar 1) dNil)) dNil)) = E at hc ⊢
    generalize ixA = IX at hi ⊢
    simp [dRet, dOp2, dVar, PD.R.bind, PD.R.bindS, hc, rd, hi, PD.outR]
  rw [show f_u_law_some = mkF [true, true] 2 b_u_law_some from rfl]
  exact fin1 rfl hb rfl
/-- 1 + a draw -/
theorem one_take (i : Nat) (ρ : List SV) (B : D) (m : Int) (hB : Bag B) (hm : 0 < m) (hm2 : m < 2 ^ 64) (h1 : ρ[i]? = some (.own B)) :
    ∃ (n : Nat) (B2 : D), Bag B2 ∧ 1 ≤ n ∧ (n : Int) ≤ m ∧ (dOp2 (orD addI (orD catL (orD catT catS))) (dC (.int 1)) (dCall f_u_law_take (dCons (dVar i) (dCons (dC (.int m)) dNil)))) ρ = .ok (.fz (.int n)) (ρ.set i (.own B2)) := by
  obtain ⟨v, B2, hB2, h0, hv, hc⟩ := take_call i (dC (.int m)) ρ B m hB hm hm2 h1 rfl
  refine ⟨(1 + v).toNat, B2, hB2, by omega, by omega, ?_⟩
  have e : (((1 + v).toNat : Nat) : Int) = 1 + v := by omega
  rw [e]
  generalize dCall f_u_law_take (dCons (dVar i) (dCons (dC (.int m)) dNil)) = E at hc ⊢
  simp [dOp2, dC, PD.R.bind, hc, rd, orD, addI, fI, yes2]
theorem some_call (E1 E2 : DE) (ρ ρ1 ρ2 : List SV) (B : D) (a b c d : Int) (hB : Bag B) (h1 : E1 ρ = .ok (.fz (.int a)) ρ1) (h2 : E2 ρ1 = .ok (.fz (.int b)) ρ2) (h0 : ∃ d, ρ[1]? = some (.own d)) (hb : ρ2[1]? = some (.own B)) :
    ∃ v B2, Bag B2 ∧ dCall f_u_law_some (dCons (dVar 1) (dCons (dLst (dCons E1 (dCons E2 (dCons (dC (.int c)) (dCons (dC (.int d)) dNil))))) dNil)) ρ = .ok (.fz (.int v)) (ρ2.set 1 (.own B2)) := by
  obtain ⟨v, B2, hB2, hr⟩ := run_law_some B hB [a, b, c, d] (by simp) (by simp)
  obtain ⟨d0, h0⟩ := h0
  refine ⟨v, B2, hB2, ?_⟩
  have hl : (dLst (dCons E1 (dCons E2 (dCons (dC (.int c)) (dCons (dC (.int d)) dNil))))) ρ = .ok (.own (.lst ([a, b, c, d].map D.int))) ρ2 := by
    simp [dLst, dCons, dC, dNil, PD.R.bind, h1, h2, fzL]
  generalize dLst (dCons E1 (dCons E2 (dCons (dC (.int c)) (dCons (dC (.int d)) dNil)))) = E at hl ⊢
  have hio : f_u_law_some.io = [true, true] := rfl
  generalize f_u_law_some = f at hr hio ⊢
  unfold dCall dCons dVar dNil
  simp only [h0, hl, PD.R.bind, hio, prep, prep1, hb, if_true, hr, toRV, List.length_cons, List.length_nil, wb, set_set]
theorem twelve (ρ : List SV) : (dOp2 powD (dC (.int 10)) (dC (.int 12))) ρ = .ok (.fz (.int 1000000000000)) ρ := by
  have h := pow12
  generalize powD = PW at h ⊢
  generalize (1000000000000 : Int) = N at h ⊢
  simp [dOp2, dC, PD.R.bind, rd, h]
theorem frame_at (ρ : List SV) (i : Nat) (a : SV) (h : i < ρ.length) : (ρ.set i a)[i]? = some a := by
  simp [h]
theorem T1_run (x0 x2 x3 x4 x5 x6 x7 x8 x9 x10 x11 x12 x13 x14 x15 x16 x17 x18 x19 x20 x21 x22 x23 x24 x25 x26 : SV) (B : D) (hB : Bag B) : ∃ (v : Int) (n : Nat) (B2 : D), Bag B2 ∧ 1 ≤ n ∧ n ≤ 10 ∧ T1 [x0, .own B, x2, x3, x4, x5, x6, x7, x8, x9, x10, x11, x12, x13, x14, x15, x16, x17, x18, x19, x20, x21, x22, x23, x24, x25, x26] = .nx [x0, .own B2, x2, .fz (.int v), .fz (.int n), x5, x6, x7, x8, x9, x10, x11, x12, x13, x14, x15, x16, x17, x18, x19, x20, x21, x22, x23, x24, x25, x26] := by
  obtain ⟨a, B1, hB1, _, _, h1⟩ := take_call 1 (dC (.int 100)) [x0, .own B, x2, x3, x4, x5, x6, x7, x8, x9, x10, x11, x12, x13, x14, x15, x16, x17, x18, x19, x20, x21, x22, x23, x24, x25, x26] B 100 hB (by omega) (by omega) rfl rfl
  obtain ⟨b, B2, hB2, _, _, h2⟩ := take_call 1 (dOp2 powD (dC (.int 10)) (dC (.int 12))) [x0, .own B1, x2, x3, x4, x5, x6, x7, x8, x9, x10, x11, x12, x13, x14, x15, x16, x17, x18, x19, x20, x21, x22, x23, x24, x25, x26] B1 1000000000000 hB1 (by omega) (by omega) rfl (twelve _)
  obtain ⟨v, B3, hB3, h3⟩ := some_call _ _ [x0, .own B, x2, x3, x4, x5, x6, x7, x8, x9, x10, x11, x12, x13, x14, x15, x16, x17, x18, x19, x20, x21, x22, x23, x24, x25, x26] _ [x0, .own B2, x2, x3, x4, x5, x6, x7, x8, x9, x10, x11, x12, x13, x14, x15, x16, x17, x18, x19, x20, x21, x22, x23, x24, x25, x26] B2 a b 2147483647 0 hB2 h1 h2 ⟨B, rfl⟩ rfl
  obtain ⟨n, B4, hB4, n1, n2, h4⟩ := one_take 1 [x0, .own B3, x2, x3, x4, x5, x6, x7, x8, x9, x10, x11, x12, x13, x14, x15, x16, x17, x18, x19, x20, x21, x22, x23, x24, x25, x26] B3 10 hB3 (by omega) (by omega) rfl
  refine ⟨v, n, B4, hB4, n1, by omega, ?_⟩
  unfold T1
  exact par_fz _ _ 3 4 _ _ _ _ _ h3 h4
theorem T2_run (x0 x1 x2 x4 x5 x6 x7 x8 x9 x10 x11 x12 x13 x14 x15 x16 x17 x18 x19 x20 x21 x22 x23 x24 x25 x26 : SV) (v : Int) : T2 [x0, x1, x2, .fz (.int v), x4, x5, x6, x7, x8, x9, x10, x11, x12, x13, x14, x15, x16, x17, x18, x19, x20, x21, x22, x23, x24, x25, x26] = .nx [x0, x1, x2, .fz (.int v), x4, .fz (.int (v.fmod 2147483647)), x6, x7, x8, x9, x10, x11, x12, x13, x14, x15, x16, x17, x18, x19, x20, x21, x22, x23, x24, x25, x26] := by
  have h := int_of (dVar 3) [x0, x1, x2, .fz (.int v), x4, x5, x6, x7, x8, x9, x10, x11, x12, x13, x14, x15, x16, x17, x18, x19, x20, x21, x22, x23, x24, x25, x26] v rfl
  have hm : modD (.int v) (.int 2147483647) = some (.fz (.int (v.fmod 2147483647))) := rfl
  unfold T2
  generalize dOpN PD.intD (dCons (dVar 3) dNil) = E at h ⊢
  generalize v.fmod 2147483647 = w at hm ⊢
  refine set_fz' (i := 5) (ρ1 := [x0, x1, x2, .fz (.int v), x4, x5, x6, x7, x8, x9, x10, x11, x12, x13, x14, x15, x16, x17, x18, x19, x20, x21, x22, x23, x24, x25, x26]) (d := .int w) ?_ rfl
  unfold dOp2 dC
  simp only [h, PD.R.bind, rd, hm]
theorem T3_run (x0 x1 x2 x4 x6 x7 x8 x9 x10 x11 x12 x13 x14 x15 x16 x17 x18 x19 x20 x21 x22 x23 x24 x25 x26 : SV) (v w : Int) : T3 [x0, x1, x2, .fz (.int v), x4, .fz (.int w), x6, x7, x8, x9, x10, x11, x12, x13, x14, x15, x16, x17, x18, x19, x20, x21, x22, x23, x24, x25, x26] = .nx [x0, x1, x2, .fz (.int v), x4, .fz (.int w), .own (obj (v.fmod 2147483647)), .fz (.int w), x8, x9, x10, x11, x12, x13, x14, x15, x16, x17, x18, x19, x20, x21, x22, x23, x24, x25, x26] := by
  have hr := run_init v
  have hio : f_DrawsX_initX.io = [true, true] := rfl
  unfold T3
  generalize obj (v.fmod 2147483647) = o at hr ⊢
  generalize f_DrawsX_initX = f at hr hio ⊢
  have h1 : (dMake "Draws" f (dCons (dVar 3) dNil)) [x0, x1, x2, .fz (.int v), x4, .fz (.int w), x6, x7, x8, x9, x10, x11, x12, x13, x14, x15, x16, x17, x18, x19, x20, x21, x22, x23, x24, x25, x26] = .ok (.own o) [x0, x1, x2, .fz (.int v), x4, .fz (.int w), x6, x7, x8, x9, x10, x11, x12, x13, x14, x15, x16, x17, x18, x19, x20, x21, x22, x23, x24, x25, x26] := by
    unfold dMake dCons dVar dNil
    simp only [List.getElem?_cons_succ, List.getElem?_cons_zero, PD.R.bind, hio, prep, prep1, if_true, hr, List.length_cons, List.length_nil, List.tail, wb]
  have h2 : dVar 5 [x0, x1, x2, .fz (.int v), x4, .fz (.int w), x6, x7, x8, x9, x10, x11, x12, x13, x14, x15, x16, x17, x18, x19, x20, x21, x22, x23, x24, x25, x26] = .ok (.fz (.int w)) [x0, x1, x2, .fz (.int v), x4, .fz (.int w), x6, x7, x8, x9, x10, x11, x12, x13, x14, x15, x16, x17, x18, x19, x20, x21, x22, x23, x24, x25, x26] := rfl
  generalize dMake "Draws" f (dCons (dVar 3) dNil) = E1 at h1 ⊢
  generalize dVar 5 = E2 at h2 ⊢
  unfold dPar dCons dNil
  simp only [h1, h2, PD.R.bind, PD.R.bindS, PD.inR, List.set]
end Lk
set_option Elab.async false
set_option linter.all false
set_option maxRecDepth 100000
set_option autoImplicit false
namespace Lk
open PySem PySem.Spec PyProof.Rows L2 PD
theorem meth_take (i : Nat) (M : DE) (ρ ρ2 : List SV) (s m : Int) (hm : 0 < m) (h1 : ρ[i]? = some (.own (obj s))) (hM : M ρ = .ok (.fz (.int m)) ρ) (h2 : ρ.set i (.own (obj (nx s))) = ρ2) :
    dMethU "Draws" "take" f_Draws_take (dVar i) (dCons M dNil) ρ = .ok (.fz (.int (dr s m))) ρ2 := by
  have hr := run_take s m hm
  have hio : f_Draws_take.io = [true, true] := rfl
  generalize f_Draws_take = f at hr hio ⊢
  subst h2
  generalize dr s m = v at hr ⊢
  have hne : List.lookup (Str.ofString "take") [(Str.ofString "its_state", D.int s)] = none := by
    have : (Str.ofString "take" == Str.ofString "its_state") = false := by decide +kernel
    simp only [List.lookup, this]
  have ho : obj s = .ins "Draws" [("its_state", .int s)] := rfl
  generalize hoo : obj s = o at hr h1 ho
  subst ho
  unfold dMethU dCons dVar dNil
  simp only [h1, hM, PD.R.bind, rd]
  rw [if_pos ⟨trivial, hne⟩]
  unfold callR
  simp only [hio, prep, prep1, h1, if_true, hr, toRV, List.length_cons, List.length_nil, wb, set_set]
theorem meth_state (i : Nat) (ρ ρ2 : List SV) (s : Int) (h1 : ρ[i]? = some (.own (obj s))) (h2 : ρ.set i (.own (obj s)) = ρ2) :
    dMethU "Draws" "state" f_Draws_state (dVar i) dNil ρ = .ok (.fz (.int s)) ρ2 := by
  have hr := run_state s
  have hio : f_Draws_state.io = [true] := rfl
  generalize f_Draws_state = f at hr hio ⊢
  subst h2
  have hne : List.lookup (Str.ofString "state") [(Str.ofString "its_state", D.int s)] = none := by
    have : (Str.ofString "state" == Str.ofString "its_state") = false := by decide +kernel
    simp only [List.lookup, this]
  have ho : obj s = .ins "Draws" [("its_state", .int s)] := rfl
  generalize hoo : obj s = o at hr h1 ho ⊢
  subst ho
  unfold dMethU dVar dNil
  simp only [h1, PD.R.bind, rd]
  rw [if_pos ⟨trivial, hne⟩]
  unfold callR
  simp only [hio, prep, prep1, h1, if_true, hr, toRV, List.length_cons, List.length_nil, wb, set_set]
theorem lst2 (A C : DE) (ρ ρ1 ρ2 : List SV) (a c : D) (h1 : A ρ = .ok (.fz a) ρ1) (h2 : C ρ1 = .ok (.fz c) ρ2) : dLst (dCons A (dCons C dNil)) ρ = .ok (.own (.lst [a, c])) ρ2 := by
  simp [dLst, dCons, dNil, PD.R.bind, h1, h2, fzL]
theorem for_of' (E : DE) (B : DS) (g : DG) (ρ ρ1 : List SV) (j : Int) (h62 : small62 j = true) (e : E ρ = .ok (.fz (.int j)) ρ1) :
   dFor (dRng1 (dCons E dNil)) g B ρ = dForL g B (upto 0 j.toNat) ρ1 := by
  unfold dFor dRng1
  simp only [dCons, dNil, R.bind, R.bindS, e]
  simp only [h62, if_true]
theorem for_ofN (E : DE) (B : DS) (g : DG) (ρ ρ1 : List SV) (n : Nat) (hn : n ≤ 1000) (e : E ρ = .ok (.fz (.int n)) ρ1) :
   dFor (dRng1 (dCons E dNil)) g B ρ = dForL g B (upto 0 n) ρ1 := by
  have h := for_of' E B g ρ ρ1 n (sm62 hn) e
  rw [Int.toNat_natCast] at h
  exact h
theorem T4b_run (x0 x2 x3 x4 x5 x8 x9 x10 x11 x12 x13 x14 x15 x16 x17 x18 x19 x20 x21 x22 x23 x24 x25 x26 : SV) (B : D) (hB : Bag B) (s : Int) : ∃ (B2 : D) (y9 y10 : SV), Bag B2 ∧ T4b [x0, .own B, x2, x3, x4, x5, .own (obj s), .fz (.int s), x8, x9, x10, x11, x12, x13, x14, x15, x16, x17, x18, x19, x20, x21, x22, x23, x24, x25, x26] = .nx [x0, .own B2, x2, x3, x4, x5, .own (obj (nx s)), .fz (.int (nx s)), x8, y9, y10, x11, x12, x13, x14, x15, x16, x17, x18, x19, x20, x21, x22, x23, x24, x25, x26] := by
  obtain ⟨n, B2, hB2, n1, n2, h1⟩ := one_take 1 [x0, .own B, x2, x3, x4, x5, .own (obj s), .fz (.int s), x8, x9, x10, x11, x12, x13, x14, x15, x16, x17, x18, x19, x20, x21, x22, x23, x24, x25, x26] B 40 hB (by omega) (by omega) rfl
  have e1 := set_fz' (i := 9) h1 (ρ2 := [x0, .own B2, x2, x3, x4, x5, .own (obj s), .fz (.int s), x8, .fz (.int n), x10, x11, x12, x13, x14, x15, x16, x17, x18, x19, x20, x21, x22, x23, x24, x25, x26]) rfl
  have hn : (0 : Int) < n := by omega
  have e2 := asg2' (i := 7) (j := 10) (next_call (dVar 7) (dVar 9) [x0, .own B2, x2, x3, x4, x5, .own (obj s), .fz (.int s), x8, .fz (.int n), x10, x11, x12, x13, x14, x15, x16, x17, x18, x19, x20, x21, x22, x23, x24, x25, x26] s n hn rfl rfl) (ρ2 := [x0, .own B2, x2, x3, x4, x5, .own (obj s), .fz (.int (nx s)), x8, .fz (.int n), .fz (.int (dr s n)), x11, x12, x13, x14, x15, x16, x17, x18, x19, x20, x21, x22, x23, x24, x25, x26]) rfl
  have h3 := lst2 _ _ _ _ _ _ _ (meth_take 6 (dVar 9) [x0, .own B2, x2, x3, x4, x5, .own (obj s), .fz (.int (nx s)), x8, .fz (.int n), .fz (.int (dr s n)), x11, x12, x13, x14, x15, x16, x17, x18, x19, x20, x21, x22, x23, x24, x25, x26] [x0, .own B2, x2, x3, x4, x5, .own (obj (nx s)), .fz (.int (nx s)), x8, .fz (.int n), .fz (.int (dr s n)), x11, x12, x13, x14, x15, x16, x17, x18, x19, x20, x21, x22, x23, x24, x25, x26] s n hn rfl rfl rfl) (meth_state 6 [x0, .own B2, x2, x3, x4, x5, .own (obj (nx s)), .fz (.int (nx s)), x8, .fz (.int n), .fz (.int (dr s n)), x11, x12, x13, x14, x15, x16, x17, x18, x19, x20, x21, x22, x23, x24, x25, x26] [x0, .own B2, x2, x3, x4, x5, .own (obj (nx s)), .fz (.int (nx s)), x8, .fz (.int n), .fz (.int (dr s n)), x11, x12, x13, x14, x15, x16, x17, x18, x19, x20, x21, x22, x23, x24, x25, x26] (nx s) rfl rfl)
  have h4 := lst2 (dVar 10) (dVar 7) [x0, .own B2, x2, x3, x4, x5, .own (obj (nx s)), .fz (.int (nx s)), x8, .fz (.int n), .fz (.int (dr s n)), x11, x12, x13, x14, x15, x16, x17, x18, x19, x20, x21, x22, x23, x24, x25, x26] [x0, .own B2, x2, x3, x4, x5, .own (obj (nx s)), .fz (.int (nx s)), x8, .fz (.int n), .fz (.int (dr s n)), x11, x12, x13, x14, x15, x16, x17, x18, x19, x20, x21, x22, x23, x24, x25, x26] [x0, .own B2, x2, x3, x4, x5, .own (obj (nx s)), .fz (.int (nx s)), x8, .fz (.int n), .fz (.int (dr s n)), x11, x12, x13, x14, x15, x16, x17, x18, x19, x20, x21, x22, x23, x24, x25, x26] (.int (dr s n)) (.int (nx s)) rfl rfl
  have e3 := alike_call (.lst [.int (dr s n), .int (nx s)]) _ _ _ _ _ _ _ .own .own h3 h4 rfl (by simp [szD, szL])
  refine ⟨B2, .fz (.int n), .fz (.int (dr s n)), hB2, ?_⟩
  unfold T4b
  rw [dSeq_nx e1, dSeq_nx e2]
  exact e3
theorem T4_run (x0 x2 x3 x4 x5 x8 x9 x10 x11 x12 x13 x14 x15 x16 x17 x18 x19 x20 x21 x22 x23 x24 x25 x26 : SV) (B : D) (hB : Bag B) (s : Int) : ∃ (B2 : D) (t : Int) (y8 y9 y10 : SV), Bag B2 ∧ T4 [x0, .own B, x2, x3, x4, x5, .own (obj s), .fz (.int s), x8, x9, x10, x11, x12, x13, x14, x15, x16, x17, x18, x19, x20, x21, x22, x23, x24, x25, x26] = .nx [x0, .own B2, x2, x3, x4, x5, .own (obj t), .fz (.int t), y8, y9, y10, x11, x12, x13, x14, x15, x16, x17, x18, x19, x20, x21, x22, x23, x24, x25, x26] := by
  obtain ⟨n, B2, hB2, n1, n2, h1⟩ := one_take 1 [x0, .own B, x2, x3, x4, x5, .own (obj s), .fz (.int s), x8, x9, x10, x11, x12, x13, x14, x15, x16, x17, x18, x19, x20, x21, x22, x23, x24, x25, x26] B 5 hB (by omega) (by omega) rfl
  obtain ⟨ρ', hl, B3, t, y8, y9, y10, hB3, rfl⟩ := forL_inv (g := bName 8) (b := T4b) (fun k ρ => ∃ (B3 : D) (t : Int) (y8 y9 y10 : SV), Bag B3 ∧ ρ = [x0, .own B3, x2, x3, x4, x5, .own (obj t), .fz (.int t), y8, y9, y10, x11, x12, x13, x14, x15, x16, x17, x18, x19, x20, x21, x22, x23, x24, x25, x26]) n (fun i ρ hi hI => by
    obtain ⟨B3, t, y8, y9, y10, hB3, rfl⟩ := hI
    obtain ⟨B4, z9, z10, hB4, hb⟩ := T4b_run x0 x2 x3 x4 x5 (.fz (.int i)) y9 y10 x11 x12 x13 x14 x15 x16 x17 x18 x19 x20 x21 x22 x23 x24 x25 x26 B3 hB3 t
    exact ⟨_, _, rfl, .inl hb, B4, nx t, _, z9, z10, hB4, rfl⟩) [x0, .own B2, x2, x3, x4, x5, .own (obj s), .fz (.int s), x8, x9, x10, x11, x12, x13, x14, x15, x16, x17, x18, x19, x20, x21, x22, x23, x24, x25, x26] ⟨B2, s, _, _, _, hB2, rfl⟩
  refine ⟨B3, t, y8, y9, y10, hB3, ?_⟩
  unfold T4
  rw [for_ofN _ _ _ _ _ n (by omega) h1]
  exact hl
theorem T5_run (x0 x1 x2 x3 x6 x7 x8 x9 x10 x11 x12 x13 x14 x15 x16 x17 x18 x19 x20 x21 x22 x23 x24 x25 x26 : SV) (n : Nat) (hn : n ≤ 100) (s : Int) : T5 [x0, x1, x2, x3, .fz (.int n), .fz (.int s), x6, x7, x8, x9, x10, x11, x12, x13, x14, x15, x16, x17, x18, x19, x20, x21, x22, x23, x24, x25, x26] = .nx [x0, x1, x2, x3, .fz (.int n), .fz (.int s), x6, .fz (.int (adv s n)), x8, x9, x10, .fz (.tup (chartL s n)), x12, x13, x14, x15, x16, x17, x18, x19, x20, x21, x22, x23, x24, x25, x26] := by
  unfold T5
  exact asg2' (i := 7) (j := 11) (call_fz2 f_u_law_drawn_chart false true rfl (dVar 5) (dVar 4) [x0, x1, x2, x3, .fz (.int n), .fz (.int s), x6, x7, x8, x9, x10, x11, x12, x13, x14, x15, x16, x17, x18, x19, x20, x21, x22, x23, x24, x25, x26] _ _ (.int s) (.int n) _ _ (run_drawn_chart s n (by omega)) rfl rfl rfl) rfl
theorem list_of (E : DE) (ρ ρ1 : List SV) (T : List D) (h : E ρ = .ok (.fz (.tup T)) ρ1) : (dOpN listD (dCons E dNil)) ρ = .ok (.own (.lst T)) ρ1 := by
  simp [dOpN, dCons, dNil, PD.R.bind, h, rd, rdL, listD]
theorem ix1_of (E2 : DE) (ρ ρ1 : List SV) (a b : D) (e2 : E2 ρ = .ok (.fz (.tup [a, b])) ρ1) : (dOp2 ixA E2 (dC (.int 1))) ρ = .ok (.fz b) ρ1 := by
  have hx := ix_one a b
  generalize ixA = IX at hx ⊢
  simp [dOp2, e2, R.bind, rd, dC, hx]
theorem T6_run (x0 x1 x2 x3 x4 x5 x6 x7 x8 x9 x10 x12 x13 x14 x15 x16 x17 x18 x19 x20 x21 x22 x23 x24 x25 x26 : SV) (n : Nat) (hn : n ≤ 100) (s : Int) : T6 [x0, x1, x2, x3, x4, x5, x6, x7, x8, x9, x10, .fz (.tup (chartL s n)), x12, x13, x14, x15, x16, x17, x18, x19, x20, x21, x22, x23, x24, x25, x26] = .nx [x0, x1, x2, x3, x4, x5, x6, x7, x8, x9, x10, .fz (.tup (chartL s n)), .own (.lst ((tab0 s n).map ofTI)), x13, x14, x15, x16, x17, x18, x19, x20, x21, x22, x23, x24, x25, x26] := by
  unfold T6
  have h := call_fz1 f_u_law_table_of true rfl (dVar 11) [x0, x1, x2, x3, x4, x5, x6, x7, x8, x9, x10, .fz (.tup (chartL s n)), x12, x13, x14, x15, x16, x17, x18, x19, x20, x21, x22, x23, x24, x25, x26] _ (.tup (chartL s n)) _ _ (run_law_table_of s n hn) rfl rfl
  exact set_own' (i := 12) (list_of _ _ _ _ (ix1_of _ _ _ _ _ h)) rfl
theorem T7_run (x0 x2 x3 x4 x5 x6 x7 x8 x9 x10 x11 x12 x13 x14 x15 x16 x17 x18 x19 x20 x21 x22 x23 x24 x25 x26 : SV) (B : D) (hB : Bag B) : ∃ (q : Nat) (B2 : D), Bag B2 ∧ q ≤ 20 ∧ T7 [x0, .own B, x2, x3, x4, x5, x6, x7, x8, x9, x10, x11, x12, x13, x14, x15, x16, x17, x18, x19, x20, x21, x22, x23, x24, x25, x26] = .nx [x0, .own B2, x2, x3, x4, x5, x6, x7, x8, x9, x10, x11, x12, .fz (.int q), x14, x15, x16, x17, x18, x19, x20, x21, x22, x23, x24, x25, x26] := by
  obtain ⟨v, B2, hB2, h0, hv, h1⟩ := take_call 1 (dC (.int 21)) [x0, .own B, x2, x3, x4, x5, x6, x7, x8, x9, x10, x11, x12, x13, x14, x15, x16, x17, x18, x19, x20, x21, x22, x23, x24, x25, x26] B 21 hB (by omega) (by omega) rfl rfl
  obtain ⟨q, rfl⟩ : ∃ q : Nat, v = q := ⟨v.toNat, by omega⟩
  refine ⟨q, B2, hB2, by omega, ?_⟩
  unfold T7
  exact set_fz' (i := 13) h1 rfl
end Lk
set_option Elab.async false
set_option linter.all false
set_option maxRecDepth 100000
set_option autoImplicit false
namespace Lk
open PySem PySem.Spec PyProof.Rows L2 PD
theorem lc_tup (x0 x1 x2 x3 x4 x5 x6 x7 x8 x9 x10 x11 x12 x13 x14 x15 x16 x19 x20 x21 x22 x23 x24 x25 x26 : SV) (c : List Int) : ∀ (l acc : List (List Int)), acc.length + l.length < 1000000 →
    dLcL (bName 18) (dB (dOp2 neD (dVar 18) (dVar 17))) (dVar 18) [18] (l.map ofTI) (acc.map ofTI) [x0, x1, x2, x3, x4, x5, x6, x7, x8, x9, x10, x11, x12, x13, x14, x15, x16, .fz (ofTI c), .no, x19, x20, x21, x22, x23, x24, x25, x26] = .ok ((acc ++ l.filter fun a => decide (a ≠ c)).map ofTI) [x0, x1, x2, x3, x4, x5, x6, x7, x8, x9, x10, x11, x12, x13, x14, x15, x16, .fz (ofTI c), .no, x19, x20, x21, x22, x23, x24, x25, x26]
  | [], acc, _ => by simp [dLcL]
  | a :: l, acc, hl => by
    simp only [List.length_cons] at hl
    have hb : bName 18 (ofTI a) [x0, x1, x2, x3, x4, x5, x6, x7, x8, x9, x10, x11, x12, x13, x14, x15, x16, .fz (ofTI c), .no, x19, x20, x21, x22, x23, x24, x25, x26] = some [x0, x1, x2, x3, x4, x5, x6, x7, x8, x9, x10, x11, x12, x13, x14, x15, x16, .fz (ofTI c), .fz (ofTI a), x19, x20, x21, x22, x23, x24, x25, x26] := rfl
    have ht : (dB (dOp2 neD (dVar 18) (dVar 17))) [x0, x1, x2, x3, x4, x5, x6, x7, x8, x9, x10, x11, x12, x13, x14, x15, x16, .fz (ofTI c), .fz (ofTI a), x19, x20, x21, x22, x23, x24, x25, x26] = .ok (decide (a ≠ c)) [x0, x1, x2, x3, x4, x5, x6, x7, x8, x9, x10, x11, x12, x13, x14, x15, x16, .fz (ofTI c), .fz (ofTI a), x19, x20, x21, x22, x23, x24, x25, x26] := by
      have h := ne_ti a c
      generalize neD = NE at h ⊢
      unfold dB dOp2 dVar
      simp only [List.getElem?_cons_succ, List.getElem?_cons_zero, PD.R.bind, rd, h]
    have hv : dVar 18 [x0, x1, x2, x3, x4, x5, x6, x7, x8, x9, x10, x11, x12, x13, x14, x15, x16, .fz (ofTI c), .fz (ofTI a), x19, x20, x21, x22, x23, x24, x25, x26] = .ok (.fz (ofTI a)) [x0, x1, x2, x3, x4, x5, x6, x7, x8, x9, x10, x11, x12, x13, x14, x15, x16, .fz (ofTI c), .fz (ofTI a), x19, x20, x21, x22, x23, x24, x25, x26] := rfl
    have hw : wipeR [x0, x1, x2, x3, x4, x5, x6, x7, x8, x9, x10, x11, x12, x13, x14, x15, x16, .fz (ofTI c), .fz (ofTI a), x19, x20, x21, x22, x23, x24, x25, x26] [18] = [x0, x1, x2, x3, x4, x5, x6, x7, x8, x9, x10, x11, x12, x13, x14, x15, x16, .fz (ofTI c), .no, x19, x20, x21, x22, x23, x24, x25, x26] := rfl
    have ha : (acc.map ofTI).length < 1000000 := by rw [List.length_map]; omega
    rw [List.map_cons]
    unfold dLcL
    rw [hb]
    simp only [ht]
    by_cases h1 : a = c
    · have ih := lc_tup x0 x1 x2 x3 x4 x5 x6 x7 x8 x9 x10 x11 x12 x13 x14 x15 x16 x19 x20 x21 x22 x23 x24 x25 x26 c l acc (by omega)
      have hd : decide (a ≠ c) = false := by simp [h1]
      have hf : (a :: l).filter (fun a => decide (a ≠ c)) = l.filter (fun a => decide (a ≠ c)) := List.filter_cons_of_neg (by simp [h1])
      rw [hf]
      simp only [hd, hw]
      exact ih
    · have ih := lc_tup x0 x1 x2 x3 x4 x5 x6 x7 x8 x9 x10 x11 x12 x13 x14 x15 x16 x19 x20 x21 x22 x23 x24 x25 x26 c l (acc ++ [a]) (by simp only [List.length_append, List.length_cons, List.length_nil]; omega)
      have hd : decide (a ≠ c) = true := by simp [h1]
      have hf : (a :: l).filter (fun a => decide (a ≠ c)) = a :: l.filter (fun a => decide (a ≠ c)) := List.filter_cons_of_pos (by simp [h1])
      rw [hf]
      rw [List.map_append, List.append_assoc] at ih
      simp only [hd, hv, fz1, ha, if_true, hw]
      exact ih
theorem cat_ti (l : List (List Int)) (c : List Int) (h : l.length ≤ 300000) : orD addI (orD catL (orD catT catS)) (.lst (l.map ofTI)) (.lst [ofTI c]) = some (.own (.lst ((l ++ [c]).map ofTI))) := by
  have hk : PD.okLen ((l.map ofTI).length + [ofTI c].length) = true := okLen_le (by simp; omega)
  unfold orD
  simp only [addI, fI, catL, hk, if_true, List.map_append, List.map_cons, List.map_nil]
theorem T8_lc (x0 x1 x2 x3 x4 x5 x6 x7 x8 x9 x10 x11 x13 x14 x18 x19 x20 x21 x22 x23 x24 x25 x26 : SV) (a b : Int) (l : List (List Int)) (hl : l.length < 1000000) :
    (dLc (dItS (dVar 12)) (bName 18) (dB (dOp2 neD (dVar 18) (dVar 17))) (dVar 18) [18]) [x0, x1, x2, x3, x4, x5, x6, x7, x8, x9, x10, x11, .own (.lst (l.map ofTI)), x13, x14, .fz (.int a), .fz (.int b), .fz (ofTI (cp2 a b)), x18, x19, x20, x21, x22, x23, x24, x25, x26] = .ok (.own (.lst ((l.filter fun c => decide (c ≠ cp2 a b)).map ofTI))) [x0, x1, x2, x3, x4, x5, x6, x7, x8, x9, x10, x11, .fz (.lst (l.map ofTI)), x13, x14, .fz (.int a), .fz (.int b), .fz (ofTI (cp2 a b)), x18, x19, x20, x21, x22, x23, x24, x25, x26] := by
  have hi : (dItS (dVar 12)) [x0, x1, x2, x3, x4, x5, x6, x7, x8, x9, x10, x11, .own (.lst (l.map ofTI)), x13, x14, .fz (.int a), .fz (.int b), .fz (ofTI (cp2 a b)), x18, x19, x20, x21, x22, x23, x24, x25, x26] = .ok (l.map ofTI) [x0, x1, x2, x3, x4, x5, x6, x7, x8, x9, x10, x11, .fz (.lst (l.map ofTI)), x13, x14, .fz (.int a), .fz (.int b), .fz (ofTI (cp2 a b)), x18, x19, x20, x21, x22, x23, x24, x25, x26] := rfl
  have hw : wipeR [x0, x1, x2, x3, x4, x5, x6, x7, x8, x9, x10, x11, .fz (.lst (l.map ofTI)), x13, x14, .fz (.int a), .fz (.int b), .fz (ofTI (cp2 a b)), x18, x19, x20, x21, x22, x23, x24, x25, x26] [18] = [x0, x1, x2, x3, x4, x5, x6, x7, x8, x9, x10, x11, .fz (.lst (l.map ofTI)), x13, x14, .fz (.int a), .fz (.int b), .fz (ofTI (cp2 a b)), .no, x19, x20, x21, x22, x23, x24, x25, x26] := rfl
  have hc := lc_tup x0 x1 x2 x3 x4 x5 x6 x7 x8 x9 x10 x11 (.fz (.lst (l.map ofTI))) x13 x14 (.fz (.int a)) (.fz (.int b)) x19 x20 x21 x22 x23 x24 x25 x26 (cp2 a b) l [] (by simpa using hl)
  rw [List.map_nil, List.nil_append] at hc
  unfold dLc
  rw [hi]
  simp only [PD.R.bind, hw]
  rw [hc]
  rfl
theorem T8c_run (x0 x1 x2 x3 x4 x5 x6 x7 x8 x9 x10 x11 x13 x14 x18 x19 x20 x21 x22 x23 x24 x25 x26 : SV) (a b : Int) (l : List (List Int)) (h : ∀ c ∈ l, Cpl c) (hl : l.length ≤ 300000) : T8c [x0, x1, x2, x3, x4, x5, x6, x7, x8, x9, x10, x11, .own (.lst (l.map ofTI)), x13, x14, .fz (.int a), .fz (.int b), .fz (ofTI (cp2 a b)), x18, x19, x20, x21, x22, x23, x24, x25, x26] = .nx [x0, x1, x2, x3, x4, x5, x6, x7, x8, x9, x10, x11, .own (.lst ((flipL a b l).map ofTI)), x13, x14, .fz (.int a), .fz (.int b), .fz (ofTI (cp2 a b)), x18, x19, x20, x21, x22, x23, x24, x25, x26] := by
  have hn : (dB (dOp2 neD (dVar 15) (dVar 16))) [x0, x1, x2, x3, x4, x5, x6, x7, x8, x9, x10, x11, .own (.lst (l.map ofTI)), x13, x14, .fz (.int a), .fz (.int b), .fz (ofTI (cp2 a b)), x18, x19, x20, x21, x22, x23, x24, x25, x26] = .ok (decide (a ≠ b)) [x0, x1, x2, x3, x4, x5, x6, x7, x8, x9, x10, x11, .own (.lst (l.map ofTI)), x13, x14, .fz (.int a), .fz (.int b), .fz (ofTI (cp2 a b)), x18, x19, x20, x21, x22, x23, x24, x25, x26] := by
    have h := ne_int a b
    generalize neD = NE at h ⊢
    unfold dB dOp2 dVar
    simp only [List.getElem?_cons_succ, List.getElem?_cons_zero, PD.R.bind, rd, h]
  unfold T8c
  generalize dB (dOp2 neD (dVar 15) (dVar 16)) = TT at hn ⊢
  by_cases e : a = b
  · have hd : decide (a ≠ b) = false := by simp [e]
    have hf : flipL a b l = l := by
      subst e
      unfold flipL
      rw [if_neg (cp2_eq a l h), if_pos rfl]
    rw [hf]
    unfold dIfS
    rw [hn, hd]
    rfl
  · have hd : decide (a ≠ b) = true := by simp [e]
    have hin : (dB (dOp2 inA (dVar 17) (dVar 12))) [x0, x1, x2, x3, x4, x5, x6, x7, x8, x9, x10, x11, .own (.lst (l.map ofTI)), x13, x14, .fz (.int a), .fz (.int b), .fz (ofTI (cp2 a b)), x18, x19, x20, x21, x22, x23, x24, x25, x26] = .ok (decide (cp2 a b ∈ l)) [x0, x1, x2, x3, x4, x5, x6, x7, x8, x9, x10, x11, .own (.lst (l.map ofTI)), x13, x14, .fz (.int a), .fz (.int b), .fz (ofTI (cp2 a b)), x18, x19, x20, x21, x22, x23, x24, x25, x26] := by
      have h := in_ti (cp2 a b) l
      generalize inA = IN at h ⊢
      unfold dB dOp2 dVar
      simp only [List.getElem?_cons_succ, List.getElem?_cons_zero, PD.R.bind, rd, h]
    have key : ∃ ρ1, (dIf (dB (dOp2 inA (dVar 17) (dVar 12))) (dLc (dItS (dVar 12)) (bName 18) (dB (dOp2 neD (dVar 18) (dVar 17))) (dVar 18) [18]) (dOp2 (orD addI (orD catL (orD catT catS))) (dVar 12) (dLst (dCons (dVar 17) dNil)))) [x0, x1, x2, x3, x4, x5, x6, x7, x8, x9, x10, x11, .own (.lst (l.map ofTI)), x13, x14, .fz (.int a), .fz (.int b), .fz (ofTI (cp2 a b)), x18, x19, x20, x21, x22, x23, x24, x25, x26] = .ok (.own (.lst ((flipL a b l).map ofTI))) ρ1 ∧ ρ1.set 12 (.own (.lst ((flipL a b l).map ofTI))) = [x0, x1, x2, x3, x4, x5, x6, x7, x8, x9, x10, x11, .own (.lst ((flipL a b l).map ofTI)), x13, x14, .fz (.int a), .fz (.int b), .fz (ofTI (cp2 a b)), x18, x19, x20, x21, x22, x23, x24, x25, x26] := by
      generalize dB (dOp2 inA (dVar 17) (dVar 12)) = TI at hin ⊢
      by_cases hm : cp2 a b ∈ l
      · have hf : flipL a b l = l.filter fun c => decide (c ≠ cp2 a b) := by unfold flipL; rw [if_pos hm]
        have hc := T8_lc x0 x1 x2 x3 x4 x5 x6 x7 x8 x9 x10 x11 x13 x14 x18 x19 x20 x21 x22 x23 x24 x25 x26 a b l (by omega)
        generalize (dLc (dItS (dVar 12)) (bName 18) (dB (dOp2 neD (dVar 18) (dVar 17))) (dVar 18) [18]) = E at hc ⊢
        rw [hf]
        refine ⟨[x0, x1, x2, x3, x4, x5, x6, x7, x8, x9, x10, x11, .fz (.lst (l.map ofTI)), x13, x14, .fz (.int a), .fz (.int b), .fz (ofTI (cp2 a b)), x18, x19, x20, x21, x22, x23, x24, x25, x26], ?_, rfl⟩
        unfold dIf
        rw [hin]
        have hdm : decide (cp2 a b ∈ l) = true := by simp [hm]
        simp only [PD.R.bind, hdm, if_true]
        exact hc
      · have hf : flipL a b l = l ++ [cp2 a b] := by unfold flipL; rw [if_neg hm, if_neg e]
        have hc := cat_ti l (cp2 a b) hl
        rw [hf]
        refine ⟨[x0, x1, x2, x3, x4, x5, x6, x7, x8, x9, x10, x11, .own (.lst (l.map ofTI)), x13, x14, .fz (.int a), .fz (.int b), .fz (ofTI (cp2 a b)), x18, x19, x20, x21, x22, x23, x24, x25, x26], ?_, rfl⟩
        unfold dIf
        rw [hin]
        have hdm : decide (cp2 a b ∈ l) = false := by simp [hm]
        simp only [PD.R.bind, hdm]
        generalize orD addI (orD catL (orD catT catS)) = OP at hc ⊢
        unfold dOp2 dVar dLst dCons dNil
        have h1 : ([ofTI (cp2 a b)] : List D).length ≤ 1000000 := by simp
        simp only [List.getElem?_cons_succ, List.getElem?_cons_zero, PD.R.bind, fzL, Option.map, h1, if_true, rd, hc]
        simp
    obtain ⟨ρ1, k1, k2⟩ := key
    have e1 := set_own' (i := 12) k1 k2
    unfold dIfS
    rw [hn, hd]
    exact e1
end Lk
set_option Elab.async false
set_option linter.all false
set_option maxRecDepth 100000
set_option autoImplicit false
namespace Lk
open PySem PySem.Spec PyProof.Rows L2 PD
theorem minmax (i j : Nat) (ρ : List SV) (a b : Int) (h1 : ρ[i]? = some (.fz (.int a))) (h2 : ρ[j]? = some (.fz (.int b))) :
    (dTup (dCons (dOpN min2D (dCons (dVar i) (dCons (dVar j) dNil))) (dCons (dOpN max2D (dCons (dVar i) (dCons (dVar j) dNil))) dNil))) ρ = .ok (.fz (ofTI (cp2 a b))) ρ := by
  have e1 : min2D [.int a, .int b] = some (.fz (.int (if b < a then b else a))) := rfl
  have e2 : max2D [.int a, .int b] = some (.fz (.int (if b > a then b else a))) := rfl
  have e3 : ofTI (cp2 a b) = .tup [.int (if b < a then b else a), .int (if b > a then b else a)] := rfl
  rw [e3]
  generalize min2D = M1 at e1 ⊢
  generalize max2D = M2 at e2 ⊢
  generalize (if b < a then b else a) = u at e1 ⊢
  generalize (if b > a then b else a) = v at e2 ⊢
  simp [dTup, dCons, dOpN, dVar, dNil, PD.R.bind, h1, h2, rd, rdL, e1, e2, fzL]
theorem T8b_run (x0 x1 x2 x3 x5 x6 x8 x9 x10 x11 x13 x14 x15 x16 x17 x18 x19 x20 x21 x22 x23 x24 x25 x26 : SV) (m : Int) (hm : 0 < m) (s : Int) (l : List (List Int)) (h : ∀ c ∈ l, Cpl c) (hl : l.length ≤ 300000) : T8b [x0, x1, x2, x3, .fz (.int m), x5, x6, .fz (.int s), x8, x9, x10, x11, .own (.lst (l.map ofTI)), x13, x14, x15, x16, x17, x18, x19, x20, x21, x22, x23, x24, x25, x26] = .nx [x0, x1, x2, x3, .fz (.int m), x5, x6, .fz (.int (nx (nx s))), x8, x9, x10, x11, .own (.lst ((flipL (dr s m) (dr (nx s) m) l).map ofTI)), x13, x14, .fz (.int (dr s m)), .fz (.int (dr (nx s) m)), .fz (ofTI (cp2 (dr s m) (dr (nx s) m))), x18, x19, x20, x21, x22, x23, x24, x25, x26] := by
  have e1 := asg2' (i := 7) (j := 15) (next_call (dVar 7) (dVar 4) [x0, x1, x2, x3, .fz (.int m), x5, x6, .fz (.int s), x8, x9, x10, x11, .own (.lst (l.map ofTI)), x13, x14, x15, x16, x17, x18, x19, x20, x21, x22, x23, x24, x25, x26] s m hm rfl rfl) (ρ2 := [x0, x1, x2, x3, .fz (.int m), x5, x6, .fz (.int (nx s)), x8, x9, x10, x11, .own (.lst (l.map ofTI)), x13, x14, .fz (.int (dr s m)), x16, x17, x18, x19, x20, x21, x22, x23, x24, x25, x26]) rfl
  have e2 := asg2' (i := 7) (j := 16) (next_call (dVar 7) (dVar 4) [x0, x1, x2, x3, .fz (.int m), x5, x6, .fz (.int (nx s)), x8, x9, x10, x11, .own (.lst (l.map ofTI)), x13, x14, .fz (.int (dr s m)), x16, x17, x18, x19, x20, x21, x22, x23, x24, x25, x26] (nx s) m hm rfl rfl) (ρ2 := [x0, x1, x2, x3, .fz (.int m), x5, x6, .fz (.int (nx (nx s))), x8, x9, x10, x11, .own (.lst (l.map ofTI)), x13, x14, .fz (.int (dr s m)), .fz (.int (dr (nx s) m)), x17, x18, x19, x20, x21, x22, x23, x24, x25, x26]) rfl
  have e3 := set_fz' (i := 17) (minmax 15 16 [x0, x1, x2, x3, .fz (.int m), x5, x6, .fz (.int (nx (nx s))), x8, x9, x10, x11, .own (.lst (l.map ofTI)), x13, x14, .fz (.int (dr s m)), .fz (.int (dr (nx s) m)), x17, x18, x19, x20, x21, x22, x23, x24, x25, x26] (dr s m) (dr (nx s) m) rfl rfl) (ρ2 := [x0, x1, x2, x3, .fz (.int m), x5, x6, .fz (.int (nx (nx s))), x8, x9, x10, x11, .own (.lst (l.map ofTI)), x13, x14, .fz (.int (dr s m)), .fz (.int (dr (nx s) m)), .fz (ofTI (cp2 (dr s m) (dr (nx s) m))), x18, x19, x20, x21, x22, x23, x24, x25, x26]) rfl
  have e4 := T8c_run x0 x1 x2 x3 (.fz (.int m)) x5 x6 (.fz (.int (nx (nx s)))) x8 x9 x10 x11 x13 x14 x18 x19 x20 x21 x22 x23 x24 x25 x26 (dr s m) (dr (nx s) m) l h hl
  unfold T8b
  rw [dSeq_nx e1, dSeq_nx e2, dSeq_nx e3]
  exact e4
theorem T8_run (x0 x1 x2 x3 x5 x6 x8 x9 x10 x11 x14 x15 x16 x17 x18 x19 x20 x21 x22 x23 x24 x25 x26 : SV) (m : Int) (hm : 0 < m) (s : Int) (l : List (List Int)) (h : ∀ c ∈ l, Cpl c) (hn : l.Nodup) (hl : l.length ≤ 200000) (q : Nat) (hq : q ≤ 100) :
    ∃ y14 y15 y16 y17, T8 [x0, x1, x2, x3, .fz (.int m), x5, x6, .fz (.int s), x8, x9, x10, x11, .own (.lst (l.map ofTI)), .fz (.int q), x14, x15, x16, x17, x18, x19, x20, x21, x22, x23, x24, x25, x26] = .nx [x0, x1, x2, x3, .fz (.int m), x5, x6, .fz (.int (adv s (2 * q))), x8, x9, x10, x11, .own (.lst ((bnd m s l q).map ofTI)), .fz (.int q), y14, y15, y16, y17, x18, x19, x20, x21, x22, x23, x24, x25, x26] := by
  obtain ⟨ρ', hL, y14, y15, y16, y17, rfl⟩ := forL_inv (g := bName 14) (b := T8b) (fun k ρ => ∃ y14 y15 y16 y17, ρ = [x0, x1, x2, x3, .fz (.int m), x5, x6, .fz (.int (adv s (2 * k))), x8, x9, x10, x11, .own (.lst ((bnd m s l k).map ofTI)), .fz (.int q), y14, y15, y16, y17, x18, x19, x20, x21, x22, x23, x24, x25, x26]) q (fun i ρ hi hI => by
    obtain ⟨y14, y15, y16, y17, rfl⟩ := hI
    obtain ⟨b1, b2, b3⟩ := bnd_ok m s l h hn i
    have hb := T8b_run x0 x1 x2 x3 x5 x6 x8 x9 x10 x11 (.fz (.int q)) (.fz (.int i)) (y15) (y16) (y17) x18 x19 x20 x21 x22 x23 x24 x25 x26 m hm (adv s (2 * i)) (bnd m s l i) b1 (by omega)
    exact ⟨_, _, rfl, .inl hb, _, _, _, _, rfl⟩) [x0, x1, x2, x3, .fz (.int m), x5, x6, .fz (.int s), x8, x9, x10, x11, .own (.lst (l.map ofTI)), .fz (.int q), x14, x15, x16, x17, x18, x19, x20, x21, x22, x23, x24, x25, x26] ⟨_, _, _, _, rfl⟩
  refine ⟨y14, y15, y16, y17, ?_⟩
  unfold T8
  rw [for_ofN (dVar 13) _ _ [x0, x1, x2, x3, .fz (.int m), x5, x6, .fz (.int s), x8, x9, x10, x11, .own (.lst (l.map ofTI)), .fz (.int q), x14, x15, x16, x17, x18, x19, x20, x21, x22, x23, x24, x25, x26] _ q (by omega) rfl]
  exact hL
/-! what is compared is plain and small -/
theorem plain_ints : ∀ l : List Int, plains (l.map D.int) = true
  | [] => rfl
  | n :: l => by simp only [List.map_cons, plains, plain, plain_ints l, Bool.and_self]
theorem sz_ints : ∀ l : List Int, szL (l.map D.int) = l.length
  | [] => rfl
  | n :: l => by simp only [List.map_cons, szL, szD, sz_ints l, List.length_cons]; omega
theorem plain_tis : ∀ l : List (List Int), plains (l.map ofTI) = true
  | [] => rfl
  | n :: l => by
    have : plain (ofTI n) = true := plain_ints n
    simp only [List.map_cons, plains, this, plain_tis l, Bool.and_self]
theorem sz_tis : ∀ l : List (List Int), (∀ c ∈ l, c.length = 2) → szL (l.map ofTI) = 3 * l.length
  | [], _ => rfl
  | n :: l, h => by
    have h1 : szD (ofTI n) = 1 + szL (n.map D.int) := rfl
    rw [List.map_cons, szL, h1, sz_ints, h n List.mem_cons_self, sz_tis l (fun c hc => h c (List.mem_cons_of_mem _ hc)), List.length_cons]
    omega
theorem plain_chart (s : Int) : ∀ n, plains (chartL s n) = true
  | 0 => rfl
  | n + 1 => by
    unfold chartL
    rw [plains_app, plain_chart s n]
    unfold mem1
    split <;> rfl
theorem sz_chart (s : Int) : ∀ n, szL (chartL s n) = n
  | 0 => rfl
  | n + 1 => by
    unfold chartL
    rw [szL_app, sz_chart s n]
    unfold mem1
    split <;> rfl
theorem T9_run (x0 x1 x2 x5 x6 x7 x8 x9 x10 x14 x15 x16 x17 x18 x19 x20 x21 x22 x23 x24 x25 x26 : SV) (v : Int) (n q : Nat) (h0 : 0 < n) (hn : n ≤ 100) (hq : q ≤ 100) : T9 [x0, x1, x2, .fz (.int v), .fz (.int n), x5, x6, x7, x8, x9, x10, .fz (.tup (chartL (v.fmod 2147483647) n)), .own (.lst ((bnd n (adv (v.fmod 2147483647) n) (tab0 (v.fmod 2147483647) n) q).map ofTI)), .fz (.int q), x14, x15, x16, x17, x18, x19, x20, x21, x22, x23, x24, x25, x26] = .nx [x0, x1, x2, .fz (.int v), .fz (.int n), x5, x6, x7, x8, x9, x10, .fz (.tup (chartL (v.fmod 2147483647) n)), .own (.lst ((bnd n (adv (v.fmod 2147483647) n) (tab0 (v.fmod 2147483647) n) q).map ofTI)), .fz (.int q), x14, x15, x16, x17, x18, x19, x20, x21, x22, x23, x24, x25, x26] := by
  obtain ⟨a1, a2, a3⟩ := tab0_ok (v.fmod 2147483647) n hn
  obtain ⟨b1, b2, b3⟩ := bnd_ok n (adv (v.fmod 2147483647) n) _ a1 a2 q
  have h1 := call_fz2 f_drawn_chart true true rfl (dVar 3) (dVar 4) [x0, x1, x2, .fz (.int v), .fz (.int n), x5, x6, x7, x8, x9, x10, .fz (.tup (chartL (v.fmod 2147483647) n)), .own (.lst ((bnd n (adv (v.fmod 2147483647) n) (tab0 (v.fmod 2147483647) n) q).map ofTI)), .fz (.int q), x14, x15, x16, x17, x18, x19, x20, x21, x22, x23, x24, x25, x26] _ _ (.int v) (.int n) _ _ (run_drawn_chart2 v n (by omega)) rfl rfl rfl
  have h2 := call_fz3 f_bent_table true true true rfl (dVar 3) (dVar 4) (dVar 13) [x0, x1, x2, .fz (.int v), .fz (.int n), x5, x6, x7, x8, x9, x10, .fz (.tup (chartL (v.fmod 2147483647) n)), .own (.lst ((bnd n (adv (v.fmod 2147483647) n) (tab0 (v.fmod 2147483647) n) q).map ofTI)), .fz (.int q), x14, x15, x16, x17, x18, x19, x20, x21, x22, x23, x24, x25, x26] _ _ _ (.int v) (.int n) (.int q) _ _ (run_bent_table v n q h0 hn hq) rfl rfl rfl rfl
  have h3 := lst2 _ _ _ _ _ _ _ h1 h2
  have hlen : ∀ ns ∈ bnd n (adv (v.fmod 2147483647) n) (tab0 (v.fmod 2147483647) n) q, ns.length = 2 := fun ns hns => by obtain ⟨p, r, e, _⟩ := b1 ns hns; rw [e]; rfl
  have hs := srt_lst _ hlen
  have h4 : (dLst (dCons (dVar 11) (dCons (dTup (dCons (dVar 4) (dCons (dOpN tupleD (dCons (dOpN srtD (dCons (dVar 12) dNil)) dNil)) dNil))) dNil))) [x0, x1, x2, .fz (.int v), .fz (.int n), x5, x6, x7, x8, x9, x10, .fz (.tup (chartL (v.fmod 2147483647) n)), .own (.lst ((bnd n (adv (v.fmod 2147483647) n) (tab0 (v.fmod 2147483647) n) q).map ofTI)), .fz (.int q), x14, x15, x16, x17, x18, x19, x20, x21, x22, x23, x24, x25, x26] = .ok (.own (.lst [.tup (chartL (v.fmod 2147483647) n), .tup [.int n, .tup ((sortL (bnd n (adv (v.fmod 2147483647) n) (tab0 (v.fmod 2147483647) n) q)).map ofTI)]])) [x0, x1, x2, .fz (.int v), .fz (.int n), x5, x6, x7, x8, x9, x10, .fz (.tup (chartL (v.fmod 2147483647) n)), .own (.lst ((bnd n (adv (v.fmod 2147483647) n) (tab0 (v.fmod 2147483647) n) q).map ofTI)), .fz (.int q), x14, x15, x16, x17, x18, x19, x20, x21, x22, x23, x24, x25, x26] := by
    generalize (bnd n (adv (v.fmod 2147483647) n) (tab0 (v.fmod 2147483647) n) q).map ofTI = U at hs ⊢
    generalize (sortL (bnd n (adv (v.fmod 2147483647) n) (tab0 (v.fmod 2147483647) n) q)).map ofTI = W at hs ⊢
    generalize chartL (v.fmod 2147483647) n = C
    generalize (n : Int) = j
    generalize srtD = SR at hs ⊢
    refine lst2 _ _ _ _ _ _ _ rfl ?_
    simp [dTup, dCons, dOpN, dVar, dNil, PD.R.bind, rd, rdL, hs, tupleD, fzL]
  unfold T9
  refine alike_call (.lst [.tup (chartL (v.fmod 2147483647) n), .tup [.int n, .tup ((sortL (bnd n (adv (v.fmod 2147483647) n) (tab0 (v.fmod 2147483647) n) q)).map ofTI)]]) _ _ _ _ _ _ _ .own .own h3 h4 ?_ ?_
  · simp only [plain, plains, plain_chart, plain_tis, Bool.and_self]
  · have hs2 : ∀ c ∈ sortL (bnd n (adv (v.fmod 2147483647) n) (tab0 (v.fmod 2147483647) n) q), c.length = 2 := fun c hc => hlen c ((sortL_mem c _).1 hc)
    simp only [szD, szL, sz_chart, sz_tis _ hs2, sortL_len]
    omega
end Lk
set_option Elab.async false
set_option linter.all false
set_option maxRecDepth 100000
set_option autoImplicit false
namespace Lk
open PySem PySem.Spec PyProof.Rows L2 PD
theorem dt_b : b_drawn_table = (dSeq (dSet 2 (dMake "Draws" f_DrawsX_initX (dCons (dVar 0) dNil)))
 (dSeq (dSet 3 (dLc (dItS (dCall f_all_couples (dCons (dVar 1) dNil))) (bName 4) dYes tkE [4]))
 (dRet (dTup (dCons (dVar 1) (dCons (dOpN tupleD (dCons (dLc (dItS (dVar 3)) (bTup 2 (bCons (bName 4) (bCons (bName 5) bNil))) (dB (dOp2 eqD (dVar 5) (dC (.int 1)))) (dVar 4) [4, 5]) dNil)) dNil)))))) := rfl
theorem ac_it (x0 x2 x3 x4 x5 : SV) (j : Int) (L : List D) (h : f_all_couples.run [.fz (.int j)] = .ret (.own (.lst L)) [.no]) : (dItS (dCall f_all_couples (dCons (dVar 1) dNil))) [x0, .fz (.int j), x2, x3, x4, x5] = .ok L [x0, .fz (.int j), x2, x3, x4, x5] := by
  have hio : f_all_couples.io = [true] := rfl
  simp [dItS, dCall, dCons, dVar, dNil, R.bind, hio, prep, prep1, h, toRV, wb, fz1]
theorem dt_run (seed j : Int) (L : List D) (h : f_all_couples.run [.fz (.int j)] = .ret (.own (.lst L)) [.no]) (hl : L.length < 1000000) : ∃ y2 y3, b_drawn_table [.fz (.int seed), .fz (.int j), .no, .no, .no, .no] = .rt (.fz (.tup [.int j, .tup (bitsL (seed.fmod 2147483647) L)])) [.fz (.int seed), .fz (.int j), y2, y3, .no, .no] := by
  refine ⟨.own (obj (adl (seed.fmod 2147483647) L)), .fz (.lst (toldL (seed.fmod 2147483647) L)), ?_⟩
  rw [dt_b, dSeq_nx (mk_draws _ _ _ _ _ seed), dSeq_nx (told_set _ _ _ _ _ _ _ (ac_it _ _ _ _ _ j L h) hl)]
  have hb := bits_of (.fz (.int seed)) (.fz (.int j)) (.own (obj (adl (seed.fmod 2147483647) L))) (seed.fmod 2147483647) L hl
  generalize dLc (dItS (dVar 3)) (bTup 2 (bCons (bName 4) (bCons (bName 5) bNil))) (dB (dOp2 eqD (dVar 5) (dC (.int 1)))) (dVar 4) [4, 5] = E at hb ⊢
  simp [dRet, dTup, fzL, dVar, dOpN, dCons, dNil, R.bind, R.bindS, hb, rd, rdL, tupleD, PD.outR]
theorem run_drawn_table (seed : Int) (n : Nat) (hn : n ≤ 100) : f_drawn_table.run [.fz (.int seed), .fz (.int n)] = .ret (.fz (.tup [.int n, .tup (bitsL (seed.fmod 2147483647) (cps n n))])) [.no, .no] := by
  have hl : (cps n n).length < 1000000 := by
    have h1 := cps_len n n
    rw [Int.toNat_natCast] at h1
    have h3 : n * n ≤ 100 * 100 := Nat.mul_le_mul hn hn
    omega
  obtain ⟨y2, y3, h⟩ := dt_run seed n _ (run_all_couples n hn) hl
  rw [show f_drawn_table = mkF [true, true] 6 b_drawn_table from rfl]
  exact fin1 rfl h rfl
end Lk
set_option Elab.async false
set_option linter.all false
set_option maxRecDepth 100000
set_option autoImplicit false
namespace Lk
open PySem PySem.Spec PyProof.Rows L2 PD
theorem par_fo' {A B : DE} {i j : Nat} {ρ ρ1 ρ2 ρ3 : List SV} {a b : D} (ha : A ρ = .ok (.fz a) ρ1) (hb : B ρ1 = .ok (.own b) ρ2) (h : (ρ2.set j (.own b)).set i (.fz a) = ρ3) : dPar i j (dCons A (dCons B dNil)) ρ = .nx ρ3 := by
  subst h
  simp [dPar, dCons, dNil, R.bind, R.bindS, ha, hb, PD.inR]
theorem T10_run (x0 x1 x2 x3 x4 x6 x7 x8 x9 x10 x11 x12 x13 x14 x15 x16 x17 x18 x19 x20 x21 x22 x23 x24 x25 x26 : SV) (s : Int) : T10 [x0, x1, x2, x3, x4, .fz (.int s), x6, x7, x8, x9, x10, x11, x12, x13, x14, x15, x16, x17, x18, x19, x20, x21, x22, x23, x24, x25, x26] = .nx [x0, x1, x2, x3, x4, .fz (.int s), x6, .fz (.int s), x8, x9, x10, x11, x12, x13, x14, x15, x16, x17, x18, .own (.lst []), x20, x21, x22, x23, x24, x25, x26] := by
  unfold T10
  exact par_fo' (a := .int s) (b := .lst []) (ρ1 := [x0, x1, x2, x3, x4, .fz (.int s), x6, x7, x8, x9, x10, x11, x12, x13, x14, x15, x16, x17, x18, x19, x20, x21, x22, x23, x24, x25, x26]) (ρ2 := [x0, x1, x2, x3, x4, .fz (.int s), x6, x7, x8, x9, x10, x11, x12, x13, x14, x15, x16, x17, x18, x19, x20, x21, x22, x23, x24, x25, x26]) rfl rfl rfl
theorem add_bit (i j k : Nat) (ρ : List SV) (A : List D) (x : D) (s : Int) (hA : A.length ≤ 500000) (h1 : ρ[i]? = some (.own (.lst A))) (h2 : ρ[j]? = some (.fz x)) (h3 : ρ[k]? = some (.fz (.int (dr s 2)))) :
    (dOp2 (orD addI (orD catL (orD catT catS))) (dVar i) (dOp2 (orD mulI repL) (dLst (dCons (dVar j) dNil)) (dVar k))) ρ = .ok (.own (.lst (A ++ if dr s 2 = 1 then [x] else []))) ρ := by
  have hr : orD mulI repL (.lst [x]) (.int (dr s 2)) = some (.own (.lst (if dr s 2 = 1 then [x] else []))) := by
    have h := rep_bit s x
    unfold orD
    simp only [mulI, fI, h]
  have hl : (if dr s 2 = 1 then [x] else []).length ≤ 1 := by split <;> simp
  generalize dr s 2 = v at h3 hr hl ⊢
  generalize (if v = 1 then [x] else []) = U at hr hl ⊢
  have hk : PD.okLen (A.length + U.length) = true := okLen_le (by omega)
  have hc : orD addI (orD catL (orD catT catS)) (.lst A) (.lst U) = some (.own (.lst (A ++ U))) := by
    unfold orD
    simp only [addI, fI, catL, hk, if_true]
  generalize orD addI (orD catL (orD catT catS)) = OP at hc ⊢
  generalize orD mulI repL = MU at hr ⊢
  have e1 : (dOp2 MU (dLst (dCons (dVar j) dNil)) (dVar k)) ρ = .ok (.own (.lst U)) ρ := by
    simp [dOp2, dLst, dCons, dVar, dNil, PD.R.bind, h2, h3, fzL, rd, hr]
  generalize dOp2 MU (dLst (dCons (dVar j) dNil)) (dVar k) = E at e1 ⊢
  simp [dOp2, dVar, PD.R.bind, h1, e1, rd, hc]
theorem T11b_run (x0 x1 x2 x3 x4 x5 x6 x8 x9 x10 x11 x12 x13 x14 x15 x16 x18 x20 x21 x22 x23 x24 x25 x26 : SV) (s : Int) (x : D) (A : List D) (hA : A.length ≤ 500000) : T11b [x0, x1, x2, x3, x4, x5, x6, .fz (.int s), x8, x9, x10, x11, x12, x13, x14, x15, x16, .fz x, x18, .own (.lst A), x20, x21, x22, x23, x24, x25, x26] = .nx [x0, x1, x2, x3, x4, x5, x6, .fz (.int (nx s)), x8, x9, .fz (.int (dr s 2)), x11, x12, x13, x14, x15, x16, .fz x, x18, .own (.lst (A ++ if dr s 2 = 1 then [x] else [])), x20, x21, x22, x23, x24, x25, x26] := by
  have e1 := asg2' (i := 7) (j := 10) (next_call (dVar 7) (dC (.int 2)) [x0, x1, x2, x3, x4, x5, x6, .fz (.int s), x8, x9, x10, x11, x12, x13, x14, x15, x16, .fz x, x18, .own (.lst A), x20, x21, x22, x23, x24, x25, x26] s 2 (by omega) rfl rfl) (ρ2 := [x0, x1, x2, x3, x4, x5, x6, .fz (.int (nx s)), x8, x9, .fz (.int (dr s 2)), x11, x12, x13, x14, x15, x16, .fz x, x18, .own (.lst A), x20, x21, x22, x23, x24, x25, x26]) rfl
  unfold T11b
  rw [dSeq_nx e1]
  exact set_own' (i := 19) (add_bit 19 17 10 [x0, x1, x2, x3, x4, x5, x6, .fz (.int (nx s)), x8, x9, .fz (.int (dr s 2)), x11, x12, x13, x14, x15, x16, .fz x, x18, .own (.lst A), x20, x21, x22, x23, x24, x25, x26] A x s hA rfl rfl rfl) rfl
theorem T11b_loop (x0 x1 x2 x3 x4 x5 x6 x8 x9 x10 x11 x12 x13 x14 x15 x16 x17 x18 x20 x21 x22 x23 x24 x25 x26 : SV) (s : Int) (ds : List D) (hl : ds.length ≤ 500000) : ∃ z7 z10 z17, dForL (bName 17) T11b ds [x0, x1, x2, x3, x4, x5, x6, .fz (.int s), x8, x9, x10, x11, x12, x13, x14, x15, x16, x17, x18, .own (.lst []), x20, x21, x22, x23, x24, x25, x26] = .nx [x0, x1, x2, x3, x4, x5, x6, z7, x8, x9, z10, x11, x12, x13, x14, x15, x16, z17, x18, .own (.lst (bitsL s ds)), x20, x21, x22, x23, x24, x25, x26] := by
  obtain ⟨ρ', hL, t, A, z10, z17, rfl, hb, hA⟩ := forL_list (g := bName 17) (b := T11b) (fun es ρ => ∃ t A z10 z17, ρ = [x0, x1, x2, x3, x4, x5, x6, .fz (.int t), x8, x9, z10, x11, x12, x13, x14, x15, x16, z17, x18, .own (.lst A), x20, x21, x22, x23, x24, x25, x26] ∧ A ++ bitsL t es = bitsL s ds ∧ A.length + es.length ≤ 500000) (fun d es ρ hI => by
    obtain ⟨t, A, z10, z17, rfl, hb, hA⟩ := hI
    simp only [List.length_cons] at hA
    have hr := T11b_run x0 x1 x2 x3 x4 x5 x6 x8 x9 (z10) x11 x12 x13 x14 x15 x16 x18 x20 x21 x22 x23 x24 x25 x26 t d A (by omega)
    refine ⟨_, _, rfl, .inl hr, nx t, _, _, _, rfl, ?_, ?_⟩
    · rw [List.append_assoc]; exact hb
    · rw [List.length_append]; split <;> simp <;> omega) ds [x0, x1, x2, x3, x4, x5, x6, .fz (.int s), x8, x9, x10, x11, x12, x13, x14, x15, x16, x17, x18, .own (.lst []), x20, x21, x22, x23, x24, x25, x26] ⟨s, [], _, _, rfl, rfl, by simpa using hl⟩
  have hb2 : A = bitsL s ds := by rw [← hb]; simp [bitsL]
  rw [← hb2]
  exact ⟨_, _, _, hL⟩
theorem T16b_run (x0 x1 x2 x3 x4 x5 x6 x8 x9 x10 x11 x12 x13 x14 x15 x16 x17 x19 x20 x21 x23 x24 x25 x26 : SV) (s : Int) (x : D) (A : List D) (hA : A.length ≤ 500000) : T16b [x0, x1, x2, x3, x4, x5, x6, .fz (.int s), x8, x9, x10, x11, x12, x13, x14, x15, x16, x17, .fz x, x19, x20, x21, .own (.lst A), x23, x24, x25, x26] = .nx [x0, x1, x2, x3, x4, x5, x6, .fz (.int (nx s)), x8, x9, .fz (.int (dr s 2)), x11, x12, x13, x14, x15, x16, x17, .fz x, x19, x20, x21, .own (.lst (A ++ if dr s 2 = 1 then [x] else [])), x23, x24, x25, x26] := by
  have e1 := asg2' (i := 7) (j := 10) (next_call (dVar 7) (dC (.int 2)) [x0, x1, x2, x3, x4, x5, x6, .fz (.int s), x8, x9, x10, x11, x12, x13, x14, x15, x16, x17, .fz x, x19, x20, x21, .own (.lst A), x23, x24, x25, x26] s 2 (by omega) rfl rfl) (ρ2 := [x0, x1, x2, x3, x4, x5, x6, .fz (.int (nx s)), x8, x9, .fz (.int (dr s 2)), x11, x12, x13, x14, x15, x16, x17, .fz x, x19, x20, x21, .own (.lst A), x23, x24, x25, x26]) rfl
  unfold T16b
  rw [dSeq_nx e1]
  exact set_own' (i := 22) (add_bit 22 18 10 [x0, x1, x2, x3, x4, x5, x6, .fz (.int (nx s)), x8, x9, .fz (.int (dr s 2)), x11, x12, x13, x14, x15, x16, x17, .fz x, x19, x20, x21, .own (.lst A), x23, x24, x25, x26] A x s hA rfl rfl rfl) rfl
theorem T16b_loop (x0 x1 x2 x3 x4 x5 x6 x8 x9 x10 x11 x12 x13 x14 x15 x16 x17 x18 x19 x20 x21 x23 x24 x25 x26 : SV) (s : Int) (ds : List D) (hl : ds.length ≤ 500000) : ∃ z7 z10 z18, dForL (bName 18) T16b ds [x0, x1, x2, x3, x4, x5, x6, .fz (.int s), x8, x9, x10, x11, x12, x13, x14, x15, x16, x17, x18, x19, x20, x21, .own (.lst []), x23, x24, x25, x26] = .nx [x0, x1, x2, x3, x4, x5, x6, z7, x8, x9, z10, x11, x12, x13, x14, x15, x16, x17, z18, x19, x20, x21, .own (.lst (bitsL s ds)), x23, x24, x25, x26] := by
  obtain ⟨ρ', hL, t, A, z10, z18, rfl, hb, hA⟩ := forL_list (g := bName 18) (b := T16b) (fun es ρ => ∃ t A z10 z18, ρ = [x0, x1, x2, x3, x4, x5, x6, .fz (.int t), x8, x9, z10, x11, x12, x13, x14, x15, x16, x17, z18, x19, x20, x21, .own (.lst A), x23, x24, x25, x26] ∧ A ++ bitsL t es = bitsL s ds ∧ A.length + es.length ≤ 500000) (fun d es ρ hI => by
    obtain ⟨t, A, z10, z18, rfl, hb, hA⟩ := hI
    simp only [List.length_cons] at hA
    have hr := T16b_run x0 x1 x2 x3 x4 x5 x6 x8 x9 (z10) x11 x12 x13 x14 x15 x16 x17 x19 x20 x21 x23 x24 x25 x26 t d A (by omega)
    refine ⟨_, _, rfl, .inl hr, nx t, _, _, _, rfl, ?_, ?_⟩
    · rw [List.append_assoc]; exact hb
    · rw [List.length_append]; split <;> simp <;> omega) ds [x0, x1, x2, x3, x4, x5, x6, .fz (.int s), x8, x9, x10, x11, x12, x13, x14, x15, x16, x17, x18, x19, x20, x21, .own (.lst []), x23, x24, x25, x26] ⟨s, [], _, _, rfl, rfl, by simpa using hl⟩
  have hb2 : A = bitsL s ds := by rw [← hb]; simp [bitsL]
  rw [← hb2]
  exact ⟨_, _, _, hL⟩
theorem T11_run (x0 x1 x2 x3 x5 x6 x8 x9 x10 x11 x12 x13 x14 x15 x16 x17 x18 x20 x21 x22 x23 x24 x25 x26 : SV) (n : Nat) (hn : n ≤ 100) (s : Int) : ∃ z7 z10 z17, T11 [x0, x1, x2, x3, .fz (.int n), x5, x6, .fz (.int s), x8, x9, x10, x11, x12, x13, x14, x15, x16, x17, x18, .own (.lst []), x20, x21, x22, x23, x24, x25, x26] = .nx [x0, x1, x2, x3, .fz (.int n), x5, x6, z7, x8, x9, z10, x11, x12, x13, x14, x15, x16, z17, x18, .own (.lst (bitsL s (cps n n))), x20, x21, x22, x23, x24, x25, x26] := by
  have hl : (cps n n).length ≤ 500000 := by
    have h1 := cps_len n n
    rw [Int.toNat_natCast] at h1
    have h3 : n * n ≤ 100 * 100 := Nat.mul_le_mul hn hn
    omega
  obtain ⟨z7, z10, z17, h⟩ := T11b_loop x0 x1 x2 x3 (.fz (.int n)) x5 x6 x8 x9 x10 x11 x12 x13 x14 x15 x16 x17 x18 x20 x21 x22 x23 x24 x25 x26 s (cps n n) hl
  refine ⟨z7, z10, z17, ?_⟩
  have hc := call_fz1 f_u_law_couples true rfl (dVar 4) [x0, x1, x2, x3, .fz (.int n), x5, x6, .fz (.int s), x8, x9, x10, x11, x12, x13, x14, x15, x16, x17, x18, .own (.lst []), x20, x21, x22, x23, x24, x25, x26] _ (.int n) _ _ (run_law_couples n hn) rfl rfl
  have hi : (dItS (dCall f_u_law_couples (dCons (dVar 4) dNil))) [x0, x1, x2, x3, .fz (.int n), x5, x6, .fz (.int s), x8, x9, x10, x11, x12, x13, x14, x15, x16, x17, x18, .own (.lst []), x20, x21, x22, x23, x24, x25, x26] = .ok (cps n n) [x0, x1, x2, x3, .fz (.int n), x5, x6, .fz (.int s), x8, x9, x10, x11, x12, x13, x14, x15, x16, x17, x18, .own (.lst []), x20, x21, x22, x23, x24, x25, x26] := by
    unfold dItS
    rw [hc]
    rfl
  unfold T11 dFor
  rw [hi]
  exact h
theorem T16_run (x0 x1 x2 x3 x5 x6 x8 x9 x10 x11 x12 x13 x14 x15 x16 x17 x18 x19 x20 x21 x23 x24 x25 x26 : SV) (n : Nat) (hn : n ≤ 100) (s : Int) : ∃ z7 z10 z18, T16 [x0, x1, x2, x3, .fz (.int n), x5, x6, .fz (.int s), x8, x9, x10, x11, x12, x13, x14, x15, x16, x17, x18, x19, x20, x21, .own (.lst []), x23, x24, x25, x26] = .nx [x0, x1, x2, x3, .fz (.int n), x5, x6, z7, x8, x9, z10, x11, x12, x13, x14, x15, x16, x17, z18, x19, x20, x21, .own (.lst (bitsL s (upto 0 n))), x23, x24, x25, x26] := by
  obtain ⟨z7, z10, z18, h⟩ := T16b_loop x0 x1 x2 x3 (.fz (.int n)) x5 x6 x8 x9 x10 x11 x12 x13 x14 x15 x16 x17 x18 x19 x20 x21 x23 x24 x25 x26 s (upto 0 n) (by rw [upto_len]; omega)
  refine ⟨z7, z10, z18, ?_⟩
  unfold T16
  rw [for_ofN (dVar 4) _ _ [x0, x1, x2, x3, .fz (.int n), x5, x6, .fz (.int s), x8, x9, x10, x11, x12, x13, x14, x15, x16, x17, x18, x19, x20, x21, .own (.lst []), x23, x24, x25, x26] _ n (by omega) rfl]
  exact h
/-! plain and small -/
theorem plains_all : ∀ xs : List D, (∀ x ∈ xs, plain x = true) → plains xs = true
  | [], _ => rfl
  | x :: xs, h => by rw [plains, h x List.mem_cons_self, plains_all xs (fun y hy => h y (List.mem_cons_of_mem _ hy))]; rfl
theorem sz_all (c : Nat) : ∀ xs : List D, (∀ x ∈ xs, szD x ≤ c) → szL xs ≤ c * xs.length
  | [], _ => by simp [szL]
  | x :: xs, h => by
    have h1 := h x List.mem_cons_self
    have h2 := sz_all c xs (fun y hy => h y (List.mem_cons_of_mem _ hy))
    rw [szL, List.length_cons, Nat.mul_succ]
    omega
theorem bits_mem : ∀ (xs : List D) (s : Int) (x : D), x ∈ bitsL s xs → x ∈ xs
  | [], _, _, h => by simp [bitsL] at h
  | y :: ys, s, x, h => by
    rcases List.mem_append.1 h with h | h
    · split at h
      · rw [List.mem_singleton.1 h]; exact List.mem_cons_self
      · simp at h
    · exact List.mem_cons_of_mem _ (bits_mem ys _ x h)
theorem cps_mem (n : Int) : ∀ k x, x ∈ cps n k → ∃ a b : Int, x = .tup [.int a, .int b]
  | k + 1, x, h => by
    rcases List.mem_append.1 h with h | h
    · exact cps_mem n k x h
    · obtain ⟨d, hd, rfl⟩ := List.mem_map.1 h
      obtain ⟨i, _, rfl⟩ := List.mem_map.1 hd
      exact ⟨_, _, rfl⟩
theorem upto_mem (n : Nat) (x : D) (h : x ∈ upto 0 n) : ∃ a : Int, x = .int a := by
  obtain ⟨i, _, rfl⟩ := List.mem_map.1 h
  exact ⟨_, rfl⟩
theorem T12_run (x0 x1 x2 x5 x6 x7 x8 x9 x10 x11 x12 x13 x14 x15 x16 x17 x18 x20 x21 x22 x23 x24 x25 x26 : SV) (v : Int) (n : Nat) (hn : n ≤ 100) : T12 [x0, x1, x2, .fz (.int v), .fz (.int n), x5, x6, x7, x8, x9, x10, x11, x12, x13, x14, x15, x16, x17, x18, .own (.lst (bitsL (v.fmod 2147483647) (cps n n))), x20, x21, x22, x23, x24, x25, x26] = .nx [x0, x1, x2, .fz (.int v), .fz (.int n), x5, x6, x7, x8, x9, x10, x11, x12, x13, x14, x15, x16, x17, x18, .own (.lst (bitsL (v.fmod 2147483647) (cps n n))), x20, x21, x22, x23, x24, x25, x26] := by
  have h1 := call_fz2 f_drawn_table true true rfl (dVar 3) (dVar 4) [x0, x1, x2, .fz (.int v), .fz (.int n), x5, x6, x7, x8, x9, x10, x11, x12, x13, x14, x15, x16, x17, x18, .own (.lst (bitsL (v.fmod 2147483647) (cps n n))), x20, x21, x22, x23, x24, x25, x26] _ _ (.int v) (.int n) _ _ (run_drawn_table v n hn) rfl rfl rfl
  have h2 : (dTup (dCons (dVar 4) (dCons (dOpN tupleD (dCons (dVar 19) dNil)) dNil))) [x0, x1, x2, .fz (.int v), .fz (.int n), x5, x6, x7, x8, x9, x10, x11, x12, x13, x14, x15, x16, x17, x18, .own (.lst (bitsL (v.fmod 2147483647) (cps n n))), x20, x21, x22, x23, x24, x25, x26] = .ok (.fz (.tup [.int n, .tup (bitsL (v.fmod 2147483647) (cps n n))])) [x0, x1, x2, .fz (.int v), .fz (.int n), x5, x6, x7, x8, x9, x10, x11, x12, x13, x14, x15, x16, x17, x18, .own (.lst (bitsL (v.fmod 2147483647) (cps n n))), x20, x21, x22, x23, x24, x25, x26] := rfl
  unfold T12
  refine alike_call (.tup [.int n, .tup (bitsL (v.fmod 2147483647) (cps n n))]) _ _ _ _ _ _ _ .fz .fz h1 h2 ?_ ?_
  · have hp : plains (bitsL (v.fmod 2147483647) (cps n n)) = true := plains_all _ fun x hx => by
      obtain ⟨a, b, rfl⟩ := cps_mem n n x (bits_mem _ _ x hx)
      rfl
    simp only [plain, plains, hp, Bool.and_self]
  · have hs : szL (bitsL (v.fmod 2147483647) (cps n n)) ≤ 3 * (bitsL (v.fmod 2147483647) (cps n n)).length := sz_all 3 _ fun x hx => by
      obtain ⟨a, b, rfl⟩ := cps_mem n n x (bits_mem _ _ x hx)
      simp [szD, szL]
    have h4 := bitsL_len (cps n n) (v.fmod 2147483647)
    have h5 := cps_len n n
    rw [Int.toNat_natCast] at h5
    have h3 : n * n ≤ 100 * 100 := Nat.mul_le_mul hn hn
    simp only [szD, szL]
    omega
end Lk
set_option Elab.async false
set_option linter.all false
set_option maxRecDepth 100000
set_option autoImplicit false
namespace Lk
open PySem PySem.Spec PyProof.Rows L2 PD
theorem par3_' {A B C : DE} {i j l : Nat} {ρ ρ1 ρ2 ρ3 ρ4 : List SV} {a b c : D} (ha : A ρ = .ok (.fz a) ρ1) (hb : B ρ1 = .ok (.own b) ρ2) (hc : C ρ2 = .ok (.own c) ρ3) (h : ((ρ3.set l (.own c)).set j (.own b)).set i (.fz a) = ρ4) : dPar3 i j l (dCons A (dCons B (dCons C dNil))) ρ = .nx ρ4 := by
  subst h
  simp [dPar3, dCons, dNil, R.bind, R.bindS, ha, hb, hc, PD.inR]
theorem rg_list (V : DE) (ρ : List SV) (n : Nat) (hn : n ≤ 1000) (h : V ρ = .ok (.fz (.int n)) ρ) : (dLstRg (dRng1 (dCons V dNil))) ρ = .ok (.own (.lst ((rgI n).map D.int))) ρ := by
  have h1 := rng1_of V ρ n (sm62 hn) h
  rw [Int.toNat_natCast, upto_rgI] at h1
  have hl : ((rgI n).map D.int).length ≤ 1000000 := by rw [List.length_map, rgI_len]; omega
  unfold dLstRg
  rw [h1]
  simp only [PD.R.bind, hl, if_true]
theorem T13_run (x0 x1 x2 x3 x6 x7 x8 x9 x10 x11 x12 x13 x14 x15 x16 x17 x18 x19 x20 x21 x22 x23 x24 x25 x26 : SV) (n : Nat) (hn : n ≤ 100) (s : Int) : T13 [x0, x1, x2, x3, .fz (.int n), .fz (.int s), x6, x7, x8, x9, x10, x11, x12, x13, x14, x15, x16, x17, x18, x19, x20, x21, x22, x23, x24, x25, x26] = .nx [x0, x1, x2, x3, .fz (.int n), .fz (.int s), x6, .fz (.int s), x8, x9, x10, x11, x12, x13, x14, x15, x16, x17, x18, x19, .own (.lst ((rgI n).map D.int)), .own (.lst []), x22, x23, x24, x25, x26] := by
  have h := rg_list (dVar 4) [x0, x1, x2, x3, .fz (.int n), .fz (.int s), x6, x7, x8, x9, x10, x11, x12, x13, x14, x15, x16, x17, x18, x19, x20, x21, x22, x23, x24, x25, x26] n (by omega) rfl
  unfold T13
  exact par3_' (a := .int s) (c := .lst []) (ρ1 := [x0, x1, x2, x3, .fz (.int n), .fz (.int s), x6, x7, x8, x9, x10, x11, x12, x13, x14, x15, x16, x17, x18, x19, x20, x21, x22, x23, x24, x25, x26]) (ρ3 := [x0, x1, x2, x3, .fz (.int n), .fz (.int s), x6, x7, x8, x9, x10, x11, x12, x13, x14, x15, x16, x17, x18, x19, x20, x21, x22, x23, x24, x25, x26]) rfl h rfl rfl
theorem T15_run (x0 x1 x2 x3 x4 x6 x7 x8 x9 x10 x11 x12 x13 x14 x15 x16 x17 x18 x19 x20 x21 x22 x23 x24 x25 x26 : SV) (s : Int) : T15 [x0, x1, x2, x3, x4, .fz (.int s), x6, x7, x8, x9, x10, x11, x12, x13, x14, x15, x16, x17, x18, x19, x20, x21, x22, x23, x24, x25, x26] = .nx [x0, x1, x2, x3, x4, .fz (.int s), x6, .fz (.int s), x8, x9, x10, x11, x12, x13, x14, x15, x16, x17, x18, x19, x20, x21, .own (.lst []), x23, x24, x25, x26] := by
  unfold T15
  exact par_fo' (a := .int s) (b := .lst []) (ρ1 := [x0, x1, x2, x3, x4, .fz (.int s), x6, x7, x8, x9, x10, x11, x12, x13, x14, x15, x16, x17, x18, x19, x20, x21, x22, x23, x24, x25, x26]) (ρ2 := [x0, x1, x2, x3, x4, .fz (.int s), x6, x7, x8, x9, x10, x11, x12, x13, x14, x15, x16, x17, x18, x19, x20, x21, x22, x23, x24, x25, x26]) rfl rfl rfl
theorem cut_take (xs : List D) (v : Int) (h0 : 0 ≤ v) (h : v < xs.length) : PD.cutD xs none (some v) = xs.take v.toNat := by
  obtain ⟨k, rfl⟩ : ∃ k : Nat, v = k := ⟨v.toNat, by omega⟩
  have hk : k ≤ xs.length := by omega
  unfold PD.cutD
  rw [HT.sIx_none, HT.sIx_nat, Nat.min_eq_left hk]
  simp
theorem cut_drop (xs : List D) (v : Int) (h0 : 0 ≤ v) (h : v < xs.length) : PD.cutD xs (some (v + 1)) none = xs.drop (v.toNat + 1) := by
  obtain ⟨k, rfl⟩ : ∃ k : Nat, v = k := ⟨v.toNat, by omega⟩
  have hk : k + 1 ≤ xs.length := by omega
  have e : ((k : Int) + 1) = ((k + 1 : Nat) : Int) := by omega
  unfold PD.cutD
  rw [e, HT.sIx_none, HT.sIx_nat, Nat.min_eq_left hk, Int.toNat_natCast]
  rw [List.take_of_length_le]
  rw [List.length_drop]
  omega
theorem cut_out (i j : Nat) (ρ : List SV) (l : List Int) (v : Int) (hl : l.length ≤ 1000) (h0 : 0 ≤ v) (h : v < l.length) (h1 : ρ[i]? = some (.own (.lst (l.map D.int)))) (h2 : ρ[j]? = some (.fz (.int v))) :
    (dOp2 (orD addI (orD catL (orD catT catS))) (dSl slD (dVar i) dNoPart (dPart (dVar j))) (dSl slD (dVar i) (dPart (dOp2 (orD addI (orD catL (orD catT catS))) (dVar j) (dC (.int 1)))) dNoPart)) ρ = .ok (.own (.lst ((l.eraseIdx v.toNat).map D.int))) ρ := by
  have c1 := cut_take (l.map D.int) v h0 (by simpa using h)
  have c2 := cut_drop (l.map D.int) v h0 (by simpa using h)
  have e : (l.eraseIdx v.toNat).map D.int = (l.map D.int).take v.toNat ++ (l.map D.int).drop (v.toNat + 1) := by
    rw [List.eraseIdx_eq_take_drop_succ, List.map_append, List.map_take, List.map_drop]
  rw [e]
  have hU : ((l.map D.int).take v.toNat).length ≤ 1000 := by rw [List.length_take, List.length_map]; omega
  have hW : ((l.map D.int).drop (v.toNat + 1)).length ≤ 1000 := by rw [List.length_drop, List.length_map]; omega
  generalize (l.map D.int).take v.toNat = U at c1 hU ⊢
  generalize (l.map D.int).drop (v.toNat + 1) = W at c2 hW ⊢
  generalize l.map D.int = M at c1 c2 h1
  have hk : PD.okLen (U.length + W.length) = true := okLen_le (by omega)
  have s1 : slD (.lst M) none (some v) = some (.own (.lst U)) := by simp only [slD, c1]
  have s2 : slD (.lst M) (some (v + 1)) none = some (.own (.lst W)) := by simp only [slD, c2]
  have o1 : orD addI (orD catL (orD catT catS)) (.int v) (.int 1) = some (.fz (.int (v + 1))) := rfl
  have o2 : orD addI (orD catL (orD catT catS)) (.lst U) (.lst W) = some (.own (.lst (U ++ W))) := by
    unfold orD
    simp only [addI, fI, catL, hk, if_true]
  generalize orD addI (orD catL (orD catT catS)) = OP at o1 o2 ⊢
  generalize slD = SL at s1 s2 ⊢
  generalize v + 1 = v1 at s2 o1
  simp [dOp2, dSl, dVar, dNoPart, dPart, dC, PD.R.bind, h1, h2, rd, s1, s2, o1, o2]
theorem app_ix (i j k : Nat) (ρ ρ2 : List SV) (l : List Int) (A : List D) (v : Int) (hA : A.length < 1000000) (h0 : 0 ≤ v) (h : v < l.length) (h1 : ρ[i]? = some (.own (.lst (l.map D.int)))) (h2 : ρ[j]? = some (.fz (.int v))) (h3 : ρ[k]? = some (.own (.lst A)))
    (h4 : ρ.set k (.own (.lst (A ++ [.int (l.getD v.toNat 0)]))) = ρ2) :
    (dDrop (dMut "list" appD (dVar k) (dCons (dOp2 ixA (dVar i) (dVar j)) dNil))) ρ = .nx ρ2 := by
  have hi := atI_int l v h0 h
  subst h4
  generalize l.getD v.toNat 0 = w at hi ⊢
  generalize l.map D.int = M at hi h1
  generalize ixA = IX at hi ⊢
  have e1 : (dOp2 IX (dVar i) (dVar j)) ρ = .ok (.fz (.int w)) ρ := by
    simp [dOp2, dVar, PD.R.bind, h1, h2, rd, hi]
  generalize dOp2 IX (dVar i) (dVar j) = E at e1 ⊢
  have hc : chkT "list" (SV.own (D.lst A)) = true := by rfl
  have ha : appD (.lst A) [.int w] = some (.lst (A ++ [.int w]), .fz .non) := by simp only [appD, hA, if_true]
  generalize appD = AP at ha ⊢
  unfold dDrop dMut
  unfold dCons dNil
  simp only [dVar, h3, PD.R.bind, PD.R.bindS, e1, Option.getD, hc, if_true, fzL, Option.map, ha]
theorem T14b_run (x0 x1 x2 x3 x4 x5 x6 x8 x9 x10 x11 x12 x13 x14 x15 x16 x17 x18 x19 x22 x23 x24 x25 x26 : SV) (s : Int) (l : List Int) (A : List D) (h : 0 < l.length) (hl : l.length ≤ 1000) (hA : A.length < 1000000) : T14b [x0, x1, x2, x3, x4, x5, x6, .fz (.int s), x8, x9, x10, x11, x12, x13, x14, x15, x16, x17, x18, x19, .own (.lst (l.map D.int)), .own (.lst A), x22, x23, x24, x25, x26] = .nx [x0, x1, x2, x3, x4, x5, x6, .fz (.int (nx s)), x8, x9, .fz (.int (dr s l.length)), x11, x12, x13, x14, x15, x16, x17, x18, x19, .own (.lst ((l.eraseIdx (dr s l.length).toNat).map D.int)), .own (.lst (A ++ [.int (l.getD (dr s l.length).toNat 0)])), x22, x23, x24, x25, x26] := by
  have hp : (0 : Int) < (l.length : Int) := by omega
  obtain ⟨h1, h2⟩ := dr_range s hp
  have hlen : (dOpN lenD (dCons (dVar 20) dNil)) [x0, x1, x2, x3, x4, x5, x6, .fz (.int s), x8, x9, x10, x11, x12, x13, x14, x15, x16, x17, x18, x19, .own (.lst (l.map D.int)), .own (.lst A), x22, x23, x24, x25, x26] = .ok (.fz (.int l.length)) [x0, x1, x2, x3, x4, x5, x6, .fz (.int s), x8, x9, x10, x11, x12, x13, x14, x15, x16, x17, x18, x19, .own (.lst (l.map D.int)), .own (.lst A), x22, x23, x24, x25, x26] := by
    have h : lenD [.lst (l.map D.int)] = some (.fz (.int l.length)) := by simp [lenD]
    generalize lenD = LE at h ⊢
    unfold dOpN dCons dVar dNil
    simp only [List.getElem?_cons_succ, List.getElem?_cons_zero, PD.R.bind, rd, rdL, h]
  have e1 := asg2' (i := 7) (j := 10) (next_call (dVar 7) _ [x0, x1, x2, x3, x4, x5, x6, .fz (.int s), x8, x9, x10, x11, x12, x13, x14, x15, x16, x17, x18, x19, .own (.lst (l.map D.int)), .own (.lst A), x22, x23, x24, x25, x26] s l.length hp rfl hlen) (ρ2 := [x0, x1, x2, x3, x4, x5, x6, .fz (.int (nx s)), x8, x9, .fz (.int (dr s l.length)), x11, x12, x13, x14, x15, x16, x17, x18, x19, .own (.lst (l.map D.int)), .own (.lst A), x22, x23, x24, x25, x26]) rfl
  have e2 := app_ix 20 10 21 [x0, x1, x2, x3, x4, x5, x6, .fz (.int (nx s)), x8, x9, .fz (.int (dr s l.length)), x11, x12, x13, x14, x15, x16, x17, x18, x19, .own (.lst (l.map D.int)), .own (.lst A), x22, x23, x24, x25, x26] [x0, x1, x2, x3, x4, x5, x6, .fz (.int (nx s)), x8, x9, .fz (.int (dr s l.length)), x11, x12, x13, x14, x15, x16, x17, x18, x19, .own (.lst (l.map D.int)), .own (.lst (A ++ [.int (l.getD (dr s l.length).toNat 0)])), x22, x23, x24, x25, x26] l A (dr s l.length) hA h1 h2 rfl rfl rfl rfl
  have e3 := set_own' (i := 20) (cut_out 20 10 [x0, x1, x2, x3, x4, x5, x6, .fz (.int (nx s)), x8, x9, .fz (.int (dr s l.length)), x11, x12, x13, x14, x15, x16, x17, x18, x19, .own (.lst (l.map D.int)), .own (.lst (A ++ [.int (l.getD (dr s l.length).toNat 0)])), x22, x23, x24, x25, x26] l (dr s l.length) hl h1 h2 rfl rfl) (ρ2 := [x0, x1, x2, x3, x4, x5, x6, .fz (.int (nx s)), x8, x9, .fz (.int (dr s l.length)), x11, x12, x13, x14, x15, x16, x17, x18, x19, .own (.lst ((l.eraseIdx (dr s l.length).toNat).map D.int)), .own (.lst (A ++ [.int (l.getD (dr s l.length).toNat 0)])), x22, x23, x24, x25, x26]) rfl
  unfold T14b
  rw [dSeq_nx e1, dSeq_nx e2]
  exact e3
theorem T14_run (x0 x1 x2 x3 x5 x6 x8 x9 x10 x11 x12 x13 x14 x15 x16 x17 x18 x19 x22 x23 x24 x25 x26 : SV) (n : Nat) (hn : n ≤ 100) (s : Int) : ∃ z7 z8 z10 z20, T14 [x0, x1, x2, x3, .fz (.int n), x5, x6, .fz (.int s), x8, x9, x10, x11, x12, x13, x14, x15, x16, x17, x18, x19, .own (.lst ((rgI n).map D.int)), .own (.lst []), x22, x23, x24, x25, x26] = .nx [x0, x1, x2, x3, .fz (.int n), x5, x6, z7, z8, x9, z10, x11, x12, x13, x14, x15, x16, x17, x18, x19, z20, .own (.lst ((nms n s (rgI n)).map D.int)), x22, x23, x24, x25, x26] := by
  obtain ⟨ρ', hL, t, l, A, z8, z10, rfl, hl, hb, hA⟩ := forL_inv (g := bName 8) (b := T14b) (fun k ρ => ∃ (t : Int) (l : List Int) (A : List D) (z8 z10 : SV), ρ = [x0, x1, x2, x3, .fz (.int n), x5, x6, .fz (.int t), z8, x9, z10, x11, x12, x13, x14, x15, x16, x17, x18, x19, .own (.lst (l.map D.int)), .own (.lst A), x22, x23, x24, x25, x26] ∧ l.length = n - k ∧ A ++ (nms (n - k) t l).map D.int = (nms n s (rgI n)).map D.int ∧ A.length = k) n (fun i ρ hi hI => by
    obtain ⟨t, l, A, z8, z10, rfl, hl, hb, hA⟩ := hI
    obtain ⟨h1, h2⟩ := dr_range t (m := (l.length : Int)) (by omega)
    have hr := T14b_run x0 x1 x2 x3 (.fz (.int n)) x5 x6 (.fz (.int i)) x9 (z10) x11 x12 x13 x14 x15 x16 x17 x18 x19 x22 x23 x24 x25 x26 t l A (by omega) (by omega) (by omega)
    refine ⟨_, _, rfl, .inl hr, nx t, _, _, _, _, rfl, ?_, ?_, ?_⟩
    · rw [List.length_eraseIdx_of_lt (by omega)]; omega
    · rw [show n - i = n - (i + 1) + 1 by omega] at hb
      rw [← hb]
      simp [nms]
    · rw [List.length_append, List.length_singleton]; omega) [x0, x1, x2, x3, .fz (.int n), x5, x6, .fz (.int s), x8, x9, x10, x11, x12, x13, x14, x15, x16, x17, x18, x19, .own (.lst ((rgI n).map D.int)), .own (.lst []), x22, x23, x24, x25, x26] ⟨s, rgI n, [], _, _, rfl, rgI_len n, rfl, rfl⟩
  have hb2 : A = (nms n s (rgI n)).map D.int := by rw [← hb]; simp [nms]
  rw [← hb2]
  refine ⟨.fz (.int t), z8, z10, .own (.lst (l.map D.int)), ?_⟩
  unfold T14
  rw [for_ofN (dVar 4) _ _ [x0, x1, x2, x3, .fz (.int n), x5, x6, .fz (.int s), x8, x9, x10, x11, x12, x13, x14, x15, x16, x17, x18, x19, .own (.lst ((rgI n).map D.int)), .own (.lst []), x22, x23, x24, x25, x26] _ n (by omega) rfl]
  exact hL
theorem T17_run (x0 x1 x2 x5 x6 x7 x8 x9 x10 x11 x12 x13 x14 x15 x16 x17 x18 x19 x20 x23 x24 x25 x26 : SV) (v : Int) (n : Nat) (hn : n ≤ 100) : T17 [x0, x1, x2, .fz (.int v), .fz (.int n), x5, x6, x7, x8, x9, x10, x11, x12, x13, x14, x15, x16, x17, x18, x19, x20, .own (.lst ((nms n (v.fmod 2147483647) (rgI n)).map D.int)), .own (.lst (bitsL (v.fmod 2147483647) (upto 0 n))), x23, x24, x25, x26] = .nx [x0, x1, x2, .fz (.int v), .fz (.int n), x5, x6, x7, x8, x9, x10, x11, x12, x13, x14, x15, x16, x17, x18, x19, x20, .own (.lst ((nms n (v.fmod 2147483647) (rgI n)).map D.int)), .own (.lst (bitsL (v.fmod 2147483647) (upto 0 n))), x23, x24, x25, x26] := by
  have h1 := call_fz2 f_drawn_names true true rfl (dVar 3) (dVar 4) [x0, x1, x2, .fz (.int v), .fz (.int n), x5, x6, x7, x8, x9, x10, x11, x12, x13, x14, x15, x16, x17, x18, x19, x20, .own (.lst ((nms n (v.fmod 2147483647) (rgI n)).map D.int)), .own (.lst (bitsL (v.fmod 2147483647) (upto 0 n))), x23, x24, x25, x26] _ _ (.int v) (.int n) _ _ (run_drawn_names v n hn) rfl rfl rfl
  have h2 := call_fz2 f_drawn_lot true true rfl (dVar 3) (dVar 4) [x0, x1, x2, .fz (.int v), .fz (.int n), x5, x6, x7, x8, x9, x10, x11, x12, x13, x14, x15, x16, x17, x18, x19, x20, .own (.lst ((nms n (v.fmod 2147483647) (rgI n)).map D.int)), .own (.lst (bitsL (v.fmod 2147483647) (upto 0 n))), x23, x24, x25, x26] _ _ (.int v) (.int n) _ _ (run_drawn_lot v n hn) rfl rfl rfl
  have h3 := lst2 _ _ _ _ _ _ _ h1 h2
  have h4 := lst2 (dOpN tupleD (dCons (dVar 21) dNil)) (dOpN tupleD (dCons (dVar 22) dNil)) [x0, x1, x2, .fz (.int v), .fz (.int n), x5, x6, x7, x8, x9, x10, x11, x12, x13, x14, x15, x16, x17, x18, x19, x20, .own (.lst ((nms n (v.fmod 2147483647) (rgI n)).map D.int)), .own (.lst (bitsL (v.fmod 2147483647) (upto 0 n))), x23, x24, x25, x26] [x0, x1, x2, .fz (.int v), .fz (.int n), x5, x6, x7, x8, x9, x10, x11, x12, x13, x14, x15, x16, x17, x18, x19, x20, .own (.lst ((nms n (v.fmod 2147483647) (rgI n)).map D.int)), .own (.lst (bitsL (v.fmod 2147483647) (upto 0 n))), x23, x24, x25, x26] [x0, x1, x2, .fz (.int v), .fz (.int n), x5, x6, x7, x8, x9, x10, x11, x12, x13, x14, x15, x16, x17, x18, x19, x20, .own (.lst ((nms n (v.fmod 2147483647) (rgI n)).map D.int)), .own (.lst (bitsL (v.fmod 2147483647) (upto 0 n))), x23, x24, x25, x26] (.tup ((nms n (v.fmod 2147483647) (rgI n)).map D.int)) (.tup (bitsL (v.fmod 2147483647) (upto 0 n))) rfl rfl
  unfold T17
  refine alike_call (.lst [.tup ((nms n (v.fmod 2147483647) (rgI n)).map D.int), .tup (bitsL (v.fmod 2147483647) (upto 0 n))]) _ _ _ _ _ _ _ .own .own h3 h4 ?_ ?_
  · have hp : plains (bitsL (v.fmod 2147483647) (upto 0 n)) = true := plains_all _ fun x hx => by
      obtain ⟨a, rfl⟩ := upto_mem n x (bits_mem _ _ x hx)
      rfl
    simp only [plain, plains, hp, plain_ints, Bool.and_self]
  · have hs : szL (bitsL (v.fmod 2147483647) (upto 0 n)) ≤ 1 * (bitsL (v.fmod 2147483647) (upto 0 n)).length := sz_all 1 _ fun x hx => by
      obtain ⟨a, rfl⟩ := upto_mem n x (bits_mem _ _ x hx)
      simp [szD]
    have h4 := bitsL_len (upto 0 n) (v.fmod 2147483647)
    rw [upto_len] at h4
    simp only [szD, szL, sz_ints, nms_len]
    omega
end Lk
set_option Elab.async false
set_option linter.all false
set_option maxRecDepth 100000
set_option autoImplicit false
namespace Lk
open PySem PySem.Spec PyProof.Rows L2 PD
theorem par3fof {A B C : DE} {i j l : Nat} {ρ ρ1 ρ2 ρ3 ρ4 : List SV} {a b c : D} (ha : A ρ = .ok (.fz a) ρ1) (hb : B ρ1 = .ok (.own b) ρ2) (hc : C ρ2 = .ok (.fz c) ρ3) (h : ((ρ3.set l (.fz c)).set j (.own b)).set i (.fz a) = ρ4) : dPar3 i j l (dCons A (dCons B (dCons C dNil))) ρ = .nx ρ4 := by
  subst h
  simp [dPar3, dCons, dNil, R.bind, R.bindS, ha, hb, hc, PD.inR]
theorem T18_run (x0 x2 x3 x4 x6 x7 x8 x9 x10 x11 x12 x13 x14 x15 x16 x17 x18 x19 x20 x21 x22 x23 x24 x25 x26 : SV) (B : D) (hB : Bag B) (s : Int) : ∃ (z : Nat) (B2 : D), Bag B2 ∧ z < 12 ∧ T18 [x0, .own B, x2, x3, x4, .fz (.int s), x6, x7, x8, x9, x10, x11, x12, x13, x14, x15, x16, x17, x18, x19, x20, x21, x22, x23, x24, x25, x26] = .nx [x0, .own B2, x2, x3, x4, .fz (.int s), x6, .fz (.int s), x8, .fz (.int z), x10, x11, x12, x13, x14, x15, x16, x17, x18, x19, x20, x21, x22, .own (.lst []), x24, x25, x26] := by
  obtain ⟨v, B2, hB2, h0, hv, h1⟩ := take_call 1 (dC (.int 12)) [x0, .own B, x2, x3, x4, .fz (.int s), x6, x7, x8, x9, x10, x11, x12, x13, x14, x15, x16, x17, x18, x19, x20, x21, x22, x23, x24, x25, x26] B 12 hB (by omega) (by omega) rfl rfl
  obtain ⟨z, rfl⟩ : ∃ z : Nat, v = z := ⟨v.toNat, by omega⟩
  refine ⟨z, B2, hB2, by omega, ?_⟩
  unfold T18
  exact par3fof (a := .int s) (b := .lst []) (ρ1 := [x0, .own B, x2, x3, x4, .fz (.int s), x6, x7, x8, x9, x10, x11, x12, x13, x14, x15, x16, x17, x18, x19, x20, x21, x22, x23, x24, x25, x26]) (ρ2 := [x0, .own B, x2, x3, x4, .fz (.int s), x6, x7, x8, x9, x10, x11, x12, x13, x14, x15, x16, x17, x18, x19, x20, x21, x22, x23, x24, x25, x26]) rfl rfl h1 rfl
theorem if_lt (k : Nat) (c w : Int) (X Y : DE) (ρ : List SV) (h : ρ[k]? = some (.fz (.int w))) : dIf (dB (dOp2 ltI (dVar k) (dC (.int c)))) X Y ρ = if w < c then X ρ else Y ρ := by
  have hl : ltI (.int w) (.int c) = some (.fz (.bl (decide (w < c)))) := rfl
  generalize ltI = LT at hl ⊢
  by_cases e : w < c
  · simp [dIf, dB, dOp2, dVar, dC, PD.R.bind, h, rd, hl, e]
  · simp [dIf, dB, dOp2, dVar, dC, PD.R.bind, h, rd, hl, e]
theorem if_eq (k : Nat) (c w : Int) (X Y : DE) (ρ : List SV) (h : ρ[k]? = some (.fz (.int w))) : dIf (dB (dOp2 eqD (dVar k) (dC (.int c)))) X Y ρ = if w = c then X ρ else Y ρ := by
  have hl := he w c
  generalize PD.eqD = LT at hl ⊢
  by_cases e : w = c
  · simp [dIf, dB, dOp2, dVar, dC, PD.R.bind, h, rd, hl, e]
    simp [e] at hl
    simp [hl]
  · simp [dIf, dB, dOp2, dVar, dC, PD.R.bind, h, rd, hl, e]
def wordS (w : Int) : Str := if w < 7 then "line" else if w < 9 then "apart" else "forget"
theorem word_wy (w : Int) (h1 : 4 ≤ w) (h2 : w < 11) : wordS w = wyS w := by
  obtain ⟨k, rfl⟩ : ∃ k : Nat, w = k := ⟨w.toNat, by omega⟩
  have : ∀ k : Nat, k < 11 → 4 ≤ k → wordS (k : Nat) = wyS (k : Nat) := by decide +kernel
  exact this k (by omega) (by omega)
theorem word_run (k : Nat) (ρ : List SV) (w : Int) (h : ρ[k]? = some (.fz (.int w))) : (dIf (dB (dOp2 ltI (dVar k) (dC (.int 7)))) (dC (.str "line")) (dIf (dB (dOp2 ltI (dVar k) (dC (.int 9)))) (dC (.str "apart")) (dC (.str "forget")))) ρ = .ok (.fz (.str (wordS w))) ρ := by
  rw [if_lt k 7 w _ _ ρ h, if_lt k 9 w _ _ ρ h]
  unfold wordS dC
  split
  · rfl
  · split <;> rfl
theorem tup1 (A : DE) (ρ : List SV) (a : D) (h1 : A ρ = .ok (.fz a) ρ) : dTup (dCons A dNil) ρ = .ok (.fz (.tup [a])) ρ := by
  simp [dTup, dCons, dNil, PD.R.bind, h1, fzL]
theorem tup2 (A C : DE) (ρ : List SV) (a c : D) (h1 : A ρ = .ok (.fz a) ρ) (h2 : C ρ = .ok (.fz c) ρ) : dTup (dCons A (dCons C dNil)) ρ = .ok (.fz (.tup [a, c])) ρ := by
  simp [dTup, dCons, dNil, PD.R.bind, h1, h2, fzL]
theorem tup3 (A C E : DE) (ρ : List SV) (a c e : D) (h1 : A ρ = .ok (.fz a) ρ) (h2 : C ρ = .ok (.fz c) ρ) (h3 : E ρ = .ok (.fz e) ρ) : dTup (dCons A (dCons C (dCons E dNil))) ρ = .ok (.fz (.tup [a, c, e])) ρ := by
  simp [dTup, dCons, dNil, PD.R.bind, h1, h2, h3, fzL]
theorem deed_run (ρ : List SV) (w a b : Int) (w1 : 0 ≤ w) (w2 : w < 12) (h24 : ρ[24]? = some (.fz (.int w))) (h15 : ρ[15]? = some (.fz (.str (nmS a)))) (h16 : ρ[16]? = some (.fz (.str (nmS b)))) (h26 : ρ[26]? = some (.fz (.str (wordS w)))) :
    (dIf (dB (dOp2 ltI (dVar 24) (dC (.int 4)))) (dTup (dCons (dC (.str "join")) (dCons (dVar 15) dNil))) (dIf (dB (dOp2 eqD (dVar 24) (dC (.int 11)))) (dTup (dCons (dC (.str "day")) dNil)) (dTup (dCons (dVar 26) (dCons (dVar 15) (dCons (dVar 16) dNil)))))) ρ = .ok (.fz (deedD w a b)) ρ := by
  rw [if_lt 24 4 w _ _ ρ h24, if_eq 24 11 w _ _ ρ h24]
  have v15 := var_fz 15 ρ _ h15
  have v16 := var_fz 16 ρ _ h16
  have v26 := var_fz 26 ρ _ h26
  unfold deedD
  split
  · exact tup2 _ _ _ _ _ rfl v15
  · split
    · exact tup1 _ _ _ rfl
    · rw [word_wy w (by omega) (by omega)] at v26
      exact tup3 _ _ _ _ _ _ _ v26 v15 v16
theorem app_to (k : Nat) (E : DE) (ρ ρ2 : List SV) (A : List D) (d : D) (hA : A.length < 1000000) (h3 : ρ[k]? = some (.own (.lst A))) (e1 : E ρ = .ok (.fz d) ρ) (h4 : ρ.set k (.own (.lst (A ++ [d]))) = ρ2) :
    (dDrop (dMut "list" appD (dVar k) (dCons E dNil))) ρ = .nx ρ2 := by
  subst h4
  have hc : chkT "list" (SV.own (D.lst A)) = true := by rfl
  have ha : appD (.lst A) [d] = some (.lst (A ++ [d]), .fz .non) := by simp only [appD, hA, if_true]
  generalize appD = AP at ha ⊢
  unfold dDrop dMut
  unfold dCons dNil
  simp only [dVar, h3, PD.R.bind, PD.R.bindS, e1, Option.getD, hc, if_true, fzL, Option.map, ha]
def nmE (k : Nat) : DE := (dOp2 ixA (dLst (dCons (dC (.str "ash")) (dCons (dC (.str "bea")) (dCons (dC (.str "cid")) (dCons (dC (.str "dot")) (dCons (dC (.str "eli")) dNil)))))) (dVar k))
theorem nmE_run (k : Nat) (ρ : List SV) (a : Int) (h0 : 0 ≤ a) (h5 : a < 5) (h : ρ[k]? = some (.fz (.int a))) : nmE k ρ = .ok (.fz (.str (nmS a))) ρ := by
  have hi := lst_at ["ash", "bea", "cid", "dot", "eli"] "ash" a h0 h5
  have hi : ixA (.lst [.str "ash", .str "bea", .str "cid", .str "dot", .str "eli"]) (.int a) = some (.fz (.str (nmS a))) := hi
  have hl : (dLst (dCons (dC (.str "ash")) (dCons (dC (.str "bea")) (dCons (dC (.str "cid")) (dCons (dC (.str "dot")) (dCons (dC (.str "eli")) dNil)))))) ρ = .ok (.own (.lst [.str "ash", .str "bea", .str "cid", .str "dot", .str "eli"])) ρ := by
    simp [dLst, dCons, dC, dNil, PD.R.bind, fzL]
  unfold nmE
  generalize (dLst (dCons (dC (.str "ash")) (dCons (dC (.str "bea")) (dCons (dC (.str "cid")) (dCons (dC (.str "dot")) (dCons (dC (.str "eli")) dNil)))))) = E at hl ⊢
  generalize ixA = IX at hi ⊢
  unfold dOp2 dVar
  simp only [hl, h, PD.R.bind, rd, hi]
theorem T19b_run (x0 x1 x2 x3 x4 x5 x6 x8 x9 x10 x11 x12 x13 x14 x15 x16 x17 x18 x19 x20 x21 x22 x24 x25 x26 : SV) (s : Int) (A : List D) (hA : A.length < 1000000) : T19b [x0, x1, x2, x3, x4, x5, x6, .fz (.int s), x8, x9, x10, x11, x12, x13, x14, x15, x16, x17, x18, x19, x20, x21, x22, .own (.lst A), x24, x25, x26] = .nx [x0, x1, x2, x3, x4, x5, x6, .fz (.int (nx (nx (nx s)))), x8, x9, x10, x11, x12, x13, x14, .fz (.str (nmS (dr (nx s) 5))), .fz (.str (nmS (dr (nx (nx s)) 5))), x17, .fz (.int (dr (nx s) 5)), x19, x20, x21, x22, .own (.lst (A ++ [deedD (dr s 12) (dr (nx s) 5) (dr (nx (nx s)) 5)])), .fz (.int (dr s 12)), .fz (.int (dr (nx (nx s)) 5)), .fz (.str (wordS (dr s 12)))] := by
  obtain ⟨w1, w2⟩ := dr_range s (m := 12) (by omega)
  obtain ⟨a1, a2⟩ := dr_range (nx s) (m := 5) (by omega)
  obtain ⟨b1, b2⟩ := dr_range (nx (nx s)) (m := 5) (by omega)
  have e1 := asg2' (i := 7) (j := 24) (next_call (dVar 7) (dC (.int 12)) [x0, x1, x2, x3, x4, x5, x6, .fz (.int s), x8, x9, x10, x11, x12, x13, x14, x15, x16, x17, x18, x19, x20, x21, x22, .own (.lst A), x24, x25, x26] s 12 (by omega) rfl rfl) (ρ2 := [x0, x1, x2, x3, x4, x5, x6, .fz (.int (nx s)), x8, x9, x10, x11, x12, x13, x14, x15, x16, x17, x18, x19, x20, x21, x22, .own (.lst A), .fz (.int (dr s 12)), x25, x26]) rfl
  have e2 := asg2' (i := 7) (j := 18) (next_call (dVar 7) (dC (.int 5)) [x0, x1, x2, x3, x4, x5, x6, .fz (.int (nx s)), x8, x9, x10, x11, x12, x13, x14, x15, x16, x17, x18, x19, x20, x21, x22, .own (.lst A), .fz (.int (dr s 12)), x25, x26] (nx s) 5 (by omega) rfl rfl) (ρ2 := [x0, x1, x2, x3, x4, x5, x6, .fz (.int (nx (nx s))), x8, x9, x10, x11, x12, x13, x14, x15, x16, x17, .fz (.int (dr (nx s) 5)), x19, x20, x21, x22, .own (.lst A), .fz (.int (dr s 12)), x25, x26]) rfl
  have e3 := asg2' (i := 7) (j := 25) (next_call (dVar 7) (dC (.int 5)) [x0, x1, x2, x3, x4, x5, x6, .fz (.int (nx (nx s))), x8, x9, x10, x11, x12, x13, x14, x15, x16, x17, .fz (.int (dr (nx s) 5)), x19, x20, x21, x22, .own (.lst A), .fz (.int (dr s 12)), x25, x26] (nx (nx s)) 5 (by omega) rfl rfl) (ρ2 := [x0, x1, x2, x3, x4, x5, x6, .fz (.int (nx (nx (nx s)))), x8, x9, x10, x11, x12, x13, x14, x15, x16, x17, .fz (.int (dr (nx s) 5)), x19, x20, x21, x22, .own (.lst A), .fz (.int (dr s 12)), .fz (.int (dr (nx (nx s)) 5)), x26]) rfl
  have e4 := par_fz (nmE 18) (nmE 25) 15 16 [x0, x1, x2, x3, x4, x5, x6, .fz (.int (nx (nx (nx s)))), x8, x9, x10, x11, x12, x13, x14, x15, x16, x17, .fz (.int (dr (nx s) 5)), x19, x20, x21, x22, .own (.lst A), .fz (.int (dr s 12)), .fz (.int (dr (nx (nx s)) 5)), x26] _ _ _ _ (nmE_run 18 [x0, x1, x2, x3, x4, x5, x6, .fz (.int (nx (nx (nx s)))), x8, x9, x10, x11, x12, x13, x14, x15, x16, x17, .fz (.int (dr (nx s) 5)), x19, x20, x21, x22, .own (.lst A), .fz (.int (dr s 12)), .fz (.int (dr (nx (nx s)) 5)), x26] (dr (nx s) 5) a1 a2 rfl) (nmE_run 25 [x0, x1, x2, x3, x4, x5, x6, .fz (.int (nx (nx (nx s)))), x8, x9, x10, x11, x12, x13, x14, x15, x16, x17, .fz (.int (dr (nx s) 5)), x19, x20, x21, x22, .own (.lst A), .fz (.int (dr s 12)), .fz (.int (dr (nx (nx s)) 5)), x26] (dr (nx (nx s)) 5) b1 b2 rfl)
  have e5 := set_fz' (i := 26) (word_run 24 [x0, x1, x2, x3, x4, x5, x6, .fz (.int (nx (nx (nx s)))), x8, x9, x10, x11, x12, x13, x14, .fz (.str (nmS (dr (nx s) 5))), .fz (.str (nmS (dr (nx (nx s)) 5))), x17, .fz (.int (dr (nx s) 5)), x19, x20, x21, x22, .own (.lst A), .fz (.int (dr s 12)), .fz (.int (dr (nx (nx s)) 5)), x26] (dr s 12) rfl) (ρ2 := [x0, x1, x2, x3, x4, x5, x6, .fz (.int (nx (nx (nx s)))), x8, x9, x10, x11, x12, x13, x14, .fz (.str (nmS (dr (nx s) 5))), .fz (.str (nmS (dr (nx (nx s)) 5))), x17, .fz (.int (dr (nx s) 5)), x19, x20, x21, x22, .own (.lst A), .fz (.int (dr s 12)), .fz (.int (dr (nx (nx s)) 5)), .fz (.str (wordS (dr s 12)))]) rfl
  have e6 := app_to 23 _ [x0, x1, x2, x3, x4, x5, x6, .fz (.int (nx (nx (nx s)))), x8, x9, x10, x11, x12, x13, x14, .fz (.str (nmS (dr (nx s) 5))), .fz (.str (nmS (dr (nx (nx s)) 5))), x17, .fz (.int (dr (nx s) 5)), x19, x20, x21, x22, .own (.lst A), .fz (.int (dr s 12)), .fz (.int (dr (nx (nx s)) 5)), .fz (.str (wordS (dr s 12)))] [x0, x1, x2, x3, x4, x5, x6, .fz (.int (nx (nx (nx s)))), x8, x9, x10, x11, x12, x13, x14, .fz (.str (nmS (dr (nx s) 5))), .fz (.str (nmS (dr (nx (nx s)) 5))), x17, .fz (.int (dr (nx s) 5)), x19, x20, x21, x22, .own (.lst (A ++ [deedD (dr s 12) (dr (nx s) 5) (dr (nx (nx s)) 5)])), .fz (.int (dr s 12)), .fz (.int (dr (nx (nx s)) 5)), .fz (.str (wordS (dr s 12)))] A _ hA rfl (deed_run [x0, x1, x2, x3, x4, x5, x6, .fz (.int (nx (nx (nx s)))), x8, x9, x10, x11, x12, x13, x14, .fz (.str (nmS (dr (nx s) 5))), .fz (.str (nmS (dr (nx (nx s)) 5))), x17, .fz (.int (dr (nx s) 5)), x19, x20, x21, x22, .own (.lst A), .fz (.int (dr s 12)), .fz (.int (dr (nx (nx s)) 5)), .fz (.str (wordS (dr s 12)))] (dr s 12) (dr (nx s) 5) (dr (nx (nx s)) 5) w1 w2 rfl rfl rfl rfl) rfl
  unfold T19b
  rw [dSeq_nx e1, dSeq_nx e2, dSeq_nx e3]
  unfold T19c
  exact (dSeq_nx e4).trans ((dSeq_nx e5).trans e6)
theorem T19_run (x0 x1 x2 x3 x4 x5 x6 x8 x10 x11 x12 x13 x14 x15 x16 x17 x18 x19 x20 x21 x22 x24 x25 x26 : SV) (z : Nat) (hz : z < 12) (s : Int) : ∃ y7 y8 y15 y16 y18 y24 y25 y26, T19 [x0, x1, x2, x3, x4, x5, x6, .fz (.int s), x8, .fz (.int z), x10, x11, x12, x13, x14, x15, x16, x17, x18, x19, x20, x21, x22, .own (.lst []), x24, x25, x26] = .nx [x0, x1, x2, x3, x4, x5, x6, y7, y8, .fz (.int z), x10, x11, x12, x13, x14, y15, y16, x17, y18, x19, x20, x21, x22, .own (.lst (deedsL z s)), y24, y25, y26] := by
  obtain ⟨ρ', hL, t, A, y8, y15, y16, y18, y24, y25, y26, rfl, hb, hA⟩ := forL_inv (g := bName 8) (b := T19b) (fun k ρ => ∃ (t : Int) (A : List D) (y8 y15 y16 y18 y24 y25 y26 : SV), ρ = [x0, x1, x2, x3, x4, x5, x6, .fz (.int t), y8, .fz (.int z), x10, x11, x12, x13, x14, y15, y16, x17, y18, x19, x20, x21, x22, .own (.lst A), y24, y25, y26] ∧ A ++ deedsL (z - k) t = deedsL z s ∧ A.length = k) z (fun i ρ hi hI => by
    obtain ⟨t, A, y8, y15, y16, y18, y24, y25, y26, rfl, hb, hA⟩ := hI
    have hr := T19b_run x0 x1 x2 x3 x4 x5 x6 (.fz (.int i)) (.fz (.int z)) x10 x11 x12 x13 x14 (y15) (y16) x17 (y18) x19 x20 x21 x22 (y24) (y25) (y26) t A (by omega)
    refine ⟨_, _, rfl, .inl hr, nx (nx (nx t)), _, _, _, _, _, _, _, _, rfl, ?_, ?_⟩
    · rw [show z - i = z - (i + 1) + 1 by omega] at hb
      rw [← hb]
      simp [deedsL]
    · rw [List.length_append, List.length_singleton]; omega) [x0, x1, x2, x3, x4, x5, x6, .fz (.int s), x8, .fz (.int z), x10, x11, x12, x13, x14, x15, x16, x17, x18, x19, x20, x21, x22, .own (.lst []), x24, x25, x26] ⟨s, [], _, _, _, _, _, _, _, rfl, rfl, rfl⟩
  have hb2 : A = deedsL z s := by rw [← hb]; simp [deedsL]
  rw [← hb2]
  refine ⟨.fz (.int t), y8, y15, y16, y18, y24, y25, y26, ?_⟩
  unfold T19
  rw [for_ofN (dVar 9) _ _ [x0, x1, x2, x3, x4, x5, x6, .fz (.int s), x8, .fz (.int z), x10, x11, x12, x13, x14, x15, x16, x17, x18, x19, x20, x21, x22, .own (.lst []), x24, x25, x26] _ z (by omega) rfl]
  exact hL
theorem nm_shaped (a : Int) (h0 : 0 ≤ a) (h5 : a < 5) : SeqAt.shaped (.str (nmS a)) = true := by
  obtain ⟨k, rfl⟩ : ∃ k : Nat, a = k := ⟨a.toNat, by omega⟩
  have : ∀ k, k < 5 → SeqAt.shaped (.str (nmS (k : Nat))) = true := by decide +kernel
  exact this k (by omega)
theorem deed_plain (w a b : Int) (w1 : 0 ≤ w) (w2 : w < 12) (a1 : 0 ≤ a) (a2 : a < 5) (b1 : 0 ≤ b) (b2 : b < 5) : plain (deedD w a b) = true ∧ szD (deedD w a b) ≤ 4 := by
  have s1 : SeqAt.shaped (.str "join") = true := by decide +kernel
  have s2 : SeqAt.shaped (.str "day") = true := by decide +kernel
  have s3 := wy_shaped w w1 w2
  have s4 := nm_shaped a a1 a2
  have s5 := nm_shaped b b1 b2
  unfold deedD
  split
  · simp [plain, plains, szD, szL, s1, s4]
  · split
    · simp [plain, plains, szD, szL, s2]
    · simp [plain, plains, szD, szL, s3, s4, s5]
theorem deeds_plain : ∀ n s x, x ∈ deedsL n s → plain x = true ∧ szD x ≤ 4
  | n + 1, s, x, h => by
    rcases List.mem_cons.1 h with rfl | h
    · obtain ⟨w1, w2⟩ := dr_range s (m := 12) (by omega)
      obtain ⟨a1, a2⟩ := dr_range (nx s) (m := 5) (by omega)
      obtain ⟨b1, b2⟩ := dr_range (nx (nx s)) (m := 5) (by omega)
      exact deed_plain _ _ _ w1 w2 a1 a2 b1 b2
    · exact deeds_plain n _ x h
theorem T20_run (x0 x1 x2 x4 x5 x6 x7 x8 x10 x11 x12 x13 x14 x15 x16 x17 x18 x19 x20 x21 x22 x24 x25 x26 : SV) (v : Int) (z : Nat) (hz : z < 12) : T20 [x0, x1, x2, .fz (.int v), x4, x5, x6, x7, x8, .fz (.int z), x10, x11, x12, x13, x14, x15, x16, x17, x18, x19, x20, x21, x22, .own (.lst (deedsL z (v.fmod 2147483647))), x24, x25, x26] = .nx [x0, x1, x2, .fz (.int v), x4, x5, x6, x7, x8, .fz (.int z), x10, x11, x12, x13, x14, x15, x16, x17, x18, x19, x20, x21, x22, .own (.lst (deedsL z (v.fmod 2147483647))), x24, x25, x26] := by
  have h1 := call_fz2 f_deeds_of true true rfl (dVar 3) (dVar 9) [x0, x1, x2, .fz (.int v), x4, x5, x6, x7, x8, .fz (.int z), x10, x11, x12, x13, x14, x15, x16, x17, x18, x19, x20, x21, x22, .own (.lst (deedsL z (v.fmod 2147483647))), x24, x25, x26] _ _ (.int v) (.int z) _ _ (run_deeds_of v z (by omega)) rfl rfl rfl
  have h2 : (dOpN tupleD (dCons (dVar 23) dNil)) [x0, x1, x2, .fz (.int v), x4, x5, x6, x7, x8, .fz (.int z), x10, x11, x12, x13, x14, x15, x16, x17, x18, x19, x20, x21, x22, .own (.lst (deedsL z (v.fmod 2147483647))), x24, x25, x26] = .ok (.fz (.tup (deedsL z (v.fmod 2147483647)))) [x0, x1, x2, .fz (.int v), x4, x5, x6, x7, x8, .fz (.int z), x10, x11, x12, x13, x14, x15, x16, x17, x18, x19, x20, x21, x22, .own (.lst (deedsL z (v.fmod 2147483647))), x24, x25, x26] := rfl
  unfold T20
  refine alike_call (.tup (deedsL z (v.fmod 2147483647))) _ _ _ _ _ _ _ .fz .fz h1 h2 ?_ ?_
  · have hp : plains (deedsL z (v.fmod 2147483647)) = true := plains_all _ fun x hx => (deeds_plain _ _ x hx).1
    simp only [plain, hp]
  · have hs := sz_all 4 (deedsL z (v.fmod 2147483647)) fun x hx => (deeds_plain _ _ x hx).2
    rw [deedsL_len] at hs
    simp only [szD]
    omega
end Lk
set_option Elab.async false
set_option linter.all false
set_option maxRecDepth 100000
set_option autoImplicit false
namespace Lk
open PySem PySem.Spec PyProof.Rows L2 PD
/-- the law's frame between its turns -/
def Fr (ρ : List SV) : Prop := ρ.length = 27 ∧ ∃ B, Bag B ∧ ρ[1]? = some (.own B)
theorem Fr.open {ρ : List SV} (h : Fr ρ) : ∃ (B : D), ∃ x0 x2 x3 x4 x5 x6 x7 x8 x9 x10 x11 x12 x13 x14 x15 x16 x17 x18 x19 x20 x21 x22 x23 x24 x25 x26, Bag B ∧ ρ = [x0, .own B, x2, x3, x4, x5, x6, x7, x8, x9, x10, x11, x12, x13, x14, x15, x16, x17, x18, x19, x20, x21, x22, x23, x24, x25, x26] := by
  obtain ⟨hl, B, hB, h1⟩ := h
  match ρ, hl with
  | [x0, x1, x2, x3, x4, x5, x6, x7, x8, x9, x10, x11, x12, x13, x14, x15, x16, x17, x18, x19, x20, x21, x22, x23, x24, x25, x26], _ =>
    have e : x1 = .own B := by simpa using h1
    subst e
    exact ⟨B, x0, x2, x3, x4, x5, x6, x7, x8, x9, x10, x11, x12, x13, x14, x15, x16, x17, x18, x19, x20, x21, x22, x23, x24, x25, x26, hB, rfl⟩
theorem turn_x (x0 x2 x3 x4 x5 x6 x7 x8 x9 x10 x11 x12 x13 x14 x15 x16 x17 x18 x19 x20 x21 x22 x23 x24 x25 x26 : SV) (B : D) (hB : Bag B) : ∃ ρ', turnB [x0, .own B, x2, x3, x4, x5, x6, x7, x8, x9, x10, x11, x12, x13, x14, x15, x16, x17, x18, x19, x20, x21, x22, x23, x24, x25, x26] = .nx ρ' ∧ Fr ρ' := by
  obtain ⟨v, n, B1, hB1, n1, n2, e1⟩ := T1_run (x0) (x2) (x3) (x4) (x5) (x6) (x7) (x8) (x9) (x10) (x11) (x12) (x13) (x14) (x15) (x16) (x17) (x18) (x19) (x20) (x21) (x22) (x23) (x24) (x25) (x26) B hB
  have e2 := T2_run (x0) (.own B1) (x2) (.fz (.int n)) (x5) (x6) (x7) (x8) (x9) (x10) (x11) (x12) (x13) (x14) (x15) (x16) (x17) (x18) (x19) (x20) (x21) (x22) (x23) (x24) (x25) (x26) v
  have e3 := T3_run (x0) (.own B1) (x2) (.fz (.int n)) (x6) (x7) (x8) (x9) (x10) (x11) (x12) (x13) (x14) (x15) (x16) (x17) (x18) (x19) (x20) (x21) (x22) (x23) (x24) (x25) (x26) v (v.fmod 2147483647)
  obtain ⟨B4, t4, p8, p9, p10, hB4, e4⟩ := T4_run (x0) (x2) (.fz (.int v)) (.fz (.int n)) (.fz (.int (v.fmod 2147483647))) (x8) (x9) (x10) (x11) (x12) (x13) (x14) (x15) (x16) (x17) (x18) (x19) (x20) (x21) (x22) (x23) (x24) (x25) (x26) B1 hB1 (v.fmod 2147483647)
  have e5 := T5_run (x0) (.own B4) (x2) (.fz (.int v)) (.own (obj t4)) (.fz (.int t4)) (p8) (p9) (p10) (x11) (x12) (x13) (x14) (x15) (x16) (x17) (x18) (x19) (x20) (x21) (x22) (x23) (x24) (x25) (x26) n (by omega) (v.fmod 2147483647)
  have e6 := T6_run (x0) (.own B4) (x2) (.fz (.int v)) (.fz (.int n)) (.fz (.int (v.fmod 2147483647))) (.own (obj t4)) (.fz (.int (adv (v.fmod 2147483647) n))) (p8) (p9) (p10) (x12) (x13) (x14) (x15) (x16) (x17) (x18) (x19) (x20) (x21) (x22) (x23) (x24) (x25) (x26) n (by omega) (v.fmod 2147483647)
  obtain ⟨q, B7, hB7, q1, e7⟩ := T7_run (x0) (x2) (.fz (.int v)) (.fz (.int n)) (.fz (.int (v.fmod 2147483647))) (.own (obj t4)) (.fz (.int (adv (v.fmod 2147483647) n))) (p8) (p9) (p10) (.fz (.tup (chartL (v.fmod 2147483647) n))) (.own (.lst ((tab0 (v.fmod 2147483647) n).map ofTI))) (x13) (x14) (x15) (x16) (x17) (x18) (x19) (x20) (x21) (x22) (x23) (x24) (x25) (x26) B4 hB4
  obtain ⟨a1, a2, a3⟩ := tab0_ok (v.fmod 2147483647) n (by omega)
  obtain ⟨g14, g15, g16, g17, e8⟩ := T8_run (x0) (.own B7) (x2) (.fz (.int v)) (.fz (.int (v.fmod 2147483647))) (.own (obj t4)) (p8) (p9) (p10) (.fz (.tup (chartL (v.fmod 2147483647) n))) (x14) (x15) (x16) (x17) (x18) (x19) (x20) (x21) (x22) (x23) (x24) (x25) (x26) n (by omega) (adv (v.fmod 2147483647) n) (tab0 (v.fmod 2147483647) n) a1 a2 (by omega) q (by omega)
  have e9 := T9_run (x0) (.own B7) (x2) (.fz (.int (v.fmod 2147483647))) (.own (obj t4)) (.fz (.int (adv (adv (v.fmod 2147483647) n) (2 * q)))) (p8) (p9) (p10) (g14) (g15) (g16) (g17) (x18) (x19) (x20) (x21) (x22) (x23) (x24) (x25) (x26) v n q (by omega) (by omega) (by omega)
  have e10 := T10_run (x0) (.own B7) (x2) (.fz (.int v)) (.fz (.int n)) (.own (obj t4)) (.fz (.int (adv (adv (v.fmod 2147483647) n) (2 * q)))) (p8) (p9) (p10) (.fz (.tup (chartL (v.fmod 2147483647) n))) (.own (.lst ((bnd n (adv (v.fmod 2147483647) n) (tab0 (v.fmod 2147483647) n) q).map ofTI))) (.fz (.int q)) (g14) (g15) (g16) (g17) (x18) (x19) (x20) (x21) (x22) (x23) (x24) (x25) (x26) (v.fmod 2147483647)
  obtain ⟨h7, h10, h17, e11⟩ := T11_run (x0) (.own B7) (x2) (.fz (.int v)) (.fz (.int (v.fmod 2147483647))) (.own (obj t4)) (p8) (p9) (p10) (.fz (.tup (chartL (v.fmod 2147483647) n))) (.own (.lst ((bnd n (adv (v.fmod 2147483647) n) (tab0 (v.fmod 2147483647) n) q).map ofTI))) (.fz (.int q)) (g14) (g15) (g16) (g17) (x18) (x20) (x21) (x22) (x23) (x24) (x25) (x26) n (by omega) (v.fmod 2147483647)
  have e12 := T12_run (x0) (.own B7) (x2) (.fz (.int (v.fmod 2147483647))) (.own (obj t4)) (h7) (p8) (p9) (h10) (.fz (.tup (chartL (v.fmod 2147483647) n))) (.own (.lst ((bnd n (adv (v.fmod 2147483647) n) (tab0 (v.fmod 2147483647) n) q).map ofTI))) (.fz (.int q)) (g14) (g15) (g16) (h17) (x18) (x20) (x21) (x22) (x23) (x24) (x25) (x26) v n (by omega)
  have e13 := T13_run (x0) (.own B7) (x2) (.fz (.int v)) (.own (obj t4)) (h7) (p8) (p9) (h10) (.fz (.tup (chartL (v.fmod 2147483647) n))) (.own (.lst ((bnd n (adv (v.fmod 2147483647) n) (tab0 (v.fmod 2147483647) n) q).map ofTI))) (.fz (.int q)) (g14) (g15) (g16) (h17) (x18) (.own (.lst (bitsL (v.fmod 2147483647) (cps n n)))) (x20) (x21) (x22) (x23) (x24) (x25) (x26) n (by omega) (v.fmod 2147483647)
  obtain ⟨i7, i8, i10, i20, e14⟩ := T14_run (x0) (.own B7) (x2) (.fz (.int v)) (.fz (.int (v.fmod 2147483647))) (.own (obj t4)) (p8) (p9) (h10) (.fz (.tup (chartL (v.fmod 2147483647) n))) (.own (.lst ((bnd n (adv (v.fmod 2147483647) n) (tab0 (v.fmod 2147483647) n) q).map ofTI))) (.fz (.int q)) (g14) (g15) (g16) (h17) (x18) (.own (.lst (bitsL (v.fmod 2147483647) (cps n n)))) (x22) (x23) (x24) (x25) (x26) n (by omega) (v.fmod 2147483647)
  have e15 := T15_run (x0) (.own B7) (x2) (.fz (.int v)) (.fz (.int n)) (.own (obj t4)) (i7) (i8) (p9) (i10) (.fz (.tup (chartL (v.fmod 2147483647) n))) (.own (.lst ((bnd n (adv (v.fmod 2147483647) n) (tab0 (v.fmod 2147483647) n) q).map ofTI))) (.fz (.int q)) (g14) (g15) (g16) (h17) (x18) (.own (.lst (bitsL (v.fmod 2147483647) (cps n n)))) (i20) (.own (.lst ((nms n (v.fmod 2147483647) (rgI n)).map D.int))) (x22) (x23) (x24) (x25) (x26) (v.fmod 2147483647)
  obtain ⟨j7, j10, j18, e16⟩ := T16_run (x0) (.own B7) (x2) (.fz (.int v)) (.fz (.int (v.fmod 2147483647))) (.own (obj t4)) (i8) (p9) (i10) (.fz (.tup (chartL (v.fmod 2147483647) n))) (.own (.lst ((bnd n (adv (v.fmod 2147483647) n) (tab0 (v.fmod 2147483647) n) q).map ofTI))) (.fz (.int q)) (g14) (g15) (g16) (h17) (x18) (.own (.lst (bitsL (v.fmod 2147483647) (cps n n)))) (i20) (.own (.lst ((nms n (v.fmod 2147483647) (rgI n)).map D.int))) (x23) (x24) (x25) (x26) n (by omega) (v.fmod 2147483647)
  have e17 := T17_run (x0) (.own B7) (x2) (.fz (.int (v.fmod 2147483647))) (.own (obj t4)) (j7) (i8) (p9) (j10) (.fz (.tup (chartL (v.fmod 2147483647) n))) (.own (.lst ((bnd n (adv (v.fmod 2147483647) n) (tab0 (v.fmod 2147483647) n) q).map ofTI))) (.fz (.int q)) (g14) (g15) (g16) (h17) (j18) (.own (.lst (bitsL (v.fmod 2147483647) (cps n n)))) (i20) (x23) (x24) (x25) (x26) v n (by omega)
  obtain ⟨z, B8, hB8, z1, e18⟩ := T18_run (x0) (x2) (.fz (.int v)) (.fz (.int n)) (.own (obj t4)) (j7) (i8) (p9) (j10) (.fz (.tup (chartL (v.fmod 2147483647) n))) (.own (.lst ((bnd n (adv (v.fmod 2147483647) n) (tab0 (v.fmod 2147483647) n) q).map ofTI))) (.fz (.int q)) (g14) (g15) (g16) (h17) (j18) (.own (.lst (bitsL (v.fmod 2147483647) (cps n n)))) (i20) (.own (.lst ((nms n (v.fmod 2147483647) (rgI n)).map D.int))) (.own (.lst (bitsL (v.fmod 2147483647) (upto 0 n)))) (x23) (x24) (x25) (x26) B7 hB7 (v.fmod 2147483647)
  obtain ⟨k7, k8, k15, k16, k18, k24, k25, k26, e19⟩ := T19_run (x0) (.own B8) (x2) (.fz (.int v)) (.fz (.int n)) (.fz (.int (v.fmod 2147483647))) (.own (obj t4)) (i8) (j10) (.fz (.tup (chartL (v.fmod 2147483647) n))) (.own (.lst ((bnd n (adv (v.fmod 2147483647) n) (tab0 (v.fmod 2147483647) n) q).map ofTI))) (.fz (.int q)) (g14) (g15) (g16) (h17) (j18) (.own (.lst (bitsL (v.fmod 2147483647) (cps n n)))) (i20) (.own (.lst ((nms n (v.fmod 2147483647) (rgI n)).map D.int))) (.own (.lst (bitsL (v.fmod 2147483647) (upto 0 n)))) (x24) (x25) (x26) z z1 (v.fmod 2147483647)
  have e20 := T20_run (x0) (.own B8) (x2) (.fz (.int n)) (.fz (.int (v.fmod 2147483647))) (.own (obj t4)) (k7) (k8) (j10) (.fz (.tup (chartL (v.fmod 2147483647) n))) (.own (.lst ((bnd n (adv (v.fmod 2147483647) n) (tab0 (v.fmod 2147483647) n) q).map ofTI))) (.fz (.int q)) (g14) (k15) (k16) (h17) (k18) (.own (.lst (bitsL (v.fmod 2147483647) (cps n n)))) (i20) (.own (.lst ((nms n (v.fmod 2147483647) (rgI n)).map D.int))) (.own (.lst (bitsL (v.fmod 2147483647) (upto 0 n)))) (k24) (k25) (k26) v z z1
  refine ⟨[x0, .own B8, x2, .fz (.int v), .fz (.int n), .fz (.int (v.fmod 2147483647)), .own (obj t4), k7, k8, .fz (.int z), j10, .fz (.tup (chartL (v.fmod 2147483647) n)), .own (.lst ((bnd n (adv (v.fmod 2147483647) n) (tab0 (v.fmod 2147483647) n) q).map ofTI)), .fz (.int q), g14, k15, k16, h17, k18, .own (.lst (bitsL (v.fmod 2147483647) (cps n n))), i20, .own (.lst ((nms n (v.fmod 2147483647) (rgI n)).map D.int)), .own (.lst (bitsL (v.fmod 2147483647) (upto 0 n))), .own (.lst (deedsL z (v.fmod 2147483647))), k24, k25, k26], ?_, rfl, B8, hB8, rfl⟩
  unfold turnB
  rw [dSeq_nx e1, dSeq_nx e2, dSeq_nx e3, dSeq_nx e4, dSeq_nx e5, dSeq_nx e6, dSeq_nx e7, dSeq_nx e8, dSeq_nx e9, dSeq_nx e10, dSeq_nx e11, dSeq_nx e12, dSeq_nx e13, dSeq_nx e14, dSeq_nx e15, dSeq_nx e16, dSeq_nx e17, dSeq_nx e18, dSeq_nx e19]
  exact e20
theorem turn_ok (ρ : List SV) (h : Fr ρ) : ∃ ρ', turnB ρ = .nx ρ' ∧ Fr ρ' := by
  obtain ⟨B, x0, x2, x3, x4, x5, x6, x7, x8, x9, x10, x11, x12, x13, x14, x15, x16, x17, x18, x19, x20, x21, x22, x23, x24, x25, x26, hB, rfl⟩ := h.open
  exact turn_x x0 x2 x3 x4 x5 x6 x7 x8 x9 x10 x11 x12 x13 x14 x15 x16 x17 x18 x19 x20 x21 x22 x23 x24 x25 x26 B hB
theorem Fr.set {ρ : List SV} (h : Fr ρ) (d : SV) : Fr (ρ.set 2 d) := by
  obtain ⟨hl, B, hB, h1⟩ := h
  exact ⟨by rw [List.length_set, hl], B, hB, by rw [List.getElem?_set_ne (by decide), h1]⟩
theorem law_loop (ρ : List SV) (h : Fr ρ) : ∃ ρ', dForL (bName 2) turnB (upto 0 4) ρ = .nx ρ' ∧ Fr ρ' :=
  forL_inv (g := bName 2) (b := turnB) (fun _ ρ => Fr ρ) 4 (fun i ρ _ hI => by
    obtain ⟨ρ', h1, h2⟩ := turn_ok _ (hI.set (.fz (.int i)))
    exact ⟨_, ρ', rfl, .inl h1, h2⟩) ρ h
theorem keeps_run (ns : List Int) (h : ns.length ≤ 63) : ∃ ρ', b_law (.fz (.lk (ns.map D.int)) :: List.replicate 26 .no) = .rt (.fz (.bl true)) ρ' := by
  obtain ⟨B, hB, hr⟩ := run_law_bag ns h
  have hc := call_fz1 f_u_law_bag true rfl (dVar 0) (.fz (.lk (ns.map D.int)) :: List.replicate 26 .no) _ (.lk (ns.map D.int)) _ _ hr rfl rfl
  have e1 := set_own' (i := 1) hc rfl
  obtain ⟨ρ', h1, h2⟩ := law_loop ((.fz (.lk (ns.map D.int)) :: List.replicate 26 .no).set 1 (.own B)) ⟨rfl, B, hB, rfl⟩
  have e2 := for_ofN (dC (.int 4)) turnB (bName 2) ((.fz (.lk (ns.map D.int)) :: List.replicate 26 .no).set 1 (.own B)) _ 4 (by omega) rfl
  rw [h1] at e2
  refine ⟨ρ', ?_⟩
  rw [law_b, dSeq_nx e1, dSeq_nx e2]
  rfl
theorem keeps : PD.Keeps f_law := by
  refine ⟨rfl, fun ns h => ?_⟩
  obtain ⟨ρ', hb⟩ := keeps_run ns h
  refine ⟨.no, ?_⟩
  rw [show f_law = mkF [true] 27 b_law from rfl]
  exact fin1 rfl hb rfl
end Lk
open PySem PySem.W PyProof.Rows
set_option maxRecDepth 100000 in
set_option maxHeartbeats 0 in
theorem PySem.Challenge.cw_stafftree_k14_worlds_drawn_by_a_seed_holds : PySem.Challenge.rw_stafftree_k14_worlds_drawn_by_a_seed.Holds := by
  w_on; o_law; k_head; (case hw => w_witness2)
  k_fill
  refine PD.walk_law (k := 4) (l := PySem.Challenge.rw_stafftree_k14_worlds_drawn_by_a_seed) rfl rfl ⟨rfl, by decide, by decide⟩ (fun w h Y => PySem.W.kIn_of Y) ?F
  case F =>
    intro w mg fa h KX G hmg
    refine' Lk.all_mk KX G hmg ?z_abs ?z_bool ?z_int ?z_isinstance ?z_len ?z_list ?z_max ?z_min ?z_range ?z_sorted ?z_str ?z_tuple ?z_zip ?c_Draws ?pg_Draws ?hd_Draws ?po_Draws ?sa_Draws ?ma_Draws ?kc_Draws ?n_Draws_its_state ?a_u_law_bag (PD.ff ?le_u_law_bag ?ce_u_law_bag ?ke_u_law_bag) ?a_u_law_take (PD.ff ?le_u_law_take ?ce_u_law_take ?ke_u_law_take) ?a_u_law_some (PD.ff ?le_u_law_some ?ce_u_law_some ?ke_u_law_some) ?a_DrawsX_initX ?i_DrawsX_initX (PD.ff ?le_DrawsX_initX ?ce_DrawsX_initX ?ke_DrawsX_initX) ?a_u_law_next (PD.ff ?le_u_law_next ?ce_u_law_next ?ke_u_law_next) ?a_u_law_alike (PD.ff ?le_u_law_alike ?ce_u_law_alike ?ke_u_law_alike) ?a_Draws_take ?i_Draws_take (PD.ff ?le_Draws_take ?ce_Draws_take ?ke_Draws_take) ?a_Draws_state ?i_Draws_state (PD.ff ?le_Draws_state ?ce_Draws_state ?ke_Draws_state) ?a_u_law_drawn_chart (PD.ff ?le_u_law_drawn_chart ?ce_u_law_drawn_chart ?ke_u_law_drawn_chart) ?a_u_law_up (PD.ff ?le_u_law_up ?ce_u_law_up ?ke_u_law_up) ?a_u_law_table_of (PD.ff ?le_u_law_table_of ?ce_u_law_table_of ?ke_u_law_table_of) ?a_chart_by (PD.ff ?le_chart_by ?ce_chart_by ?ke_chart_by) ?a_drawn_chart (PD.ff ?le_drawn_chart ?ce_drawn_chart ?ke_drawn_chart) ?a_way_up (PD.ff ?le_way_up ?ce_way_up ?ke_way_up) ?a_table_of (PD.ff ?le_table_of ?ce_table_of ?ke_table_of) ?a_bent_table (PD.ff ?le_bent_table ?ce_bent_table ?ke_bent_table) ?a_u_law_couples (PD.ff ?le_u_law_couples ?ce_u_law_couples ?ke_u_law_couples) ?a_all_couples (PD.ff ?le_all_couples ?ce_all_couples ?ke_all_couples) ?a_drawn_table (PD.ff ?le_drawn_table ?ce_drawn_table ?ke_drawn_table) ?a_drawn_names (PD.ff ?le_drawn_names ?ce_drawn_names ?ke_drawn_names) ?a_drawn_lot (PD.ff ?le_drawn_lot ?ce_drawn_lot ?ke_drawn_lot) ?a_deed_by (PD.ff ?le_deed_by ?ce_deed_by ?ke_deed_by) ?a_deeds_of (PD.ff ?le_deeds_of ?ce_deeds_of ?ke_deeds_of) ?a_law (PD.ff ?le_law ?ce_law ?ke_law) ?k_CUT ?k_FACTOR ?k_MODULUS ?k_NAMES ?o_NAMES ?s_NAMES ?v_NAMES ?k_SUMMAND ?k_WAYS ?o_WAYS ?s_WAYS ?v_WAYS Lk.keeps
    (case z_abs => k_is)
    (case z_bool => k_is)
    (case z_int => k_is)
    (case z_isinstance => k_is)
    (case z_len => k_is)
    (case z_list => k_is)
    (case z_max => k_is)
    (case z_min => k_is)
    (case z_range => k_is)
    (case z_sorted => k_is)
    (case z_str => k_is)
    (case z_tuple => k_is)
    (case z_zip => k_is)
    (case c_Draws => k_is)
    (case pg_Draws => k_is)
    (case hd_Draws => k_is)
    (case po_Draws => k_is)
    (case sa_Draws => k_is)
    (case ma_Draws => k_is)
    (case kc_Draws => k_is)
    (case n_Draws_its_state => k_is)
    (case a_u_law_bag => k_is)
    (case le_u_law_bag => k_is)
    (case ce_u_law_bag => k_is)
    (case ke_u_law_bag => k_is)
    (case a_u_law_take => k_is)
    (case le_u_law_take => k_is)
    (case ce_u_law_take => k_is)
    (case ke_u_law_take => k_is)
    (case a_u_law_some => k_is)
    (case le_u_law_some => k_is)
    (case ce_u_law_some => k_is)
    (case ke_u_law_some => k_is)
    (case a_DrawsX_initX => k_is)
    (case i_DrawsX_initX => k_is)
    (case le_DrawsX_initX => k_is)
    (case ce_DrawsX_initX => k_is)
    (case ke_DrawsX_initX => k_is)
    (case a_u_law_next => k_is)
    (case le_u_law_next => k_is)
    (case ce_u_law_next => k_is)
    (case ke_u_law_next => k_is)
    (case a_u_law_alike => k_is)
    (case le_u_law_alike => k_is)
    (case ce_u_law_alike => k_is)
    (case ke_u_law_alike => k_is)
    (case a_Draws_take => k_is)
    (case i_Draws_take => k_is)
    (case le_Draws_take => k_is)
    (case ce_Draws_take => k_is)
    (case ke_Draws_take => k_is)
    (case a_Draws_state => k_is)
    (case i_Draws_state => k_is)
    (case le_Draws_state => k_is)
    (case ce_Draws_state => k_is)
    (case ke_Draws_state => k_is)
    (case a_u_law_drawn_chart => k_is)
    (case le_u_law_drawn_chart => k_is)
    (case ce_u_law_drawn_chart => k_is)
    (case ke_u_law_drawn_chart => k_is)
    (case a_u_law_up => k_is)
    (case le_u_law_up => k_is)
    (case ce_u_law_up => k_is)
    (case ke_u_law_up => k_is)
    (case a_u_law_table_of => k_is)
    (case le_u_law_table_of => k_is)
    (case ce_u_law_table_of => k_is)
    (case ke_u_law_table_of => k_is)
    (case a_chart_by => k_is)
    (case le_chart_by => k_is)
    (case ce_chart_by => k_is)
    (case ke_chart_by => k_is)
    (case a_drawn_chart => k_is)
    (case le_drawn_chart => k_is)
    (case ce_drawn_chart => k_is)
    (case ke_drawn_chart => k_is)
    (case a_way_up => k_is)
    (case le_way_up => k_is)
    (case ce_way_up => k_is)
    (case ke_way_up => k_is)
    (case a_table_of => k_is)
    (case le_table_of => k_is)
    (case ce_table_of => k_is)
    (case ke_table_of => k_is)
    (case a_bent_table => k_is)
    (case le_bent_table => k_is)
    (case ce_bent_table => k_is)
    (case ke_bent_table => k_is)
    (case a_u_law_couples => k_is)
    (case le_u_law_couples => k_is)
    (case ce_u_law_couples => k_is)
    (case ke_u_law_couples => k_is)
    (case a_all_couples => k_is)
    (case le_all_couples => k_is)
    (case ce_all_couples => k_is)
    (case ke_all_couples => k_is)
    (case a_drawn_table => k_is)
    (case le_drawn_table => k_is)
    (case ce_drawn_table => k_is)
    (case ke_drawn_table => k_is)
    (case a_drawn_names => k_is)
    (case le_drawn_names => k_is)
    (case ce_drawn_names => k_is)
    (case ke_drawn_names => k_is)
    (case a_drawn_lot => k_is)
    (case le_drawn_lot => k_is)
    (case ce_drawn_lot => k_is)
    (case ke_drawn_lot => k_is)
    (case a_deed_by => k_is)
    (case le_deed_by => k_is)
    (case ce_deed_by => k_is)
    (case ke_deed_by => k_is)
    (case a_deeds_of => k_is)
    (case le_deeds_of => k_is)
    (case ce_deeds_of => k_is)
    (case ke_deeds_of => k_is)
    (case a_law => k_is)
    (case le_law => k_is)
    (case ce_law => k_is)
    (case ke_law => k_is)
    (case k_CUT => k_is)
    (case k_FACTOR => k_is)
    (case k_MODULUS => k_is)
    (case k_NAMES => k_is)
    (case o_NAMES => k_is)
    (case s_NAMES => decide +kernel)
    (case v_NAMES => exact .cons ⟨_, rfl⟩ (.cons ⟨_, rfl⟩ (.cons ⟨_, rfl⟩ (.cons ⟨_, rfl⟩ (.cons ⟨_, rfl⟩ (.nil))))))
    (case k_SUMMAND => k_is)
    (case k_WAYS => k_is)
    (case o_WAYS => k_is)
    (case s_WAYS => decide +kernel)
    (case v_WAYS => exact .cons ⟨_, rfl⟩ (.cons ⟨_, rfl⟩ (.cons ⟨_, rfl⟩ (.cons ⟨_, rfl⟩ (.cons ⟨_, rfl⟩ (.cons ⟨_, rfl⟩ (.cons ⟨_, rfl⟩ (.cons ⟨_, rfl⟩ (.cons ⟨_, rfl⟩ (.cons ⟨_, rfl⟩ (.cons ⟨_, rfl⟩ (.cons ⟨_, rfl⟩ (.nil)))))))))))))
#print axioms PySem.Challenge.cw_stafftree_k14_worlds_drawn_by_a_seed_holds
